import PyProof.Rows.All
import Wide.All
import OpenK.AllK
import Wide.FinOn
import HandS.ForMost
import HandS.ForExc
import HandS.Lambda
import HandS.DictComp
import HandS.TupAny
import HandS.TupMul
import HandS.Text
import HandS.Style
import HandS.Deep
import HandS.Small
import HandS.IsInst
import HandS.WordsDict
import HandS.TupLen
import KE.SortData
import KE.KDictSum
import HandS.More
import HandS.DictTup
import KE.KDictKeyed
import KE.KDictCopyH
import KE.KDictDisplayH
import HandS.SetFor
import HandS.Rev
import HandS.Zip
import KE.GoesMore
import HandS.Conv
import KE.SortKeyHeap
import KE.KSortKey
import HandS.Defaults
import KE.KDictZip
import HandS.ExcValue
import KE.KStateDown
import HandS.Base
import HandS.Call
import HandS.Ends
import HandS.Words
import HandS.WordsExc
import HandS.HeadHook1
import HandS.HeadHook2
import HandS.HeadHook3
import HandS.HeadHook4
import HandS.HeadWalk
import HandS.Head0
import HandS.Head1
import HandS.Head2
import HandS.HeadEnd
import PySem.Challenge.RW_ringsandcuts_k11_whole_sums_over_all_dye
set_option Elab.async false
set_option linter.all false
set_option maxRecDepth 100000
set_option maxHeartbeats 4000000
/-! L3A -/
namespace L3
open PySem PySem.Spec PyProof.Rows L2

/-- data -/
inductive D where
  | non | bl (b : Bool) | int (i : Int) | str (s : Str)
  | tup (l : List D) | lst (l : List D) | lck (l : List D) | ktp (l : List D)
  | dk (l : List (Key × D)) | dt (l : List (List Key × D))
  | ref (n : Nat)
/-- what stands in the store -/
inductive Cell where
  | lst (l : List D) | dk (l : List (Key × D)) | dt (l : List (List Key × D)) | ins (c : Nat) (fs : List (Str × D))
  /-- the table of a code object whose lambdas bear the name q -/
  | tab (q : Str)
abbrev Sr := List Cell
inductive R (α : Type) where
  | ok (a : α) (s : Sr) | exc (c : Nat) (fs : List (Str × D)) (s : Sr) | bad

/-- the store's addresses c, and further addresses x that no data tells of -/
structure Rho where
  c : List Addr
  x : List Addr
def Rho.has (r : Rho) (a : Addr) : Prop := a ∈ r.c ∨ a ∈ r.x
/-- a tuple, a list that nothing changes: K the written part, ρ the store's addresses -/
def TupAt (ρ : Rho) (H : Hp) (a : Addr) (xs : List V) : Prop := ¬ ρ.has a ∧ H a = some (.tup xs)
/-- a tuple of the written part -/
def KTupAt (K : PySem.W.Frag) (a : Addr) (xs : List V) : Prop :=
  ∃ (o : Obj) (its : Array Value) (n : Nat), K.lookup a = some o ∧ o.cls = .type "tuple" ∧ o.data = .seq its n ∧ its.size ≤ sizeLine ∧ Vals xs its.toList
/-- a list of the written part -/
def KLstAt (K : PySem.W.Frag) (a : Addr) (xs : List V) : Prop :=
  ∃ (o : Obj) (its : Array Value) (n : Nat), K.lookup a = some o ∧ o.cls = .type "list" ∧ o.dict = none ∧ o.data = .seq its n ∧ its.size ≤ sizeLine ∧ Vals xs its.toList
def LstAt (ρ : Rho) (H : Hp) (a : Addr) (xs : List V) : Prop := ¬ ρ.has a ∧ H a = some (.lst xs)

mutual
inductive RelD (K : PySem.W.Frag) (ρ : Rho) (H : Hp) : D → V → Prop
  | non : RelD K ρ H .non .non
  | bl (b : Bool) : RelD K ρ H (.bl b) (.bl b)
  | int (i : Int) : RelD K ρ H (.int i) (.int i)
  | str (x : Str) : RelD K ρ H (.str x) (.str x)
  | tup {a : Addr} {xs : List V} {ds : List D} : TupAt ρ H a xs → RelDs K ρ H ds xs → RelD K ρ H (.tup ds) (.ref a)
  | ktp {a : Addr} {xs : List V} {ds : List D} : KTupAt K a xs → RelDs K ρ H ds xs → RelD K ρ H (.ktp ds) (.ref a)
  | lst {a : Addr} {xs : List V} {ds : List D} : LstAt ρ H a xs → RelDs K ρ H ds xs → RelD K ρ H (.lst ds) (.ref a)
  | lck {a : Addr} {o : Obj} {xs : List V} {ds : List D} : ¬ ρ.has a → H a = some (.frz o (.lst xs)) → RelDs K ρ H ds xs → RelD K ρ H (.lck ds) (.ref a)
  | lkk {a : Addr} {xs : List V} {ds : List D} : KLstAt K a xs → RelDs K ρ H ds xs → RelD K ρ H (.lck ds) (.ref a)
  | dk {a : Addr} {o : Obj} {kvs : List (Key × V)} {ds : List (Key × D)} : ¬ ρ.has a → H a = some (.frz o (.dK kvs)) → RelK K ρ H ds kvs → RelD K ρ H (.dk ds) (.ref a)
  | dt {a : Addr} {o : Obj} {kvs : List (List Key × V)} {ds : List (List Key × D)} : ¬ ρ.has a → H a = some (.frz o (.dT kvs)) → RelT K ρ H ds kvs → RelD K ρ H (.dt ds) (.ref a)
  | ref {n : Nat} {a : Addr} : ρ.c[n]? = some a → RelD K ρ H (.ref n) (.ref a)
inductive RelDs (K : PySem.W.Frag) (ρ : Rho) (H : Hp) : List D → List V → Prop
  | nil : RelDs K ρ H [] []
  | cons {d : D} {ds : List D} {v : V} {vs : List V} : RelD K ρ H d v → RelDs K ρ H ds vs → RelDs K ρ H (d :: ds) (v :: vs)
inductive RelK (K : PySem.W.Frag) (ρ : Rho) (H : Hp) : List (Key × D) → List (Key × V) → Prop
  | nil : RelK K ρ H [] []
  | cons {k : Key} {d : D} {ds : List (Key × D)} {v : V} {vs : List (Key × V)} : RelD K ρ H d v → RelK K ρ H ds vs → RelK K ρ H ((k, d) :: ds) ((k, v) :: vs)
inductive RelT (K : PySem.W.Frag) (ρ : Rho) (H : Hp) : List (List Key × D) → List (List Key × V) → Prop
  | nil : RelT K ρ H [] []
  | cons {k : List Key} {d : D} {ds : List (List Key × D)} {v : V} {vs : List (List Key × V)} : RelD K ρ H d v → RelT K ρ H ds vs → RelT K ρ H ((k, d) :: ds) ((k, v) :: vs)
end

/-- what goes on: store cells come, what stands outside the store stays (a code object's table may grow) -/
def Kept (o o' : HO) : Prop := o' = o ∨ ∃ ps more : Array Value, o = .tbl ps ∧ o' = .tbl (ps ++ more)
structure UpB (B : Addr → Prop) (ρ ρ' : Rho) (H H' : Hp) : Prop where
  pre : ρ.c <+: ρ'.c
  ex : ρ'.x = ρ.x
  new : ∀ a ∈ ρ'.c, a ∉ ρ.c → H a = none
  keep : ∀ a o, H a = some o → ¬ ρ.has a → ∃ o', H' a = some o' ∧ Kept o o'
  live : ∀ a, H' a = none → H a = none
  hid : ∀ a ∈ ρ.x, ¬ B a → H' a = H a
abbrev Up : Rho → Rho → Hp → Hp → Prop := UpB fun _ => False
theorem Kept.eq {o o' : HO} (k : Kept o o') (t : ∀ ps, o ≠ .tbl ps) : o' = o := by
  rcases k with e | ⟨ps, _, e, _⟩
  · exact e
  · exact absurd e (t ps)
theorem Kept.trans {o o' o2 : HO} (k : Kept o o') (l : Kept o' o2) : Kept o o2 := by
  rcases k with rfl | ⟨ps, more, rfl, rfl⟩
  · exact l
  · rcases l with rfl | ⟨ps', more', e, rfl⟩
    · exact .inr ⟨ps, more, rfl, rfl⟩
    · injection e with e; subst e
      exact .inr ⟨ps, more ++ more', rfl, by rw [Array.append_assoc]⟩
theorem UpB.at {B : Addr → Prop} {ρ ρ' : Rho} {H H' : Hp} (u : UpB B ρ ρ' H H') {a : Addr} {o : HO} (h : H a = some o) (n : ¬ ρ.has a) (t : ∀ ps, o ≠ .tbl ps) : H' a = some o := by
  obtain ⟨o', e, k⟩ := u.keep a o h n
  rw [e, k.eq t]
theorem UpB.refl {B : Addr → Prop} {ρ : Rho} {H : Hp} : UpB B ρ ρ H H := ⟨List.prefix_refl _, rfl, fun _ h n => absurd h n, fun _ o h _ => ⟨o, h, .inl rfl⟩, fun _ h => h, fun _ _ _ => rfl⟩
theorem UpB.out {B : Addr → Prop} {ρ ρ' : Rho} {H H' : Hp} (u : UpB B ρ ρ' H H') {a : Addr} {o : HO} (h : H a = some o) (n : ¬ ρ.has a) : ¬ ρ'.has a := fun m => by
  rcases m with m | m
  · rw [u.new a m fun z => n (.inl z)] at h; cases h
  · rw [u.ex] at m; exact n (.inr m)
def isDic : HO → Bool
  | .dK _ => true
  | .dT _ => true
  | _ => false
/-- what carries data over -/
structure Car (ρ ρ' : Rho) (H H' : Hp) : Prop where
  pre : ρ.c <+: ρ'.c
  keep : ∀ a o, H a = some o → ¬ ρ.has a → isDic o = false → ¬ ρ'.has a ∧ ∃ o', H' a = some o' ∧ Kept o o'
theorem UpB.car {B : Addr → Prop} {ρ ρ' : Rho} {H H' : Hp} (u : UpB B ρ ρ' H H') : Car ρ ρ' H H' := ⟨u.pre, fun a o h n _ => ⟨u.out h n, u.keep a o h n⟩⟩
theorem Car.out {ρ ρ' : Rho} {H H' : Hp} (u : Car ρ ρ' H H') {a : Addr} {o : HO} (h : H a = some o) (n : ¬ ρ.has a) (d : isDic o = false := by rfl) : ¬ ρ'.has a := (u.keep a o h n d).1
theorem Car.at {ρ ρ' : Rho} {H H' : Hp} (u : Car ρ ρ' H H') {a : Addr} {o : HO} (h : H a = some o) (n : ¬ ρ.has a) (t : ∀ ps, o ≠ .tbl ps) (d : isDic o = false := by rfl) : H' a = some o := by
  obtain ⟨_, o', e, k⟩ := u.keep a o h n d
  rw [e, k.eq t]
theorem TupAt.sq {K : PySem.W.Frag} {ρ : Rho} {H : Hp} {a : Addr} {xs : List V} (h : TupAt ρ H a xs) : SqT K H a xs := .inl (.inl h.2)
theorem KTupAt.sq {K : PySem.W.Frag} {H : Hp} {a : Addr} {xs : List V} (h : KTupAt K a xs) : SqT K H a xs := .inr h
theorem LstAt.sq {K : PySem.W.Frag} {ρ : Rho} {H : Hp} {a : Addr} {xs : List V} (h : LstAt ρ H a xs) : SqL K H a xs := .inl (.inl h.2)
theorem Car.rd {ρ ρ' : Rho} {H H' : Hp} (u : Car ρ ρ' H H') {a : Addr} {o : HO} (h : Rd H a o) (n : ¬ ρ.has a) (t : ∀ ps, o ≠ .tbl ps) (d : isDic o = false := by rfl) : ¬ ρ'.has a ∧ Rd H' a o := by
  rcases h with h | ⟨o', h⟩
  · exact ⟨u.out h n d, .inl (u.at h n t d)⟩
  · exact ⟨u.out h n, .inr ⟨o', u.at h n (fun ps e => by cases e)⟩⟩
theorem Car.tup {ρ ρ' : Rho} {H H' : Hp} (u : Car ρ ρ' H H') {a : Addr} {xs : List V} (h : TupAt ρ H a xs) : TupAt ρ' H' a xs := ⟨u.out h.2 h.1, u.at h.2 h.1 (fun ps e => by cases e)⟩
theorem Car.lst {ρ ρ' : Rho} {H H' : Hp} (u : Car ρ ρ' H H') {a : Addr} {xs : List V} (h : LstAt ρ H a xs) : LstAt ρ' H' a xs := ⟨u.out h.2 h.1, u.at h.2 h.1 (fun ps e => by cases e)⟩
theorem Car.frz {ρ ρ' : Rho} {H H' : Hp} (u : Car ρ ρ' H H') {a : Addr} {o : Obj} {x : HO} (h : H a = some (.frz o x)) (n : ¬ ρ.has a) : ¬ ρ'.has a ∧ H' a = some (.frz o x) := ⟨u.out h n, u.at h n (fun ps e => by cases e)⟩
theorem Car.get {ρ ρ' : Rho} {H H' : Hp} (u : Car ρ ρ' H H') {n : Nat} {a : Addr} (h : ρ.c[n]? = some a) : ρ'.c[n]? = some a := by
  obtain ⟨t, e⟩ := u.pre
  rw [← e, List.getElem?_append_left]
  · exact h
  · exact (List.getElem?_eq_some_iff.mp h).1
theorem UpB.trans {B : Addr → Prop} {ρ ρ' ρ2 : Rho} {H H' H2 : Hp} (u : UpB B ρ ρ' H H') (v : UpB B ρ' ρ2 H' H2) : UpB B ρ ρ2 H H2 where
  pre := u.pre.trans v.pre
  ex := v.ex.trans u.ex
  new := fun a m n => by
    by_cases h : a ∈ ρ'.c
    · exact u.new a h n
    · exact u.live a (v.new a m h)
  live := fun a h => u.live a (v.live a h)
  hid := fun a m n => (v.hid a (by rw [u.ex]; exact m) n).trans (u.hid a m n)
  keep := fun a o h n => by
    obtain ⟨o', e', k⟩ := u.keep a o h n
    obtain ⟨o2, e2, l⟩ := v.keep a o' e' (u.out h n)
    exact ⟨o2, e2, k.trans l⟩
theorem UpB.weak {B B' : Addr → Prop} {ρ ρ' : Rho} {H H' : Hp} (u : UpB B ρ ρ' H H') (h : ∀ a, B a → B' a) : UpB B' ρ ρ' H H' := ⟨u.pre, u.ex, u.new, u.keep, u.live, fun a m n => u.hid a m fun z => n (h a z)⟩
theorem UpB.of {B : Addr → Prop} {ρ ρ' : Rho} {H H' : Hp} (u : Up ρ ρ' H H') : UpB B ρ ρ' H H' := u.weak fun _ z => z.elim
section
variable {K : PySem.W.Frag} {ρ ρ' : Rho} {H H' : Hp}
mutual
theorem RelD.car (u : Car ρ ρ' H H') : ∀ {d : D} {v : V}, RelD K ρ H d v → RelD K ρ' H' d v
  | _, _, .non => .non
  | _, _, .bl b => .bl b
  | _, _, .int i => .int i
  | _, _, .str x => .str x
  | _, _, .tup h r => .tup (u.tup h) (RelDs.car u r)
  | _, _, .ktp h r => .ktp h (RelDs.car u r)
  | _, _, .lst h r => .lst (u.lst h) (RelDs.car u r)
  | _, _, .lck n h r => .lck (u.frz h n).1 (u.frz h n).2 (RelDs.car u r)
  | _, _, .lkk h r => .lkk h (RelDs.car u r)
  | _, _, .dk n h r => .dk (u.frz h n).1 (u.frz h n).2 (RelK.car u r)
  | _, _, .dt n h r => .dt (u.frz h n).1 (u.frz h n).2 (RelT.car u r)
  | _, _, .ref h => .ref (u.get h)
theorem RelDs.car (u : Car ρ ρ' H H') : ∀ {d : List D} {v : List V}, RelDs K ρ H d v → RelDs K ρ' H' d v
  | _, _, .nil => .nil
  | _, _, .cons h r => .cons (RelD.car u h) (RelDs.car u r)
theorem RelK.car (u : Car ρ ρ' H H') : ∀ {d : List (Key × D)} {v : List (Key × V)}, RelK K ρ H d v → RelK K ρ' H' d v
  | _, _, .nil => .nil
  | _, _, .cons h r => .cons (RelD.car u h) (RelK.car u r)
theorem RelT.car (u : Car ρ ρ' H H') : ∀ {d : List (List Key × D)} {v : List (List Key × V)}, RelT K ρ H d v → RelT K ρ' H' d v
  | _, _, .nil => .nil
  | _, _, .cons h r => .cons (RelD.car u h) (RelT.car u r)
end
end

theorem RelD.up {B : Addr → Prop} {K : PySem.W.Frag} {ρ ρ' : Rho} {H H' : Hp} (u : UpB B ρ ρ' H H') {d : D} {v : V} (h : RelD K ρ H d v) : RelD K ρ' H' d v := RelD.car u.car h
theorem RelDs.up {B : Addr → Prop} {K : PySem.W.Frag} {ρ ρ' : Rho} {H H' : Hp} (u : UpB B ρ ρ' H H') {d : List D} {v : List V} (h : RelDs K ρ H d v) : RelDs K ρ' H' d v := RelDs.car u.car h
theorem RelK.up {B : Addr → Prop} {K : PySem.W.Frag} {ρ ρ' : Rho} {H H' : Hp} (u : UpB B ρ ρ' H H') {d : List (Key × D)} {v : List (Key × V)} (h : RelK K ρ H d v) : RelK K ρ' H' d v := RelK.car u.car h
theorem RelT.up {B : Addr → Prop} {K : PySem.W.Frag} {ρ ρ' : Rho} {H H' : Hp} (u : UpB B ρ ρ' H H') {d : List (List Key × D)} {v : List (List Key × V)} (h : RelT K ρ H d v) : RelT K ρ' H' d v := RelT.car u.car h
/-! ### the store, the frame -/
/-- what is fixed: the written part, where the classes stand -/
structure G where
  K : PySem.W.Frag
  cls : Nat → Addr
  /-- the tables of code objects, by their lambdas' name -/
  tb : Str → Addr
inductive RelF (K : PySem.W.Frag) (ρ : Rho) (H : Hp) : List (Str × D) → List (Str × V) → Prop
  | nil : RelF K ρ H [] []
  | cons {k : Str} {d : D} {ds : List (Str × D)} {v : V} {vs : List (Str × V)} : RelD K ρ H d v → RelF K ρ H ds vs → RelF K ρ H ((k, d) :: ds) ((k, v) :: vs)
theorem RelDs.len {K : PySem.W.Frag} {ρ : Rho} {H : Hp} : ∀ {d : List D} {v : List V}, RelDs K ρ H d v → d.length = v.length
  | _, _, .nil => rfl
  | _, _, .cons _ r => congrArg (· + 1) (RelDs.len r)
theorem RelDs.app {K : PySem.W.Frag} {ρ : Rho} {H : Hp} : ∀ {d e : List D} {v w : List V}, RelDs K ρ H d v → RelDs K ρ H e w → RelDs K ρ H (d ++ e) (v ++ w)
  | _, _, _, _, .nil, q => q
  | _, _, _, _, .cons h r, q => .cons h (RelDs.app r q)
theorem RelF.car {K : PySem.W.Frag} {ρ ρ' : Rho} {H H' : Hp} (u : Car ρ ρ' H H') : ∀ {d : List (Str × D)} {v : List (Str × V)}, RelF K ρ H d v → RelF K ρ' H' d v
  | _, _, .nil => .nil
  | _, _, .cons h r => .cons (RelD.car u h) (RelF.car u r)
theorem RelF.up {B : Addr → Prop} {K : PySem.W.Frag} {ρ ρ' : Rho} {H H' : Hp} (u : UpB B ρ ρ' H H') {d : List (Str × D)} {v : List (Str × V)} (h : RelF K ρ H d v) : RelF K ρ' H' d v := RelF.car u.car h
inductive CellR (g : G) (ρ : Rho) (H : Hp) : Cell → HO → Prop
  | lst {ds : List D} {xs : List V} : RelDs g.K ρ H ds xs → CellR g ρ H (.lst ds) (.lst xs)
  | dk {ds : List (Key × D)} {kvs : List (Key × V)} : RelK g.K ρ H ds kvs → CellR g ρ H (.dk ds) (.dK kvs)
  | dt {ds : List (List Key × D)} {kvs : List (List Key × V)} : RelT g.K ρ H ds kvs → CellR g ρ H (.dt ds) (.dT kvs)
  | ins {c : Nat} {dx : Addr} {fs : List (Str × D)} {vs : List (Str × V)} : RelF g.K ρ H fs vs → CellR g ρ H (.ins c fs) (.ins (g.cls c) dx vs)
  | tab {q : Str} {ps : Array Value} : TriplesOk ps.toList → (∀ (pos : Pos) (cv : Value), codeAmong pos ps.toList = some cv → ∃ c, cv = .ref c ∧ ¬ ρ.has c ∧ H c = some (LamX.CodeO c q)) → CellR g ρ H (.tab q) (.tbl ps)
theorem CellR.car {g : G} {ρ ρ' : Rho} {H H' : Hp} (u : Car ρ ρ' H H') {c : Cell} {o : HO} (h : CellR g ρ H c o) : CellR g ρ' H' c o := by
  cases h with
  | lst r => exact .lst (r.car u)
  | dk r => exact .dk (r.car u)
  | dt r => exact .dt (r.car u)
  | ins r => exact .ins (r.car u)
  | tab h1 h2 =>
    refine .tab h1 fun pos cv e => ?_
    obtain ⟨c, e1, n, e2⟩ := h2 pos cv e
    exact ⟨c, e1, u.out e2 n rfl, u.at e2 n LamX.codeO_ne rfl⟩
theorem CellR.up {B : Addr → Prop} {g : G} {ρ ρ' : Rho} {H H' : Hp} (u : UpB B ρ ρ' H H') {c : Cell} {o : HO} (h : CellR g ρ H c o) : CellR g ρ' H' c o := h.car u.car
structure Sto (g : G) (ρ : Rho) (s : Sr) (H : Hp) : Prop where
  len : ρ.c.length = s.length
  nd : ρ.c.Nodup
  tb : ∀ (n : Nat) a q, ρ.c[n]? = some a → s[n]? = some (.tab q) → a = g.tb q
  dis : ∀ a ∈ ρ.c, a ∉ ρ.x
  xin : ∀ a ∈ ρ.x, H a ≠ none
  xt : ∀ a ∈ ρ.x, ∀ xs, H a ≠ some (.tup xs)
  cell : ∀ (n : Nat) a, ρ.c[n]? = some a → ∃ c o, s[n]? = some c ∧ H a = some o ∧ CellR g ρ H c o
abbrev Env' := List (Option D)
structure Loc' (K : PySem.W.Frag) (ρ : Rho) (H : Hp) (env : Env') (σ : L2.St) : Prop where
  len : env.length = σ.length
  at' : ∀ (i : Nat) d, env[i]? = some (some d) → ∃ v, σ[i]? = some (some v) ∧ RelD K ρ H d v
theorem Loc'.car {K : PySem.W.Frag} {ρ ρ' : Rho} {H H' : Hp} (u : Car ρ ρ' H H') {env : Env'} {σ : L2.St} (l : Loc' K ρ H env σ) : Loc' K ρ' H' env σ :=
  ⟨l.len, fun i d e => let ⟨v, q, r⟩ := l.at' i d e; ⟨v, q, r.car u⟩⟩
theorem Loc'.up {B : Addr → Prop} {K : PySem.W.Frag} {ρ ρ' : Rho} {H H' : Hp} (u : UpB B ρ ρ' H H') {env : Env'} {σ : L2.St} (l : Loc' K ρ H env σ) : Loc' K ρ' H' env σ := l.car u.car
theorem Loc'.set {K : PySem.W.Frag} {ρ : Rho} {H : Hp} {env : Env'} {σ : L2.St} (l : Loc' K ρ H env σ) (i : Nat) {d : D} {v : V} (r : RelD K ρ H d v) : Loc' K ρ H (env.set i (some d)) (σ.set i (some v)) := by
  refine ⟨by rw [List.length_set, List.length_set]; exact l.len, fun j e h => ?_⟩
  by_cases hj : i = j
  · subst hj
    by_cases hi : i < env.length
    · rw [List.getElem?_set_self hi] at h
      cases h
      exact ⟨v, List.getElem?_set_self (by rw [← l.len]; exact hi), r⟩
    · rw [List.getElem?_eq_none (by simpa using hi)] at h; cases h
  · rw [List.getElem?_set_ne hj] at h
    obtain ⟨w, q, r'⟩ := l.at' j e h
    exact ⟨w, by rw [List.getElem?_set_ne hj]; exact q, r'⟩

/-! ### results -/
def R.bind {α β : Type} : R α → (α → Sr → R β) → R β
  | .ok a s, f => f a s
  | .exc c fs s, _ => .exc c fs s
  | .bad, _ => .bad
@[simp] theorem bind_ok {α β : Type} (a : α) (s : Sr) (f : α → Sr → R β) : (R.ok a s).bind f = f a s := (rfl)
@[simp] theorem bind_exc {α β : Type} (c : Nat) (fs : List (Str × D)) (s : Sr) (f : α → Sr → R β) : (R.exc c fs s : R α).bind f = .exc c fs s := (rfl)
@[simp] theorem bind_bad {α β : Type} (f : α → Sr → R β) : (R.bad : R α).bind f = .bad := (rfl)

/-- an exception's own dict -/
def ExcR (K : PySem.W.Frag) (ρ : Rho) (H : Hp) (fs : List (Str × D)) (da : Option Addr) : Prop :=
  (fs = [] ∧ da = none) ∨ ∃ d vs, da = some d ∧ ¬ ρ.has d ∧ H d = some (.xd vs) ∧ RelF K ρ H fs vs
/-- what is wanted of a result -/
def Post {α β : Type} (g : G) (Rel : Rho → Hp → α → β → Prop) (ρ : Rho) (H : Hp) (E : XK) (Q : β → Hp → Prop) : R α → Prop
  | .ok a s => ∀ ρ' H' v, Up ρ ρ' H H' → Sto g ρ' s H' → Rel ρ' H' a v → Q v H'
  | .exc c fs s => ∀ ρ' H' da, Up ρ ρ' H H' → Sto g ρ' s H' → ExcR g.K ρ' H' fs da → E (.ref (g.cls c)) da H'
  | .bad => False
theorem Post.up {α β : Type} {g : G} {Rel : Rho → Hp → α → β → Prop} {ρ ρ' : Rho} {H H' : Hp} {E : XK} {Q : β → Hp → Prop} {r : R α} (u : Up ρ ρ' H H') (p : Post g Rel ρ H E Q r) : Post g Rel ρ' H' E Q r := by
  cases r with
  | ok a s => exact fun ρ2 H2 v u2 => p ρ2 H2 v (u.trans u2)
  | exc c fs s => exact fun ρ2 H2 v u2 => p ρ2 H2 v (u.trans u2)
  | bad => exact p
theorem Post.imp {α β : Type} {g : G} {Rel : Rho → Hp → α → β → Prop} {ρ : Rho} {H : Hp} {E : XK} {Q Q' : β → Hp → Prop} {r : R α} (p : Post g Rel ρ H E Q r) (i : ∀ v H', Q v H' → Q' v H') : Post g Rel ρ H E Q' r := by
  cases r with
  | ok a s => exact fun ρ' H' v u hs hr => i _ _ (p ρ' H' v u hs hr)
  | exc c fs s => exact p
  | bad => exact p
/-- a result ahead of another -/
theorem Post.bind {α β γ δ : Type} {g : G} {Rel : Rho → Hp → α → β → Prop} {Rel' : Rho → Hp → γ → δ → Prop} {ρ : Rho} {H : Hp} {E : XK} {Q : β → Hp → Prop} {r : R γ} {f : γ → Sr → R α}
    (p : Post g Rel ρ H E Q (r.bind f)) : Post g Rel' ρ H E (fun v H1 => ∃ ρ1 s1 a, Up ρ ρ1 H H1 ∧ Sto g ρ1 s1 H1 ∧ Rel' ρ1 H1 a v ∧ Post g Rel ρ1 H1 E Q (f a s1)) r := by
  cases r with
  | ok a s => exact fun ρ' H' v u hs hr => ⟨ρ', s, a, u, hs, hr, Post.up u p⟩
  | exc c fs s => exact p
  | bad => exact p
/-- a reading by a function -/
def tG {α β : Type} (g : G) (Rel : Rho → Hp → α → β → Prop) (W : WX) (f : Env' → Sr → R α) : L2.St → Hp → (β → Hp → Prop) → Prop := fun σ H Q =>
  ∃ ρ s env, Sto g ρ s H ∧ Loc' g.K ρ H env σ ∧ Post g Rel ρ H (fun c d H' => W c d σ H') Q (f env s)
abbrev RV (g : G) : Rho → Hp → D → V → Prop := RelD g.K
abbrev RVs (g : G) : Rho → Hp → List D → List V → Prop := RelDs g.K
abbrev RB : Rho → Hp → Bool → Bool → Prop := fun _ _ b c => b = c
abbrev tI (g : G) (W : WX) (f : Env' → Sr → R D) : TE := tG g (RV g) W f
abbrev tT (g : G) (W : WX) (f : Env' → Sr → R Bool) : TT := tG g RB W f
abbrev tA (g : G) (W : WX) (f : Env' → Sr → R (List D)) : TA := tG g (RVs g) W f
end L3

/-! L3B: constructs -/
namespace L3
open PySem PySem.Spec PyProof.Rows L2

theorem _root_.L2.PE.imp {X : Cx} {e : Expr} {t t' : TE} (h : PE X e t) (i : ∀ σ H Q, t' σ H Q → t σ H Q) : PE X e t' := ⟨fun pins s σ H Q I q => h.run pins s σ H Q I (i σ H Q q)⟩
theorem _root_.L2.PT.imp {X : Cx} {e : Expr} {t t' : TT} (h : PT X e t) (i : ∀ σ H Q, t' σ H Q → t σ H Q) : PT X e t' := ⟨fun pins s σ H Q I q => h.run pins s σ H Q I (i σ H Q q)⟩
theorem _root_.L2.PW.imp {X : Cx} {e : Expr} {t t' : TT} (h : PW X e t) (i : ∀ σ H Q, t' σ H Q → t σ H Q) : PW X e t' := ⟨fun w pins s σ H Q I q => h.run w pins s σ H Q I (i σ H Q q)⟩
theorem _root_.L2.PA.imp {X : Cx} {e : List Expr} {t t' : TA} (h : PA X e t) (i : ∀ σ H Q, t' σ H Q → t σ H Q) : PA X e t' := ⟨fun pos pins s σ H Q I q => h.run pos pins s σ H Q I (i σ H Q q)⟩
theorem _root_.L2.PS.imp {X : Cx} {e : Stmt} {t t' : TS} (h : PS X e t) (i : ∀ D σ H, t' D σ H → t D σ H) : PS X e t' := ⟨fun pins s σ H D I q => h.run pins s σ H D I (i D σ H q)⟩
theorem _root_.L2.PSs.imp {X : Cx} {e : List Stmt} {t t' : TS} (h : PSs X e t) (i : ∀ D σ H, t' D σ H → t D σ H) : PSs X e t' := ⟨fun pins s σ H D I q => h.run pins s σ H D I (i D σ H q)⟩

/-! ### pure functions of the constructs -/
abbrev F := Env' → Sr → R D
abbrev FB := Env' → Sr → R Bool
abbrev FA := Env' → Sr → R (List D)
def eVar (i : Nat) : F := fun env s => match env[i]? with | some (some d) => .ok d s | _ => .bad
def eC (d : D) : F := fun _ s => .ok d s
def asB : D → Sr → R Bool | .bl b, s => .ok b s | _, _ => .bad
def eNil : FA := fun _ s => .ok [] s
def eCons (f : F) (r : FA) : FA := fun env s => (f env s).bind fun d s => (r env s).bind fun ds s => .ok (d :: ds) s
def eTup (f : FA) : F := fun env s => (f env s).bind fun ds s => if ds.length ≤ sizeLine then .ok (.tup ds) s else .bad
def eLst (f : FA) : F := fun env s => (f env s).bind fun ds s => if ds.length ≤ sizeLine then .ok (.lst ds) s else .bad
/-- two values to a result -/
def eBin (op : D → D → Sr → R D) (a b : F) : F := fun env s => (a env s).bind fun x s => (b env s).bind fun y s => op x y s
def eUn (op : D → Sr → R D) (a : F) : F := fun env s => (a env s).bind fun x s => op x s
def eB (a : F) : FB := fun env s => (a env s).bind fun x s => asB x s
def eAnd (a b : F) : F := fun env s => (a env s).bind fun x s => (asB x s).bind fun c s => if c then (b env s).bind fun y s => (asB y s).bind fun d s => .ok (.bl d) s else .ok (.bl false) s
def eOr (a b : F) : F := fun env s => (a env s).bind fun x s => (asB x s).bind fun c s => if c then .ok (.bl true) s else (b env s).bind fun y s => (asB y s).bind fun d s => .ok (.bl d) s
def eNot (a : F) : F := fun env s => (a env s).bind fun x s => (asB x s).bind fun c s => .ok (.bl (!c)) s
def bAnd (a b : FB) : FB := fun env s => (a env s).bind fun c s => if c then b env s else .ok false s
def bOr (a b : FB) : FB := fun env s => (a env s).bind fun c s => if c then .ok true s else b env s
def bNot (a : FB) : FB := fun env s => (a env s).bind fun c s => .ok (!c) s
def eIf (c : FB) (a b : F) : F := fun env s => (c env s).bind fun c s => if c then a env s else b env s
def eChain (op op' : D → D → Sr → R D) (a b c : F) : F := fun env s => (a env s).bind fun x s => (b env s).bind fun y s => (op x y s).bind fun z s => (asB z s).bind fun k s => if k then (c env s).bind fun w s => op' y w s else .ok (.bl false) s

/-! ### by values -/
/-- a result by values: it can't raise -/
def PostV (g : G) (ρ : Rho) (H : Hp) (Q : VK) (r : R D) : Prop := Post g (RV g) ρ H (fun _ _ _ => False) Q r
/-- the rule r is served by the pure function f -/
def r2 (g : G) (f : D → D → Sr → R D) : R2 := fun x y H Q => ∃ ρ s dx dy, Sto g ρ s H ∧ RelD g.K ρ H dx x ∧ RelD g.K ρ H dy y ∧ PostV g ρ H Q (f dx dy s)
def r1 (g : G) (f : D → Sr → R D) : V → Hp → VK → Prop := fun x H Q => ∃ ρ s dx, Sto g ρ s H ∧ RelD g.K ρ H dx x ∧ PostV g ρ H Q (f dx s)
def rN (g : G) (f : List D → Sr → R D) : List V → Hp → VK → Prop := fun xs H Q => ∃ ρ s ds, Sto g ρ s H ∧ RelDs g.K ρ H ds xs ∧ PostV g ρ H Q (f ds s)
/-- never an exception -/
def NoX {α : Type} (r : R α) : Prop := ∀ c fs s, r ≠ .exc c fs s
theorem Post.v {g : G} {ρ : Rho} {H : Hp} {E : XK} {Q : VK} {r : R D} (n : NoX r) (p : Post g (RV g) ρ H E Q r) : PostV g ρ H Q r := by
  cases r with
  | ok a s => exact p
  | exc c fs s => exact absurd rfl (n c fs s)
  | bad => exact p

section
variable {X : Cx} {g : G} {W : WX} {pos : Pos}

theorem l_var {i : Nat} {x : Str} (h : PE X (.Name x pos) (tVar i)) : PE X (.Name x pos) (tI g W (eVar i)) := h.imp fun σ H Q ⟨ρ, s, env, hs, hl, hp⟩ => by
  unfold eVar at hp
  split at hp
  · rename_i d e
    obtain ⟨v, q, r⟩ := hl.at' i d e
    exact ⟨v, q, hp ρ H v .refl hs r⟩
  · exact hp.elim
theorem l_const {e : Expr} {d : D} {v : V} (h : PE X e (tC v)) (r : ∀ ρ H, RelD g.K ρ H d v) : PE X e (tI g W (eC d)) := h.imp fun σ H Q ⟨ρ, s, env, hs, hl, hp⟩ => hp ρ H v .refl hs (r ρ H)
theorem l_nil : PA X [] (tA g W eNil) := pa_nil.imp fun σ H Q ⟨ρ, s, env, hs, hl, hp⟩ => hp ρ H [] .refl hs .nil
theorem l_cons {e : Expr} {es : List Expr} {f : F} {r : FA} (h : PE X e (tI g W f)) (hr : PA X es (tA g W r)) (hs : starEach (e :: es) X.env = (false, eval e X.env) :: starEach es X.env) : PA X (e :: es) (tA g W (eCons f r)) :=
  (pa_cons h hr hs).imp fun σ H Q ⟨ρ, s, env, hs, hl, hp⟩ => ⟨ρ, s, env, hs, hl, hp.bind.imp fun x H1 ⟨ρ1, s1, d, u1, hs1, rd, p1⟩ =>
    ⟨ρ1, s1, env, hs1, hl.up u1, p1.bind.imp fun xs H2 ⟨ρ2, s2, ds, u2, hs2, rds, p2⟩ => p2 ρ2 H2 _ .refl hs2 (.cons (rd.up u2) rds)⟩⟩
/-- a new object of no store cell -/
theorem Sto.up {B : Addr → Prop} {ρ ρ' : Rho} {H H' : Hp} {s : Sr} (h : Sto g ρ s H) (e : ρ'.c = ρ.c) (u : UpB B ρ ρ' H H') (k : ∀ a ∈ ρ.c, H' a = H a) (kx : ∀ a ∈ ρ.x, ∀ xs, H' a ≠ some (.tup xs)) : Sto g ρ' s H' :=
  ⟨by rw [e]; exact h.len, by rw [e]; exact h.nd, by rw [e]; exact h.tb, fun a m q => h.dis a (e ▸ m) (u.ex ▸ q), fun a m q => h.xin a (u.ex ▸ m) (u.live a q), fun a m => kx a (u.ex ▸ m), fun n a q => by
    rw [e] at q
    obtain ⟨c, o, q1, q2, q3⟩ := h.cell n a q
    exact ⟨c, o, q1, (k a (List.mem_of_getElem? q)).trans q2, q3.up u⟩⟩
theorem Sto.out {ρ : Rho} {H : Hp} {s : Sr} {p : Addr} (h : Sto g ρ s H) (hp : H p = none) : ¬ ρ.has p := fun m => by
  rcases m with m | m
  · obtain ⟨n, e⟩ := List.getElem?_of_mem m
    obtain ⟨c, o, q1, q2, q3⟩ := h.cell n p e
    rw [hp] at q2; cases q2
  · exact h.xin p m hp
theorem Up.new1 {ρ : Rho} {H : Hp} {s : Sr} {p : Addr} {o : HO} (h : Sto g ρ s H) (hp : H p = none) : Up ρ ρ H (upd H p o) :=
  ⟨List.prefix_refl _, rfl, fun _ m n => absurd m n, fun a o' h _ => ⟨o', by rw [upd_ne (ne_of_none h hp)]; exact h, .inl rfl⟩, fun a h => by
    by_cases e : a = p
    · rw [e]; exact hp
    · rwa [upd_ne e] at h, fun a m _ => upd_ne fun e => h.out hp (.inr (e ▸ m))⟩
theorem Sto.new1 {ρ : Rho} {H : Hp} {s : Sr} {p : Addr} {o : HO} (h : Sto g ρ s H) (hp : H p = none) : Sto g ρ s (upd H p o) :=
  h.up rfl (Up.new1 h hp) (fun a m => upd_ne fun e => h.out hp (.inl (e ▸ m))) fun a m xs => by
    rw [upd_ne fun (e : a = p) => h.out hp (.inr (e ▸ m))]; exact h.xt a m xs
theorem l_tup {es : List Expr} {k : Nat} {f : FA} (h : PA X es (tA g W f)) : PE X (.Tuple es k pos) (tI g W (eTup f)) :=
  (pe_tup h).imp fun σ H Q ⟨ρ, s, env, hs, hl, hp⟩ => ⟨ρ, s, env, hs, hl, hp.bind.imp fun xs H1 ⟨ρ1, s1, ds, u1, hs1, rd, p1⟩ => by
    split at p1
    · rename_i hz
      refine ⟨by rw [← rd.len]; exact hz, fun p np => ?_⟩
      exact p1 ρ1 _ _ (Up.new1 hs1 np) (hs1.new1 np) (.tup ⟨hs1.out np, upd_same⟩ (rd.up (Up.new1 hs1 np)))
    · exact p1.elim⟩
theorem l_lst {es : List Expr} {f : FA} (h : PA X es (tA g W f)) : PE X (.List es pos) (tI g W (eLst f)) :=
  (pe_lst h).imp fun σ H Q ⟨ρ, s, env, hs, hl, hp⟩ => ⟨ρ, s, env, hs, hl, hp.bind.imp fun xs H1 ⟨ρ1, s1, ds, u1, hs1, rd, p1⟩ => by
    split at p1
    · rename_i hz
      refine ⟨by rw [← rd.len]; exact hz, fun p np => ?_⟩
      exact p1 ρ1 _ _ (Up.new1 hs1 np) (hs1.new1 np) (.lst ⟨hs1.out np, upd_same⟩ (rd.up (Up.new1 hs1 np)))
    · exact p1.elim⟩
theorem l_op {op : Operator} {a b : Expr} {fa fb : F} {f : D → D → Sr → R D} (n : ∀ x y s, NoX (f x y s)) (ho : OpR X (binaryOp op) (r2 g f)) (ha : PE X a (tI g W fa)) (hb : PE X b (tI g W fb)) : PE X (.BinOp a op b pos) (tI g W (eBin f fa fb)) :=
  (pe_op ho ha hb).imp fun σ H Q ⟨ρ, s, env, hs, hl, hp⟩ => ⟨ρ, s, env, hs, hl, hp.bind.imp fun x H1 ⟨ρ1, s1, d, u1, hs1, rd, p1⟩ =>
    ⟨ρ1, s1, env, hs1, hl.up u1, p1.bind.imp fun y H2 ⟨ρ2, s2, e, u2, hs2, re, p2⟩ => ⟨ρ2, s2, d, e, hs2, rd.up u2, re, p2.v (n _ _ _)⟩⟩⟩
theorem l_cmp {op : CmpOp} {a b : Expr} {fa fb : F} {f : D → D → Sr → R D} (n : ∀ x y s, NoX (f x y s)) (ho : OpR X (compareOp op) (r2 g f)) (ha : PE X a (tI g W fa)) (hb : PE X b (tI g W fb)) (hm : behindInMarks op b = false) : PE X (.Compare a [op] [b] pos) (tI g W (eBin f fa fb)) :=
  (pe_cmpR ho ha hb hm).imp fun σ H Q ⟨ρ, s, env, hs, hl, hp⟩ => ⟨ρ, s, env, hs, hl, hp.bind.imp fun x H1 ⟨ρ1, s1, d, u1, hs1, rd, p1⟩ =>
    ⟨ρ1, s1, env, hs1, hl.up u1, p1.bind.imp fun y H2 ⟨ρ2, s2, e, u2, hs2, re, p2⟩ => ⟨ρ2, s2, d, e, hs2, rd.up u2, re, p2.v (n _ _ _)⟩⟩⟩
theorem l_un {op : UnaryOp} {a : Expr} {fa : F} {f : D → Sr → R D} (n : ∀ x s, NoX (f x s)) (ho : UnR X (unaryOp op) (r1 g f)) (ha : PE X a (tI g W fa)) : PE X (.UnaryOp op a pos) (tI g W (eUn f fa)) :=
  (pe_un ho ha).imp fun σ H Q ⟨ρ, s, env, hs, hl, hp⟩ => ⟨ρ, s, env, hs, hl, hp.bind.imp fun x H1 ⟨ρ1, s1, d, u1, hs1, rd, p1⟩ => ⟨ρ1, s1, d, hs1, rd, p1.v (n _ _)⟩⟩
/-- a value that is a truth -/
theorem asB_bl {ρ : Rho} {H : Hp} {E : XK} {α β : Type} {Rel : Rho → Hp → α → β → Prop} {Q : β → Hp → Prop} {x : D} {v : V} {s : Sr} {k : Bool → Sr → R α} (rd : RelD g.K ρ H x v) (p : Post g Rel ρ H E Q ((asB x s).bind k)) : ∃ c, x = .bl c ∧ v = .bl c ∧ Post g Rel ρ H E Q (k c s) := by
  cases rd with
  | bl c => exact ⟨c, rfl, rfl, p⟩
  | _ => exact p.elim
theorem l_and {a b : Expr} {rest : List Expr} {fa fb : F} (ha : PE X a (tI g W fa)) (hb : PE X (.BoolOp .And (b :: rest) pos) (tI g W fb)) : PE X (.BoolOp .And (a :: b :: rest) pos) (tI g W (eAnd fa fb)) :=
  (pe_and ha hb).imp fun σ H Q ⟨ρ, s, env, hs, hl, hp⟩ => ⟨ρ, s, env, hs, hl, hp.bind.imp fun x H1 ⟨ρ1, s1, d, u1, hs1, rd, p1⟩ => by
    obtain ⟨c, rfl, rfl, p2⟩ := asB_bl rd p1
    refine ⟨c, rfl, ?_⟩
    cases c with
    | true => exact ⟨ρ1, s1, env, hs1, hl.up u1, p2.bind.imp fun y H2 ⟨ρ2, s2, e, u2, hs2, re, p3⟩ => by
        obtain ⟨c, rfl, rfl, p4⟩ := asB_bl re p3
        exact p4 ρ2 H2 _ .refl hs2 (.bl c)⟩
    | false => exact p2 ρ1 H1 _ .refl hs1 (.bl false)⟩
theorem l_or {a b : Expr} {rest : List Expr} {fa fb : F} (ha : PE X a (tI g W fa)) (hb : PE X (.BoolOp .Or (b :: rest) pos) (tI g W fb)) : PE X (.BoolOp .Or (a :: b :: rest) pos) (tI g W (eOr fa fb)) :=
  (pe_or ha hb).imp fun σ H Q ⟨ρ, s, env, hs, hl, hp⟩ => ⟨ρ, s, env, hs, hl, hp.bind.imp fun x H1 ⟨ρ1, s1, d, u1, hs1, rd, p1⟩ => by
    obtain ⟨c, rfl, rfl, p2⟩ := asB_bl rd p1
    refine ⟨c, rfl, ?_⟩
    cases c with
    | false => exact ⟨ρ1, s1, env, hs1, hl.up u1, p2.bind.imp fun y H2 ⟨ρ2, s2, e, u2, hs2, re, p3⟩ => by
        obtain ⟨c, rfl, rfl, p4⟩ := asB_bl re p3
        exact p4 ρ2 H2 _ .refl hs2 (.bl c)⟩
    | true => exact p2 ρ1 H1 _ .refl hs1 (.bl true)⟩
theorem l_one {op : BoolOp} {a : Expr} {fa : F} (ha : PE X a (tI g W fa)) : PE X (.BoolOp op [a] pos) (tI g W fa) := pe_one ha
theorem l_not {a : Expr} {fa : F} (ha : PE X a (tI g W fa)) : PE X (.UnaryOp .Not a pos) (tI g W (eNot fa)) :=
  (pe_not ha).imp fun σ H Q ⟨ρ, s, env, hs, hl, hp⟩ => ⟨ρ, s, env, hs, hl, hp.bind.imp fun x H1 ⟨ρ1, s1, d, u1, hs1, rd, p1⟩ => by
    obtain ⟨c, rfl, rfl, p2⟩ := asB_bl rd p1
    exact ⟨c, rfl, p2 ρ1 H1 _ .refl hs1 (.bl _)⟩⟩
/-! tests -/
theorem l_val {e : Expr} {fe : F} (h : PE X e (tI g W fe)) (he : ∀ whole, isTrue e X.env whole = (do let v ← whole; standAt e.pos; holding [v] (truthy v))) : PT X e (tT g W (eB fe)) :=
  (pt_val h he).imp fun σ H Q ⟨ρ, s, env, hs, hl, hp⟩ => ⟨ρ, s, env, hs, hl, hp.bind.imp fun x H1 ⟨ρ1, s1, d, u1, hs1, rd, p1⟩ => by
    cases rd with
    | bl c => exact ⟨c, rfl, p1 ρ1 H1 _ .refl hs1 rfl⟩
    | _ => exact p1.elim⟩
theorem l_cmpT {op : CmpOp} {a b : Expr} {fa fb : F} {f : D → D → Sr → R D} (n : ∀ x y s, NoX (f x y s)) (ho : OpR X (compareOp op) (r2 g f)) (ha : PE X a (tI g W fa)) (hb : PE X b (tI g W fb)) (hm : behindInMarks op b = false) : PT X (.Compare a [op] [b] pos) (tT g W (eB (eBin f fa fb))) :=
  (pt_cmpR ho ha hb hm).imp fun σ H Q ⟨ρ, s, env, hs, hl, hp⟩ => ⟨ρ, s, env, hs, hl, by
    have hp : Post g RB ρ H _ Q (((fa env s).bind fun x s => (fb env s).bind fun y s => f x y s).bind fun x s => asB x s) := hp
    have e : (((fa env s).bind fun x s => (fb env s).bind fun y s => f x y s).bind fun x s => asB x s) = (fa env s).bind fun x s => (fb env s).bind fun y s => (f x y s).bind asB := by
      cases fa env s with
      | ok d s1 => simp only [bind_ok]; cases fb env s1 <;> rfl
      | exc _ _ _ => rfl
      | bad => rfl
    rw [e] at hp
    exact hp.bind.imp fun x H1 ⟨ρ1, s1, d, u1, hs1, rd, p1⟩ =>
      ⟨ρ1, s1, env, hs1, hl.up u1, p1.bind.imp fun y H2 ⟨ρ2, s2, e, u2, hs2, re, p2⟩ => ⟨ρ2, s2, d, e, hs2, rd.up u2, re, (Post.v (n _ _ _) (p2.bind (Rel' := RV g))).imp fun z H3 ⟨ρ3, s3, c, u3, hs3, rc, p3⟩ => by
        cases rc with
        | bl c => exact ⟨c, rfl, p3 ρ3 H3 _ .refl hs3 rfl⟩
        | _ => exact p3.elim⟩⟩⟩
theorem l_and1 {a : Expr} {fa : FB} (ha : PT X a (tT g W fa)) : PW X (.BoolOp .And [a] pos) (tT g W fa) := pw_and1 ha
theorem l_or1 {a : Expr} {fa : FB} (ha : PT X a (tT g W fa)) : PW X (.BoolOp .Or [a] pos) (tT g W fa) := pw_or1 ha
theorem l_andT {a b : Expr} {rest : List Expr} {fa fb : FB} (ha : PT X a (tT g W fa)) (hb : PW X (.BoolOp .And (b :: rest) pos) (tT g W fb)) : PW X (.BoolOp .And (a :: b :: rest) pos) (tT g W (bAnd fa fb)) :=
  (pw_and ha hb).imp fun σ H Q ⟨ρ, s, env, hs, hl, hp⟩ => ⟨ρ, s, env, hs, hl, hp.bind.imp fun c H1 ⟨ρ1, s1, c', u1, hs1, rc, p1⟩ => by
    obtain rfl : c' = c := rc
    cases c' with
    | true => exact ⟨ρ1, s1, env, hs1, hl.up u1, p1⟩
    | false => exact p1 ρ1 H1 _ .refl hs1 rfl⟩
theorem l_orT {a b : Expr} {rest : List Expr} {fa fb : FB} (ha : PT X a (tT g W fa)) (hb : PW X (.BoolOp .Or (b :: rest) pos) (tT g W fb)) : PW X (.BoolOp .Or (a :: b :: rest) pos) (tT g W (bOr fa fb)) :=
  (pw_or ha hb).imp fun σ H Q ⟨ρ, s, env, hs, hl, hp⟩ => ⟨ρ, s, env, hs, hl, hp.bind.imp fun c H1 ⟨ρ1, s1, c', u1, hs1, rc, p1⟩ => by
    obtain rfl : c' = c := rc
    cases c' with
    | false => exact ⟨ρ1, s1, env, hs1, hl.up u1, p1⟩
    | true => exact p1 ρ1 H1 _ .refl hs1 rfl⟩
theorem l_notT {a : Expr} {fa : FB} (ha : PT X a (tT g W fa)) : PT X (.UnaryOp .Not a pos) (tT g W (bNot fa)) :=
  (pt_not ha).imp fun σ H Q ⟨ρ, s, env, hs, hl, hp⟩ => ⟨ρ, s, env, hs, hl, hp.bind.imp fun c H1 ⟨ρ1, s1, c', u1, hs1, rc, p1⟩ => by
    obtain rfl : c' = c := rc
    exact p1 ρ1 H1 _ .refl hs1 rfl⟩
theorem l_if {c a b : Expr} {fc : FB} {fa fb : F} (hc : PT X c (tT g W fc)) (ha : PE X a (tI g W fa)) (hb : PE X b (tI g W fb)) : PE X (.IfExp c a b pos) (tI g W (eIf fc fa fb)) :=
  (pe_ifExp hc ha hb).imp fun σ H Q ⟨ρ, s, env, hs, hl, hp⟩ => ⟨ρ, s, env, hs, hl, hp.bind.imp fun c H1 ⟨ρ1, s1, c', u1, hs1, rc, p1⟩ => by
    obtain rfl : c' = c := rc
    cases c' with
    | true => exact ⟨ρ1, s1, env, hs1, hl.up u1, p1⟩
    | false => exact ⟨ρ1, s1, env, hs1, hl.up u1, p1⟩⟩
/-- a chain of two comparisons -/
theorem l_chain {op op' : CmpOp} {a b c : Expr} {fa fb fc : F} {f f' : D → D → Sr → R D} (n : ∀ x y s, NoX (f x y s)) (n' : ∀ x y s, NoX (f' x y s)) (ho : OpR X (compareOp op) (r2 g f)) (ho' : OpR X (compareOp op') (r2 g f')) (ha : PE X a (tI g W fa)) (hb : PE X b (tI g W fb)) (hc : PE X c (tI g W fc))
    (h : PE X (.Compare a [op, op'] [b, c] pos) (tChain (r2 g f) (r2 g f') (tI g W fa) (tI g W fb) (tI g W fc))) : PE X (.Compare a [op, op'] [b, c] pos) (tI g W (eChain f f' fa fb fc)) :=
  h.imp fun σ H Q ⟨ρ, s, env, hs, hl, hp⟩ => ⟨ρ, s, env, hs, hl, hp.bind.imp fun x H1 ⟨ρ1, s1, d, u1, hs1, rd, p1⟩ =>
    ⟨ρ1, s1, env, hs1, hl.up u1, p1.bind.imp fun y H2 ⟨ρ2, s2, e, u2, hs2, re, p2⟩ => ⟨ρ2, s2, d, e, hs2, rd.up u2, re, (Post.v (n _ _ _) (p2.bind (Rel' := RV g))).imp fun z H3 ⟨ρ3, s3, k, u3, hs3, rk, p3⟩ => by
      obtain ⟨k, rfl, rfl, p4⟩ := asB_bl rk p3
      refine ⟨k, rfl, ?_⟩
      cases k with
      | true =>
        exact ⟨ρ3, s3, env, hs3, ((hl.up u1).up u2).up u3, p4.bind.imp fun w H4 ⟨ρ4, s4, e4, u4, hs4, re4, p5⟩ => ⟨ρ4, s4, e, e4, hs4, (re.up u3).up u4, re4, p5.v (n' _ _ _)⟩⟩
      | false => exact p4 ρ3 H3 _ .refl hs3 (.bl false)⟩⟩⟩
end
end L3

/-! L3C: statements, targets, loops -/
namespace L3
open PySem PySem.Spec PyProof.Rows L2

inductive Fl where
  | nx (e : Env') | rt (d : D) | bk (e : Env') | ct (e : Env')
abbrev FS := Env' → Sr → R Fl
def PostS (g : G) (W : WX) (ρ : Rho) (H : Hp) (E : Ends) : R Fl → Prop
  | .ok (.nx env) s => ∀ ρ' H' σ', Up ρ ρ' H H' → Sto g ρ' s H' → Loc' g.K ρ' H' env σ' → E.nx σ' H'
  | .ok (.bk env) s => ∀ ρ' H' σ', Up ρ ρ' H H' → Sto g ρ' s H' → Loc' g.K ρ' H' env σ' → E.bk σ' H'
  | .ok (.ct env) s => ∀ ρ' H' σ', Up ρ ρ' H H' → Sto g ρ' s H' → Loc' g.K ρ' H' env σ' → E.ct σ' H'
  | .ok (.rt d) s => ∀ ρ' H' v, Up ρ ρ' H H' → Sto g ρ' s H' → RelD g.K ρ' H' d v → E.rt v H'
  | .exc c fs s => ∀ σ' ρ' H' da, Up ρ ρ' H H' → Sto g ρ' s H' → ExcR g.K ρ' H' fs da → W (.ref (g.cls c)) da σ' H'
  | .bad => False
def sI (g : G) (W : WX) (f : FS) : TS := fun E σ H => ∃ ρ s env, Sto g ρ s H ∧ Loc' g.K ρ H env σ ∧ PostS g W ρ H E (f env s)
theorem PostS.up {g : G} {W : WX} {ρ ρ' : Rho} {H H' : Hp} {E : Ends} {r : R Fl} (u : Up ρ ρ' H H') (p : PostS g W ρ H E r) : PostS g W ρ' H' E r := by
  cases r with
  | ok a s => cases a with
    | nx env => exact fun ρ2 H2 v u2 => p ρ2 H2 v (u.trans u2)
    | bk env => exact fun ρ2 H2 v u2 => p ρ2 H2 v (u.trans u2)
    | ct env => exact fun ρ2 H2 v u2 => p ρ2 H2 v (u.trans u2)
    | rt d => exact fun ρ2 H2 v u2 => p ρ2 H2 v (u.trans u2)
  | exc c fs s => exact fun σ' ρ2 H2 v u2 => p σ' ρ2 H2 v (u.trans u2)
  | bad => exact p
/-- an expression's result ahead of a statement's -/
theorem PostS.bind {γ δ : Type} {g : G} {W : WX} {Rel' : Rho → Hp → γ → δ → Prop} {ρ : Rho} {H : Hp} {E : Ends} {r : R γ} {f : γ → Sr → R Fl} {σ : L2.St}
    (p : PostS g W ρ H E (r.bind f)) : Post g Rel' ρ H (fun c d H' => W c d σ H') (fun v H1 => ∃ ρ1 s1 a, Up ρ ρ1 H H1 ∧ Sto g ρ1 s1 H1 ∧ Rel' ρ1 H1 a v ∧ PostS g W ρ1 H1 E (f a s1)) r := by
  cases r with
  | ok a s => exact fun ρ' H' v u hs hr => ⟨ρ', s, a, u, hs, hr, PostS.up u p⟩
  | exc c fs s => exact p σ
  | bad => exact p

def sSkip : FS := fun env s => .ok (.nx env) s
def sThen (a b : FS) : FS := fun env s => match a env s with
  | .ok (.nx env) s => b env s
  | r => r
def sExpr (f : F) : FS := fun env s => (f env s).bind fun _ s => .ok (.nx env) s
def sRet (f : F) : FS := fun env s => (f env s).bind fun d s => .ok (.rt d) s
def sRetN : FS := fun _ s => .ok (.rt .non) s
def sBrk : FS := fun env s => .ok (.bk env) s
def sCt : FS := fun env s => .ok (.ct env) s
def sIf (c : FB) (a b : FS) : FS := fun env s => (c env s).bind fun c s => if c then a env s else b env s
/-- a target: a slot, a tuple of targets -/
inductive Tg where
  | name (i : Nat) | tup (l : List Tg)
mutual
def Tg.put : Tg → D → Env' → Option Env'
  | .name i, d, env => some (env.set i (some d))
  | .tup l, .tup ds, env => Tg.puts l ds env
  | .tup _, _, _ => none
def Tg.puts : List Tg → List D → Env' → Option Env'
  | [], [], env => some env
  | t :: ts, d :: ds, env => (t.put d env).bind fun env => Tg.puts ts ds env
  | _, _, _ => none
end
mutual
/-- all slots of a target are among these -/
def Tg.within : Tg → List Nat → Bool
  | .name i, vs => vs.contains i
  | .tup l, vs => Tg.withins l vs
def Tg.withins : List Tg → List Nat → Bool
  | [], _ => true
  | t :: ts, vs => t.within vs && Tg.withins ts vs
end
theorem wipe_set {x : Option V} : ∀ {vs : List Nat} {σ : L2.St} {i : Nat}, i ∈ vs → wipe (σ.set i x) vs = wipe σ vs
  | [], _, _, h => by cases h
  | v :: vs, σ, i, h => by
    show (wipe (σ.set i x) vs).set v none = (wipe σ vs).set v none
    by_cases hm : i ∈ vs
    · rw [wipe_set hm]
    · have e : i = v := by
        rcases List.mem_cons.mp h with e | e
        · exact e
        · exact absurd e hm
      subst e
      have aux : ∀ {us : List Nat} {τ : L2.St}, i ∉ us → wipe (τ.set i x) us = (wipe τ us).set i x := by
        intro us
        induction us with
        | nil => intro τ _; rfl
        | cons u us ih =>
          intro τ hn
          have hu : u ≠ i := fun e => hn (by rw [e]; exact List.mem_cons_self)
          show (wipe (τ.set i x) us).set u none = ((wipe τ us).set u none).set i x
          rw [ih fun z => hn (List.mem_cons_of_mem _ z), List.set_comm _ _ hu.symm]
      rw [aux hm, List.set_set]
def sAsg (t : Tg) (f : F) : FS := fun env s => (f env s).bind fun d s => match t.put d env with | some env => .ok (.nx env) s | none => .bad

section
variable {X : Cx} {g : G} {W : WX} {pos : Pos}
theorem l_ss_nil : PSs X [] (sI g W sSkip) := pss_nil.imp fun E σ H ⟨ρ, s, env, hs, hl, hp⟩ => hp ρ H σ .refl hs hl
theorem l_ss_cons {st : Stmt} {rest : List Stmt} {a b : FS} (h1 : PS X st (sI g W a)) (h2 : PSs X rest (sI g W b)) : PSs X (st :: rest) (sI g W (sThen a b)) :=
  (pss_cons h1 h2).imp fun E σ H ⟨ρ, s, env, hs, hl, hp⟩ => ⟨ρ, s, env, hs, hl, by
    unfold sThen at hp
    cases e : a env s with
    | ok f s1 =>
      rw [e] at hp
      cases f with
      | nx env1 => exact fun ρ1 H1 σ1 u1 hs1 hl1 => ⟨ρ1, s1, env1, hs1, hl1, PostS.up u1 hp⟩
      | bk _ => exact hp
      | ct _ => exact hp
      | rt _ => exact hp
    | exc c fs s1 => rw [e] at hp; exact hp
    | bad => rw [e] at hp; exact hp⟩
theorem l_expr {e : Expr} {f : F} (he : PE X e (tI g W f)) (hs : swapsWith e none pos.line X.env = pure false) : PS X (.Expr e pos) (sI g W (sExpr f)) :=
  (ps_expr he hs).imp fun E σ H ⟨ρ, s, env, hs, hl, hp⟩ => ⟨ρ, s, env, hs, hl, (hp.bind (Rel' := RV g)).imp fun v H1 ⟨ρ1, s1, a, u, hs1, r, p⟩ => p ρ1 H1 σ .refl hs1 (hl.up u)⟩
theorem l_doc {x : Str} {j : Nat} {p' : Pos} : PS X (.Expr (.Constant (.str x) j pos) p') (sI g W sSkip) := ps_doc.imp fun E σ H ⟨ρ, s, env, hs, hl, hp⟩ => hp ρ H σ .refl hs hl
theorem l_ret {e : Expr} {f : F} (he : PE X e (tI g W f)) : PS X (.Return (some e) pos) (sI g W (sRet f)) :=
  (ps_ret he).imp fun E σ H ⟨ρ, s, env, hs, hl, hp⟩ => ⟨ρ, s, env, hs, hl, (hp.bind (Rel' := RV g)).imp fun v H1 ⟨ρ1, s1, a, u, hs1, r, p⟩ => p ρ1 H1 v .refl hs1 r⟩
theorem l_retN : PS X (.Return none pos) (sI g W sRetN) := ps_retN.imp fun E σ H ⟨ρ, s, env, hs, hl, hp⟩ => hp ρ H .non .refl hs .non
theorem l_pass : PS X (.Pass pos) (sI g W sSkip) := ps_pass.imp fun E σ H ⟨ρ, s, env, hs, hl, hp⟩ => hp ρ H σ .refl hs hl
theorem l_brk : PS X (.Break pos) (sI g W sBrk) := ps_break.imp fun E σ H ⟨ρ, s, env, hs, hl, hp⟩ => hp ρ H σ .refl hs hl
theorem l_ct : PS X (.Continue pos) (sI g W sCt) := ps_continue.imp fun E σ H ⟨ρ, s, env, hs, hl, hp⟩ => hp ρ H σ .refl hs hl
theorem l_never {st : Stmt} : PS X st (sI g W fun _ _ => .bad) := ps_never.imp fun E σ H ⟨ρ, s, env, hs, hl, hp⟩ => hp
theorem l_ifS {c : Expr} {a b : List Stmt} {fc : FB} {fa fb : FS} (hc : PT X c (tT g W fc)) (ha : PSs X a (sI g W fa)) (hb : PSs X b (sI g W fb)) : PS X (.If c a b pos) (sI g W (sIf fc fa fb)) :=
  (ps_if hc ha hb).imp fun E σ H ⟨ρ, s, env, hs, hl, hp⟩ => ⟨ρ, s, env, hs, hl, (hp.bind (Rel' := RB)).imp fun c H1 ⟨ρ1, s1, c', u1, hs1, rc, p1⟩ => by
    obtain rfl : c' = c := rc
    cases c' with
    | true => exact ⟨ρ1, s1, env, hs1, hl.up u1, p1⟩
    | false => exact ⟨ρ1, s1, env, hs1, hl.up u1, p1⟩⟩

/-! targets -/
/-- a target's reading -/
def tgI (K : PySem.W.Frag) (t : Tg) : TG := fun v σ H Q => ∃ ρ d env env', RelD K ρ H d v ∧ Loc' K ρ H env σ ∧ t.put d env = some env' ∧ ∀ σ', Loc' K ρ H env' σ' → (∀ vs, t.within vs = true → wipe σ' vs = wipe σ vs) → Q σ' H
def tgIs (K : PySem.W.Frag) (ts : List Tg) : TGs := fun vs σ H Q => ∃ ρ ds env env', RelDs K ρ H ds vs ∧ Loc' K ρ H env σ ∧ Tg.puts ts ds env = some env' ∧ ∀ σ', Loc' K ρ H env' σ' → (∀ vs, Tg.withins ts vs = true → wipe σ' vs = wipe σ vs) → Q σ' H
theorem _root_.L2.PG.imp {X : Cx} {e : Expr} {t t' : TG} (h : PG X e t) (i : ∀ v σ H Q, t' v σ H Q → t v σ H Q) : PG X e t' := ⟨fun pins s σ H v u Q I r q => h.run pins s σ H v u Q I r (i v σ H Q q)⟩
theorem _root_.L2.PGs.imp {X : Cx} {e : List Expr} {t t' : TGs} (h : PGs X e t) (i : ∀ v σ H Q, t' v σ H Q → t v σ H Q) : PGs X e t' := ⟨fun pins s σ H v u Q I r q => h.run pins s σ H v u Q I r (i v σ H Q q)⟩
theorem l_gname {i : Nat} {e : Expr} {K : PySem.W.Frag} (h : PG X e (gName i)) : PG X e (tgI K (.name i)) := h.imp fun v σ H Q ⟨ρ, d, env, env', r, hl, e, q⟩ => by
  unfold Tg.put at e
  cases e
  exact q _ (hl.set i r) fun vs h => wipe_set (by unfold Tg.within at h; simpa using h)
theorem l_gnil {K : PySem.W.Frag} : PGs X [] (tgIs K []) := pgs_nil.imp fun vs σ H Q ⟨ρ, ds, env, env', r, hl, e, q⟩ => by
  cases r with
  | nil => unfold Tg.puts at e; cases e; exact ⟨rfl, q _ hl fun _ _ => rfl⟩
  | cons a b => unfold Tg.puts at e; cases e
theorem l_gcons {e : Expr} {es : List Expr} {t : Tg} {ts : List Tg} {K : PySem.W.Frag} (h1 : PG X e (tgI K t)) (h2 : PGs X es (tgIs K ts)) (hs : (assignEach (e :: es) X.env).map (·.2) = assign e X.env :: (assignEach es X.env).map (·.2)) : PGs X (e :: es) (tgIs K (t :: ts)) := (pgs_cons h1 h2 hs).imp fun vs σ H Q ⟨ρ, ds, env, env', r, hl, e, q⟩ => by
  cases r with
  | nil => unfold Tg.puts at e; cases e
  | cons a b =>
    unfold Tg.puts at e
    obtain ⟨env1, e1, e2⟩ := Option.bind_eq_some_iff.mp e
    exact ⟨_, _, rfl, ρ, _, env, env1, a, hl, e1, fun σ1 hl1 hw1 => ⟨ρ, _, env1, env', b, hl1, e2, fun σ2 hl2 hw2 => q σ2 hl2 fun vs hv => by
      unfold Tg.withins at hv
      rw [Bool.and_eq_true] at hv
      rw [hw2 vs hv.2, hw1 vs hv.1]⟩⟩
theorem l_gtup {es : List Expr} {ts : List Tg} {k n : Nat} (hc : X.calm = true) (hn : ts.length = n) (h : PG X (.Tuple es k pos) (gTup g.K n (tgIs g.K ts))) : PG X (.Tuple es k pos) (tgI g.K (.tup ts)) := h.imp fun v σ H Q ⟨ρ, d, env, env', r, hl, e, q⟩ => by
  cases r with
  | tup ha rs =>
    unfold Tg.put at e
    refine ⟨_, _, rfl, ha.sq, ?_, ρ, _, env, env', rs, hl, e, fun σ' hl' hw => q σ' hl' fun vs hv => hw vs (by unfold Tg.within at hv; exact hv)⟩
    rw [← rs.len, ← hn]
    clear q h rs ha
    have aux : ∀ (ts : List Tg) (ds : List D) (env env' : Env'), Tg.puts ts ds env = some env' → ds.length = ts.length := by
      intro ts
      induction ts with
      | nil => intro ds env env' e; cases ds with | nil => rfl | cons _ _ => unfold Tg.puts at e; cases e
      | cons t ts ih =>
        intro ds env env' e
        cases ds with
        | nil => unfold Tg.puts at e; cases e
        | cons d ds =>
          unfold Tg.puts at e
          obtain ⟨env1, _, e2⟩ := Option.bind_eq_some_iff.mp e
          exact congrArg (· + 1) (ih _ _ _ e2)
    exact aux _ _ _ _ e
  | _ => unfold Tg.put at e; cases e
theorem l_asg {tg e : Expr} {t : Tg} {f : F} (he : PE X e (tI g W f)) (hg : PG X tg (tgI g.K t)) (hs : swapsWithSole [tg] e pos.line X.env = pure false) (hw : swappedStores [tg] e X.env = pure none) (h1 : (assignEach [tg] X.env).map (·.2) = [assign tg X.env]) : PS X (.Assign [tg] e pos) (sI g W (sAsg t f)) :=
  (ps_asg he hg hs hw h1).imp fun E σ H ⟨ρ, s, env, hs, hl, hp⟩ => ⟨ρ, s, env, hs, hl, (hp.bind (Rel' := RV g)).imp fun v H1 ⟨ρ1, s1, a, u, hs1, r, p⟩ => by
    split at p
    · rename_i env' e
      exact ⟨ρ1, a, env, env', r, hl.up u, e, fun σ' hl' _ => p ρ1 H1 σ' .refl hs1 hl'⟩
    · exact p.elim⟩
end
end L3

/-! L3D: loops, comprehensions -/
namespace L3
open PySem PySem.Spec PyProof.Rows L2

def whileF (c : FB) (body : FS) : Nat → FS
  | 0, _, _ => .bad
  | n + 1, env, s => (c env s).bind fun b s => if b then (match body env s with
      | .ok (.nx env) s => whileF c body n env s
      | .ok (.ct env) s => whileF c body n env s
      | .ok (.bk env) s => .ok (.nx env) s
      | r => r) else .ok (.nx env) s
/-- what is gone through: the items; the store cells that must hold the told lists at each turn -/
structure Src where
  items : List D
  guards : List (Nat × List D)
mutual
def D.beq : D → D → Bool
  | .non, .non => true
  | .bl a, .bl b => a == b
  | .int a, .int b => decide (a = b)
  | .str a, .str b => decide (a = b)
  | .tup a, .tup b => D.beqs a b
  | .ktp a, .ktp b => D.beqs a b
  | .lst a, .lst b => D.beqs a b
  | .ref a, .ref b => decide (a = b)
  | _, _ => false
def D.beqs : List D → List D → Bool
  | [], [] => true
  | a :: as, b :: bs => D.beq a b && D.beqs as bs
  | _, _ => false
end
mutual
theorem D.eq_of_beq : ∀ {a b : D}, D.beq a b = true → a = b
  | .non, b, h => by cases b <;> first | rfl | (unfold D.beq at h; cases h)
  | .bl a, b, h => by cases b <;> first | (unfold D.beq at h; rw [beq_iff_eq] at h; rw [h]) | (unfold D.beq at h; cases h)
  | .int a, b, h => by cases b <;> first | (unfold D.beq at h; rw [of_decide_eq_true h]) | (unfold D.beq at h; cases h)
  | .str a, b, h => by cases b <;> first | (unfold D.beq at h; rw [of_decide_eq_true h]) | (unfold D.beq at h; cases h)
  | .tup a, b, h => by cases b <;> first | (unfold D.beq at h; rw [D.eq_of_beqs h]) | (unfold D.beq at h; cases h)
  | .ktp a, b, h => by cases b <;> first | (unfold D.beq at h; rw [D.eq_of_beqs h]) | (unfold D.beq at h; cases h)
  | .lst a, b, h => by cases b <;> first | (unfold D.beq at h; rw [D.eq_of_beqs h]) | (unfold D.beq at h; cases h)
  | .ref a, b, h => by cases b <;> first | (unfold D.beq at h; rw [of_decide_eq_true h]) | (unfold D.beq at h; cases h)
  | .lck a, b, h => by cases b <;> (unfold D.beq at h; cases h)
  | .dk a, b, h => by cases b <;> (unfold D.beq at h; cases h)
  | .dt a, b, h => by cases b <;> (unfold D.beq at h; cases h)
theorem D.eq_of_beqs : ∀ {a b : List D}, D.beqs a b = true → a = b
  | [], b, h => by cases b <;> first | rfl | (unfold D.beqs at h; cases h)
  | a :: as, b, h => by
    cases b with
    | nil => unfold D.beqs at h; cases h
    | cons b bs =>
      unfold D.beqs at h
      rw [Bool.and_eq_true] at h
      rw [D.eq_of_beq h.1, D.eq_of_beqs h.2]
end
def guardOk (s : Sr) (p : Nat × List D) : Bool := match s[p.1]? with | some (.lst l) => D.beqs l p.2 | _ => false
def Src.ok (c : Src) (s : Sr) : Bool := c.guards.all (guardOk s)
abbrev FI := Env' → Sr → R Src
def forL (chk : Sr → Bool) (t : Tg) (body : FS) : List D → FS
  | [], env, s => if chk s then .ok (.nx env) s else .bad
  | d :: ds, env, s => if chk s then (match t.put d env with
      | none => .bad
      | some env => match body env s with
        | .ok (.nx env) s => forL chk t body ds env s
        | .ok (.ct env) s => forL chk t body ds env s
        | .ok (.bk env) s => .ok (.nx env) s
        | r => r) else .bad
def sFor (it : FI) (t : Tg) (body : FS) : FS := fun env s => (it env s).bind fun c s => forL c.ok t body c.items env s
/-- an iterator that hands out the items -/
structure Serves (g : G) (J : It) (c : Src) (Hd : Rho → Hp → Prop) : Prop where
  mono : ∀ {ρ ρ' H H'}, Hd ρ H → Car ρ ρ' H H' → Hd ρ' H'
  go : ∀ {ρ s H i} (hi : i < c.items.length), Sto g ρ s H → c.ok s = true → Hd ρ H → J.go i H ∧ ∀ x H', J.yld i H x H' → Up ρ ρ H H' ∧ Sto g ρ s H' ∧ RelD g.K ρ H' c.items[i] x
  stop : ∀ {ρ s H}, Sto g ρ s H → c.ok s = true → Hd ρ H → J.stop c.items.length H
def RI (g : G) : Rho → Hp → Src → It → Prop := fun ρ H c J => ∃ Hd, Serves g J c Hd ∧ Hd ρ H
abbrev iI (g : G) (W : WX) (f : FI) : TI := tG g (RI g) W f
theorem _root_.L2.PI.imp {X : Cx} {tg e : Expr} {t t' : TI} (h : PI X tg e t) (i : ∀ σ H Q, t' σ H Q → t σ H Q) : PI X tg e t' := ⟨fun pins s σ H Q I q => h.run pins s σ H Q I (i σ H Q q)⟩

section
variable {X : Cx} {g : G} {W : WX} {pos : Pos}
theorem l_while {c : Expr} {body : List Stmt} {fc : FB} {fb : FS} (n : Nat) (hp : PassesOwn (model X.prog X.w) X.A X.env X.xe) (hc : PT X c (tT g W fc)) (hb : PSs X body (sI g W fb)) : PS X (.While c body [] pos) (sI g W (whileF fc fb n)) :=
  (ps_while hp hc hb).imp fun E σ H ⟨ρ, s, env, hs, hl, hp⟩ => by
    refine ⟨fun m σ H => ∃ ρ s env, Sto g ρ s H ∧ Loc' g.K ρ H env σ ∧ PostS g W ρ H E (whileF fc fb m env s), ⟨n, ρ, s, env, hs, hl, hp⟩, ?_⟩
    rintro m σ H ⟨ρ, s, env, hs, hl, hp⟩
    cases m with
    | zero => exact hp.elim
    | succ m =>
      refine ⟨ρ, s, env, hs, hl, (hp.bind (Rel' := RB)).imp fun b H1 ⟨ρ1, s1, b', u1, hs1, rb, p1⟩ => ?_⟩
      obtain rfl : b' = b := rb
      cases b' with
      | false => exact p1 ρ1 H1 σ .refl hs1 (hl.up u1)
      | true =>
        refine (if_pos rfl).mpr ⟨fun σ' H' => ∃ ρ s env, Sto g ρ s H' ∧ Loc' g.K ρ H' env σ' ∧ PostS g W ρ H' E (whileF fc fb m env s), fun σ' H' h => ⟨m, Nat.lt_succ_self m, h⟩, ρ1, s1, env, hs1, hl.up u1, ?_⟩
        have p1 : PostS g W ρ1 H1 E (match fb env s1 with
          | .ok (.nx env) s => whileF fc fb m env s
          | .ok (.ct env) s => whileF fc fb m env s
          | .ok (.bk env) s => .ok (.nx env) s
          | r => r) := p1
        cases e : fb env s1 with
        | ok f s2 =>
          rw [e] at p1
          cases f with
          | nx env2 => exact fun ρ2 H2 σ2 u2 hs2 hl2 => ⟨ρ2, s2, env2, hs2, hl2, PostS.up u2 p1⟩
          | ct env2 => exact fun ρ2 H2 σ2 u2 hs2 hl2 => ⟨ρ2, s2, env2, hs2, hl2, PostS.up u2 p1⟩
          | bk env2 => exact p1
          | rt d => exact p1
        | exc c fs s2 => rw [e] at p1; exact p1
        | bad => rw [e] at p1; exact p1
theorem l_for {tg iter : Expr} {body : List Stmt} {t : Tg} {fi : FI} {fb : FS} (hp : PassesOwn (model X.prog X.w) X.A X.env X.xe) (hc : X.calm = true) (hi : PI X tg iter (iI g W fi)) (hg : PG X tg (tgI g.K t)) (hb : PSs X body (sI g W fb))
    (hs : ∀ x, foldedSetIterable iter X.env x = pure x) : PS X (.For tg iter body [] pos) (sI g W (sFor fi t fb)) :=
  (ps_for hp hc hi hg hb hs).imp fun E σ H ⟨ρ, s, env, hs, hl, hp⟩ => by
    refine ⟨ρ, s, env, hs, hl, (hp.bind (Rel' := RI g)).imp fun J H1 ⟨ρ1, s1, c, u1, hs1, ⟨Hd, sv, hd⟩, p1⟩ => ?_⟩
    refine ⟨fun i m σ H => i ≤ c.items.length ∧ m = c.items.length - i ∧ ∃ ρ s env, Sto g ρ s H ∧ Loc' g.K ρ H env σ ∧ Hd ρ H ∧ PostS g W ρ H E (forL c.ok t fb (c.items.drop i) env s), ⟨_, Nat.zero_le _, rfl, ρ1, s1, env, hs1, hl.up u1, hd, p1⟩, ?_⟩
    rintro i m σ H ⟨hi, rfl, ρ, s, env, hs, hl, hd, hp⟩
    by_cases hlt : i < c.items.length
    · refine .inr ?_
      rw [List.drop_eq_getElem_cons hlt] at hp
      unfold forL at hp
      cases ck : c.ok s with
      | false => rw [ck] at hp; exact hp.elim
      | true =>
        rw [ck, if_pos rfl] at hp
        obtain ⟨hgo, hy⟩ := sv.go hlt hs ck hd
        refine ⟨hgo, fun σ' H' => ∃ ρ s env, Sto g ρ s H' ∧ Loc' g.K ρ H' env σ' ∧ Hd ρ H' ∧ PostS g W ρ H' E (forL c.ok t fb (c.items.drop (i + 1)) env s), fun σ' H' ⟨ρ, s, env, h1, h2, h3, h4⟩ => ⟨c.items.length - (i + 1), by omega, hlt, rfl, ρ, s, env, h1, h2, h3, h4⟩, fun x H' y => ?_⟩
        obtain ⟨u2, hs2, rx⟩ := hy x H' y
        cases e : t.put c.items[i] env with
        | none => rw [e] at hp; exact hp.elim
        | some env2 =>
          rw [e] at hp
          refine ⟨ρ, _, env, env2, rx, hl.up u2, e, fun σ2 hl2 _ => ⟨ρ, s, env2, hs2, hl2, ?_⟩⟩
          have hp : PostS g W ρ H E (match fb env2 s with
            | .ok (.nx env) s => forL c.ok t fb (c.items.drop (i + 1)) env s
            | .ok (.ct env) s => forL c.ok t fb (c.items.drop (i + 1)) env s
            | .ok (.bk env) s => .ok (.nx env) s
            | r => r) := hp
          cases e2 : fb env2 s with
          | ok f s3 =>
            rw [e2] at hp
            cases f with
            | nx env3 => exact fun ρ3 H3 σ3 u3 hs3 hl3 => ⟨ρ3, s3, env3, hs3, hl3, sv.mono hd (u2.trans u3).car, PostS.up (u2.trans u3) hp⟩
            | ct env3 => exact fun ρ3 H3 σ3 u3 hs3 hl3 => ⟨ρ3, s3, env3, hs3, hl3, sv.mono hd (u2.trans u3).car, PostS.up (u2.trans u3) hp⟩
            | bk env3 => exact PostS.up u2 hp
            | rt d => exact PostS.up u2 hp
          | exc c fs s3 => rw [e2] at hp; exact PostS.up u2 hp
          | bad => rw [e2] at hp; exact hp
    · have e : i = c.items.length := by omega
      subst e
      rw [List.drop_length] at hp
      unfold forL at hp
      cases ck : c.ok s with
      | false => rw [ck] at hp; exact hp.elim
      | true =>
        rw [ck, if_pos rfl] at hp
        exact .inl ⟨sv.stop hs ck hd, hp ρ H σ .refl hs hl⟩
end
end L3

/-! L3E: comprehensions -/
namespace L3
open PySem PySem.Spec PyProof.Rows L2

/-- no exception leaves -/
def R.nox {α : Type} : R α → R α
  | .exc _ _ _ => .bad
  | r => r
@[simp] theorem nox_ok {α : Type} (a : α) (s : Sr) : (R.ok a s).nox = .ok a s := (rfl)
@[simp] theorem nox_bad {α : Type} : (R.bad : R α).nox = .bad := (rfl)
@[simp] theorem nox_exc {α : Type} (c : Nat) (fs : List (Str × D)) (s : Sr) : (R.exc c fs s : R α).nox = .bad := (rfl)
def wipeE (env : Env') : List Nat → Env'
  | [] => env
  | v :: vs => (wipeE env vs).set v none
theorem Loc'.wipe {K : PySem.W.Frag} {ρ : Rho} {H : Hp} {env : Env'} {σ : L2.St} (l : Loc' K ρ H env σ) : ∀ vs : List Nat, Loc' K ρ H (wipeE env vs) (L2.wipe σ vs)
  | [] => l
  | v :: vs => by
    have h := Loc'.wipe l vs
    refine ⟨?_, fun j e q => ?_⟩
    · show ((wipeE env vs).set v none).length = ((L2.wipe σ vs).set v none).length
      rw [List.length_set, List.length_set]; exact h.len
    · have q : ((wipeE env vs).set v none)[j]? = some (some e) := q
      show ∃ w, ((L2.wipe σ vs).set v none)[j]? = some (some w) ∧ _
      by_cases hj : v = j
      · subst hj
        by_cases hi : v < (wipeE env vs).length
        · rw [List.getElem?_set_self hi] at q; cases q
        · rw [List.getElem?_eq_none (by simpa using hi)] at q; cases q
      · rw [List.getElem?_set_ne hj] at q ⊢
        exact h.at' j e q
def lcL (chk : Sr → Bool) (vs : List Nat) (t : Tg) (test : FB) (elt : F) : List D → List D → Env' → Sr → R (List D)
  | [], acc, _, s => if chk s then .ok acc s else .bad
  | d :: ds, acc, env, s => if chk s then (match t.put d (wipeE env vs) with
      | none => .bad
      | some env1 => (test env1 s).nox.bind fun b s => if b then (elt env1 s).nox.bind fun y s => if acc.length < sizeLine then lcL chk vs t test elt ds (acc ++ [y]) env s else .bad
        else lcL chk vs t test elt ds acc env s) else .bad
def eLc (it : FI) (vs : List Nat) (t : Tg) (test : FB) (elt : F) : F := fun env s => (it env s).bind fun c s => (lcL c.ok vs t test elt c.items [] env s).bind fun ds s => .ok (.lst ds) s
def bYes : FB := fun _ s => .ok true s
/-- the wish that nothing leaves -/
def W0 : WX := fun _ _ _ _ => False

/-- a result whose exceptions don't count -/
theorem Post.nox {α β γ δ : Type} {g : G} {Rel : Rho → Hp → α → β → Prop} {Rel' : Rho → Hp → γ → δ → Prop} {ρ : Rho} {H : Hp} {E E' : XK} {Q : β → Hp → Prop} {r : R γ} {f : γ → Sr → R α}
    (p : Post g Rel ρ H E Q (r.nox.bind f)) : Post g Rel' ρ H E' (fun v H1 => ∃ ρ1 s1 a, Up ρ ρ1 H H1 ∧ Sto g ρ1 s1 H1 ∧ Rel' ρ1 H1 a v ∧ Post g Rel ρ1 H1 E Q (f a s1)) r := by
  cases r with
  | ok a s => exact fun ρ' H' v u hs hr => ⟨ρ', s, a, u, hs, hr, Post.up u p⟩
  | exc c fs s => exact p.elim
  | bad => exact p

/-! a hidden object -/
def Rho.hide (ρ : Rho) (D : Addr) : Rho := ⟨ρ.c, D :: ρ.x⟩
theorem hide_has {ρ : Rho} {D a : Addr} : (ρ.hide D).has a ↔ a = D ∨ ρ.has a := by
  constructor
  · rintro (h | h)
    · exact .inr (.inl h)
    · rcases List.mem_cons.mp h with h | h
      · exact .inl h
      · exact .inr (.inr h)
  · rintro (rfl | h | h)
    · exact .inr List.mem_cons_self
    · exact .inl h
    · exact .inr (List.mem_cons_of_mem _ h)
theorem Car.hide {ρ : Rho} {H : Hp} {D : Addr} {o : HO} (hD : H D = none) : Car ρ (ρ.hide D) H (upd H D o) :=
  ⟨List.prefix_refl _, fun a o' h n _ => ⟨fun z => by
    rcases hide_has.mp z with e | e
    · rw [e, hD] at h; cases h
    · exact n e, o', by rw [upd_ne (ne_of_none h hD)]; exact h, .inl rfl⟩⟩
theorem Sto.hide {g : G} {ρ : Rho} {H : Hp} {D : Addr} {o : HO} {s : Sr} (h : Sto g ρ s H) (hD : H D = none) (ho : ∀ xs, o ≠ .tup xs) : Sto g (ρ.hide D) s (upd H D o) ∧ D ∉ ρ.c := by
  have nD : D ∉ ρ.c := fun m => h.out hD (.inl m)
  refine ⟨⟨h.len, h.nd, h.tb, fun a m q => (List.mem_cons.mp q).elim (fun e => nD (e ▸ m)) (h.dis a m), fun a m => ?_, fun a m xs => ?_, fun n a e => ?_⟩, nD⟩
  · rcases List.mem_cons.mp m with e | m
    · rw [e, upd_same]; exact fun z => by cases z
    · by_cases e : a = D
      · rw [e, upd_same]; exact fun z => by cases z
      · rw [upd_ne e]; exact h.xin a m
  · by_cases e : a = D
    · rw [e, upd_same]; exact fun z => ho xs (Option.some.inj z)
    · rcases List.mem_cons.mp m with e2 | m
      · exact absurd e2 e
      · rw [upd_ne e]; exact h.xt a m xs
  · obtain ⟨c, o', q1, q2, q3⟩ := h.cell n a e
    exact ⟨c, o', q1, by rw [upd_ne (ne_of_none q2 hD)]; exact q2, q3.car (Car.hide hD)⟩
/-- the hidden object changes -/
theorem UpB.hide {ρ : Rho} {H : Hp} {D : Addr} {o : HO} (hx : D ∈ ρ.x) : UpB (· = D) ρ ρ H (upd H D o) :=
  ⟨List.prefix_refl _, rfl, fun _ m n => absurd m n, fun a o' h n => ⟨o', by rw [upd_ne fun (e : a = D) => n (.inr (by rw [e]; exact hx))]; exact h, .inl rfl⟩, fun a h => by
    by_cases e : a = D
    · rw [e, upd_same] at h; cases h
    · rwa [upd_ne e] at h, fun a _ n => upd_ne n⟩
/-- the hidden object comes into sight -/
theorem UpB.unhide {ρ r : Rho} {H H' : Hp} {D : Addr} {o : HO} (hD : H D = none) (hx : ∀ a ∈ ρ.x, H a ≠ none) (u : UpB (· = D) (ρ.hide D) r (upd H D o) H') : Up ρ ⟨r.c, ρ.x⟩ H H' :=
  ⟨u.pre, rfl, fun a m n => by
    have q := u.new a m n
    by_cases e : a = D
    · rw [e]; exact hD
    · rwa [upd_ne e] at q, fun a o' h n => u.keep a o' (by rw [upd_ne (ne_of_none h hD)]; exact h) (fun z => by
      rcases hide_has.mp z with e | e
      · rw [e, hD] at h; cases h
      · exact n e), fun a h => by
    have q := u.live a h
    by_cases e : a = D
    · rw [e]; exact hD
    · rwa [upd_ne e] at q, fun a m _ => by
    have e : a ≠ D := fun e => hx a m (e ▸ hD)
    rw [u.hid a (List.mem_cons_of_mem _ m) e, upd_ne e]⟩
theorem Car.unhide {ρ r : Rho} {H H' : Hp} {D : Addr} {o : HO} (u : UpB (· = D) (ρ.hide D) r (upd H D o) H') : Car r ⟨r.c, ρ.x⟩ H' H' :=
  ⟨List.prefix_refl _, fun a o' h n _ => ⟨fun z => n (by
    rcases z with z | z
    · exact .inl z
    · exact .inr (by rw [u.ex]; exact List.mem_cons_of_mem _ z)), o', h, .inl rfl⟩⟩
theorem Sto.unhide {g : G} {ρ r : Rho} {H H' : Hp} {D : Addr} {o : HO} {s : Sr} (u : UpB (· = D) (ρ.hide D) r (upd H D o) H') (h : Sto g r s H') : Sto g ⟨r.c, ρ.x⟩ s H' :=
  ⟨h.len, h.nd, h.tb, fun a m q => h.dis a m (by rw [u.ex]; exact List.mem_cons_of_mem _ q), fun a m => h.xin a (by rw [u.ex]; exact List.mem_cons_of_mem _ m), fun a m => h.xt a (by rw [u.ex]; exact List.mem_cons_of_mem _ m), fun n a e => by
    obtain ⟨c, o', q1, q2, q3⟩ := h.cell n a e
    exact ⟨c, o', q1, q2, q3.car (Car.unhide u)⟩⟩
/-- the hidden object's address is no store cell's -/
theorem hid_out {ρ r : Rho} {H H' : Hp} {D : Addr} {o : HO} (nD : D ∉ ρ.c) (u : UpB (· = D) (ρ.hide D) r (upd H D o) H') : D ∉ r.c := fun m => by
  have q := u.new D m nD
  rw [upd_same] at q; cases q

section
variable {X : Cx} {g : G} {W : WX} {pos : Pos}
theorem l_pts_nil : PTs X [] (tT g W bYes) := ⟨fun pins s σ H Q I ⟨ρ, s', env, hs, hl, hp⟩ => pts_nil.run pins s σ H Q I (hp ρ H true .refl hs rfl)⟩
theorem l_pts_one {c : Expr} {f : FB} (h : PT X c (tT g W f)) : PTs X [c] (tT g W f) := pts_one h
theorem RelDs.snoc {K : PySem.W.Frag} {ρ : Rho} {H : Hp} {ds : List D} {vs : List V} {d : D} {v : V} (h : RelDs K ρ H ds vs) (r : RelD K ρ H d v) : RelDs K ρ H (ds ++ [d]) (vs ++ [v]) := h.app (.cons r .nil)
end
end L3

/-! L3F: new objects -/
namespace L3
open PySem PySem.Spec PyProof.Rows L2

def toCell : D → Option Cell
  | .lst l => some (.lst l)
  | .dk l => some (.dk l)
  | .dt l => some (.dt l)
  | _ => none
def NewR (g : G) (ρ : Rho) (H : Hp) (d : D) (o : HO) : Prop := ∃ c, toCell d = some c ∧ CellR g ρ H c o
theorem NewR.car {g : G} {ρ ρ' : Rho} {H H' : Hp} (u : Car ρ ρ' H H') {d : D} {o : HO} (h : NewR g ρ H d o) : NewR g ρ' H' d o := let ⟨c, e, r⟩ := h; ⟨c, e, r.car u⟩
theorem NewR.isDic {g : G} {ρ : Rho} {H : Hp} {d : D} {o : HO} (h : NewR g ρ H d o) : (∃ l xs, d = .lst l ∧ o = .lst xs ∧ RelDs g.K ρ H l xs) ∨ (∃ l xs, d = .dk l ∧ o = .dK xs ∧ RelK g.K ρ H l xs) ∨ (∃ l xs, d = .dt l ∧ o = .dT xs ∧ RelT g.K ρ H l xs) := by
  obtain ⟨c, e, r⟩ := h
  cases d <;> simp only [toCell] at e <;> cases e
  · cases r with | lst r => exact .inl ⟨_, _, rfl, rfl, r⟩
  · cases r with | dk r => exact .inr (.inl ⟨_, _, rfl, rfl, r⟩)
  · cases r with | dt r => exact .inr (.inr ⟨_, _, rfl, rfl, r⟩)
/-- a new object at D, told of by nothing yet -/
structure New (g : G) (ρ : Rho) (H : Hp) (env : Env') (σ : L2.St) (d : D) (s' : Sr) (r : Rho) (D : Addr) (H' : Hp) (o : HO) : Prop where
  x : r.x = D :: ρ.x
  out : D ∉ r.c
  up : Up ρ ⟨r.c, ρ.x⟩ H H'
  none' : H D = .none
  sto : Sto g r s' H'
  loc : Loc' g.K r H' env σ
  at' : H' D = some o
  rel : NewR g r H' d o
def PostN (g : G) (W : WX) (ρ : Rho) (H : Hp) (env : Env') (σ : L2.St) (Q : VK) : R D → Prop
  | .ok d s' => ∀ r D H' o, New g ρ H env σ d s' r D H' o → Q (.ref D) H'
  | .exc c fs s => ∀ ρ' H' da, Up ρ ρ' H H' → Sto g ρ' s H' → ExcR g.K ρ' H' fs da → W (.ref (g.cls c)) da σ H'
  | .bad => False
def tN (g : G) (W : WX) (f : F) : TE := fun σ H Q => ∃ ρ s env, Sto g ρ s H ∧ Loc' g.K ρ H env σ ∧ PostN g W ρ H env σ Q (f env s)
theorem New.car {g : G} {ρ : Rho} {H : Hp} {env : Env'} {σ : L2.St} {d : D} {s' : Sr} {r : Rho} {D : Addr} {H' : Hp} {o : HO} (n : New g ρ H env σ d s' r D H' o) : Car r ⟨r.c, ρ.x⟩ H' H' :=
  ⟨List.prefix_refl _, fun a o' h q _ => ⟨fun z => q (by
    rcases z with z | z
    · exact .inl z
    · exact .inr (by rw [n.x]; exact List.mem_cons_of_mem _ z)), o', h, .inl rfl⟩⟩
theorem New.stoV {g : G} {ρ : Rho} {H : Hp} {env : Env'} {σ : L2.St} {d : D} {s' : Sr} {r : Rho} {D : Addr} {H' : Hp} {o : HO} (n : New g ρ H env σ d s' r D H' o) : Sto g ⟨r.c, ρ.x⟩ s' H' :=
  ⟨n.sto.len, n.sto.nd, n.sto.tb, fun a m q => n.sto.dis a m (by rw [n.x]; exact List.mem_cons_of_mem _ q), fun a m => n.sto.xin a (by rw [n.x]; exact List.mem_cons_of_mem _ m), fun a m => n.sto.xt a (by rw [n.x]; exact List.mem_cons_of_mem _ m), fun k a e => by
    obtain ⟨c, o', q1, q2, q3⟩ := n.sto.cell k a e
    exact ⟨c, o', q1, q2, q3.car n.car⟩⟩
theorem New.has {g : G} {ρ : Rho} {H : Hp} {env : Env'} {σ : L2.St} {d : D} {s' : Sr} {r : Rho} {D : Addr} {H' : Hp} {o : HO} (n : New g ρ H env σ d s' r D H' o) (hx : ∀ a ∈ ρ.x, H a ≠ .none) : ¬ (⟨r.c, ρ.x⟩ : Rho).has D := fun z => by
  rcases z with z | z
  · exact n.out z
  · exact hx D z n.none'
/-- the new object goes on as data -/
theorem Car.frzN {g : G} {ρ : Rho} {H : Hp} {env : Env'} {σ : L2.St} {d : D} {s' : Sr} {r : Rho} {D : Addr} {H' : Hp} {o o' : HO} (n : New g ρ H env σ d s' r D H' o) : Car r ⟨r.c, ρ.x⟩ H' (upd H' D o') :=
  ⟨List.prefix_refl _, fun a o2 h q d => by
    obtain ⟨q1, o3, e, k⟩ := n.car.keep a o2 h q d
    refine ⟨q1, o3, ?_, k⟩
    rw [upd_ne fun e => q (.inr (by rw [n.x, e]; exact List.mem_cons_self))]
    exact e⟩

/-! freezing -/
theorem _root_.L2.ObjOk.frzd {P : Program} {w : World} {H : Hp} {h : Heap} {a b : Addr} {u x : HO} {o : Obj} (hu : H a = some u) (nt : ∀ xs, u ≠ .tup xs) (no : ∀ c, u ≠ .own c) (ok : ObjOk P w H h b x) : ObjOk P w (upd H a (.frz o u)) h b x := by
  refine ok.stay (fun c v _ q => q) (fun c q => ?_) fun c xs q => ?_
  · by_cases e : c = a
    · subst e; rw [hu] at q; cases q; exact absurd rfl (no _)
    · rw [upd_ne e]; exact q
  · by_cases e : c = a
    · subst e; rw [hu] at q; cases q; exact absurd rfl (nt _)
    · rw [upd_ne e]; exact q
theorem _root_.L2.Inv.freeze {X : Cx} {pins : List (Addr × Obj)} {σ : L2.St} {H : Hp} {s : Shared} {a : Addr} {u : HO} (I : Inv X pins σ H s) (hu : H a = some u) (hd : isDic u = true) : ∃ o, Inv X pins σ (upd H a (.frz o u)) s := by
  have nt : ∀ xs, u ≠ .tup xs := fun xs e => by subst e; cases hd
  have no : ∀ c, u ≠ .own c := fun c e => by subst e; cases hd
  have nf : ∀ o v, u ≠ .frz o v := fun o v e => by subst e; cases hd
  have nb : ∀ ps, u ≠ .tbl ps := fun ps e => by subst e; cases hd
  obtain ⟨o, ho⟩ : ∃ o, s.heap.get? a = some o := by
    have q := I.hok a u hu
    cases u with
    | dK kvs => obtain ⟨_, _, _, _, o, _, _, e, _⟩ := q; exact ⟨o, e⟩
    | dT kvs => obtain ⟨_, _, _, _, o, _, _, e, _⟩ := q; exact ⟨o, e⟩
    | _ => cases hd
  have keep : ∀ {b x}, H b = some x → b ≠ a → (upd H a (.frz o u)) b = some x := fun {b x} q e => by rw [upd_ne e]; exact q
  have none' : ∀ {b}, H b = none → (upd H a (.frz o u)) b = none := fun {b} q => by
    rw [upd_ne fun e => by rw [e, hu] at q; cases q]; exact q
  have t1 : ∀ b xs, H b = some (.tup xs) → (upd H a (.frz o u)) b = some (.tup xs) := fun b xs q => keep q fun e => by
    rw [e, hu] at q; cases q; exact absurd rfl (nt _)
  have t2 : ∀ b ob v, H b = some (.frz ob v) → (upd H a (.frz o u)) b = some (.frz ob v) := fun b ob v q => keep q fun e => by
    rw [e, hu] at q; cases q; exact absurd rfl (nf _ _)
  have t3 : ∀ b ps, H b = some (.tbl ps) → (upd H a (.frz o u)) b = some (.tbl ps) := fun b ps q => keep q fun e => by
    rw [e, hu] at q; cases q; exact absurd rfl (nb _)
  refine ⟨o, ⟨I.ok, I.os, I.bare, ⟨I.base.keep, I.base.slot, fun b x q n hx => none' (I.base.free b x q n hx), I.base.there, fun b xs q => t1 _ _ (I.base.tups b xs q), fun b ob v q => t2 _ _ _ (I.base.frzs b ob v q), fun b ps q => ?_⟩, I.loc, I.cell, none' I.free, fun x c q => none' (I.freeC x c q), fun p hp => ?_, fun b x q => ?_, I.len⟩⟩
  · obtain ⟨m, e⟩ := I.base.tbls b ps q
    exact ⟨m, t3 _ _ e⟩
  · obtain ⟨e, n, r⟩ := I.pin p hp
    exact ⟨e, none' n, r⟩
  · by_cases e : b = a
    · subst e
      rw [upd_same] at q
      cases q
      exact ⟨ho, (I.hok b u hu).frzd hu nt no⟩
    · rw [upd_ne e] at q
      exact (I.hok b x q).frzd hu nt no
/-- what is wanted behind a freezing -/
def FrzQ (Q : VK) : VK := fun v H' => match v with
  | .ref a => (match H' a with
    | some (.dK l) => ∀ o, Q (.ref a) (upd H' a (.frz o (.dK l)))
    | some (.dT l) => ∀ o, Q (.ref a) (upd H' a (.frz o (.dT l)))
    | _ => Q v H')
  | _ => Q v H'
theorem _root_.L2.EP.frz {X : Cx} {pins : List (Addr × Obj)} {σ : L2.St} {Q : VK} {u : Value} {s' : Shared} (h : EP X pins σ (FrzQ Q) u s') : EP X pins σ Q u s' := by
  obtain ⟨v, H', I, r, q⟩ := h
  unfold FrzQ at q
  split at q
  · rename_i a
    split at q
    · rename_i l e
      obtain ⟨o, I'⟩ := I.freeze e rfl
      exact ⟨_, _, I', r, q o⟩
    · rename_i l e
      obtain ⟨o, I'⟩ := I.freeze e rfl
      exact ⟨_, _, I', r, q o⟩
    · exact ⟨_, _, I, r, q⟩
  · exact ⟨_, _, I, r, q⟩
theorem _root_.L2.PE.frz {X : Cx} {e : Expr} {t : TE} (h : PE X e t) : PE X e (fun σ H Q => t σ H (FrzQ Q)) := ⟨fun pins s σ H Q I q => thn (h.run pins s σ H (FrzQ Q) I q) fun _ _ z => z.frz⟩

section
variable {X : Cx} {g : G} {W : WX} {pos : Pos}
/-- new, as data -/
theorem l_new {e : Expr} {f : F} (h : PE X e (tN g W f)) : PE X e (tI g W f) := h.frz.imp fun σ H Q ⟨ρ, s, env, hs, hl, hp⟩ => ⟨ρ, s, env, hs, hl, by
  cases e : f env s with
  | exc c fs s' => rw [e] at hp; exact hp
  | bad => rw [e] at hp; exact hp
  | ok d s' =>
    rw [e] at hp
    intro r D H' o n
    have nh := n.has hs.xin
    show FrzQ Q (.ref D) H'
    have up : ∀ o', Up ρ ⟨r.c, ρ.x⟩ H (upd H' D o') := fun o' => ⟨n.up.pre, rfl, n.up.new, fun a o2 q1 q2 => by
      obtain ⟨o3, q3, k⟩ := n.up.keep a o2 q1 q2
      exact ⟨o3, by rw [upd_ne (ne_of_none q1 n.none')]; exact q3, k⟩, fun a q => by
        by_cases e : a = D
        · rw [e]; exact n.none'
        · rw [upd_ne e] at q; exact n.up.live a q, fun a m _ => by
        rw [upd_ne fun (e : a = D) => hs.xin a m (by rw [e]; exact n.none')]
        exact n.up.hid a m id⟩
    have st : ∀ o', Sto g ⟨r.c, ρ.x⟩ s' (upd H' D o') := fun o' => ⟨n.sto.len, n.sto.nd, n.sto.tb, n.stoV.dis, fun a m q => n.stoV.xin a m (by
        by_cases e : a = D
        · exact absurd (show D ∈ ρ.x from e ▸ m) fun z => nh (.inr z)
        · rwa [upd_ne e] at q), fun a m xs => by
        rw [upd_ne fun (e : a = D) => nh (.inr (show D ∈ ρ.x from e ▸ m))]
        exact n.stoV.xt a m xs, fun k a e => by
      obtain ⟨c, o2, q1, q2, q3⟩ := n.sto.cell k a e
      exact ⟨c, o2, q1, by rw [upd_ne fun (z : a = D) => n.out (z ▸ List.mem_of_getElem? e)]; exact q2, q3.car (Car.frzN n)⟩⟩
    unfold FrzQ
    rcases n.rel.isDic with ⟨l, xs, rfl, rfl, q⟩ | ⟨l, xs, rfl, rfl, q⟩ | ⟨l, xs, rfl, rfl, q⟩
    · simp only [n.at']
      exact hp _ H' _ n.up n.stoV (.lst ⟨nh, n.at'⟩ (q.car n.car))
    · simp only [n.at']
      exact fun o => hp _ _ _ (up _) (st _) (.dk nh upd_same (q.car (Car.frzN n)))
    · simp only [n.at']
      exact fun o => hp _ _ _ (up _) (st _) (.dt nh upd_same (q.car (Car.frzN n)))⟩
/-- a fresh place -/
theorem New.fresh {ρ : Rho} {H : Hp} {s : Sr} {env : Env'} {σ : L2.St} {d : D} {p : Addr} {o : HO} (hs : Sto g ρ s H) (hl : Loc' g.K ρ H env σ) (hp : H p = .none) (r : NewR g ρ H d o) : New g ρ H env σ d s (ρ.hide p) p (upd H p o) o :=
  have nt : ∀ xs, o ≠ .tup xs := fun xs e => by rcases r.isDic with ⟨_, _, _, q, _⟩ | ⟨_, _, _, q, _⟩ | ⟨_, _, _, q, _⟩ <;> (rw [q] at e; cases e)
  ⟨rfl, (hs.hide (o := o) hp nt).2, Up.new1 hs hp, hp, (hs.hide hp nt).1, hl.car (Car.hide hp), upd_same, r.car (Car.hide hp)⟩
theorem PostN.up {ρ ρ1 : Rho} {H H1 : Hp} {env : Env'} {σ : L2.St} {Q : VK} {r : R D} (u : Up ρ ρ1 H H1) (p : PostN g W ρ H env σ Q r) : PostN g W ρ1 H1 env σ Q r := by
  cases r with
  | bad => exact p
  | exc c fs s => exact fun ρ2 H2 v u2 => p ρ2 H2 v (u.trans u2)
  | ok d s =>
    intro r D H' o n
    exact p r D H' o ⟨by rw [n.x, u.ex], n.out, by
      have q := u.trans n.up
      rw [u.ex] at q
      exact q, u.live D n.none', n.sto, n.loc, n.at', n.rel⟩
theorem PostN.bind {γ δ : Type} {Rel' : Rho → Hp → γ → δ → Prop} {ρ : Rho} {H : Hp} {env : Env'} {σ : L2.St} {Q : VK} {r : R γ} {f : γ → Sr → R D}
    (p : PostN g W ρ H env σ Q (r.bind f)) : Post g Rel' ρ H (fun c d H' => W c d σ H') (fun v H1 => ∃ ρ1 s1 a, Up ρ ρ1 H H1 ∧ Sto g ρ1 s1 H1 ∧ Rel' ρ1 H1 a v ∧ PostN g W ρ1 H1 env σ Q (f a s1)) r := by
  cases r with
  | ok a s => exact fun ρ' H' v u hs hr => ⟨ρ', s, a, u, hs, hr, PostN.up u p⟩
  | exc c fs s => exact p
  | bad => exact p
theorem n_lst {es : List Expr} {f : FA} (h : PA X es (tA g W f)) : PE X (.List es pos) (tN g W (eLst f)) :=
  (pe_lst h).imp fun σ H Q ⟨ρ, s, env, hs, hl, hp⟩ => ⟨ρ, s, env, hs, hl, (PostN.bind (Rel' := RVs g) hp).imp fun xs H1 ⟨ρ1, s1, ds, u1, hs1, rd, p1⟩ => by
    split at p1
    · rename_i hz
      exact ⟨by rw [← rd.len]; exact hz, fun p np => p1 _ p _ _ (New.fresh hs1 (hl.up u1) np ⟨_, rfl, .lst rd⟩)⟩
    · exact p1.elim⟩
theorem n_dk : PE X (.Dict [] [] pos) (tN g W (eC (.dk []))) := pe_dnewK.imp fun σ H Q ⟨ρ, s, env, hs, hl, hp⟩ p np => hp _ p _ _ (New.fresh hs hl np ⟨_, rfl, .dk .nil⟩)
theorem n_dt : PE X (.Dict [] [] pos) (tN g W (eC (.dt []))) := pe_dnewT.imp fun σ H Q ⟨ρ, s, env, hs, hl, hp⟩ p np => hp _ p _ _ (New.fresh hs hl np ⟨_, rfl, .dt .nil⟩)
/-- x = a new object, a cell of the store -/
def sNew (i : Nat) (f : F) : FS := fun env s => (f env s).bind fun d s => match toCell d with | some c => .ok (.nx (env.set i (some (.ref s.length)))) (s ++ [c]) | none => .bad
theorem put_tb {tb : Str → Addr} {d : D} {c : Cell} {l : List Addr} {s : Sr} {D : Addr} (hl : l.length = s.length) (h : ∀ (n : Nat) a q, l[n]? = some a → s[n]? = some (.tab q) → a = tb q) (e : toCell d = some c) : ∀ (n : Nat) a q, (l ++ [D])[n]? = some a → (s ++ [c])[n]? = some (.tab q) → a = tb q := by
  intro n a q e1 e2
  by_cases hn : n < s.length
  · rw [List.getElem?_append_left hn] at e2
    rw [List.getElem?_append_left (by rw [hl]; exact hn)] at e1
    exact h n a q e1 e2
  · rw [List.getElem?_append_right (Nat.le_of_not_lt hn)] at e2
    have hc : c = .tab q := by
      cases k : n - s.length with
      | zero => rw [k] at e2; simpa using e2
      | succ j => rw [k] at e2; simp at e2
    subst hc
    unfold toCell at e
    cases d <;> cases e
theorem New.put {ρ : Rho} {H : Hp} {env : Env'} {σ : L2.St} {d : D} {s' : Sr} {r : Rho} {D : Addr} {H' : Hp} {o : HO} {c : Cell} (hx : ∀ a ∈ ρ.x, H a ≠ .none) (n : New g ρ H env σ d s' r D H' o) (e : toCell d = some c) :
    ∃ ρ', Up ρ ρ' H H' ∧ Sto g ρ' (s' ++ [c]) H' ∧ Loc' g.K ρ' H' env σ ∧ RelD g.K ρ' H' (.ref s'.length) (.ref D) := by
  obtain ⟨c', e', rc⟩ := n.rel
  rw [e] at e'; cases e'
  have cr : Car r ⟨r.c ++ [D], ρ.x⟩ H' H' := ⟨List.prefix_append _ _, fun a o' h q _ => ⟨fun z => q (by
    rcases z with z | z
    · rcases List.mem_append.mp z with z | z
      · exact .inl z
      · exact .inr (by rw [n.x, List.mem_singleton.mp z]; exact List.mem_cons_self)
    · exact .inr (by rw [n.x]; exact List.mem_cons_of_mem _ z)), o', h, .inl rfl⟩⟩
  have gD : (r.c ++ [D])[s'.length]? = some D := by rw [← n.sto.len, List.getElem?_append_right (Nat.le_refl _), Nat.sub_self]; rfl
  refine ⟨⟨r.c ++ [D], ρ.x⟩, ⟨n.up.pre.trans (List.prefix_append _ _), rfl, fun a m q => ?_, n.up.keep, n.up.live, n.up.hid⟩, ⟨?_, ?_, put_tb n.sto.len n.sto.tb e, fun a m q => ?_, fun a m => n.stoV.xin a m, fun a m => n.stoV.xt a m, fun k a e => ?_⟩, n.loc.car cr, .ref gD⟩
  · rcases List.mem_append.mp m with m | m
    · exact n.up.new a m q
    · rw [List.mem_singleton.mp m]; exact n.none'
  · show (r.c ++ [D]).length = (s' ++ [c]).length
    rw [List.length_append, List.length_append, n.sto.len]; rfl
  · exact List.nodup_append.mpr ⟨n.sto.nd, by simp, fun a h b hb z => n.out (by rw [← List.mem_singleton.mp hb, ← z]; exact h)⟩
  · rcases List.mem_append.mp m with m | m
    · exact n.stoV.dis a m q
    · rw [List.mem_singleton.mp m] at q; exact hx D q n.none'
  · have e : (r.c ++ [D])[k]? = some a := e
    by_cases hk : k < r.c.length
    · rw [List.getElem?_append_left hk] at e
      obtain ⟨c2, o', q1, q2, q3⟩ := n.sto.cell k a e
      exact ⟨c2, o', by rw [List.getElem?_append_left (by rw [← n.sto.len]; exact hk)]; exact q1, q2, q3.car cr⟩
    · have hk2 : k = r.c.length := by
        have := (List.getElem?_eq_some_iff.mp e).1
        rw [List.length_append, List.length_singleton] at this
        omega
      subst hk2
      rw [List.getElem?_append_right (Nat.le_refl _), Nat.sub_self] at e
      cases e
      exact ⟨c, o, by rw [n.sto.len, List.getElem?_append_right (Nat.le_refl _), Nat.sub_self]; rfl, n.at', rc.car cr⟩
theorem sNew_serve {i : Nat} {f : F} {E : Ends} {σ : L2.St} {H : Hp} (h : sI g W (sNew i f) E σ H) : tN g W f σ H fun x H1 => gName i x σ H1 E.nx := by
  obtain ⟨ρ, s, env, hs, hl, hp⟩ := h
  refine ⟨ρ, s, env, hs, hl, ?_⟩
  unfold sNew at hp
  cases e : f env s with
  | exc c fs s' => rw [e] at hp; exact hp σ
  | bad => rw [e] at hp; exact hp
  | ok d s' =>
    rw [e] at hp
    intro r D H' o n
    obtain ⟨c, ec, rc⟩ := id n.rel
    have hp : PostS g W ρ H E (match toCell d with | some c => .ok (.nx (env.set i (some (.ref s'.length)))) (s' ++ [c]) | none => .bad) := hp
    rw [ec] at hp
    obtain ⟨ρ', u, hs', hl', rd⟩ := n.put hs.xin ec
    exact hp ρ' H' _ u hs' (hl'.set i rd)
theorem l_setNew {i : Nat} {tg e : Expr} {f : F} (he : PE X e (tN g W f)) (hg : PG X tg (gName i)) (hs : swapsWithSole [tg] e pos.line X.env = pure false) (hw : swappedStores [tg] e X.env = pure none) (h1 : (assignEach [tg] X.env).map (·.2) = [assign tg X.env]) : PS X (.Assign [tg] e pos) (sI g W (sNew i f)) :=
  (ps_asg he hg hs hw h1).imp fun E σ H h => sNew_serve h
end
end L3

/-! L3G: comprehensions -/
namespace L3
open PySem PySem.Spec PyProof.Rows L2
section
variable {X : Cx} {g : G} {W : WX} {pos : Pos}
theorem lc_serve {fi : FI} {t : Tg} {ft : FB} {fe : F} {vs : List Nat} {σ : L2.St} {H : Hp} {Q : VK} (tw : t.within vs = true) (h : tN g W (eLc fi vs t ft fe) σ H Q) : tLc (iI g W fi) (tgI g.K t) (tT g W0 ft) (tI g W0 fe) vs σ H Q := by
  obtain ⟨ρ, s, env, hs, hl, hp⟩ := h
  refine ⟨ρ, s, env, hs, hl, (PostN.bind (Rel' := RI g) hp).imp fun J H1 ⟨ρ1, s1, c, u1, hs1, ⟨Hd, sv, hd⟩, p1⟩ D hD => ?_⟩
  obtain ⟨hs0, nD⟩ := hs1.hide (o := .lst []) hD (fun _ e => by cases e)
  have hl1 := hl.up u1
  refine ⟨fun i m H => i ≤ c.items.length ∧ m = c.items.length - i ∧ ∃ r s acc xs, UpB (· = D) (ρ1.hide D) r (upd H1 D (.lst [])) H ∧ Sto g r s H ∧ Loc' g.K r H env σ ∧ Hd r H ∧ H D = some (.lst xs) ∧ RelDs g.K r H acc xs ∧ acc.length ≤ sizeLine ∧
    PostN g W ρ1 H1 env σ Q ((lcL c.ok vs t ft fe (c.items.drop i) acc env s).bind fun ds s => .ok (.lst ds) s),
    ⟨_, Nat.zero_le _, rfl, ρ1.hide D, s1, [], [], .refl, hs0, hl1.car (Car.hide hD), ?_, upd_same, .nil, Nat.zero_le _, p1⟩, ?_⟩
  · exact sv.mono hd (Car.hide hD)
  · rintro i m H ⟨hi, rfl, r, s, acc, xs, u, hs, hl, hd, hDx, ra, hz, hp⟩
    have hDr : D ∈ r.x := by rw [u.ex]; exact List.mem_cons_self
    by_cases hlt : i < c.items.length
    · refine .inr ?_
      rw [List.drop_eq_getElem_cons hlt] at hp
      unfold lcL at hp
      cases ck : c.ok s with
      | false => rw [ck] at hp; exact hp.elim
      | true =>
        rw [ck, if_pos rfl] at hp
        obtain ⟨hgo, hy⟩ := sv.go hlt hs ck hd
        refine ⟨hgo, fun H' => ∃ r s acc xs, UpB (· = D) (ρ1.hide D) r (upd H1 D (.lst [])) H' ∧ Sto g r s H' ∧ Loc' g.K r H' env σ ∧ Hd r H' ∧ H' D = some (.lst xs) ∧ RelDs g.K r H' acc xs ∧ acc.length ≤ sizeLine ∧
          PostN g W ρ1 H1 env σ Q ((lcL c.ok vs t ft fe (c.items.drop (i + 1)) acc env s).bind fun ds s => .ok (.lst ds) s),
          fun H' h => ⟨c.items.length - (i + 1), by omega, hlt, rfl, h⟩, fun x H' y => ?_⟩
        obtain ⟨u2, hs2, rx⟩ := hy x H' y
        cases e : t.put c.items[i] (wipeE env vs) with
        | none => rw [e] at hp; exact hp.elim
        | some env2 =>
          rw [e] at hp
          refine ⟨r, _, wipeE env vs, env2, rx, (hl.up u2).wipe vs, e, fun σ2 hl2 hw => ⟨?_, ?_⟩⟩
          · rw [hw vs tw]
            have aux : ∀ us : List Nat, wipe (wipe σ us) us = wipe σ us := by
              intro us
              have key : ∀ (ws : List Nat) (τ : L2.St), (∀ i ∈ ws, τ[i]? = some none ∨ τ[i]? = none) → wipe τ ws = τ := by
                intro ws
                induction ws with
                | nil => intro τ _; rfl
                | cons w ws ih =>
                  intro τ h
                  show (wipe τ ws).set w none = τ
                  rw [ih τ fun i hi => h i (List.mem_cons_of_mem _ hi)]
                  rcases h w List.mem_cons_self with q | q
                  · obtain ⟨hw, q⟩ := List.getElem?_eq_some_iff.mp q
                    rw [← q]; exact List.set_getElem_self hw
                  · rw [List.set_eq_of_length_le (List.getElem?_eq_none_iff.mp q)]
              refine key us _ fun i hi => ?_
              cases q : (wipe σ us)[i]? with
              | none => exact .inr rfl
              | some z => cases z with
                | none => exact .inl rfl
                | some v => exact absurd hi (wipe_some q).2
            exact aux vs
          · have hp : PostN g W ρ1 H1 env σ Q (((ft env2 s).nox.bind fun b s => if b then (fe env2 s).nox.bind fun y s => if acc.length < sizeLine then lcL c.ok vs t ft fe (c.items.drop (i + 1)) (acc ++ [y]) env s else .bad
                else lcL c.ok vs t ft fe (c.items.drop (i + 1)) acc env s).bind fun ds s => .ok (.lst ds) s) := hp
            refine ⟨r, s, env2, hs2, hl2, ?_⟩
            cases eb : ft env2 s with
            | exc _ _ _ => rw [eb] at hp; exact hp.elim
            | bad => rw [eb] at hp; exact hp.elim
            | ok b s3 =>
              rw [eb] at hp
              intro r3 H3 b' u3 hs3 hb
              obtain rfl : b = b' := hb
              cases b with
              | false => exact (if_neg Bool.false_ne_true).mpr ⟨r3, s3, acc, xs, u.trans (u2.trans u3).of, hs3, hl.up (u2.trans u3), sv.mono hd (u2.trans u3).car, ((u2.trans u3).hid D hDr id).trans hDx, ra.up (u2.trans u3), hz, hp⟩
              | true =>
                refine (if_pos rfl).mpr ⟨r3, s3, env2, hs3, hl2.up u3, ?_⟩
                have hp : PostN g W ρ1 H1 env σ Q (((fe env2 s3).nox.bind fun y s => if acc.length < sizeLine then lcL c.ok vs t ft fe (c.items.drop (i + 1)) (acc ++ [y]) env s else .bad).bind fun ds s => .ok (.lst ds) s) := hp
                cases ee : fe env2 s3 with
                | exc _ _ _ => rw [ee] at hp; exact hp.elim
                | bad => rw [ee] at hp; exact hp.elim
                | ok yd s4 =>
                  rw [ee] at hp
                  intro r4 H4 yv u4 hs4 ry
                  have hp : PostN g W ρ1 H1 env σ Q ((if acc.length < sizeLine then lcL c.ok vs t ft fe (c.items.drop (i + 1)) (acc ++ [yd]) env s4 else .bad).bind fun ds s => .ok (.lst ds) s) := hp
                  have U := u2.trans (u3.trans u4)
                  by_cases hzl : acc.length < sizeLine
                  · rw [if_pos hzl] at hp
                    have hDx4 : H4 D = some (.lst xs) := (U.hid D hDr id).trans hDx
                    have hDr4 : D ∈ r4.x := by rw [U.ex]; exact hDr
                    have uh : UpB (· = D) r4 r4 H4 (upd H4 D (.lst (xs ++ [yv]))) := UpB.hide hDr4
                    refine ⟨xs, hDx4, by rw [← ra.len]; exact hzl, r4, s4, acc ++ [yd], xs ++ [yv], (u.trans U.of).trans uh, ?_, (hl.up U).up uh, sv.mono hd (U.of.trans uh).car, upd_same, ((ra.up U).snoc ry).up uh, by rw [List.length_append]; exact hzl, hp⟩
                    refine hs4.up rfl uh (fun a m => upd_ne fun e => hid_out nD (u.trans U.of) (e ▸ m)) fun a m ys => ?_
                    by_cases e : a = D
                    · rw [e, upd_same]; exact fun z => by cases z
                    · rw [upd_ne e]; exact hs4.xt a m ys
                  · rw [if_neg hzl] at hp; exact hp.elim
    · have e : i = c.items.length := by omega
      subst e
      rw [List.drop_length] at hp
      unfold lcL at hp
      cases ck : c.ok s with
      | false => rw [ck] at hp; exact hp.elim
      | true =>
        rw [ck, if_pos rfl] at hp
        exact .inl ⟨sv.stop hs ck hd, hp r D H _ ⟨u.ex, hid_out nD u, UpB.unhide hD hs1.xin u, hD, hs, hl, hDx, _, rfl, .lst ra⟩⟩
/-- a function that gives lists alone: as data it may be asked for as new -/
theorem tN_of {f : F} {σ : L2.St} {H : Hp} {Q : VK} (lo : ∀ env s d s', f env s = .ok d s' → ∃ l, d = .lst l) (h : tI g W f σ H Q) : tN g W f σ H Q := by
  obtain ⟨ρ, s, env, hs, hl, hp⟩ := h
  refine ⟨ρ, s, env, hs, hl, ?_⟩
  cases e : f env s with
  | exc c fs s' => rw [e] at hp; exact hp
  | bad => rw [e] at hp; exact hp
  | ok d s' =>
    rw [e] at hp
    intro r D H' o n
    obtain ⟨l, rfl⟩ := lo _ _ _ _ e
    rcases n.rel.isDic with ⟨l', xs, e1, rfl, q⟩ | ⟨l', xs, e1, _, q⟩ | ⟨l', xs, e1, _, q⟩
    · cases e1
      exact hp _ H' _ n.up n.stoV (.lst ⟨n.has hs.xin, n.at'⟩ (q.car n.car))
    · cases e1
    · cases e1
theorem eLc_lst {fi : FI} {t : Tg} {ft : FB} {fe : F} {vs : List Nat} : ∀ env s d s', eLc fi vs t ft fe env s = .ok d s' → ∃ l, d = .lst l := by
  intro env s d s' e
  unfold eLc at e
  cases e1 : fi env s with
  | exc c fs s' => rw [e1] at e; cases e
  | bad => rw [e1] at e; cases e
  | ok c s1 =>
    rw [e1] at e
    have e : ((lcL c.ok vs t ft fe c.items [] env s1).bind fun ds s => .ok (.lst ds) s) = .ok d s' := e
    cases e2 : lcL c.ok vs t ft fe c.items [] env s1 with
    | exc c fs s' => rw [e2] at e; cases e
    | bad => rw [e2] at e; cases e
    | ok l s2 => rw [e2] at e; cases e; exact ⟨l, rfl⟩
/-- what a comprehension's parts must serve -/
structure LcOk (X : Cx) (g : G) (scope : Scope) (own : List (Str × Nat)) (tg iter : Expr) (ifs : List Expr) (W : WX) (fi : FI) (t : Tg) (ft : FB) : Prop where
  hc : X.calm = true
  hN : X.N.Nodup
  hi : PI X tg iter (iI g W fi)
  ok : BlkOk X.N X.env.scope scope own
  hg : ∀ (s : Shared) (H : Hp) (C : Addr) (cl : List (Str × Addr)) (fp : List Addr), PG (X.blk s H scope (compEnvC scope cl C X.env) fp) tg (tgI g.K t)
  ht : ∀ (s : Shared) (H : Hp) (C : Addr) (cl : List (Str × Addr)) (fp : List Addr), PTs (X.blk s H scope (compEnvC scope cl C X.env) fp) ifs (tT g W0 ft)
  hs : ∀ x, foldedSetIterable iter X.env x = pure x
  tw : t.within (own.map (·.2)) = true
theorem n_lc {elt tg iter : Expr} {ifs : List Expr} {scope : Scope} {own : List (Str × Nat)} {fi : FI} {t : Tg} {ft : FB} {fe : F} (k : LcOk X g scope own tg iter ifs W fi t ft)
    (he : ∀ (s : Shared) (H : Hp) (C : Addr) (cl : List (Str × Addr)) (fp : List Addr), PE (X.blk s H scope (compEnvC scope cl C X.env) fp) elt (tI g W0 fe)) : PE X (.ListComp elt [⟨tg, iter, ifs, 0⟩] scope pos) (tN g W (eLc fi (own.map (·.2)) t ft fe)) :=
  (pe_lc k.hc k.hN k.hi k.ok k.hg k.ht he k.hs).imp fun σ H Q h => lc_serve k.tw h
theorem l_lc {elt tg iter : Expr} {ifs : List Expr} {scope : Scope} {own : List (Str × Nat)} {fi : FI} {t : Tg} {ft : FB} {fe : F} (k : LcOk X g scope own tg iter ifs W fi t ft)
    (he : ∀ (s : Shared) (H : Hp) (C : Addr) (cl : List (Str × Addr)) (fp : List Addr), PE (X.blk s H scope (compEnvC scope cl C X.env) fp) elt (tI g W0 fe)) : PE X (.ListComp elt [⟨tg, iter, ifs, 0⟩] scope pos) (tI g W (eLc fi (own.map (·.2)) t ft fe)) := l_new (n_lc k he)
/-- x = [..] on one line -/
theorem l_setLc {i : Nat} {y : Str} {py spos : Pos} {elt tg iter : Expr} {ifs : List Expr} {scope : Scope} {own : List (Str × Nat)} {fi : FI} {t : Tg} {ft : FB} {fe : F} (k : LcOk X g scope own tg iter ifs W fi t ft) (hy : X.N[i]? = some y) (hyl : X.env.scope.names.lookup y = some .local)
    (he : ∀ (s : Shared) (H : Hp) (C : Addr) (cl : List (Str × Addr)) (fp : List Addr), PE (X.blk s H scope (compEnvC scope cl C X.env) fp) elt (tI g W0 fe)) (hsw : swapsWith (.ListComp elt [⟨tg, iter, ifs, 0⟩] scope pos) (some (.Name y py)) spos.line X.env = pure true) :
    PS X (.Assign [.Name y py] (.ListComp elt [⟨tg, iter, ifs, 0⟩] scope pos) spos) (sI g W (sAsg (.name i) (eLc fi (own.map (·.2)) t ft fe))) :=
  (ps_setLc k.hc k.hN hy hyl hsw k.hi k.ok k.hg k.ht he k.hs).imp fun E σ H ⟨ρ, s, env, hs, hl, hp⟩ => lc_serve k.tw (tN_of eLc_lst ⟨ρ, s, env, hs, hl, (PostS.bind (Rel' := RV g) hp).imp fun v H1 ⟨ρ1, s1, a, u, hs1, r, p⟩ => by
    unfold Tg.put at p
    exact p ρ1 H1 _ .refl hs1 ((hl.up u).set i r)⟩)
theorem l_setLcN {i : Nat} {y : Str} {py spos : Pos} {elt tg iter : Expr} {ifs : List Expr} {scope : Scope} {own : List (Str × Nat)} {fi : FI} {t : Tg} {ft : FB} {fe : F} (k : LcOk X g scope own tg iter ifs W fi t ft) (hy : X.N[i]? = some y) (hyl : X.env.scope.names.lookup y = some .local)
    (he : ∀ (s : Shared) (H : Hp) (C : Addr) (cl : List (Str × Addr)) (fp : List Addr), PE (X.blk s H scope (compEnvC scope cl C X.env) fp) elt (tI g W0 fe)) (hsw : swapsWith (.ListComp elt [⟨tg, iter, ifs, 0⟩] scope pos) (some (.Name y py)) spos.line X.env = pure true) :
    PS X (.Assign [.Name y py] (.ListComp elt [⟨tg, iter, ifs, 0⟩] scope pos) spos) (sI g W (sNew i (eLc fi (own.map (·.2)) t ft fe))) :=
  (ps_setLc k.hc k.hN hy hyl hsw k.hi k.ok k.hg k.ht he k.hs).imp fun E σ H h => lc_serve k.tw (sNew_serve h)
end
end L3

/-! L3H: defs -/
namespace L3
open PySem PySem.Spec PyProof.Rows L2

/-! ### data that tells of no store cell from n on -/
mutual
def D.cl (n : Nat) : D → Bool
  | .tup l => D.cls n l
  | .lst l => D.cls n l
  | .ktp l => D.cls n l
  | .lck l => D.cls n l
  | .dk l => D.clk n l
  | .dt l => D.clt n l
  | .ref k => decide (k < n)
  | _ => true
def D.cls (n : Nat) : List D → Bool
  | [] => true
  | d :: ds => D.cl n d && D.cls n ds
def D.clk (n : Nat) : List (Key × D) → Bool
  | [] => true
  | (_, d) :: ds => D.cl n d && D.clk n ds
def D.clt (n : Nat) : List (List Key × D) → Bool
  | [] => true
  | (_, d) :: ds => D.cl n d && D.clt n ds
end
def clf (n : Nat) : List (Str × D) → Bool
  | [] => true
  | (_, d) :: ds => D.cl n d && clf n ds
def Cell.cl (n : Nat) : Cell → Bool
  | .lst l => D.cls n l
  | .dk l => D.clk n l
  | .dt l => D.clt n l
  | .ins _ fs => clf n fs
  | .tab _ => true
def closedS (n : Nat) (s : Sr) : Bool := s.all (Cell.cl n)
/-- back to fewer cells -/
structure Back (n : Nat) (ρ ρ' : Rho) (H H' : Hp) : Prop where
  get : ∀ k a, k < n → ρ.c[k]? = some a → ρ'.c[k]? = some a
  keep : ∀ a o, H a = some o → ¬ ρ.has a → ¬ ρ'.has a ∧ ∃ o', H' a = some o' ∧ Kept o o'
theorem Back.rd {n : Nat} {ρ ρ' : Rho} {H H' : Hp} (u : Back n ρ ρ' H H') {a : Addr} {o : HO} (h : Rd H a o) (q : ¬ ρ.has a) (t : ∀ ps, o ≠ .tbl ps) : ¬ ρ'.has a ∧ Rd H' a o := by
  rcases h with h | ⟨o', h⟩
  · obtain ⟨q1, o2, e, k⟩ := u.keep a _ h q
    exact ⟨q1, .inl (by rw [e, k.eq t])⟩
  · obtain ⟨q1, o2, e, k⟩ := u.keep a _ h q
    exact ⟨q1, .inr ⟨o', by rw [e, k.eq (fun ps e => by cases e)]⟩⟩
theorem Back.at {n : Nat} {ρ ρ' : Rho} {H H' : Hp} (u : Back n ρ ρ' H H') {a : Addr} {o : HO} (h : H a = some o) (q : ¬ ρ.has a) (t : ∀ ps, o ≠ .tbl ps) : ¬ ρ'.has a ∧ H' a = some o := by
  obtain ⟨q1, o2, e, k⟩ := u.keep a _ h q
  exact ⟨q1, by rw [e, k.eq t]⟩
theorem Back.frz {n : Nat} {ρ ρ' : Rho} {H H' : Hp} (u : Back n ρ ρ' H H') {a : Addr} {o : Obj} {x : HO} (h : H a = some (.frz o x)) (q : ¬ ρ.has a) : ¬ ρ'.has a ∧ H' a = some (.frz o x) := by
  obtain ⟨q1, o2, e, k⟩ := u.keep a _ h q
  exact ⟨q1, by rw [e, k.eq (fun ps e => by cases e)]⟩
section
variable {K : PySem.W.Frag} {ρ ρ' : Rho} {H H' : Hp} {n : Nat}
mutual
theorem RelD.back (u : Back n ρ ρ' H H') : ∀ {d : D} {v : V}, D.cl n d = true → RelD K ρ H d v → RelD K ρ' H' d v
  | _, _, _, .non => .non
  | _, _, _, .bl b => .bl b
  | _, _, _, .int i => .int i
  | _, _, _, .str x => .str x
  | _, _, c, .tup h r => .tup (u.at h.2 h.1 (fun ps e => by cases e)) (RelDs.back u (by unfold D.cl at c; exact c) r)
  | _, _, c, .ktp h r => .ktp h (RelDs.back u (by unfold D.cl at c; exact c) r)
  | _, _, c, .lst h r => .lst (u.at h.2 h.1 (fun ps e => by cases e)) (RelDs.back u (by unfold D.cl at c; exact c) r)
  | _, _, c, .lck q h r => .lck (u.frz h q).1 (u.frz h q).2 (RelDs.back u (by unfold D.cl at c; exact c) r)
  | _, _, c, .lkk h r => .lkk h (RelDs.back u (by unfold D.cl at c; exact c) r)
  | _, _, c, .dk q h r => .dk (u.frz h q).1 (u.frz h q).2 (RelK.back u (by unfold D.cl at c; exact c) r)
  | _, _, c, .dt q h r => .dt (u.frz h q).1 (u.frz h q).2 (RelT.back u (by unfold D.cl at c; exact c) r)
  | _, _, c, .ref h => .ref (u.get _ _ (by unfold D.cl at c; exact of_decide_eq_true c) h)
theorem RelDs.back (u : Back n ρ ρ' H H') : ∀ {d : List D} {v : List V}, D.cls n d = true → RelDs K ρ H d v → RelDs K ρ' H' d v
  | _, _, _, .nil => .nil
  | _, _, c, .cons h r => .cons (RelD.back u (by unfold D.cls at c; exact (Bool.and_eq_true_iff.mp c).1) h) (RelDs.back u (by unfold D.cls at c; exact (Bool.and_eq_true_iff.mp c).2) r)
theorem RelK.back (u : Back n ρ ρ' H H') : ∀ {d : List (Key × D)} {v : List (Key × V)}, D.clk n d = true → RelK K ρ H d v → RelK K ρ' H' d v
  | _, _, _, .nil => .nil
  | _, _, c, .cons h r => .cons (RelD.back u (by unfold D.clk at c; exact (Bool.and_eq_true_iff.mp c).1) h) (RelK.back u (by unfold D.clk at c; exact (Bool.and_eq_true_iff.mp c).2) r)
theorem RelT.back (u : Back n ρ ρ' H H') : ∀ {d : List (List Key × D)} {v : List (List Key × V)}, D.clt n d = true → RelT K ρ H d v → RelT K ρ' H' d v
  | _, _, _, .nil => .nil
  | _, _, c, .cons h r => .cons (RelD.back u (by unfold D.clt at c; exact (Bool.and_eq_true_iff.mp c).1) h) (RelT.back u (by unfold D.clt at c; exact (Bool.and_eq_true_iff.mp c).2) r)
end
theorem RelF.back (u : Back n ρ ρ' H H') : ∀ {d : List (Str × D)} {v : List (Str × V)}, clf n d = true → RelF K ρ H d v → RelF K ρ' H' d v
  | _, _, _, .nil => .nil
  | _, _, c, .cons h r => .cons (RelD.back u (by unfold clf at c; exact (Bool.and_eq_true_iff.mp c).1) h) (RelF.back u (by unfold clf at c; exact (Bool.and_eq_true_iff.mp c).2) r)
end
theorem CellR.back {g : G} {n : Nat} {ρ ρ' : Rho} {H H' : Hp} (u : Back n ρ ρ' H H') {c : Cell} {o : HO} (k : c.cl n = true) (h : CellR g ρ H c o) : CellR g ρ' H' c o := by
  cases h with
  | lst r => exact .lst (r.back u (by unfold Cell.cl at k; exact k))
  | dk r => exact .dk (r.back u (by unfold Cell.cl at k; exact k))
  | dt r => exact .dt (r.back u (by unfold Cell.cl at k; exact k))
  | ins r => exact .ins (r.back u (by unfold Cell.cl at k; exact k))
  | tab h1 h2 =>
    refine .tab h1 fun pos cv e => ?_
    obtain ⟨c, e1, n, e2⟩ := h2 pos cv e
    obtain ⟨n2, e3⟩ := u.at e2 n LamX.codeO_ne
    exact ⟨c, e1, n2, e3⟩

/-! ### a def's result -/
def frz1 (n : Nat) (s : Sr) (d : D) : Option D := if d.cl n then some d else match d with
  | .ref k => (match s[k]? with
    | some (.lst l) => if D.cls n l then some (.lst l) else none
    | some (.dk l) => if D.clk n l then some (.dk l) else none
    | some (.dt l) => if D.clt n l then some (.dt l) else none
    | _ => none)
  | _ => none
def frzs (n : Nat) (s : Sr) : List D → Option (List D)
  | [] => some []
  | d :: ds => (frz1 n s d).bind fun d => (frzs n s ds).bind fun ds => some (d :: ds)
def frzD (n : Nat) (s : Sr) (d : D) : Option D := if d.cl n then some d else match d with
  | .tup l => (frzs n s l).map .tup
  | d => frz1 n s d
/-- k: the new cells stay -/
def fin (k : Bool) (s : Sr) (d : D) (s' : Sr) : R D := if k then .ok d s' else
  if closedS s.length (s'.take s.length) then (match frzD s.length s' d with | some d => .ok d (s'.take s.length) | none => .bad) else .bad
def finX (k : Bool) (s : Sr) (c : Nat) (fs : List (Str × D)) (s' : Sr) : R D := if k then .exc c fs s' else
  if closedS s.length (s'.take s.length) && clf s.length fs then .exc c fs (s'.take s.length) else .bad
def runDef (k : Bool) (m : Nat) (fs : FS) (ds : List D) (s : Sr) : R D := match fs (ds.map some ++ List.replicate (m - ds.length) none) s with
  | .ok (.nx _) s' => fin k s .non s'
  | .ok (.rt d) s' => fin k s d s'
  | .exc c f s' => finX k s c f s'
  | _ => .bad

/-! freezing at the end -/
inductive FrzP (Q : VK) (v : V) : Hp → Prop
  | done {H : Hp} : Q v H → FrzP Q v H
  | step {H : Hp} {a : Addr} {u : HO} : H a = some u → isDic u = true → (∀ o, FrzP Q v (upd H a (.frz o u))) → FrzP Q v H
theorem FrzP.run {X : Cx} {pins : List (Addr × Obj)} {σ : L2.St} {s : Shared} {Q : VK} {v : V} {H : Hp} (h : FrzP Q v H) : Inv X pins σ H s → ∃ H', Inv X pins σ H' s ∧ Q v H' := by
  induction h with
  | done q => exact fun I => ⟨_, I, q⟩
  | step e d _ ih =>
    intro I
    obtain ⟨o, I'⟩ := I.freeze e d
    exact ih o I'
theorem _root_.L2.PSs.frz {X : Cx} {b : List Stmt} {t : TS} (h : PSs X b t) : PSs X b (fun E σ H => t { nx := E.nx, rt := fun v H => FrzP E.rt v H, bk := E.bk, ct := E.ct } σ H) := ⟨fun pins s σ H E I q => thn (h.run pins s σ H _ I q) fun f s' z => by
  cases f with
  | next => exact z
  | brk => exact z
  | cont => exact z
  | ret u =>
    obtain ⟨v, σ', H', I', r, q⟩ := z
    obtain ⟨H2, I2, q2⟩ := FrzP.run q I'
    exact ⟨v, σ', H2, I2, r, q2⟩⟩

section
variable {g : G}
/-- the store at a def's end: the new cells are forgotten -/
theorem back_of {ρ ρ' : Rho} {H H' : Hp} {s s' : Sr} (hs : Sto g ρ s H) (u : Up ρ ρ' H H') : Back s.length ρ' ρ H' H' := ⟨fun k a hk e => by
  obtain ⟨t, q⟩ := u.pre
  rw [← q, List.getElem?_append_left (by rw [hs.len]; exact hk)] at e
  exact e, fun a o e n => ⟨fun z => n (by
    rcases z with z | z
    · obtain ⟨t, q⟩ := u.pre
      exact .inl (by rw [← q]; exact List.mem_append_left _ z)
    · exact .inr (by rw [u.ex]; exact z)), o, e, .inl rfl⟩⟩
theorem closedS_get {n : Nat} {s : Sr} (h : closedS n s = true) {k : Nat} {c : Cell} (e : s[k]? = some c) : c.cl n = true := List.all_eq_true.mp h c (List.mem_of_getElem? e)
theorem Sto.back {ρ ρ' : Rho} {H H' H2 : Hp} {s s' : Sr} (hs : Sto g ρ s H) (u : Up ρ ρ' H H') (hs' : Sto g ρ' s' H') (k : closedS s.length (s'.take s.length) = true) (b : Back s.length ρ' ρ H' H2) (e : ∀ a ∈ ρ.c, H2 a = H' a) (l : ∀ a, H2 a = none → H' a = none) (u2 : Up ρ ρ H H2) : Sto g ρ (s'.take s.length) H2 := by
  have hp := u.pre.length_le
  refine ⟨?_, hs.nd, fun n a q e1 e2 => ?_, hs.dis, fun a m q => hs'.xin a (by rw [u.ex]; exact m) (l a q), fun a m xs => by rw [u2.hid a m id]; exact hs.xt a m xs, fun n a e1 => ?_⟩
  · rw [List.length_take, ← hs'.len, hs.len]
    rw [hs.len] at hp
    exact (Nat.min_eq_left hp).symm
  · have hn : n < s.length := by rw [← hs.len]; exact (List.getElem?_eq_some_iff.mp e1).1
    obtain ⟨t, q2⟩ := u.pre
    rw [List.getElem?_take_of_lt hn] at e2
    exact hs'.tb n a q (by rw [← q2, List.getElem?_append_left (by rw [hs.len]; exact hn)]; exact e1) e2
  · have hn : n < s.length := by rw [← hs.len]; exact (List.getElem?_eq_some_iff.mp e1).1
    obtain ⟨c, o, q1, q2, q3⟩ := hs'.cell n a (by
      obtain ⟨t, q⟩ := u.pre
      rw [← q, List.getElem?_append_left (by rw [hs.len]; exact hn)]
      exact e1)
    have q4 : (s'.take s.length)[n]? = some c := by rw [List.getElem?_take_of_lt hn]; exact q1
    exact ⟨c, o, q4, (e a (List.mem_of_getElem? e1)).trans q2, q3.back b (closedS_get k q4)⟩
theorem Up.cut {ρ ρ' : Rho} {H H' : Hp} (u : Up ρ ρ' H H') : Up ρ ρ H H' := ⟨List.prefix_refl _, rfl, fun _ m n => absurd m n, u.keep, u.live, u.hid⟩
/-- freezing one new cell -/
theorem Up.fr {ρ ρ' : Rho} {H H' : Hp} {s : Sr} {a : Addr} {o : HO} (u : Up ρ ρ' H H') (hs : Sto g ρ s H) (m : a ∈ ρ'.c) (n : a ∉ ρ.c) : Up ρ ρ H (upd H' a o) := by
  have hn := u.new a m n
  refine ⟨List.prefix_refl _, rfl, fun _ m n => absurd m n, fun b o' h q => ?_, fun b h => ?_, fun b h _ => ?_⟩
  · obtain ⟨o2, e, k⟩ := u.keep b o' h q
    exact ⟨o2, by rw [upd_ne (ne_of_none h hn)]; exact e, k⟩
  · by_cases e : b = a
    · rw [e]; exact hn
    · rw [upd_ne e] at h; exact u.live b h
  · rw [upd_ne fun (e : b = a) => hs.xin b h (e ▸ hn)]
    exact u.hid b h id
/-- new cells of dicts are frozen, step by step -/
structure Fz (g : G) (ρ ρ' : Rho) (s : Sr) (H H' H2 : Hp) : Prop where
  up : Up ρ ρ H H2
  back : Back s.length ρ' ρ H' H2
  old : ∀ a ∈ ρ.c, H2 a = H' a
  live : ∀ a, H2 a = none → H' a = none
  cells : ∀ a ∈ ρ'.c, a ∉ ρ.c → H2 a = H' a ∨ ∃ o u, H' a = some u ∧ isDic u = true ∧ H2 a = some (.frz o u)
theorem Fz.start {ρ ρ' : Rho} {s s' : Sr} {H H' : Hp} (hs : Sto g ρ s H) (u : Up ρ ρ' H H') : Fz g ρ ρ' s H H' H' := ⟨u.cut, back_of (s' := s') hs u, fun _ _ => rfl, fun _ h => h, fun _ _ _ => .inl rfl⟩
theorem Fz.step {ρ ρ' : Rho} {s : Sr} {H H' H2 : Hp} {a : Addr} {x : HO} {o : Obj} (z : Fz g ρ ρ' s H H' H2) (hs : Sto g ρ s H) (u : Up ρ ρ' H H') (m : a ∈ ρ'.c) (n : a ∉ ρ.c) (e : H' a = some x) (ed : isDic x = true) (e2 : H2 a = H' a) : Fz g ρ ρ' s H H' (upd H2 a (.frz o x)) := by
  have hn := u.new a m n
  refine ⟨⟨List.prefix_refl _, rfl, fun _ m n => absurd m n, fun b o' h q => ?_, fun b h => ?_, fun b h _ => ?_⟩, ⟨z.back.get, fun b o' h q => ?_⟩, fun b h => ?_, fun b h => ?_, fun b h q => ?_⟩
  · obtain ⟨o2, e, k⟩ := z.up.keep b o' h q
    exact ⟨o2, by rw [upd_ne (ne_of_none h hn)]; exact e, k⟩
  · by_cases e : b = a
    · rw [e]; exact hn
    · rw [upd_ne e] at h; exact z.up.live b h
  · rw [upd_ne fun (e : b = a) => hs.xin b h (e ▸ hn)]
    exact z.up.hid b h id
  · obtain ⟨q1, o2, q2, k⟩ := z.back.keep b o' h q
    exact ⟨q1, o2, by rw [upd_ne fun (e : b = a) => q (.inl (e ▸ m))]; exact q2, k⟩
  · rw [upd_ne fun (e : b = a) => n (e ▸ h)]
    exact z.old b h
  · by_cases e : b = a
    · rw [e, upd_same] at h; cases h
    · rw [upd_ne e] at h; exact z.live b h
  · by_cases e3 : b = a
    · subst e3
      exact .inr ⟨o, x, e, ed, upd_same⟩
    · rw [upd_ne e3]; exact z.cells b h q
theorem Car.fz {ρ : Rho} {H : Hp} {a : Addr} {u : HO} {o : Obj} (e : H a = some u) (d : isDic u = true) : Car ρ ρ H (upd H a (.frz o u)) :=
  ⟨List.prefix_refl _, fun b o' hb n q => ⟨n, o', by
    rw [upd_ne fun (z : b = a) => by rw [z, e] at hb; cases hb; rw [d] at q; cases q]
    exact hb, .inl rfl⟩⟩
theorem frz1_ok {ρ ρ' : Rho} {s s' : Sr} {H H' H2 : Hp} {Q : VK} {w : V} {d d' : D} {v : V} (hs : Sto g ρ s H) (u : Up ρ ρ' H H') (hs' : Sto g ρ' s' H') (z : Fz g ρ ρ' s H H' H2) (r : RelD g.K ρ' H' d v) (e : frz1 s.length s' d = some d')
    (h : ∀ H3, Fz g ρ ρ' s H H' H3 → Car ρ ρ H2 H3 → RelD g.K ρ H3 d' v → FrzP Q w H3) : FrzP Q w H2 := by
  unfold frz1 at e
  by_cases c : d.cl s.length = true
  · rw [if_pos c] at e; cases e
    exact h H2 z ⟨List.prefix_refl _, fun a o h n _ => ⟨n, o, h, .inl rfl⟩⟩ (r.back z.back c)
  · rw [if_neg c] at e
    cases d with
    | ref k =>
      cases r with
      | ref ea =>
        rename_i a
        have hk : s.length ≤ k := by
          unfold D.cl at c
          simpa using c
        have ma : a ∈ ρ'.c := List.mem_of_getElem? ea
        have na : a ∉ ρ.c := fun m => by
          obtain ⟨j, hj, ej⟩ := List.mem_iff_getElem.mp m
          obtain ⟨t, q⟩ := u.pre
          have e1 : ρ'.c[j]? = some a := by rw [← q, List.getElem?_append_left hj, List.getElem?_eq_getElem hj, ej]
          obtain ⟨hk2, e2⟩ := List.getElem?_eq_some_iff.mp ea
          obtain ⟨hj2, e3⟩ := List.getElem?_eq_some_iff.mp e1
          have := (List.getElem_inj hs'.nd).mp (e2.trans e3.symm)
          rw [hs.len] at hj
          omega
        have nh : ¬ ρ.has a := fun m => m.elim na fun m => hs.xin a m (u.new a ma na)
        obtain ⟨cl, o, q1, q2, q3⟩ := hs'.cell k a ea
        simp only [q1] at e
        cases q3 with
        | ins _ => cases e
        | tab _ _ => cases e
        | lst rs =>
          rename_i l xs
          simp only at e
          split at e
          · rename_i hc
            cases e
            have hl : H2 a = some (.lst xs) := by
              rcases z.cells a ma na with q | ⟨o, x, e1, ed, e2⟩
              · rw [q]; exact q2
              · rw [q2] at e1; cases e1; cases ed
            exact h H2 z ⟨List.prefix_refl _, fun a o h n _ => ⟨n, o, h, .inl rfl⟩⟩ (.lst ⟨nh, hl⟩ (rs.back z.back hc))
          · cases e
        | dk rs =>
          rename_i l xs
          simp only at e
          split at e
          · rename_i hc
            cases e
            rcases z.cells a ma na with q | ⟨o, x, e1, ed, e2⟩
            · refine .step (q.trans q2) rfl fun o => ?_
              have z3 := z.step (o := o) hs u ma na q2 rfl q
              exact h _ z3 (Car.fz (q.trans q2) rfl) (.dk nh upd_same (rs.back z3.back hc))
            · rw [q2] at e1; cases e1
              exact h H2 z ⟨List.prefix_refl _, fun a o h n _ => ⟨n, o, h, .inl rfl⟩⟩ (.dk nh e2 (rs.back z.back hc))
          · cases e
        | dt rs =>
          rename_i l xs
          simp only at e
          split at e
          · rename_i hc
            cases e
            rcases z.cells a ma na with q | ⟨o, x, e1, ed, e2⟩
            · refine .step (q.trans q2) rfl fun o => ?_
              have z3 := z.step (o := o) hs u ma na q2 rfl q
              exact h _ z3 (Car.fz (q.trans q2) rfl) (.dt nh upd_same (rs.back z3.back hc))
            · rw [q2] at e1; cases e1
              exact h H2 z ⟨List.prefix_refl _, fun a o h n _ => ⟨n, o, h, .inl rfl⟩⟩ (.dt nh e2 (rs.back z.back hc))
          · cases e
    | _ => cases e
end
end L3

/-! L3I: a def's promise, calls -/
namespace L3
open PySem PySem.Spec PyProof.Rows L2
section
variable {g : G}
theorem frzs_ok {ρ ρ' : Rho} {s s' : Sr} {H H' : Hp} {Q : VK} {w : V} (hs : Sto g ρ s H) (u : Up ρ ρ' H H') (hs' : Sto g ρ' s' H') : ∀ {ds ds' : List D} {vs : List V} {H2 : Hp}, Fz g ρ ρ' s H H' H2 → RelDs g.K ρ' H' ds vs → frzs s.length s' ds = some ds' →
    (∀ H3, Fz g ρ ρ' s H H' H3 → Car ρ ρ H2 H3 → RelDs g.K ρ H3 ds' vs → FrzP Q w H3) → FrzP Q w H2
  | [], ds', vs, H2, z, r, e, h => by
    cases r
    unfold frzs at e
    cases e
    exact h H2 z ⟨List.prefix_refl _, fun a o h n _ => ⟨n, o, h, .inl rfl⟩⟩ .nil
  | d :: ds, ds', vs, H2, z, r, e, h => by
    cases r with
    | cons rd rds =>
      unfold frzs at e
      obtain ⟨d', e1, e2⟩ := Option.bind_eq_some_iff.mp e
      obtain ⟨ds2, e3, e4⟩ := Option.bind_eq_some_iff.mp e2
      cases e4
      refine frz1_ok hs u hs' z rd e1 fun H3 z3 c3 r3 => frzs_ok hs u hs' z3 rds e3 fun H4 z4 c4 r4 => h H4 z4 ?_ (.cons (r3.car c4) r4)
      exact ⟨List.prefix_refl _, fun a o h n d => by
        obtain ⟨n1, o1, e1, k1⟩ := c3.keep a o h n d
        have d1 : isDic o1 = false := by
          rcases k1 with rfl | ⟨ps, more, _, rfl⟩
          · exact d
          · rfl
        obtain ⟨n2, o2, e2, k2⟩ := c4.keep a o1 e1 n1 d1
        exact ⟨n2, o2, e2, k1.trans k2⟩⟩
theorem frzD_ok {ρ ρ' : Rho} {s s' : Sr} {H H' : Hp} {Q : VK} {d d' : D} {v : V} (hs : Sto g ρ s H) (u : Up ρ ρ' H H') (hs' : Sto g ρ' s' H') (r : RelD g.K ρ' H' d v) (e : frzD s.length s' d = some d')
    (h : ∀ H3, Fz g ρ ρ' s H H' H3 → RelD g.K ρ H3 d' v → Q v H3) : FrzP Q v H' := by
  have z := Fz.start (s' := s') hs u
  unfold frzD at e
  by_cases c : d.cl s.length = true
  · rw [if_pos c] at e; cases e
    exact .done (h H' z (r.back z.back c))
  · rw [if_neg c] at e
    have one : frz1 s.length s' d = some d' → FrzP Q v H' := fun e => frz1_ok hs u hs' z r e fun H3 z3 c3 r3 => .done (h H3 z3 r3)
    cases d with
    | tup l =>
      simp only at e
      cases el : frzs s.length s' l with
      | none => rw [el] at e; cases e
      | some l' =>
        rw [el] at e; cases e
        cases r with
        | tup ha rs =>
          refine frzs_ok hs u hs' z rs el fun H3 z3 c3 r3 => .done (h H3 z3 (.tup ?_ r3))
          exact z3.back.at ha.2 ha.1 (fun ps e => by cases e)
    | _ => exact one e
theorem fin_ok {k : Bool} {ρ ρ' : Rho} {s s' : Sr} {H H' : Hp} {E : XK} {Q : VK} {d : D} {v : V} (hs : Sto g ρ s H) (u : Up ρ ρ' H H') (hs' : Sto g ρ' s' H') (r : RelD g.K ρ' H' d v) (p : Post g (RV g) ρ H E Q (fin k s d s')) : FrzP Q v H' := by
  unfold fin at p
  cases k with
  | true => exact .done (p ρ' H' v u hs' r)
  | false =>
    rw [if_neg Bool.false_ne_true] at p
    by_cases c : closedS s.length (s'.take s.length) = true
    · rw [if_pos c] at p
      cases e : frzD s.length s' d with
      | none => rw [e] at p; exact p.elim
      | some d' =>
        rw [e] at p
        exact frzD_ok hs u hs' r e fun H3 z r3 => p ρ H3 v z.up (Sto.back hs u hs' c z.back z.old z.live z.up) r3
    · rw [if_neg c] at p; exact p.elim
theorem fin_non {k : Bool} {ρ ρ' : Rho} {s s' : Sr} {H H' : Hp} {E : XK} {Q : VK} (hs : Sto g ρ s H) (u : Up ρ ρ' H H') (hs' : Sto g ρ' s' H') (p : Post g (RV g) ρ H E Q (fin k s .non s')) : Q .non H' := by
  unfold fin at p
  cases k with
  | true => exact p ρ' H' .non u hs' .non
  | false =>
    rw [if_neg Bool.false_ne_true] at p
    by_cases c : closedS s.length (s'.take s.length) = true
    · rw [if_pos c] at p
      have z := Fz.start (s' := s') hs u
      have p : Post g (RV g) ρ H E Q (.ok .non (s'.take s.length)) := p
      exact p ρ H' .non z.up (Sto.back hs u hs' c z.back z.old z.live z.up) .non
    · rw [if_neg c] at p; exact p.elim
theorem finX_ok {k : Bool} {ρ ρ' : Rho} {s s' : Sr} {H H' : Hp} {E : XK} {Q : VK} {c : Nat} {fs : List (Str × D)} {da : Option Addr} (hs : Sto g ρ s H) (u : Up ρ ρ' H H') (hs' : Sto g ρ' s' H') (r : ExcR g.K ρ' H' fs da) (p : Post g (RV g) ρ H E Q (finX k s c fs s')) : E (.ref (g.cls c)) da H' := by
  unfold finX at p
  cases k with
  | true => exact p ρ' H' da u hs' r
  | false =>
    rw [if_neg Bool.false_ne_true] at p
    by_cases cc : (closedS s.length (s'.take s.length) && clf s.length fs) = true
    · rw [if_pos cc] at p
      rw [Bool.and_eq_true] at cc
      have z := Fz.start (s' := s') hs u
      refine p ρ H' da u.cut (Sto.back hs u hs' cc.1 z.back z.old z.live z.up) ?_
      rcases r with r | ⟨d, vs, e1, e2, e3, e4⟩
      · exact .inl r
      · exact .inr ⟨d, vs, e1, (z.back.keep d _ e3 e2).1, e3, e4.back z.back cc.2⟩
    · rw [if_neg cc] at p; exact p.elim
/-- a promise by a function on data -/
def spI (g : G) (n : Nat) (f : List D → Sr → R D) : Sp := fun vs H Q E => vs.length = n ∧ ∃ ρ s ds, Sto g ρ s H ∧ RelDs g.K ρ H ds vs ∧ Post g (RV g) ρ H E Q (f ds s)
theorem loc_start {K : PySem.W.Frag} {ρ : Rho} {H : Hp} {N : List Str} : ∀ {ds : List D} {vs : List V}, RelDs K ρ H ds vs → Loc' K ρ H (ds.map some ++ List.replicate (N.length - ds.length) none) (L2.start N vs) := by
  intro ds vs r
  unfold L2.start
  have hl := r.len
  have get : ∀ {ds : List D} {vs : List V}, RelDs K ρ H ds vs → ∀ (i : Nat) d, ds[i]? = some d → ∃ v, vs[i]? = some v ∧ RelD K ρ H d v := by
    intro ds
    induction ds with
    | nil => intro vs r i d e; simp at e
    | cons a as ih =>
      intro vs r i d e
      cases r with
      | cons ra rs =>
        cases i with
        | zero => simp at e; subst e; exact ⟨_, rfl, ra⟩
        | succ i =>
          obtain ⟨v, q, rv⟩ := ih rs i d (by simpa using e)
          exact ⟨v, by simpa using q, rv⟩
  refine ⟨by simp [hl], fun i d e => ?_⟩
  by_cases hi : i < ds.length
  · rw [List.getElem?_append_left (by simpa using hi), List.getElem?_map] at e
    cases q : ds[i]? with
    | none => rw [q] at e; cases e
    | some x =>
      rw [q] at e
      have e : x = d := by simpa using e
      subst e
      obtain ⟨v, q2, rv⟩ := get r i x q
      refine ⟨v, ?_, rv⟩
      rw [List.getElem?_append_left (by rw [List.length_map, ← hl]; exact hi), List.getElem?_map, q2]; rfl
  · rw [List.getElem?_append_right (by simpa using Nat.le_of_not_lt hi), List.getElem?_replicate] at e
    split at e <;> cases e
/-- THE RULE of a def -/
theorem fn_ok {P : Program} {w : World} {mg : Str → Option Value} {base : Heap} {k : Nat} {f : Addr} {name qual : Str} {params : Arguments} {body : List Stmt} {scope : Scope} {dV kV doc pm cdv ct oc : Value} {an od : Option Addr}
    {osl : Array (Option Value)} {N ps : List Str} {kf : Bool} {fs : FS} (lk : g.K.lookup f = some ⟨oc, od, .func (PySem.W.fnOf name qual params body scope dV kV doc pm an cdv ct), osl⟩) (hcd : PySem.W.codeIn g.K cdv qual = true) (S : FnScope N ps scope)
    (hb : ∀ (A : Around) (outer : List Env) (s : Shared) (H : Hp) (E : XK), Room k (A.deeper (envOfC qual scope s.heap.objs.size f cdv)) → PSs (cxOf (L2.CX P w) P w g.K mg base N qual scope f cdv A outer s H E) body (sI g (fun cls d _ H => E cls d H) fs)) :
    FnOk P w g.K mg base (L2.CX P w) (k + 1) f (PySem.W.fnOf name qual params body scope dV kV doc pm an cdv ct) ps (spI g ps.length (runDef kf N.length fs)) := by
  refine fn_of lk hcd S (fun vs H Q E h => h.1) fun A outer s H vs Q E hr h => ⟨_, (hb A outer s H E hr).frz, ?_⟩
  obtain ⟨hl, ρ, st, ds, hs, rd, hp⟩ := h
  refine ⟨ρ, st, _, hs, loc_start rd, ?_⟩
  unfold runDef at hp
  cases e : fs (ds.map some ++ List.replicate (N.length - ds.length) none) st with
  | bad => rw [e] at hp; exact hp
  | exc c fs s1 =>
    rw [e] at hp
    exact fun σ' ρ' H' da u hs' r => finX_ok hs u hs' r hp
  | ok fl s1 =>
    rw [e] at hp
    cases fl with
    | nx env =>
      intro ρ' H' σ' u hs' hl'
      exact fin_non hs u hs' hp
    | rt d => exact fun ρ' H' v u hs' r => fin_ok hs u hs' r hp
    | bk env => exact hp.elim
    | ct env => exact hp.elim

section
variable {X : Cx} {W : WX} {pos : Pos}
def eCall (n : Nat) (f : List D → Sr → R D) (fa : FA) : F := fun env s => (fa env s).bind fun ds s => if ds.length = n then f ds s else .bad
theorem l_call {k n : Nat} {f : Addr} {fd : FuncData} {ps : List Str} {x : Str} {p : Pos} {e : Expr} {es : List Expr} {fn : List D → Sr → R D} {fa : FA} (tk : Takes X W) (F : FnOk X.prog X.w X.K X.mg X.base (L2.CX X.prog X.w) k f fd ps (spI g n fn)) (hr : Room k X.A) (hg : Gl X x) (hm : X.mg x = some (.ref f)) (hk : PySem.W.keepIn X.K (.ref f) = true)
    (hb : Binds X.K fd ps []) (ha : PA X (e :: es) (tA g W fa)) (hdb : (x == ("__debug__" : Str)) = false) (he : starEach (e :: es) X.env = (false, eval e X.env) :: starEach es X.env) (hpl : (backTo pos (starEach es X.env)).any (·.1) = false) :
    PE X (.Call (.Name x p) (e :: es) [] pos) (tI g W (eCall n fn fa)) :=
  (pe_callS F hr hg hm hk hb (fun σ => passAt tk σ) ha hdb he hpl).imp fun σ H Q ⟨ρ, s, env, hs, hl, hp⟩ => ⟨ρ, s, env, hs, hl, (hp.bind (Rel' := RVs g)).imp fun vs H1 ⟨ρ1, s1, ds, u1, hs1, rd, p1⟩ => by
    split at p1
    · rename_i hn
      exact ⟨by rw [← rd.len]; exact hn, ρ1, s1, ds, hs1, rd, p1⟩
    · exact p1.elim⟩
end
end
end L3

/-! L3J: operators by values -/
namespace L3
open PySem PySem.Spec PyProof.Rows L2

def asL (s : Sr) : D → Option (List D)
  | .lst l => some l
  | .ref n => (match s[n]? with | some (.lst l) => some l | _ => none)
  | _ => none
def asT : D → Option (List D)
  | .tup l => some l
  | .ktp l => some l
  | _ => none
/-- a list or a tuple -/
def asQ (s : Sr) (d : D) : Option (List D) := match d with | .tup l => some l | .ktp l => some l | .lck l => some l | d => asL s d
mutual
def D.py : D → Option PyData
  | .non => some .none
  | .bl b => some (.bool b)
  | .int i => some (.int i)
  | .str x => some (.str x)
  | .tup l => (D.pys l).map .tuple
  | .lst l => (D.pys l).map .list
  | .ktp l => (D.pys l).map .tuple
  | _ => none
def D.pys : List D → Option (List PyData)
  | [] => some []
  | d :: ds => (D.py d).bind fun p => (D.pys ds).bind fun ps => some (p :: ps)
end
/-- data to compare: a store cell's list counts -/
def pyOf (s : Sr) (d : D) : Option PyData := match d with
  | .ref n => (match s[n]? with | some (.lst l) => (D.pys l).map .list | _ => none)
  | d => D.py d
def withPy (s : Sr) (x y : D) (f : PyData → PyData → R D) : R D := match pyOf s x, pyOf s y with
  | some p, some q => if SeqAt.shaped p && SeqAt.shaped q then f p q else .bad
  | _, _ => .bad
def oAdd (x y : D) (s : Sr) : R D := match x, y with
  | .int i, .int j => .ok (.int (i + j)) s
  | .str a, .str b => if a.length + b.length ≤ sizeLine then .ok (.str (a ++ b)) s else .bad
  | .tup a, .tup b => if a.length + b.length ≤ sizeLine then .ok (.tup (a ++ b)) s else .bad
  | x, y => match asL s x, asL s y with | some a, some b => if a.length + b.length ≤ sizeLine then .ok (.lst (a ++ b)) s else .bad | _, _ => .bad
def oSub (x y : D) (s : Sr) : R D := match x, y with
  | .int i, .int j => .ok (.int (i - j)) s
  | _, _ => .bad
def smallI (i : Int) : Bool := decide (-(2 ^ 64) < i) && decide (i < 2 ^ 64)
def oMul (x y : D) (s : Sr) : R D := match x, y with
  | .int i, .int j => if smallI i || smallI j then .ok (.int (i * j)) s else .bad
  | .tup a, .int k => if a ≠ [] ∧ 2 ≤ k ∧ k ≤ 1000 ∧ a.length ≤ 1000 then .ok (.tup (List.replicate k.toNat a).flatten) s else .bad
  | x, .int k => (match asL s x with | some a => if -(2 ^ 63) ≤ k ∧ k < 2 ^ 63 ∧ a.length * k.toNat ≤ sizeLine then .ok (.lst (List.replicate k.toNat a).flatten) s else .bad | _ => .bad)
  | _, _ => .bad
def oDiv (x y : D) (s : Sr) : R D := match x, y with
  | .int i, .int j => if 0 < j ∧ j < 1073741824 then .ok (.int (i / j)) s else .bad
  | _, _ => .bad
def oMod (x y : D) (s : Sr) : R D := match x, y with
  | .int i, .int j => if 0 < j then .ok (.int (i % j)) s else .bad
  | _, _ => .bad
def oPow (x y : D) (s : Sr) : R D := match x, y with
  | .int i, .int j => if 0 ≤ j ∧ j ≤ 1000000 ∧ i.natAbs < 2 ^ 64 then .ok (.int (i ^ j.toNat)) s else .bad
  | _, _ => .bad
def oNeg (x : D) (s : Sr) : R D := match x with
  | .int i => .ok (.int (-i)) s
  | _ => .bad
/-- two lists of unlike lengths -/
def lenNe (s : Sr) (x y : D) : Bool := match asL s x, asL s y with | some a, some b => decide (a.length ≠ b.length) | _, _ => false
def oEq (x y : D) (s : Sr) : R D := if lenNe s x y then .ok (.bl false) s else withPy s x y fun p q => .ok (.bl (PyData.eqv p q)) s
def oNe (x y : D) (s : Sr) : R D := if lenNe s x y then .ok (.bl true) s else withPy s x y fun p q => .ok (.bl (!PyData.eqv p q)) s
def oInt (f : Int → Int → Bool) (x y : D) (s : Sr) : R D := match x, y with
  | .int i, .int j => .ok (.bl (f i j)) s
  | _, _ => .bad
abbrev oLt := oInt fun i j => decide (i < j)
abbrev oLe := oInt fun i j => decide (i ≤ j)
abbrev oGt := oInt fun i j => decide (j < i)
abbrev oGe := oInt fun i j => decide (j ≤ i)
/-- is, is not: beside None, True, False -/
def oIs (n : Bool) (x y : D) (s : Sr) : R D := match y with
  | .non => .ok (.bl ((match x with | .non => true | _ => false) != n)) s
  | .bl b => (match x with | .bl a => .ok (.bl (decide (a = b) != n)) s | _ => .bad)
  | _ => .bad
def keyOf : D → Option Key
  | .int i => some (.inl i)
  | .str x => some (.inr x)
  | _ => none
def keysOf : List D → Option (List Key)
  | [] => some []
  | d :: ds => (keyOf d).bind fun k => (keysOf ds).bind fun ks => some (k :: ks)
def asDk (s : Sr) : D → Option (List (Key × D))
  | .dk l => some l
  | .ref n => (match s[n]? with | some (.dk l) => some l | _ => none)
  | _ => none
def asDt (s : Sr) : D → Option (List (List Key × D))
  | .dt l => some l
  | .ref n => (match s[n]? with | some (.dt l) => some l | _ => none)
  | _ => none
def look {κ : Type} [DecidableEq κ] (k : κ) : List (κ × D) → Option D
  | [] => none
  | (j, d) :: r => if j = k then some d else look k r
/-- what a dict has at a key -/
def dget (s : Sr) (d k : D) : Option (Option D) := match asDk s d with
  | some l => (keyOf k).map fun k => look k l
  | none => match asDt s d with
    | some l => (match k with | .tup ks => (keysOf ks).map fun ks => look ks l | _ => none)
    | none => none
def oIn (n : Bool) (x y : D) (s : Sr) : R D := match x, y with
  | .str a, .str b => .ok (.bl ((!(Builtin.Str.occurrences b a 0 b.length 1).isEmpty) != n)) s
  | x, y => match asQ s y with
    | some l => (match D.py x, D.pys l with
      | some p, some ps => if SeqAt.shaped p && SeqAt.shaped (.list ps) then .ok (.bl ((ps.any fun z => PyData.eqv z p) != n)) s else .bad
      | _, _ => .bad)
    | none => match dget s y x with
      | some o => .ok (.bl (o.isSome != n)) s
      | none => .bad

/-! what data stand for -/
section
variable {g : G} {ρ : Rho} {s : Sr} {H : Hp}
theorem lst_of {d : D} {v : V} {l : List D} (hs : Sto g ρ s H) (r : RelD g.K ρ H d v) (e : asL s d = some l) : ∃ a xs, v = .ref a ∧ H a = some (.lst xs) ∧ RelDs g.K ρ H l xs := by
  cases r with
  | lst h rs => cases e; exact ⟨_, _, rfl, h.2, rs⟩
  | ref ea =>
    obtain ⟨c, o, q1, q2, q3⟩ := hs.cell _ _ ea
    unfold asL at e
    simp only [q1] at e
    cases q3 with
    | lst rs => cases e; exact ⟨_, _, rfl, q2, rs⟩
    | _ => cases e
  | _ => cases e
theorem tup_of {d : D} {v : V} {l : List D} (r : RelD g.K ρ H d v) (e : asT d = some l) : ∃ a xs, v = .ref a ∧ SqT g.K H a xs ∧ RelDs g.K ρ H l xs := by
  cases r with
  | tup h rs => cases e; exact ⟨_, _, rfl, h.sq, rs⟩
  | ktp h rs => cases e; exact ⟨_, _, rfl, h.sq, rs⟩
  | _ => cases e
theorem seq_of {d : D} {v : V} {l : List D} (hs : Sto g ρ s H) (r : RelD g.K ρ H d v) (e : asQ s d = some l) : ∃ a xs, v = .ref a ∧ (SqL g.K H a xs ∨ SqT g.K H a xs) ∧ RelDs g.K ρ H l xs := by
  unfold asQ at e
  split at e
  · cases e
    cases r with
    | tup h rs => exact ⟨_, _, rfl, .inr h.sq, rs⟩
  · cases e
    cases r with
    | ktp h rs => exact ⟨_, _, rfl, .inr h.sq, rs⟩
  · cases e
    cases r with
    | lck n h rs => exact ⟨_, _, rfl, .inl (.inl (.inr ⟨_, h⟩)), rs⟩
    | lkk h rs => exact ⟨_, _, rfl, .inl (.inr h), rs⟩
  · obtain ⟨a, xs, rfl, h, rs⟩ := lst_of hs r e
    exact ⟨a, xs, rfl, .inl (.inl (.inl h)), rs⟩
mutual
theorem dp_of : ∀ {d : D} {v : V} {p : PyData}, RelD g.K ρ H d v → D.py d = some p → Dp g.K H v p
  | _, _, _, .non, e => by unfold D.py at e; cases e; exact .non
  | _, _, _, .bl b, e => by unfold D.py at e; cases e; exact .bl b
  | _, _, _, .int i, e => by unfold D.py at e; cases e; exact .int i
  | _, _, _, .str x, e => by unfold D.py at e; cases e; exact .str x
  | _, _, _, .tup h r, e => by
    unfold D.py at e
    obtain ⟨ps, e1, e2⟩ := Option.map_eq_some_iff.mp e
    cases e2
    exact .tup h.sq (dps_of r e1)
  | _, _, _, .ktp h r, e => by
    unfold D.py at e
    obtain ⟨ps, e1, e2⟩ := Option.map_eq_some_iff.mp e
    cases e2
    exact .tup h.sq (dps_of r e1)
  | _, _, _, .lst h r, e => by
    unfold D.py at e
    obtain ⟨ps, e1, e2⟩ := Option.map_eq_some_iff.mp e
    cases e2
    exact .lst h.sq (dps_of r e1)
  | _, _, _, .lck _ _ _, e => by unfold D.py at e; cases e
  | _, _, _, .lkk _ _, e => by unfold D.py at e; cases e
  | _, _, _, .dk _ _ _, e => by unfold D.py at e; cases e
  | _, _, _, .dt _ _ _, e => by unfold D.py at e; cases e
  | _, _, _, .ref _, e => by unfold D.py at e; cases e
theorem dps_of : ∀ {d : List D} {v : List V} {p : List PyData}, RelDs g.K ρ H d v → D.pys d = some p → DpAll g.K H v p
  | _, _, _, .nil, e => by unfold D.pys at e; cases e; exact .nil
  | _, _, _, .cons h r, e => by
    unfold D.pys at e
    obtain ⟨p, e1, e2⟩ := Option.bind_eq_some_iff.mp e
    obtain ⟨ps, e3, e4⟩ := Option.bind_eq_some_iff.mp e2
    cases e4
    exact .cons (dp_of h e1) (dps_of r e3)
end
theorem py_of {d : D} {v : V} {p : PyData} (hs : Sto g ρ s H) (r : RelD g.K ρ H d v) (e : pyOf s d = some p) : Dp g.K H v p := by
  unfold pyOf at e
  cases d with
  | ref n =>
    simp only at e
    cases r with
    | ref ea =>
      obtain ⟨c, o, q1, q2, q3⟩ := hs.cell _ _ ea
      simp only [q1] at e
      cases q3 with
      | lst rs =>
        obtain ⟨ps, e1, e2⟩ := Option.map_eq_some_iff.mp e
        cases e2
        exact .lst (.inl (.inl q2)) (dps_of rs e1)
      | _ => cases e
  | _ => exact dp_of r e
theorem withPy_ok {x y : D} {vx vy : V} {f : PyData → PyData → R D} {Q : VK} (hs : Sto g ρ s H) (rx : RelD g.K ρ H x vx) (ry : RelD g.K ρ H y vy) (p : PostV g ρ H Q (withPy s x y f)) :
    ∃ a b, Dp g.K H vx a ∧ Dp g.K H vy b ∧ SeqAt.shaped a = true ∧ SeqAt.shaped b = true ∧ PostV g ρ H Q (f a b) := by
  unfold withPy at p
  cases e1 : pyOf s x with
  | none => rw [e1] at p; exact p.elim
  | some a =>
    cases e2 : pyOf s y with
    | none => rw [e1, e2] at p; exact p.elim
    | some b =>
      rw [e1, e2] at p
      have p : PostV g ρ H Q (if SeqAt.shaped a && SeqAt.shaped b then f a b else .bad) := p
      by_cases c : (SeqAt.shaped a && SeqAt.shaped b) = true
      · rw [if_pos c] at p
        rw [Bool.and_eq_true] at c
        exact ⟨a, b, py_of hs rx e1, py_of hs ry e2, c.1, c.2, p⟩
      · rw [if_neg c] at p; exact p.elim
theorem PostV.ok {d : D} {v : V} {Q : VK} (hs : Sto g ρ s H) (r : RelD g.K ρ H d v) (p : PostV g ρ H Q (.ok d s)) : Q v H := p ρ H v .refl hs r
end
end L3

/-! L3K: operators' rules -/
namespace L3
open PySem PySem.Spec PyProof.Rows L2
section
variable {X : Cx} {g : G} (hK : X.K = g.K)
/-- a fresh list as data -/
theorem PostV.lst {ρ : Rho} {s : Sr} {H : Hp} {ds : List D} {vs : List V} {Q : VK} (hs : Sto g ρ s H) (r : RelDs g.K ρ H ds vs) (p : PostV g ρ H Q (.ok (.lst ds) s)) : ∀ q, H q = none → Q (.ref q) (upd H q (.lst vs)) := fun q nq =>
  p ρ _ _ (Up.new1 hs nq) (hs.new1 nq) (.lst ⟨hs.out nq, upd_same⟩ (r.up (Up.new1 hs nq)))
theorem PostV.tup {ρ : Rho} {s : Sr} {H : Hp} {ds : List D} {vs : List V} {Q : VK} (hs : Sto g ρ s H) (r : RelDs g.K ρ H ds vs) (p : PostV g ρ H Q (.ok (.tup ds) s)) : ∀ q, H q = none → Q (.ref q) (upd H q (.tup vs)) := fun q nq =>
  p ρ _ _ (Up.new1 hs nq) (hs.new1 nq) (.tup ⟨hs.out nq, upd_same⟩ (r.up (Up.new1 hs nq)))
theorem smallI_iff {i : Int} : smallI i = true → -(2 ^ 64) < i ∧ i < 2 ^ 64 := fun h => by
  unfold smallI at h
  rw [Bool.and_eq_true] at h
  exact ⟨of_decide_eq_true h.1, of_decide_eq_true h.2⟩
include hK
theorem o_add : OpR X (binaryOp .Add) (r2 g oAdd) := by
  intro pins s σ H x y v u Q I rx ry ⟨ρ, st, dx, dy, hs, rdx, rdy, p⟩
  have two : (∃ a b : List D, asL st dx = some a ∧ asL st dy = some b ∧ a.length + b.length ≤ sizeLine ∧ PostV g ρ H Q (.ok (.lst (a ++ b)) st)) → wpAny (model X.prog X.w) X.A (binaryOp .Add v u) (EP X pins σ Q) X.xe s := by
    rintro ⟨a, b, ea, eb, hz, p⟩
    obtain ⟨a1, xs, rfl, ha, ra⟩ := lst_of hs rdx ea
    obtain ⟨b1, ys, rfl, hb, rb⟩ := lst_of hs rdy eb
    cases rx
    cases ry
    exact op_cat pins s σ H (.ref a1) (.ref b1) _ _ Q I rfl rfl ⟨_, _, _, _, rfl, rfl, ha, hb, by rw [← ra.len, ← rb.len]; exact hz, PostV.lst hs (ra.app rb) p⟩
  have gen : PostV g ρ H Q (match asL st dx, asL st dy with | some a, some b => if a.length + b.length ≤ sizeLine then .ok (.lst (a ++ b)) st else .bad | _, _ => .bad) → wpAny (model X.prog X.w) X.A (binaryOp .Add v u) (EP X pins σ Q) X.xe s := by
    intro p
    refine two ?_
    split at p
    · rename_i a b e1 e2
      split at p
      · rename_i hz
        exact ⟨a, b, e1, e2, hz, p⟩
      · exact p.elim
    · exact p.elim
  unfold oAdd at p
  split at p
  · cases rdx; cases rdy
    exact op_add pins s σ H _ _ v u Q I rx ry ⟨_, _, rfl, rfl, PostV.ok hs (.int _) p⟩
  · cases rdx; cases rdy
    split at p
    · rename_i hz
      exact op_add_str pins s σ H _ _ v u Q I rx ry ⟨_, _, rfl, rfl, hz, PostV.ok hs (.str _) p⟩
    · exact p.elim
  · cases rdx with
    | tup h1 r1 =>
      cases rdy with
      | tup h2 r2 =>
        split at p
        · rename_i hz
          refine op_catA pins s σ H _ _ v u Q I rx ry ⟨_, _, _, _, rfl, rfl, hK ▸ h1.sq, hK ▸ h2.sq, by rw [← r1.len, ← r2.len]; exact hz, fun e => ?_, fun _ e => ?_, fun _ _ => PostV.tup hs (r1.app r2) p⟩
          · subst e; cases r1
            exact PostV.ok hs (.tup h2 r2) p
          · subst e; cases r2
            rw [List.append_nil] at p
            exact PostV.ok hs (.tup h1 r1) p
        · exact p.elim
  · exact gen p
theorem o_sub : OpR X (binaryOp .Sub) (r2 g oSub) := by
  intro pins s σ H x y v u Q I rx ry ⟨ρ, st, dx, dy, hs, rdx, rdy, p⟩
  unfold oSub at p
  split at p
  · cases rdx; cases rdy
    exact op_sub pins s σ H _ _ v u Q I rx ry ⟨_, _, rfl, rfl, PostV.ok hs (.int _) p⟩
  · exact p.elim
theorem o_mul : OpR X (binaryOp .Mult) (r2 g oMul) := by
  intro pins s σ H x y v u Q I rx ry ⟨ρ, st, dx, dy, hs, rdx, rdy, p⟩
  have rep : ∀ {α : Type} {d : List D} {w : List V}, RelDs g.K ρ H d w → ∀ n : Nat, RelDs g.K ρ H (List.replicate n d).flatten (List.replicate n w).flatten := by
    intro _ d w r n
    induction n with
    | zero => exact .nil
    | succ n ih => rw [List.replicate_succ, List.replicate_succ, List.flatten_cons, List.flatten_cons]; exact r.app ih
  unfold oMul at p
  split at p
  · cases rdx; cases rdy
    split at p
    · rename_i c
      refine op_mul pins s σ H _ _ v u Q I rx ry ⟨_, _, rfl, rfl, ?_, PostV.ok hs (.int _) p⟩
      rw [Bool.or_eq_true] at c
      exact c.imp smallI_iff smallI_iff
    · exact p.elim
  · cases rdx with
    | tup h1 r1 =>
      cases rdy
      split at p
      · rename_i c
        refine op_repT pins s σ H _ _ v u Q I rx ry ⟨_, _, _, rfl, rfl, hK ▸ h1.sq, fun e => c.1 (by subst e; cases r1; rfl), c.2.1, c.2.2.1, by rw [← r1.len]; exact c.2.2.2, PostV.tup hs (rep (α := Unit) r1 _) p⟩
      · exact p.elim
  · split at p
    · rename_i l e
      split at p
      · rename_i c
        obtain ⟨a, xs, rfl, ha, ra⟩ := lst_of hs rdx e
        cases rdy
        exact op_rep pins s σ H _ _ v u Q I rx ry ⟨a, _, xs, rfl, rfl, ha, c.1, c.2.1, by rw [← ra.len]; exact c.2.2, PostV.lst hs (rep (α := Unit) ra _) p⟩
      · exact p.elim
    · exact p.elim
  · exact p.elim
theorem o_div : OpR X (binaryOp .FloorDiv) (r2 g oDiv) := by
  intro pins s σ H x y v u Q I rx ry ⟨ρ, st, dx, dy, hs, rdx, rdy, p⟩
  unfold oDiv at p
  split at p
  · cases rdx; cases rdy
    split at p
    · rename_i c
      exact op_fdiv pins s σ H _ _ v u Q I rx ry ⟨_, _, rfl, rfl, c, PostV.ok hs (.int _) p⟩
    · exact p.elim
  · exact p.elim
theorem o_mod : OpR X (binaryOp .Mod) (r2 g oMod) := by
  intro pins s σ H x y v u Q I rx ry ⟨ρ, st, dx, dy, hs, rdx, rdy, p⟩
  unfold oMod at p
  split at p
  · cases rdx; cases rdy
    split at p
    · rename_i c
      exact op_mod pins s σ H _ _ v u Q I rx ry ⟨_, _, rfl, rfl, c, PostV.ok hs (.int _) p⟩
    · exact p.elim
  · exact p.elim
theorem o_pow : OpR X (binaryOp .Pow) (r2 g oPow) := by
  intro pins s σ H x y v u Q I rx ry ⟨ρ, st, dx, dy, hs, rdx, rdy, p⟩
  unfold oPow at p
  split at p
  · cases rdx; cases rdy
    split at p
    · rename_i c
      exact op_pow pins s σ H _ _ v u Q I rx ry ⟨_, _, rfl, rfl, c, PostV.ok hs (.int _) p⟩
    · exact p.elim
  · exact p.elim
theorem o_neg : UnR X (unaryOp .USub) (r1 g oNeg) := by
  intro pins s σ H x v Q I rx ⟨ρ, st, dx, hs, rdx, p⟩
  unfold oNeg at p
  split at p
  · cases rdx
    exact un_neg pins s σ H _ v Q I rx ⟨_, rfl, PostV.ok hs (.int _) p⟩
  · exact p.elim
theorem lenNe_at {x y : D} {vx vy : V} {st : Sr} {ρ : Rho} {H : Hp} (hs : Sto g ρ st H) (rx : RelD g.K ρ H x vx) (ry : RelD g.K ρ H y vy) (c : lenNe st x y = true) :
    ∃ a b xs ys, vx = .ref a ∧ vy = .ref b ∧ H a = some (.lst xs) ∧ H b = some (.lst ys) ∧ xs.length ≠ ys.length := by
  unfold lenNe at c
  cases e1 : asL st x with
  | none => rw [e1] at c; cases c
  | some l =>
    cases e2 : asL st y with
    | none => rw [e1, e2] at c; cases c
    | some m =>
      rw [e1, e2] at c
      obtain ⟨a, xs, h1, h2, h3⟩ := lst_of hs rx e1
      obtain ⟨b, ys, k1, k2, k3⟩ := lst_of hs ry e2
      exact ⟨a, b, xs, ys, h1, k1, h2, k2, by rw [← h3.len, ← k3.len]; exact of_decide_eq_true c⟩
theorem lens_at {pins : List (Addr × Obj)} {s : Shared} {σ : L2.St} {H : Hp} (I : Inv X pins σ H s) {a b : Addr} {xs ys : List V} (h1 : H a = some (.lst xs)) (h2 : H b = some (.lst ys)) (hn : xs.length ≠ ys.length) :
    ∃ is js, s.heap.IsList a is ∧ s.heap.IsList b js ∧ (is.size != js.size) = true := by
  obtain ⟨is, rv, ⟨o, n, q1, q2, _, q3⟩, _⟩ := I.list (.inl (.inl h1))
  obtain ⟨js, rv2, ⟨o2, n2, p1, p2, _, p3⟩, _⟩ := I.list (.inl (.inl h2))
  refine ⟨_, _, ⟨o, q1, q2, n, q3⟩, ⟨o2, p1, p2, n2, p3⟩, ?_⟩
  have e1 := rv.length
  have e2 := rv2.length
  simp only [bne_iff_ne, ne_eq, List.size_toArray]
  omega
theorem rc_lens {A : Around} {s : Shared} {l b : Addr} {is js : Array Value} {E Q : Value → Shared → Prop} {P : Program} {w : World} (hl : s.heap.IsList l is) (hb : s.heap.IsList b js) (hsz : (is.size != js.size) = true) (hu : A.units < cLine) :
    (Q (.bool false) s → wpAny (model P w) A (richCompare .Eq (.ref l) (.ref b)) Q E s) ∧ (Q (.bool true) s → wpAny (model P w) A (richCompare .NotEq (.ref l) (.ref b)) Q E s) := by
  obtain ⟨⟨cls, dd, data, sl⟩, ho, hc, n, hd⟩ := id hl
  obtain ⟨⟨cls2, dd2, data2, sl2⟩, ho2, hc2, n2, hd2⟩ := id hb
  simp only at hc hd hc2 hd2
  subst hc hd hc2 hd2
  have ta : s.TypeIs (.ref l) "list" := ⟨_, ho, rfl⟩
  have tb : s.TypeIs (.ref b) "list" := ⟨_, ho2, rfl⟩
  refine ⟨fun h => ?_, fun h => ?_⟩
  · exact wpAny_richCompare_same_room (op := .Eq) ta tb F.slot_list_eq (call_meets F.slot_list_eq ta F.entry_list_eq (F.args_list_eq_2 _ _) (SeqAt.list_eq_lengthsAt l b is js n n2 dd dd2 sl sl2 hsz) ⟨ho, ho2, (fun x => nomatch x), h⟩) hu
  · exact wpAny_richCompare_same_room (op := .NotEq) ta tb F.slot_list_ne (call_meets F.slot_list_ne ta F.entry_list_ne (F.args_list_ne_2 _ _) (SeqAt.list_ne_lengthsAt l b is js n n2 dd dd2 sl sl2 hsz) ⟨ho, ho2, (fun x => nomatch x), h⟩) hu
theorem o_eq (hu : X.A.units + 64 < cLine) : OpR X (compareOp .Eq) (r2 g oEq) := by
  intro pins s σ H x y v u Q I rx ry ⟨ρ, st, dx, dy, hs, rdx, rdy, p⟩
  unfold oEq at p
  split at p
  · rename_i c
    obtain ⟨a, b, xs, ys, rfl, rfl, h1, h2, hn⟩ := lenNe_at hK hs rdx rdy c
    obtain ⟨is, js, q1, q2, q3⟩ := lens_at hK I h1 h2 hn
    cases rx; cases ry
    exact (rc_lens hK q1 q2 q3 (by omega)).1 ⟨.bl false, H, I, rfl, PostV.ok hs (.bl _) p⟩
  obtain ⟨a, b, h1, h2, h3, h4, p⟩ := withPy_ok hs rdx rdy p
  exact op_eqD hu pins s σ H _ _ v u Q I rx ry ⟨a, b, hK ▸ h1, hK ▸ h2, h3, h4, PostV.ok hs (.bl _) p⟩
theorem o_ne (hu : X.A.units + 64 < cLine) : OpR X (compareOp .NotEq) (r2 g oNe) := by
  intro pins s σ H x y v u Q I rx ry ⟨ρ, st, dx, dy, hs, rdx, rdy, p⟩
  unfold oNe at p
  split at p
  · rename_i c
    obtain ⟨a, b, xs, ys, rfl, rfl, h1, h2, hn⟩ := lenNe_at hK hs rdx rdy c
    obtain ⟨is, js, q1, q2, q3⟩ := lens_at hK I h1 h2 hn
    cases rx; cases ry
    exact (rc_lens hK q1 q2 q3 (by omega)).2 ⟨.bl true, H, I, rfl, PostV.ok hs (.bl _) p⟩
  obtain ⟨a, b, h1, h2, h3, h4, p⟩ := withPy_ok hs rdx rdy p
  exact op_neD hu pins s σ H _ _ v u Q I rx ry ⟨a, b, hK ▸ h1, hK ▸ h2, h3, h4, PostV.ok hs (.bl _) p⟩
theorem o_int {op : CmpOp} {f : Int → Int → Bool} (h : OpR X (compareOp op) (rI0 fun i j => .bl (f i j))) : OpR X (compareOp op) (r2 g (oInt f)) := by
  intro pins s σ H x y v u Q I rx ry ⟨ρ, st, dx, dy, hs, rdx, rdy, p⟩
  unfold oInt at p
  split at p
  · cases rdx; cases rdy
    exact h pins s σ H _ _ v u Q I rx ry ⟨_, _, rfl, rfl, PostV.ok hs (.bl _) p⟩
  · exact p.elim
theorem o_is : OpR X (compareOp .Is) (r2 g (oIs false)) := by
  intro pins s σ H x y v u Q I rx ry ⟨ρ, st, dx, dy, hs, rdx, rdy, p⟩
  unfold oIs at p
  split at p
  · cases rdy
    refine op_isN pins s σ H _ _ v u Q I rx ry ⟨rfl, ?_⟩
    have q := PostV.ok hs (.bl _) p
    cases rdx <;> exact q
  · cases rdy
    split at p
    · cases rdx
      refine op_isBl pins s σ H _ _ v u Q I rx ry ⟨_, _, rfl, rfl, ?_⟩
      have q := PostV.ok hs (.bl _) p
      rwa [Bool.bne_false] at q
    · exact p.elim
  · exact p.elim
theorem o_isnot : OpR X (compareOp .IsNot) (r2 g (oIs true)) := by
  intro pins s σ H x y v u Q I rx ry ⟨ρ, st, dx, dy, hs, rdx, rdy, p⟩
  unfold oIs at p
  split at p
  · cases rdy
    refine op_notN pins s σ H _ _ v u Q I rx ry ⟨rfl, ?_⟩
    have q := PostV.ok hs (.bl _) p
    cases rdx <;> exact q
  · cases rdy
    split at p
    · cases rdx
      refine op_notBl pins s σ H _ _ v u Q I rx ry ⟨_, _, rfl, rfl, ?_⟩
      have q := PostV.ok hs (.bl _) p
      rwa [Bool.bne_true] at q
    · exact p.elim
  · exact p.elim
end
end L3

/-! L3L: in, subscripts, slices, stores -/
namespace L3
open PySem PySem.Spec PyProof.Rows L2

/-! ### dicts -/
def put {κ : Type} [DecidableEq κ] (k : κ) (d : D) (l : List (κ × D)) : List (κ × D) :=
  if (l.any fun kv => decide (kv.1 = k)) = true then l.map (fun kv => if kv.1 = k then (kv.1, d) else kv) else l ++ [(k, d)]
section
variable {g : G} {ρ : Rho} {s : Sr} {H : Hp}
theorem key_of {d : D} {v : V} {k : Key} (r : RelD g.K ρ H d v) (e : keyOf d = some k) : v = kV k := by
  cases r with
  | int i => cases e; rfl
  | str x => cases e; rfl
  | _ => cases e
theorem keys_of : ∀ {ds : List D} {vs : List V} {ks : List Key}, RelDs g.K ρ H ds vs → keysOf ds = some ks → vs = ks.map kV
  | _, _, _, .nil, e => by unfold keysOf at e; cases e; rfl
  | _, _, _, .cons h r, e => by
    unfold keysOf at e
    obtain ⟨k, e1, e2⟩ := Option.bind_eq_some_iff.mp e
    obtain ⟨ks, e3, e4⟩ := Option.bind_eq_some_iff.mp e2
    cases e4
    rw [key_of h e1, keys_of r e3]; rfl
def RelO' (K : PySem.W.Frag) (ρ : Rho) (H : Hp) : Option D → Option V → Prop
  | some d, some v => RelD K ρ H d v
  | none, none => True
  | _, _ => False
theorem look_k {k : Key} : ∀ {ds : List (Key × D)} {kvs : List (Key × V)}, RelK g.K ρ H ds kvs → RelO' g.K ρ H (look k ds) (valV kvs k)
  | _, _, .nil => trivial
  | _, _, .cons (k := j) h r => by
    unfold look
    by_cases e : j = k
    · rw [if_pos e, valV_pos e]; exact h
    · rw [if_neg e, valV_neg e]; exact look_k r
theorem look_t {k : List Key} : ∀ {ds : List (List Key × D)} {kvs : List (List Key × V)}, RelT g.K ρ H ds kvs → RelO' g.K ρ H (look k ds) (valV kvs k)
  | _, _, .nil => trivial
  | _, _, .cons (k := j) h r => by
    unfold look
    by_cases e : j = k
    · rw [if_pos e, valV_pos e]; exact h
    · rw [if_neg e, valV_neg e]; exact look_t r
theorem dk_at {d : D} {v : V} {l : List (Key × D)} (hs : Sto g ρ s H) (r : RelD g.K ρ H d v) (e : asDk s d = some l) : ∃ a kvs, v = .ref a ∧ Rd H a (.dK kvs) ∧ RelK g.K ρ H l kvs := by
  cases r with
  | dk n h rs => cases e; exact ⟨_, _, rfl, .inr ⟨_, h⟩, rs⟩
  | ref ea =>
    obtain ⟨c, o, q1, q2, q3⟩ := hs.cell _ _ ea
    unfold asDk at e
    simp only [q1] at e
    cases q3 with
    | dk rs => cases e; exact ⟨_, _, rfl, .inl q2, rs⟩
    | _ => cases e
  | _ => cases e
theorem dt_at {d : D} {v : V} {l : List (List Key × D)} (hs : Sto g ρ s H) (r : RelD g.K ρ H d v) (e : asDt s d = some l) : ∃ a kvs, v = .ref a ∧ Rd H a (.dT kvs) ∧ RelT g.K ρ H l kvs := by
  cases r with
  | dt n h rs => cases e; exact ⟨_, _, rfl, .inr ⟨_, h⟩, rs⟩
  | ref ea =>
    obtain ⟨c, o, q1, q2, q3⟩ := hs.cell _ _ ea
    unfold asDt at e
    simp only [q1] at e
    cases q3 with
    | dt rs => cases e; exact ⟨_, _, rfl, .inl q2, rs⟩
    | _ => cases e
  | _ => cases e
theorem dget_at {d k : D} {vd vk : V} {o : Option D} (hs : Sto g ρ s H) (rd : RelD g.K ρ H d vd) (rk : RelD g.K ρ H k vk) (e : dget s d k = some o) : ∃ a r, vd = .ref a ∧ DGet H a vk r ∧ RelO' g.K ρ H o r := by
  unfold dget at e
  cases e1 : asDk s d with
  | some l =>
    rw [e1] at e
    obtain ⟨kk, e2, e3⟩ := Option.map_eq_some_iff.mp e
    obtain ⟨a, kvs, rfl, h, rs⟩ := dk_at hs rd e1
    subst e3
    exact ⟨a, _, rfl, .inl ⟨kvs, kk, h, key_of rk e2, rfl⟩, look_k rs⟩
  | none =>
    rw [e1] at e
    cases e4 : asDt s d with
    | none => rw [e4] at e; cases e
    | some l =>
      rw [e4] at e
      simp only at e
      split at e
      · rename_i ks
        obtain ⟨kk, e2, e3⟩ := Option.map_eq_some_iff.mp e
        obtain ⟨a, kvs, rfl, h, rs⟩ := dt_at hs rd e4
        subst e3
        cases rk with
        | tup hk rks =>
          refine ⟨a, _, rfl, .inr ⟨kvs, kk, _, h, rfl, ?_, rfl⟩, look_t rs⟩
          rw [← keys_of rks e2]; exact hk.2
      · cases e
theorem RelO'.isSome {o : Option D} {r : Option V} (h : RelO' g.K ρ H o r) : r.isSome = o.isSome := by
  cases o <;> cases r <;> first | rfl | exact h.elim
end

section
variable {X : Cx} {g : G} (hK : X.K = g.K)
include hK
theorem in_rule (n : Bool) {op : CmpOp} (hu : X.A.units + 65 < cLine)
    (hstr : OpR X (compareOp op) (fun x y H Q => ∃ i j, x = .str i ∧ y = .str j ∧ Q (.bl ((!(Builtin.Str.occurrences j i 0 j.length 1).isEmpty) != n)) H))
    (hl : ∀ {A : Around} {E : Value → Shared → Prop} {s : Shared} {c x : Value} {xs : List PyData} {d : PyData} {as bs : List Addr} {Q : Value → Shared → Prop}, Reads s.heap c (.list xs) as → Reads s.heap x d bs → PyData.canLayAll0 xs = true → d.canLay0 = true → A.units + 1 + min (PyData.depthAll xs) d.depth < cLine → Q (.bool ((xs.any fun y => PyData.eqv y d) != n)) s → wpAny (model X.prog X.w) A (compareOp op x c) Q E s)
    (ht : ∀ {A : Around} {E : Value → Shared → Prop} {s : Shared} {c x : Value} {xs : List PyData} {d : PyData} {as bs : List Addr} {Q : Value → Shared → Prop}, Reads s.heap c (.tuple xs) as → Reads s.heap x d bs → PyData.canLayAll0 xs = true → d.canLay0 = true → A.units + 1 + min (PyData.depthAll xs) d.depth < cLine → Q (.bool ((xs.any fun y => PyData.eqv y d) != n)) s → wpAny (model X.prog X.w) A (compareOp op x c) Q E s)
    (hd : ∀ {pins : List (Addr × Obj)} {σ : L2.St} {H : Hp} {s : Shared} {a : Addr} {y : V} {u : Value} {o : Option V} {A : Around} {E : Value → Shared → Prop} {Q : Value → Shared → Prop}, A.units + 1 < cLine → Inv X pins σ H s → DGet H a y o → RelV y u → (∀ s', Inv X pins σ H s' → Q (.bool (o.isSome != n)) s') → wpAny (model X.prog X.w) A (compareOp op u (.ref a)) Q E s) :
    OpR X (compareOp op) (r2 g (oIn n)) := by
  intro pins s σ H x y v u Q I rx ry ⟨ρ, st, dx, dy, hs, rdx, rdy, p⟩
  have gen : PostV g ρ H Q (match asQ st dy with
    | some l => (match D.py dx, D.pys l with
      | some p, some ps => if SeqAt.shaped p && SeqAt.shaped (.list ps) then .ok (.bl ((ps.any fun z => PyData.eqv z p) != n)) st else .bad
      | _, _ => .bad)
    | none => match dget st dy dx with
      | some o => .ok (.bl (o.isSome != n)) st
      | none => .bad) → wpAny (model X.prog X.w) X.A (compareOp op v u) (EP X pins σ Q) X.xe s := by
    intro p
    cases e : asQ st dy with
    | some l =>
      rw [e] at p
      simp only at p
      cases e1 : D.py dx with
      | none => rw [e1] at p; exact p.elim
      | some a =>
        cases e2 : D.pys l with
        | none => rw [e1, e2] at p; exact p.elim
        | some b =>
          rw [e1, e2] at p
          simp only at p
          split at p
          · rename_i c
            rw [Bool.and_eq_true] at c
            obtain ⟨ad, xs, rfl, hq, rs⟩ := seq_of hs rdy e
            obtain ⟨as, h1⟩ := Dp.reads I a x v (hK ▸ dp_of rdx e1) rx
            have q := PostV.ok hs (.bl _) p
            have c2 := SeqAt.canLay_of_shaped c.2
            rcases hq with hq | hq
            · obtain ⟨bs, h2⟩ := Dp.reads I (.list b) _ u (.lst (hK ▸ hq) (hK ▸ dps_of rs e2)) ry
              exact hl h2 h1 c2 (SeqAt.canLay_of_shaped c.1) (room_in_shaped c.1 hu) ⟨.bl _, H, I, rfl, q⟩
            · obtain ⟨bs, h2⟩ := Dp.reads I (.tuple b) _ u (.tup (hK ▸ hq) (hK ▸ dps_of rs e2)) ry
              exact ht h2 h1 c2 (SeqAt.canLay_of_shaped c.1) (room_in_shaped c.1 hu) ⟨.bl _, H, I, rfl, q⟩
          · exact p.elim
    | none =>
      rw [e] at p
      simp only at p
      cases e1 : dget st dy dx with
      | none => rw [e1] at p; exact p.elim
      | some o =>
        rw [e1] at p
        obtain ⟨a, r, rfl, hg, ho⟩ := dget_at hs rdy rdx e1
        have q := PostV.ok hs (.bl _) p
        cases ry
        exact hd (by omega) I hg rx fun s' I' => ⟨.bl _, H, I', rfl, by rw [ho.isSome]; exact q⟩
  unfold oIn at p
  split at p
  · cases rdx; cases rdy
    exact hstr pins s σ H _ _ v u Q I rx ry ⟨_, _, rfl, rfl, PostV.ok hs (.bl _) p⟩
  · exact gen p
theorem o_in (hu : X.A.units + 65 < cLine) : OpR X (compareOp .In) (r2 g (oIn false)) :=
  in_rule hK false hu (fun pins s σ H x y v u Q I rx ry ⟨i, j, e1, e2, q⟩ => op_in_str pins s σ H x y v u Q I rx ry ⟨i, j, e1, e2, by rwa [Bool.bne_false] at q⟩)
    (fun h1 h2 h3 h4 h5 q => SeqAt.in_list_reads h1 h2 h3 h4 h5 (by rwa [Bool.bne_false] at q))
    (fun h1 h2 h3 h4 h5 q => SeqAt.in_tuple_reads h1 h2 h3 h4 h5 (by rwa [Bool.bne_false] at q))
    (fun h1 I h2 h3 q => d_in h1 I h2 h3 fun s' I' => by have := q s' I'; rwa [Bool.bne_false] at this)
theorem o_notin (hu : X.A.units + 65 < cLine) : OpR X (compareOp .NotIn) (r2 g (oIn true)) :=
  in_rule hK true hu (fun pins s σ H x y v u Q I rx ry ⟨i, j, e1, e2, q⟩ => L2.op_notin_str pins s σ H x y v u Q I rx ry ⟨i, j, e1, e2, by rwa [Bool.bne_true] at q⟩)
    (fun h1 h2 h3 h4 h5 q => SeqAt.notIn_list_reads h1 h2 h3 h4 h5 (by rwa [Bool.bne_true] at q))
    (fun h1 h2 h3 h4 h5 q => SeqAt.notIn_tuple_reads h1 h2 h3 h4 h5 (by rwa [Bool.bne_true] at q))
    (fun h1 I h2 h3 q => d_notIn h1 I h2 h3 fun s' I' => by have := q s' I'; rwa [Bool.bne_true] at this)
end
end L3

/-! L3M: subscripts, slices, stores -/
namespace L3
open PySem PySem.Spec PyProof.Rows L2

def oIdx (x y : D) (s : Sr) : R D := match asQ s x with
  | some l => (match y with | .int i => (match atI l i with | some d => .ok d s | none => .bad) | _ => .bad)
  | none => match x with
    | .str z => (match y with | .int i => if z.length ≤ sizeLine then (match atI z.cps.toList i with | some c => .ok (.str ⟨#[c]⟩) s | none => .bad) else .bad | _ => .bad)
    | x => match dget s x y with | some (some d) => .ok d s | _ => .bad
def cutD (l : List D) (lo hi : Option Int) : List D := (l.drop (HT.sIx l.length 0 lo)).take (HT.sIx l.length l.length hi - HT.sIx l.length 0 lo)
def oSlice (x : D) (lo hi : Option Int) (s : Sr) : R D := match x with
  | .tup l => .ok (.tup (cutD l lo hi)) s
  | .str z => if z.length ≤ sizeLine then .ok (.str (cutS z lo hi)) s else .bad
  | x => match asL s x with | some l => .ok (.lst (cutD l lo hi)) s | none => .bad
def eSlice (fe : F) (fl fh : Env' → Sr → R (Option Int)) : F := fun env s => (fe env s).bind fun x s => (fl env s).bind fun l s => (fh env s).bind fun h s => oSlice x l h s
def pNone : Env' → Sr → R (Option Int) := fun _ s => .ok none s
def pSome (f : F) : Env' → Sr → R (Option Int) := fun env s => (f env s).bind fun d s => match d with | .int i => .ok (some i) s | _ => .bad
def eRev (fe : F) : F := fun env s => (fe env s).bind fun x s => match asQ s x with | some l => (match asT x with | some _ => .bad | none => .ok (.lst l.reverse) s) | none => .bad
abbrev tO (g : G) (W : WX) (f : Env' → Sr → R (Option Int)) : TO := tG g (fun _ _ a b => a = b) W f
/-- a store o[i] = v -/
def setD (s : Sr) (o i v : D) : Option Sr := match o with
  | .ref n => (match s[n]? with
    | some (.lst l) => (match i with | .int k => (ixN l.length k).map fun j => s.set n (.lst (l.set j v)) | _ => none)
    | some (.dk l) => if l.length < sizeLine then (keyOf i).map fun k => s.set n (.dk (put k v l)) else none
    | some (.dt l) => if l.length < sizeLine then (match i with | .tup ks => (keysOf ks).map fun k => s.set n (.dt (put k v l)) | _ => none) else none
    | _ => none)
  | _ => none
def sSet (fe fo fi : F) : FS := fun env s => (fe env s).bind fun v s => (fo env s).bind fun o s => (fi env s).bind fun i s => match setD s o i v with | some s => .ok (.nx env) s | none => .bad

section
variable {K : PySem.W.Frag} {ρ : Rho} {H : Hp}
theorem RelDs.get : ∀ {ds : List D} {vs : List V} {i : Nat} {d : D}, RelDs K ρ H ds vs → ds[i]? = some d → ∃ v, vs[i]? = some v ∧ RelD K ρ H d v
  | _, _, _, _, .nil, e => by simp at e
  | _, _, 0, _, .cons r _, e => by simp at e; subst e; exact ⟨_, rfl, r⟩
  | _, _, i + 1, d, .cons _ t, e => by
    obtain ⟨u, h1, h2⟩ := RelDs.get (i := i) (d := d) t (by simpa using e)
    exact ⟨u, by simpa using h1, h2⟩
theorem RelDs.set {d : D} {v : V} (r : RelD K ρ H d v) : ∀ {ds : List D} {vs : List V} (i : Nat), RelDs K ρ H ds vs → RelDs K ρ H (ds.set i d) (vs.set i v)
  | _, _, _, .nil => .nil
  | _, _, 0, .cons _ t => .cons r t
  | _, _, i + 1, .cons q t => .cons q (RelDs.set r i t)
theorem RelDs.take : ∀ {ds : List D} {vs : List V} (n : Nat), RelDs K ρ H ds vs → RelDs K ρ H (ds.take n) (vs.take n)
  | _, _, 0, _ => .nil
  | _, _, _ + 1, .nil => .nil
  | _, _, n + 1, .cons r t => .cons r (RelDs.take n t)
theorem RelDs.drop : ∀ {ds : List D} {vs : List V} (n : Nat), RelDs K ρ H ds vs → RelDs K ρ H (ds.drop n) (vs.drop n)
  | _, _, 0, r => r
  | _, _, _ + 1, .nil => .nil
  | _, _, n + 1, .cons _ t => RelDs.drop n t
theorem RelDs.rev : ∀ {ds : List D} {vs : List V}, RelDs K ρ H ds vs → RelDs K ρ H ds.reverse vs.reverse
  | _, _, .nil => .nil
  | _, _, .cons r t => by rw [List.reverse_cons, List.reverse_cons]; exact (RelDs.rev t).app (.cons r .nil)
theorem RelDs.atI {ds : List D} {vs : List V} {i : Int} {d : D} (r : RelDs K ρ H ds vs) (e : L2.atI ds i = some d) : ∃ v, L2.atI vs i = some v ∧ RelD K ρ H d v := by
  unfold L2.atI at e ⊢
  obtain ⟨j, e1, e2⟩ := Option.bind_eq_some_iff.mp e
  rw [r.len] at e1
  obtain ⟨v, q, rv⟩ := r.get e2
  exact ⟨v, by rw [e1]; exact q, rv⟩
theorem RelDs.cut {ds : List D} {vs : List V} (r : RelDs K ρ H ds vs) (lo hi : Option Int) : RelDs K ρ H (cutD ds lo hi) (cutV vs lo hi) := by
  unfold cutD cutV
  rw [← r.len]
  exact (r.drop _).take _
end

section
variable {X : Cx} {g : G} {W : WX} {pos : Pos} (hK : X.K = g.K)
include hK
theorem ix_D (hu : X.A.units + 1 < cLine) : IxR X (r2 g oIdx) := by
  intro value slice pins s σ H x y v u Q I rx ry h hsub
  obtain ⟨ρ, st, dx, dy, hs, rdx, rdy, p⟩ := h
  unfold oIdx at p
  cases e : asQ st dx with
  | some l =>
    rw [e] at p
    simp only at p
    cases dy with
    | int i =>
      simp only at p
      cases e2 : atI l i with
      | none => rw [e2] at p; exact p.elim
      | some d =>
        rw [e2] at p
        obtain ⟨a, xs, rfl, hq, rs⟩ := seq_of hs rdx e
        obtain ⟨w, q1, rw1⟩ := rs.atI e2
        have q := PostV.ok hs rw1 p
        cases rdy
        rcases hq with hq | hq
        · exact ix_list value slice pins s σ H _ _ v u Q I rx ry ⟨a, xs, i, w, rfl, rfl, hK ▸ hq, q1, q⟩ hsub
        · exact ix_tup value slice pins s σ H _ _ v u Q I rx ry ⟨a, xs, i, w, rfl, rfl, hK ▸ hq, q1, q⟩ hsub
    | _ => exact p.elim
  | none =>
    rw [e] at p
    have dct : PostV g ρ H Q (match dget st dx dy with | some (some d) => .ok d st | _ => .bad) → wpAny (model X.prog X.w) X.A (subscriptTail value slice v u) (EP X pins σ Q) X.xe s := by
      intro p
      cases e1 : dget st dx dy with
      | none => rw [e1] at p; exact p.elim
      | some o =>
        cases o with
        | none => rw [e1] at p; exact p.elim
        | some d =>
          rw [e1] at p
          obtain ⟨a, r, rfl, hg, ho⟩ := dget_at hs rdx rdy e1
          cases r with
          | none => exact ho.elim
          | some w =>
            have q := PostV.ok hs (show RelD g.K ρ H d w from ho) p
            cases rx
            exact tail_any (ops := [.ref a, u]) (dict_typeIs I hg) PySem.F.slot_dict_getitem.lookup (d_getItem hu I hg ry fun w' s' I' rw' => ⟨w, H, I', rw', q⟩) hsub
    cases dx with
    | str z =>
      simp only at p
      cases dy with
      | int i =>
        simp only at p
        split at p
        · rename_i hz
          cases e2 : atI z.cps.toList i with
          | none => rw [e2] at p; exact p.elim
          | some c =>
            rw [e2] at p
            have q := PostV.ok hs (.str _) p
            cases rdx
            cases rdy
            exact ix_str value slice pins s σ H _ _ v u Q I rx ry ⟨z, i, c, rfl, rfl, hz, e2, q⟩ hsub
        · exact p.elim
      | _ => exact p.elim
    | _ => exact dct p
theorem sl_D : SlR X (fun x lo hi H Q => ∃ ρ s dx, Sto g ρ s H ∧ RelD g.K ρ H dx x ∧ PostV g ρ H Q (oSlice dx lo hi s)) := by
  intro pins s σ H x v vl vu lo hi sl Q I rx hsl pl pu ⟨ρ, st, dx, hs, rdx, p⟩
  have lists : ∀ l, asL st dx = some l → PostV g ρ H Q (.ok (.lst (cutD l lo hi)) st) → ∃ T id, typeLookup (.type T) "__getitem__" = pure (some (.builtin id)) ∧ s.TypeIs v T ∧ wpAny (model X.prog X.w) X.A (getItem v (.ref sl)) (EP X pins σ Q) X.xe s := by
    intro l e p
    obtain ⟨a, xs, rfl, ha, rs⟩ := lst_of hs rdx e
    exact sl_list pins s σ H _ v vl vu lo hi sl Q I rx hsl pl pu ⟨a, xs, rfl, .inl (.inl ha), PostV.lst hs (rs.cut lo hi) p⟩
  unfold oSlice at p
  cases dx with
  | tup l =>
    cases rdx with
    | tup h rs =>
      refine sl_tupA pins s σ H _ v vl vu lo hi sl Q I rx hsl pl pu ⟨_, _, rfl, hK ▸ h.sq, fun hw => ?_, fun _ => PostV.tup hs (rs.cut lo hi) p⟩
      have e : cutD l lo hi = l := by
        unfold cutD
        rw [← rs.len] at hw
        rw [hw.1, hw.2, List.drop_zero, Nat.sub_zero, List.take_length]
      have p : PostV g ρ H Q (.ok (.tup (cutD l lo hi)) st) := p
      rw [e] at p
      exact PostV.ok hs (.tup h rs) p
  | str z =>
    simp only at p
    split at p
    · rename_i hz
      cases rdx
      exact sl_str pins s σ H _ v vl vu lo hi sl Q I rx hsl pl pu ⟨z, rfl, hz, PostV.ok hs (.str _) p⟩
    · exact p.elim
  | _ =>
    simp only at p
    split at p
    · rename_i l e
      exact lists l e p
    · exact p.elim
omit hK
theorem NoX.match {x y : D} {s : Sr} : NoX (oIdx x y s) := by
  intro c fs s' e
  unfold oIdx at e
  split at e
  · split at e
    · split at e <;> cases e
    · cases e
  · split at e
    · split at e
      · split at e
        · split at e <;> cases e
        · cases e
      · cases e
    · split at e <;> cases e
include hK
theorem l_idx {a b : Expr} {fa fb : F} (hu : X.A.units + 1 < cLine) (ha : PE X a (tI g W fa)) (hb : PE X b (tI g W fb)) (hp : PlainIx b) : PE X (.Subscript a b pos) (tI g W (eBin oIdx fa fb)) :=
  (pe_ix (ix_D hK hu) ha hb hp).imp fun σ H Q ⟨ρ, s, env, hs, hl, hp⟩ => ⟨ρ, s, env, hs, hl, hp.bind.imp fun x H1 ⟨ρ1, s1, d, u1, hs1, rd, p1⟩ =>
    ⟨ρ1, s1, env, hs1, hl.up u1, p1.bind.imp fun y H2 ⟨ρ2, s2, e, u2, hs2, re, p2⟩ => ⟨ρ2, s2, d, e, hs2, rd.up u2, re, p2.v NoX.match⟩⟩⟩
omit hK
theorem l_pnone : PO X none (tO g W pNone) := ⟨fun pins s σ H Q I ⟨ρ, st, env, hs, hl, hp⟩ => po_none.run pins s σ H Q I (hp ρ H none .refl hs rfl)⟩
theorem l_psome {e : Expr} {f : F} (h : PE X e (tI g W f)) : PO X (some e) (tO g W (pSome f)) := ⟨fun pins s σ H Q I ⟨ρ, st, env, hs, hl, hp⟩ => (po_some h).run pins s σ H Q I ⟨ρ, st, env, hs, hl, hp.bind.imp fun x H1 ⟨ρ1, s1, d, u1, hs1, rd, p1⟩ => by
  cases rd with
  | int i => exact ⟨i, rfl, p1 ρ1 H1 _ .refl hs1 rfl⟩
  | _ => exact p1.elim⟩⟩
include hK
theorem l_slice {e : Expr} {lo hi : Option Expr} {fe : F} {fl fh : Env' → Sr → R (Option Int)} {p2 : Pos} (he : PE X e (tI g W fe)) (hl : PO X lo (tO g W fl)) (hu : PO X hi (tO g W fh)) : PE X (.Subscript e (.Slice lo hi none p2) pos) (tI g W (eSlice fe fl fh)) :=
  (pe_slice (sl_D hK) he hl hu).imp fun σ H Q ⟨ρ, s, env, hs, hl, hp⟩ => ⟨ρ, s, env, hs, hl, hp.bind.imp fun x H1 ⟨ρ1, s1, d, u1, hs1, rd, p1⟩ =>
    ⟨ρ1, s1, env, hs1, hl.up u1, (p1.bind (Rel' := fun _ _ a b => a = b)).imp fun l H2 ⟨ρ2, s2, l', u2, hs2, el, p2⟩ => ⟨ρ2, s2, env, hs2, (hl.up u1).up u2, (p2.bind (Rel' := fun _ _ a b => a = b)).imp fun h H3 ⟨ρ3, s3, h', u3, hs3, eh, p3⟩ => by
      obtain rfl : l' = l := el
      obtain rfl : h' = h := eh
      refine ⟨ρ3, s3, d, hs3, (rd.up u2).up u3, p3.v ?_⟩
      intro c fs s' e
      unfold oSlice at e
      split at e
      · cases e
      · split at e <;> cases e
      · split at e <;> cases e⟩⟩⟩
theorem l_rev {e : Expr} {fe : F} {k : Nat} {p1 p2 p3 : Pos} (he : PE X e (tI g W fe)) : PE X (.Subscript e (.Slice none none (some (.UnaryOp .USub (.Constant (.int 1) k p1) p2)) p3) pos) (tI g W (eRev fe)) :=
  (pe_revL he).imp fun σ H Q ⟨ρ, s, env, hs, hl, hp⟩ => ⟨ρ, s, env, hs, hl, hp.bind.imp fun x H1 ⟨ρ1, s1, d, u1, hs1, rd, p1⟩ => by
    cases e : asQ s1 d with
    | none => rw [e] at p1; exact p1.elim
    | some l =>
      rw [e] at p1
      simp only at p1
      cases e2 : asT d with
      | some _ => rw [e2] at p1; exact p1.elim
      | none =>
        rw [e2] at p1
        obtain ⟨a, xs, rfl, hq, rs⟩ := seq_of hs1 rd e
        rcases hq with hq | hq
        · exact ⟨a, xs, rfl, hK ▸ hq, PostV.lst hs1 rs.rev (p1.v (fun _ _ _ e => by cases e))⟩
        · unfold asQ at e
          split at e
          · cases e2
          · cases e2
          · cases rd with
            | lck n h r =>
              cases e
              exact ⟨_, _, rfl, .inl (.inr ⟨_, h⟩), PostV.lst hs1 r.rev (p1.v (fun _ _ _ e => by cases e))⟩
            | lkk h r =>
              cases e
              exact ⟨_, _, rfl, hK ▸ .inr h, PostV.lst hs1 r.rev (p1.v (fun _ _ _ e => by cases e))⟩
          · obtain ⟨a', xs', ea, ha, rs'⟩ := lst_of hs1 rd e
            cases ea
            exact ⟨_, _, rfl, .inl (.inl ha), PostV.lst hs1 rs'.rev (p1.v (fun _ _ _ e => by cases e))⟩⟩
end

/-! ### stores -/
section
variable {g : G} {ρ : Rho} {s : Sr} {H : Hp}
theorem Sto.write {n : Nat} {a : Addr} {c : Cell} {o : HO} (hs : Sto g ρ s H) (e : ρ.c[n]? = some a) (r : CellR g ρ H c o) (hc : ∀ q, c ≠ .tab q := by intro q z; cases z) : Up ρ ρ H (upd H a o) ∧ Sto g ρ (s.set n c) (upd H a o) := by
  have ma : a ∈ ρ.c := List.mem_of_getElem? e
  have u : Up ρ ρ H (upd H a o) := ⟨List.prefix_refl _, rfl, fun _ m n => absurd m n, fun b o' h n => ⟨o', by rw [upd_ne fun (z : b = a) => n (.inl (z ▸ ma))]; exact h, .inl rfl⟩, fun b h => by
    by_cases z : b = a
    · rw [z, upd_same] at h; cases h
    · rwa [upd_ne z] at h, fun b m _ => upd_ne fun z => hs.dis a ma (z ▸ m)⟩
  refine ⟨u, by rw [List.length_set]; exact hs.len, hs.nd, fun k b q e1 e2 => ?_, hs.dis, fun b m q => hs.xin b m (u.live b q), fun b m xs => by rw [u.hid b m id]; exact hs.xt b m xs, fun k b eb => ?_⟩
  · by_cases hk : k = n
    · subst hk
      by_cases hl : k < s.length
      · rw [List.getElem?_set_self hl] at e2
        exact absurd (Option.some.inj e2) (hc q)
      · rw [List.getElem?_eq_none (by rw [List.length_set]; exact Nat.le_of_not_lt hl)] at e2; cases e2
    · rw [List.getElem?_set_ne (Ne.symm hk)] at e2
      exact hs.tb k b q e1 e2
  · obtain ⟨c', o', q1, q2, q3⟩ := hs.cell k b eb
    by_cases hk : k = n
    · subst hk
      rw [e] at eb; cases eb
      exact ⟨c, o, List.getElem?_set_self (List.getElem?_eq_some_iff.mp q1).1, upd_same, r.up u⟩
    · refine ⟨c', o', by rw [List.getElem?_set_ne (Ne.symm hk)]; exact q1, ?_, q3.up u⟩
      rw [upd_ne]
      · exact q2
      · intro z
        subst z
        obtain ⟨h1, e1⟩ := List.getElem?_eq_some_iff.mp e
        obtain ⟨h2, e2⟩ := List.getElem?_eq_some_iff.mp eb
        exact hk ((List.getElem_inj hs.nd).mp (e2.trans e1.symm))
theorem RelK.keys {K : PySem.W.Frag} : ∀ {ds : List (Key × D)} {kvs : List (Key × V)}, RelK K ρ H ds kvs → ds.map (·.1) = kvs.map (·.1)
  | _, _, .nil => rfl
  | _, _, .cons _ r => congrArg _ (RelK.keys r)
theorem RelT.keys {K : PySem.W.Frag} : ∀ {ds : List (List Key × D)} {kvs : List (List Key × V)}, RelT K ρ H ds kvs → ds.map (·.1) = kvs.map (·.1)
  | _, _, .nil => rfl
  | _, _, .cons _ r => congrArg _ (RelT.keys r)
theorem RelK.len {K : PySem.W.Frag} {ds : List (Key × D)} {kvs : List (Key × V)} (r : RelK K ρ H ds kvs) : ds.length = kvs.length := by
  have := congrArg List.length r.keys
  simpa using this
theorem RelT.len {K : PySem.W.Frag} {ds : List (List Key × D)} {kvs : List (List Key × V)} (r : RelT K ρ H ds kvs) : ds.length = kvs.length := by
  have := congrArg List.length r.keys
  simpa using this
theorem RelK.upd1 {K : PySem.W.Frag} {k : Key} {d : D} {v : V} (rv : RelD K ρ H d v) : ∀ {ds : List (Key × D)} {kvs : List (Key × V)}, RelK K ρ H ds kvs → RelK K ρ H (ds.map fun kv => if kv.1 = k then (kv.1, d) else kv) (kvs.map fun kv => if kv.1 = k then (kv.1, v) else kv)
  | _, _, .nil => .nil
  | _, _, .cons (k := j) h t => by
    rw [List.map_cons, List.map_cons]
    by_cases e : j = k
    · rw [if_pos e, if_pos e]; exact .cons rv (RelK.upd1 rv t)
    · rw [if_neg e, if_neg e]; exact .cons h (RelK.upd1 rv t)
theorem RelK.snoc {K : PySem.W.Frag} {k : Key} {d : D} {v : V} (rv : RelD K ρ H d v) : ∀ {ds : List (Key × D)} {kvs : List (Key × V)}, RelK K ρ H ds kvs → RelK K ρ H (ds ++ [(k, d)]) (kvs ++ [(k, v)])
  | _, _, .nil => .cons rv .nil
  | _, _, .cons h t => .cons h (RelK.snoc rv t)
theorem RelK.put {K : PySem.W.Frag} {ds : List (Key × D)} {kvs : List (Key × V)} {k : Key} {d : D} {v : V} (r : RelK K ρ H ds kvs) (rv : RelD K ρ H d v) : RelK K ρ H (L3.put k d ds) (putK kvs k v) := by
  have e : (ds.any fun kv => decide (kv.1 = k)) = (kvs.any fun kv => decide (kv.1 = k)) := by
    have := congrArg (List.any · fun j => decide (j = k)) r.keys
    simp only [List.any_map] at this
    exact this
  unfold L3.put putK
  rw [e]
  split
  · exact r.upd1 rv
  · exact r.snoc rv
theorem RelT.upd1 {K : PySem.W.Frag} {k : List Key} {d : D} {v : V} (rv : RelD K ρ H d v) : ∀ {ds : List (List Key × D)} {kvs : List (List Key × V)}, RelT K ρ H ds kvs → RelT K ρ H (ds.map fun kv => if kv.1 = k then (kv.1, d) else kv) (kvs.map fun kv => if kv.1 = k then (kv.1, v) else kv)
  | _, _, .nil => .nil
  | _, _, .cons (k := j) h t => by
    rw [List.map_cons, List.map_cons]
    by_cases e : j = k
    · rw [if_pos e, if_pos e]; exact .cons rv (RelT.upd1 rv t)
    · rw [if_neg e, if_neg e]; exact .cons h (RelT.upd1 rv t)
theorem RelT.snoc {K : PySem.W.Frag} {k : List Key} {d : D} {v : V} (rv : RelD K ρ H d v) : ∀ {ds : List (List Key × D)} {kvs : List (List Key × V)}, RelT K ρ H ds kvs → RelT K ρ H (ds ++ [(k, d)]) (kvs ++ [(k, v)])
  | _, _, .nil => .cons rv .nil
  | _, _, .cons h t => .cons h (RelT.snoc rv t)
theorem RelT.put {K : PySem.W.Frag} {ds : List (List Key × D)} {kvs : List (List Key × V)} {k : List Key} {d : D} {v : V} (r : RelT K ρ H ds kvs) (rv : RelD K ρ H d v) : RelT K ρ H (L3.put k d ds) (putK kvs k v) := by
  have e : (ds.any fun kv => decide (kv.1 = k)) = (kvs.any fun kv => decide (kv.1 = k)) := by
    have := congrArg (List.any · fun j => decide (j = k)) r.keys
    simp only [List.any_map] at this
    exact this
  unfold L3.put putK
  rw [e]
  split
  · exact r.upd1 rv
  · exact r.snoc rv

/-- a store by data -/
theorem setD_at {n : D} {i v : D} {vo vi vv : V} {s' : Sr} (hs : Sto g ρ s H) (ro : RelD g.K ρ H n vo) (ri : RelD g.K ρ H i vi) (rv : RelD g.K ρ H v vv) (e : setD s n i v = some s') :
    ∃ H', (rSetL vo vi vv H (fun H2 => H2 = H') ∨ rSetD vo vi vv H (fun H2 => H2 = H')) ∧ Up ρ ρ H H' ∧ Sto g ρ s' H' := by
  cases n with
  | ref n =>
    cases ro with
    | ref ea =>
      obtain ⟨c, o, q1, q2, q3⟩ := hs.cell _ _ ea
      unfold setD at e
      simp only [q1] at e
      cases q3 with
      | lst rs =>
        simp only at e
        cases i with
        | int k =>
          obtain ⟨j, e1, e2⟩ := Option.map_eq_some_iff.mp e
          subst e2
          cases ri
          rw [rs.len] at e1
          obtain ⟨u, st⟩ := hs.write ea (.lst (rs.set rv j))
          exact ⟨_, .inl ⟨_, _, k, j, rfl, rfl, q2, e1, rfl⟩, u, st⟩
        | _ => cases e
      | dk rs =>
        simp only at e
        split at e
        · rename_i hz
          obtain ⟨k, e1, e2⟩ := Option.map_eq_some_iff.mp e
          subst e2
          obtain ⟨u, st⟩ := hs.write ea (.dk (rs.put (k := k) rv))
          exact ⟨_, .inr ⟨_, _, rfl, .inl ⟨_, k, q2, key_of ri e1, by rw [← rs.len]; exact hz, rfl⟩, rfl⟩, u, st⟩
        · cases e
      | dt rs =>
        simp only at e
        split at e
        · rename_i hz
          cases i with
          | tup ks =>
            obtain ⟨k, e1, e2⟩ := Option.map_eq_some_iff.mp e
            subst e2
            cases ri with
            | tup hk rks =>
              obtain ⟨u, st⟩ := hs.write ea (.dt (rs.put (k := k) rv))
              exact ⟨_, .inr ⟨_, _, rfl, .inr ⟨_, k, _, q2, rfl, by rw [← keys_of rks e1]; exact hk.2, by rw [← rs.len]; exact hz, rfl⟩, rfl⟩, u, st⟩
          | _ => cases e
        · cases e
      | ins _ => cases e
      | tab _ _ => cases e
  | _ => cases e
end
section
variable {X : Cx} {g : G} {W : WX} {pos pos' : Pos}
def r3 (g : G) (E : Sr → Hp → Rho → Hp → Prop) : TSet := fun o i v H Q => ∃ ρ s do' di dv s', Sto g ρ s H ∧ RelD g.K ρ H do' o ∧ RelD g.K ρ H di i ∧ RelD g.K ρ H dv v ∧ setD s do' di dv = some s' ∧ ∀ H', Up ρ ρ H H' → Sto g ρ s' H' → Q H'
theorem set_D (hu : X.A.units + 1 < cLine) : PSet X (r3 g fun _ _ _ _ => True) := by
  intro pins s σ H o i v ov iv u Q I ro ri rv ⟨ρ, st, do', di, dv, s', hs, rdo, rdi, rdv, e, q⟩
  obtain ⟨H', h | h, up, st'⟩ := setD_at hs rdo rdi rdv e
  · refine wpAny_mono (set_list pins s σ H o i v ov iv u _ I ro ri rv h) (fun _ s' ⟨H2, I2, e2⟩ => ?_) fun _ _ x => x
    subst e2
    exact ⟨H2, I2, q H2 up st'⟩
  · refine wpAny_mono (set_dict hu pins s σ H o i v ov iv u _ I ro ri rv h) (fun _ s' ⟨H2, I2, e2⟩ => ?_) fun _ _ x => x
    subst e2
    exact ⟨H2, I2, q H2 up st'⟩
theorem swaps_sub {e o i : Expr} {l : Nat} {env : Env} : swapsWithSole [.Subscript o i pos] e l env = pure false := by
  unfold swapsWithSole swapsWith
  cases e <;> rfl
theorem stores_sub {e o i : Expr} {env : Env} : swappedStores [.Subscript o i pos] e env = pure none := by
  unfold swappedStores
  rfl
def isSl : Expr → Bool
  | .Slice _ _ _ _ => true
  | _ => false
theorem plain_ix {b : Expr} (h : isSl b = false) : PlainIx b := by
  intro o i
  unfold subscripted
  cases b <;> first | rfl | cases h
theorem assign_sub {o i : Expr} {env : Env} (h : isSl i = false) (v : Value) : assign (.Subscript o i pos) env v = (do
      let ov ← holding [v] (eval o env)
      let iv ← holding [v, ov] (eval i env)
      standAt pos
      holding [v, ov, iv] (setItem ov iv v)
      release [v, ov, iv] []) := by
  cases i <;> first | rfl | cases h
theorem l_setS {o i e : Expr} {fo fi fe : F} (hu : X.A.units + 1 < cLine) (he : PE X e (tI g W fe)) (ho : PE X o (tI g W fo)) (hi : PE X i (tI g W fi)) (hsl : isSl i = false) : PS X (.Assign [.Subscript o i pos'] e pos) (sI g W (sSet fe fo fi)) :=
  (ps_asg he (pg_sub ho hi (set_D (g := g) hu) (assign_sub hsl)) swaps_sub stores_sub rfl).imp fun E σ H ⟨ρ, s, env, hs, hl, hp⟩ => ⟨ρ, s, env, hs, hl, (hp.bind (Rel' := RV g)).imp fun v H1 ⟨ρ1, s1, dv, u1, hs1, rv, p1⟩ =>
    ⟨ρ1, s1, env, hs1, hl.up u1, (p1.bind (Rel' := RV g)).imp fun o H2 ⟨ρ2, s2, do', u2, hs2, ro, p2⟩ => ⟨ρ2, s2, env, hs2, (hl.up u1).up u2, (p2.bind (Rel' := RV g)).imp fun i H3 ⟨ρ3, s3, di, u3, hs3, ri, p3⟩ => by
      split at p3
      · rename_i s4 e4
        exact ⟨ρ3, s3, do', di, dv, s4, hs3, ro.up u3, ri, (rv.up u2).up u3, e4, fun H' u4 st' => p3 ρ3 H' σ u4 st' ((((hl.up u1).up u2).up u3).up u4)⟩
      · exact p3.elim⟩⟩⟩
end
end L3

/-! L3N: built-in functions by values -/
namespace L3
open PySem PySem.Spec PyProof.Rows L2

def intsOf : List D → Option (List Int)
  | [] => some []
  | .int i :: r => (intsOf r).map (i :: ·)
  | _ => none
def blsOf : List D → Option (List Bool)
  | [] => some []
  | .bl i :: r => (blsOf r).map (i :: ·)
  | _ => none
def minI : Int → List Int → Int
  | a, [] => a
  | a, b :: r => minI (if b < a then b else a) r
def maxI : Int → List Int → Int
  | a, [] => a
  | a, b :: r => maxI (if b > a then b else a) r
def vLen (ds : List D) (s : Sr) : R D := match ds with
  | [d] => (match asQ s d with
    | some l => .ok (.int l.length) s
    | none => (match asDk s d with
      | some l => .ok (.int l.length) s
      | none => match asDt s d with
        | some l => .ok (.int l.length) s
        | none => match d with | .str z => if z.length ≤ sizeLine then .ok (.int z.length) s else .bad | _ => .bad))
  | _ => .bad
def vAbs (ds : List D) (s : Sr) : R D := match ds with
  | [.int i] => .ok (.int (if i < 0 then -i else i)) s
  | _ => .bad
def vMin (ds : List D) (s : Sr) : R D := match ds with
  | [.int i, .int j] => .ok (.int (if j < i then j else i)) s
  | [d] => (match (asL s d).bind intsOf with | some (i :: r) => .ok (.int (minI i r)) s | _ => .bad)
  | _ => .bad
def vMax (ds : List D) (s : Sr) : R D := match ds with
  | [.int i, .int j] => .ok (.int (if j > i then j else i)) s
  | [d] => (match (asL s d).bind intsOf with | some (i :: r) => .ok (.int (maxI i r)) s | _ => .bad)
  | _ => .bad
def vSum (ds : List D) (s : Sr) : R D := match ds with
  | [d] => (match (asL s d).bind intsOf with | some l => .ok (.int l.sum) s | none => .bad)
  | _ => .bad
def vAny (ds : List D) (s : Sr) : R D := match ds with
  | [d] => (match (asL s d).bind blsOf with | some l => .ok (.bl (l.any id)) s | none => .bad)
  | _ => .bad
def vAll (ds : List D) (s : Sr) : R D := match ds with
  | [d] => (match (asL s d).bind blsOf with | some l => .ok (.bl (l.all id)) s | none => .bad)
  | _ => .bad
def vInt (ds : List D) (s : Sr) : R D := match ds with
  | [.int i] => .ok (.int i) s
  | [.bl b] => .ok (.int (if b then 1 else 0)) s
  | [.str z] => (match PySem.intText? z with | some n => if z.length ≤ 640 then .ok (.int n) s else .bad | none => .bad)
  | _ => .bad
def vStr (ds : List D) (s : Sr) : R D := match ds with
  | [.int i] => if i.natAbs.log2 < 1920 then .ok (.str (toString i)) s else .bad
  | _ => .bad
def vTuple (ds : List D) (s : Sr) : R D := match ds with
  | [.tup l] => .ok (.tup l) s
  | [.ktp l] => .ok (.ktp l) s
  | [d] => (match asL s d with | some l => .ok (.tup l) s | none => .bad)
  | _ => .bad
def eCallV (f : List D → Sr → R D) (fa : FA) : F := fun env s => (fa env s).bind fun ds s => f ds s

section
variable {g : G} {ρ : Rho} {s : Sr} {H : Hp}
theorem ints_of : ∀ {ds : List D} {vs : List V} {l : List Int}, RelDs g.K ρ H ds vs → intsOf ds = some l → vs = l.map V.int
  | _, _, _, .nil, e => by cases e; rfl
  | _, _, _, .cons (d := d) h r, e => by
    cases d with
    | int i =>
      unfold intsOf at e
      obtain ⟨l, e1, e2⟩ := Option.map_eq_some_iff.mp e
      subst e2
      cases h
      rw [ints_of r e1]; rfl
    | _ => cases e
theorem bls_of : ∀ {ds : List D} {vs : List V} {l : List Bool}, RelDs g.K ρ H ds vs → blsOf ds = some l → vs = l.map V.bl
  | _, _, _, .nil, e => by cases e; rfl
  | _, _, _, .cons (d := d) h r, e => by
    cases d with
    | bl i =>
      unfold blsOf at e
      obtain ⟨l, e1, e2⟩ := Option.map_eq_some_iff.mp e
      subst e2
      cases h
      rw [bls_of r e1]; rfl
    | _ => cases e
theorem minI_le : ∀ (r : List Int) (a : Int), minI a r ≤ a ∧ ∀ y ∈ r, minI a r ≤ y
  | [], a => ⟨Int.le_refl _, fun _ h => by cases h⟩
  | b :: r, a => by
    have ih := minI_le r (if b < a then b else a)
    unfold minI
    refine ⟨Int.le_trans ih.1 (by split <;> omega), fun y hy => ?_⟩
    rcases List.mem_cons.mp hy with e | hy
    · subst e; exact Int.le_trans ih.1 (by split <;> omega)
    · exact ih.2 y hy
theorem minI_mem : ∀ (r : List Int) (a : Int), minI a r ∈ a :: r
  | [], a => List.mem_cons_self
  | b :: r, a => by
    have ih := minI_mem r (if b < a then b else a)
    unfold minI
    rcases List.mem_cons.mp ih with e | h
    · rw [e]; split <;> simp
    · exact List.mem_cons_of_mem _ (List.mem_cons_of_mem _ h)
theorem maxI_le : ∀ (r : List Int) (a : Int), a ≤ maxI a r ∧ ∀ y ∈ r, y ≤ maxI a r
  | [], a => ⟨Int.le_refl _, fun _ h => by cases h⟩
  | b :: r, a => by
    have ih := maxI_le r (if b > a then b else a)
    unfold maxI
    refine ⟨Int.le_trans (by split <;> omega) ih.1, fun y hy => ?_⟩
    rcases List.mem_cons.mp hy with e | hy
    · subst e; exact Int.le_trans (by split <;> omega) ih.1
    · exact ih.2 y hy
theorem maxI_mem : ∀ (r : List Int) (a : Int), maxI a r ∈ a :: r
  | [], a => List.mem_cons_self
  | b :: r, a => by
    have ih := maxI_mem r (if b > a then b else a)
    unfold maxI
    rcases List.mem_cons.mp ih with e | h
    · rw [e]; split <;> simp
    · exact List.mem_cons_of_mem _ (List.mem_cons_of_mem _ h)
/-- one argument: a list of ints -/
theorem ints1 {d : D} {l : List Int} {v : V} (hs : Sto g ρ s H) (r : RelD g.K ρ H d v) (e : (asL s d).bind intsOf = some l) : ∃ a, v = .ref a ∧ SqL g.K H a (l.map V.int) := by
  obtain ⟨ds, e1, e2⟩ := Option.bind_eq_some_iff.mp e
  obtain ⟨a, xs, rfl, h, rs⟩ := lst_of hs r e1
  exact ⟨a, rfl, .inl (.inl (by rw [← ints_of rs e2]; exact h))⟩
theorem bls1 {d : D} {l : List Bool} {v : V} (hs : Sto g ρ s H) (r : RelD g.K ρ H d v) (e : (asL s d).bind blsOf = some l) : ∃ a, v = .ref a ∧ SqL g.K H a (l.map V.bl) := by
  obtain ⟨ds, e1, e2⟩ := Option.bind_eq_some_iff.mp e
  obtain ⟨a, xs, rfl, h, rs⟩ := lst_of hs r e1
  exact ⟨a, rfl, .inl (.inl (by rw [← bls_of rs e2]; exact h))⟩
theorem RelDs.one {d : D} {xs : List V} (r : RelDs g.K ρ H [d] xs) : ∃ v, xs = [v] ∧ RelD g.K ρ H d v := by
  cases r with | cons h t => cases t; exact ⟨_, rfl, h⟩
theorem RelDs.two {d e : D} {xs : List V} (r : RelDs g.K ρ H [d, e] xs) : ∃ v w, xs = [v, w] ∧ RelD g.K ρ H d v ∧ RelD g.K ρ H e w := by
  cases r with | cons h t => cases t with | cons h2 t => cases t; exact ⟨_, _, rfl, h, h2⟩
end

section
variable {X : Cx} {g : G} (hK : X.K = g.K)
include hK
theorem b_len : CallR X (.builtin "len") (rN g vLen) := by
  intro pins s σ H xs us Q I r ⟨ρ, st, ds, hs, rds, p⟩
  unfold vLen at p
  split at p
  · rename_i d
    obtain ⟨v, rfl, rd⟩ := rds.one
    cases e : asQ st d with
    | some l =>
      rw [e] at p
      obtain ⟨a, ys, rfl, hq, rs⟩ := seq_of hs rd e
      have q := PostV.ok hs (.int _) p
      rw [rs.len] at q
      exact call_len_seq pins s σ H _ us Q I r ⟨a, ys, rfl, hK ▸ hq, q⟩
    | none =>
      rw [e] at p
      simp only at p
      cases e2 : asDk st d with
      | some l =>
        rw [e2] at p
        obtain ⟨a, kvs, rfl, h, rs⟩ := dk_at hs rd e2
        have q := PostV.ok hs (.int _) p
        rw [rs.len] at q
        obtain ⟨u, rfl, ru⟩ := vals1 r
        cases ru
        exact d_len I h fun t s' I' => ⟨.int kvs.length, H, I', ⟨t, rfl⟩, q⟩
      | none =>
        rw [e2] at p
        simp only at p
        cases e3 : asDt st d with
        | some l =>
          rw [e3] at p
          obtain ⟨a, kvs, rfl, h, rs⟩ := dt_at hs rd e3
          have q := PostV.ok hs (.int _) p
          rw [rs.len] at q
          obtain ⟨u, rfl, ru⟩ := vals1 r
          cases ru
          obtain ⟨z, hd, ys, rel, dd⟩ := dt_rd I.hok h
          have hl : kvs.length = ys.length := Paired.length rel
          refine call_len_dictH hd dd (by rw [← hl]; rw [sizeLine_eq] at z; omega) ?_
          rw [← hl]
          exact ⟨.int ((kvs.length : Nat) : Int), H, I.tok _, ⟨_, rfl⟩, q⟩
        | none =>
          rw [e3] at p
          simp only at p
          split at p
          · split at p
            · rename_i hz
              cases rd
              exact call_len_str pins s σ H _ us Q I r ⟨_, rfl, hz, PostV.ok hs (.int _) p⟩
            · exact p.elim
          · exact p.elim
  · exact p.elim
omit hK in
theorem b_abs : CallR X (.builtin "abs") (rN g vAbs) := by
  intro pins s σ H xs us Q I r ⟨ρ, st, ds, hs, rds, p⟩
  unfold vAbs at p
  split at p
  · obtain ⟨v, rfl, rd⟩ := rds.one
    cases rd
    exact call_abs pins s σ H _ us Q I r ⟨_, rfl, PostV.ok hs (.int _) p⟩
  · exact p.elim
theorem b_min (hc : X.calm = true) : CallR X (.builtin "min") (rN g vMin) := by
  intro pins s σ H xs us Q I r ⟨ρ, st, ds, hs, rds, p⟩
  unfold vMin at p
  split at p
  · obtain ⟨v, w, rfl, rd, re⟩ := rds.two
    cases rd; cases re
    exact call_min2 hc pins s σ H _ us Q I r ⟨_, _, rfl, PostV.ok hs (.int _) p⟩
  · obtain ⟨v, rfl, rd⟩ := rds.one
    split at p
    · rename_i i l e
      obtain ⟨a, rfl, h⟩ := ints1 hs rd e
      refine cr_min hc pins s σ H _ us Q I r ⟨a, i :: l, rfl, hK ▸ h, Nat.succ_pos _, fun m hm hle => ?_⟩
      have q := PostV.ok hs (.int _) p
      have h1 := minI_mem l i
      have h2 := minI_le l i
      have e : m = minI i l := by
        have := hle _ h1
        rcases List.mem_cons.mp hm with e | hm
        · have := h2.1; omega
        · have := h2.2 m hm; omega
      rw [e]; exact q
    · exact p.elim
  · exact p.elim
theorem b_max (hc : X.calm = true) : CallR X (.builtin "max") (rN g vMax) := by
  intro pins s σ H xs us Q I r ⟨ρ, st, ds, hs, rds, p⟩
  unfold vMax at p
  split at p
  · obtain ⟨v, w, rfl, rd, re⟩ := rds.two
    cases rd; cases re
    exact call_max2 hc pins s σ H _ us Q I r ⟨_, _, rfl, PostV.ok hs (.int _) p⟩
  · obtain ⟨v, rfl, rd⟩ := rds.one
    split at p
    · rename_i i l e
      obtain ⟨a, rfl, h⟩ := ints1 hs rd e
      refine cr_max hc pins s σ H _ us Q I r ⟨a, i :: l, rfl, hK ▸ h, Nat.succ_pos _, fun m hm hle => ?_⟩
      have q := PostV.ok hs (.int _) p
      have h1 := maxI_mem l i
      have h2 := maxI_le l i
      have e : m = maxI i l := by
        have := hle _ h1
        rcases List.mem_cons.mp hm with e | hm
        · have := h2.1; omega
        · have := h2.2 m hm; omega
      rw [e]; exact q
    · exact p.elim
  · exact p.elim
theorem b_sum (hc : X.calm = true) : CallR X (.builtin "sum") (rN g vSum) := by
  intro pins s σ H xs us Q I r ⟨ρ, st, ds, hs, rds, p⟩
  unfold vSum at p
  split at p
  · obtain ⟨v, rfl, rd⟩ := rds.one
    split at p
    · rename_i l e
      obtain ⟨a, rfl, h⟩ := ints1 hs rd e
      exact cr_sum hc pins s σ H _ us Q I r ⟨a, l, rfl, hK ▸ h, PostV.ok hs (.int _) p⟩
    · exact p.elim
  · exact p.elim
theorem b_any (hc : X.calm = true) : CallR X (.builtin "any") (rN g vAny) := by
  intro pins s σ H xs us Q I r ⟨ρ, st, ds, hs, rds, p⟩
  unfold vAny at p
  split at p
  · obtain ⟨v, rfl, rd⟩ := rds.one
    split at p
    · rename_i l e
      obtain ⟨a, rfl, h⟩ := bls1 hs rd e
      exact cr_any hc pins s σ H _ us Q I r ⟨a, l, rfl, hK ▸ h, PostV.ok hs (.bl _) p⟩
    · exact p.elim
  · exact p.elim
theorem b_all (hc : X.calm = true) : CallR X (.builtin "all") (rN g vAll) := by
  intro pins s σ H xs us Q I r ⟨ρ, st, ds, hs, rds, p⟩
  unfold vAll at p
  split at p
  · obtain ⟨v, rfl, rd⟩ := rds.one
    split at p
    · rename_i l e
      obtain ⟨a, rfl, h⟩ := bls1 hs rd e
      exact cr_all hc pins s σ H _ us Q I r ⟨a, l, rfl, hK ▸ h, PostV.ok hs (.bl _) p⟩
    · exact p.elim
  · exact p.elim
omit hK in
theorem b_int : CallR X (.type "int") (rN g vInt) := by
  intro pins s σ H xs us Q I r ⟨ρ, st, ds, hs, rds, p⟩
  unfold vInt at p
  split at p
  · obtain ⟨v, rfl, rd⟩ := rds.one
    cases rd
    exact call_int1 pins s σ H _ us Q I r (.inl ⟨_, rfl, PostV.ok hs (.int _) p⟩)
  · obtain ⟨v, rfl, rd⟩ := rds.one
    cases rd
    exact call_int1 pins s σ H _ us Q I r (.inr ⟨_, rfl, PostV.ok hs (.int _) p⟩)
  · obtain ⟨v, rfl, rd⟩ := rds.one
    cases rd
    split at p
    · rename_i n e
      split at p
      · rename_i hz
        exact call_int_str pins s σ H _ us Q I r ⟨_, n, rfl, e, hz, PostV.ok hs (.int _) p⟩
      · exact p.elim
    · exact p.elim
  · exact p.elim
omit hK in
theorem b_str : CallR X (.type "str") (rN g vStr) := by
  intro pins s σ H xs us Q I r ⟨ρ, st, ds, hs, rds, p⟩
  unfold vStr at p
  split at p
  · obtain ⟨v, rfl, rd⟩ := rds.one
    cases rd
    split at p
    · rename_i hz
      exact call_str_int pins s σ H _ us Q I r ⟨_, rfl, hz, PostV.ok hs (.str _) p⟩
    · exact p.elim
  · exact p.elim
theorem b_tuple : CallR X (.type "tuple") (rN g vTuple) := by
  intro pins s σ H xs us Q I r ⟨ρ, st, ds, hs, rds, p⟩
  unfold vTuple at p
  split at p
  · obtain ⟨v, rfl, rd⟩ := rds.one
    cases rd with
    | tup h rs => exact call_tuple_of pins s σ H _ us Q I r ⟨_, _, rfl, .inr ⟨hK ▸ (h.sq : SqT g.K H _ _), PostV.ok hs (.tup h rs) p⟩⟩
  · obtain ⟨v, rfl, rd⟩ := rds.one
    cases rd with
    | ktp h rs => exact call_tuple_of pins s σ H _ us Q I r ⟨_, _, rfl, .inr ⟨hK ▸ h.sq, PostV.ok hs (.ktp h rs) p⟩⟩
  · obtain ⟨v, rfl, rd⟩ := rds.one
    split at p
    · rename_i l e
      obtain ⟨a, ys, rfl, h, rs⟩ := lst_of hs rd e
      exact call_tuple_of pins s σ H _ us Q I r ⟨a, ys, rfl, .inl ⟨.inl (.inl h), PostV.tup hs rs p⟩⟩
    · exact p.elim
  · exact p.elim
end
end L3

/-! L3O: isinstance, fresh results, sorted -/
namespace L3
open PySem PySem.Spec PyProof.Rows L2

/-! ### isinstance -/
inductive Ty where
  | non | bl | int | str | tup | lst | dct
  deriving DecidableEq
def Ty.name : Ty → String
  | .non => "NoneType" | .bl => "bool" | .int => "int" | .str => "str" | .tup => "tuple" | .lst => "list" | .dct => "dict"
def Ty.sub : Ty → Ty → Bool
  | .bl, .int => true
  | a, b => decide (a = b)
theorem Ty.kit (K : PySem.W.Frag) (a b : Ty) (h : b ≠ .non) : PySem.W.kitOne K (.type a.name) (.type b.name) = some (a.sub b) := by
  cases a <;> cases b <;> first | exact absurd rfl h | kernel_rfl
def tyOf (s : Sr) : D → Option Ty
  | .non => some .non | .bl _ => some .bl | .int _ => some .int | .str _ => some .str
  | .tup _ => some .tup | .ktp _ => some .tup | .lst _ => some .lst | .lck _ => some .lst | .dk _ => some .dct | .dt _ => some .dct
  | .ref n => (match s[n]? with | some (.lst _) => some .lst | some (.dk _) => some .dct | some (.dt _) => some .dct | _ => none)
/-- isinstance(d, one of these) -/
def isA (ts : List Ty) (t : Ty) : Bool := ts.any fun b => t.sub b
def eIsi (ts : List Ty) (f : F) : F := fun env s => (f env s).bind fun d s => match tyOf s d with | some t => .ok (.bl (isA ts t)) s | none => .bad
section
variable {X : Cx} {g : G} {W : WX} {pos : Pos} (hK : X.K = g.K)
include hK
theorem kit_D {pins : List (Addr × Obj)} {σ : L2.St} {H : Hp} {s : Shared} {ρ : Rho} {st : Sr} {d : D} {v : V} {u : Value} {t : Ty} (I : Inv X pins σ H s) (hs : Sto g ρ st H) (r : RelD g.K ρ H d v) (ru : RelV v u) (e : tyOf st d = some t) :
    ∃ P : Heap → Prop, PySem.W.KitX X.K u (.type t.name) P ∧ P s.heap ∧ u ≠ .builtin "__main__.__loader__#opaque" := by
  have tup : ∀ {a : Addr} {xs : List V}, SqT X.K H a xs → u = .ref a → ∃ P : Heap → Prop, PySem.W.KitX X.K u (.type "tuple") P ∧ P s.heap ∧ u ≠ .builtin "__main__.__loader__#opaque" := by
    intro a xs h e
    subst e
    obtain ⟨its, r, ht, hz⟩ := I.tuple h
    obtain ⟨o, h1, h2⟩ := ht.typeIs
    exact ⟨_, PySem.W.kitx_tuple, ⟨o, h1, h2⟩, fun z => nomatch z⟩
  have lst : ∀ {a : Addr} {xs : List V}, SqL X.K H a xs → u = .ref a → ∃ P : Heap → Prop, PySem.W.KitX X.K u (.type "list") P ∧ P s.heap ∧ u ≠ .builtin "__main__.__loader__#opaque" := by
    intro a xs h e
    subst e
    obtain ⟨its, r, ht, hz⟩ := I.list h
    obtain ⟨o, h1, h2⟩ := ht.isList.typeIs
    exact ⟨_, PySem.W.kitx_list, ⟨o, h1, h2⟩, fun z => nomatch z⟩
  have dk : ∀ {a : Addr} {kvs : List (Key × V)}, Rd H a (.dK kvs) → u = .ref a → ∃ P : Heap → Prop, PySem.W.KitX X.K u (.type "dict") P ∧ P s.heap ∧ u ≠ .builtin "__main__.__loader__#opaque" := by
    intro a kvs h e
    subst e
    obtain ⟨_, _, vs, _, dd⟩ := dk_rd I.hok h
    obtain ⟨o, h1, h2⟩ := dd.typeIs
    exact ⟨_, PySem.W.kitx_dict, ⟨o, h1, h2⟩, fun z => nomatch z⟩
  have dt : ∀ {a : Addr} {kvs : List (List Key × V)}, Rd H a (.dT kvs) → u = .ref a → ∃ P : Heap → Prop, PySem.W.KitX X.K u (.type "dict") P ∧ P s.heap ∧ u ≠ .builtin "__main__.__loader__#opaque" := by
    intro a kvs h e
    subst e
    obtain ⟨_, _, vs, _, dd⟩ := dt_rd I.hok h
    obtain ⟨o, h1, h2⟩ := dd.typeIs
    exact ⟨_, PySem.W.kitx_dict, ⟨o, h1, h2⟩, fun z => nomatch z⟩
  cases r with
  | non => cases e; cases (show u = Value.none from ru); exact ⟨_, PySem.W.kitx_none, True.intro, fun z => nomatch z⟩
  | bl b => cases e; cases (show u = Value.bool b from ru); exact ⟨_, PySem.W.kitx_bool, True.intro, fun z => nomatch z⟩
  | int i => cases e; obtain ⟨t, q⟩ := (show ∃ t, u = Value.int i t from ru); cases q; exact ⟨_, PySem.W.kitx_int, True.intro, fun z => nomatch z⟩
  | str x => cases e; obtain ⟨t, q⟩ := (show ∃ t, u = Value.str x t from ru); cases q; exact ⟨_, PySem.W.kitx_str, True.intro, fun z => nomatch z⟩
  | tup h r => cases e; exact tup (.inl (.inl h.2)) ru
  | ktp h r => cases e; exact tup (hK.symm ▸ (h.sq (H := H))) ru
  | lst h r => cases e; exact lst (.inl (.inl h.2)) ru
  | lck n h r => cases e; exact lst (.inl (.inr ⟨_, h⟩)) ru
  | lkk h r => cases e; exact lst (by rw [hK]; exact .inr h) ru
  | dk n h r => cases e; exact dk (.inr ⟨_, h⟩) ru
  | dt n h r => cases e; exact dt (.inr ⟨_, h⟩) ru
  | ref ea =>
    obtain ⟨c, o, q1, q2, q3⟩ := hs.cell _ _ ea
    unfold tyOf at e
    simp only [q1] at e
    cases q3 with
    | lst rs => cases e; exact lst (.inl (.inl q2)) ru
    | dk rs => cases e; exact dk (.inl q2) ru
    | dt rs => cases e; exact dt (.inl q2) ru
    | ins rs => cases e
    | tab _ _ => cases e
def rIs1 (g : G) (b : Ty) : List V → Hp → VK → Prop := fun xs H Q => ∃ ρ s d t x, Sto g ρ s H ∧ RelD g.K ρ H d x ∧ tyOf s d = some t ∧ xs = [x, .ty b.name] ∧ Q (.bl (t.sub b)) H
def rIsT (g : G) (bs : List Ty) : List V → Hp → VK → Prop := fun xs H Q => ∃ ρ s d t x tp, Sto g ρ s H ∧ RelD g.K ρ H d x ∧ tyOf s d = some t ∧ xs = [x, .ref tp] ∧ H tp = some (.tup (bs.map fun b : Ty => V.ty b.name)) ∧ Q (.bl (isA bs t)) H
theorem c_is1 {b : Ty} (hb : b ≠ .non) : CallR X (.builtin "isinstance") (rIs1 g b) := by
  intro pins s σ H xs us Q I r h
  obtain ⟨ρ, st, d, t, x, hs, rd, e, rfl, q⟩ := h
  obtain ⟨u1, u2, rfl, r1, r2⟩ := vals2 r
  cases (show u2 = Value.type b.name from r2)
  obtain ⟨P, Z, p, hx⟩ := kit_D hK I hs rd r1 e
  exact PySem.W.kia_one Z I.kIn p (Ty.kit _ _ _ hb) hx fun tk => ⟨.bl _, H, I.tok tk, rfl, q⟩
omit hK in
theorem tys_eq : ∀ {bs : List Ty} {its : List Value}, Vals (bs.map fun b : Ty => V.ty b.name) its → its = bs.map fun b : Ty => Value.type b.name
  | [], _, rv => by cases rv; rfl
  | b :: bs, _, rv => by
    cases rv with
    | cons a c =>
      cases (show _ = Value.type b.name from a)
      rw [tys_eq c]; rfl
omit hK in
theorem kit_any (K : PySem.W.Frag) (t : Ty) : ∀ bs : List Ty, (∀ b ∈ bs, b ≠ .non) → PySem.W.kitAny K (.type t.name) (bs.map fun b : Ty => Value.type b.name) = some (isA bs t)
  | [], _ => rfl
  | b :: bs, h => by
    show (match PySem.W.kitOne K (.type t.name) (.type b.name) with | some true => some true | some false => PySem.W.kitAny K (.type t.name) (bs.map fun b : Ty => Value.type b.name) | none => none) = _
    rw [Ty.kit K t b (h b List.mem_cons_self), kit_any K t bs fun c m => h c (List.mem_cons_of_mem _ m)]
    unfold isA
    rw [List.any_cons]
    cases t.sub b <;> rfl
theorem c_isT {bs : List Ty} (hb : ∀ b ∈ bs, b ≠ .non) : CallR X (.builtin "isinstance") (rIsT g bs) := by
  intro pins s σ H xs us Q I r h
  obtain ⟨ρ, st, d, t, x, tp, hs, rd, e, rfl, hT, q⟩ := h
  obtain ⟨u1, u2, rfl, r1, r2⟩ := vals2 r
  cases (show u2 = Value.ref tp from r2)
  obtain ⟨P, Z, p, hx⟩ := kit_D hK I hs rd r1 e
  obtain ⟨_, its, rv, o, h1, h2, n, h3⟩ := (show ObjOk X.prog X.w H s.heap tp (.tup (bs.map fun b : Ty => V.ty b.name)) from I.hok tp _ hT)
  have e3 : its = bs.map fun b : Ty => Value.type b.name := tys_eq rv
  subst e3
  obtain ⟨oc, od, dt, sl⟩ := o
  simp only at h2 h3
  subst h2 h3
  exact PySem.W.kia_tup Z I.kIn p h1 (kit_any _ _ _ hb) hx fun tk => ⟨.bl _, H, I.tok tk, rfl, q⟩
/-- names of types, as arguments -/
def tTys (bs : List Ty) : TA := fun _ H Q => Q (bs.map fun b : Ty => V.ty b.name) H
omit hK in
theorem pa_tys : ∀ {es : List Expr} {bs : List Ty}, Paired (fun e b => PE X e (tC (.ty b.name)) ∧ ∃ x p, e = .Name x p) es bs → PA X es (tTys bs)
  | _, _, .nil => pa_nil
  | _, _, .cons h t => by
    obtain ⟨h1, x, p, rfl⟩ := h
    exact (pa_cons h1 (pa_tys t)).imp fun σ H Q q => q
theorem l_is1 {x y : Str} {p p2 : Pos} {e : Expr} {fe : F} {b : Ty} (hb : b ≠ .non) (hg : Gl X x) (hm : X.mg x = none) (hv : bootBuiltins x = some (.builtin "isinstance")) (hn : x ≠ "__name__") (hdb : (x == ("__debug__" : Str)) = false) (he : PE X e (tI g W fe)) (hT : PE X (.Name y p2) (tC (.ty b.name))) (hse : starEach [e, .Name y p2] X.env = (false, eval e X.env) :: starEach [.Name y p2] X.env) :
    PE X (.Call (.Name x p) [e, .Name y p2] [] pos) (tI g W (eIsi [b] fe)) :=
  (pe_callB (c_is1 (g := g) hK hb) hg hm hv (pa_cons he (pa_tys (bs := [b]) (.cons ⟨hT, _, _, rfl⟩ .nil)) hse) hn hdb hse rfl).imp fun σ H Q ⟨ρ, s, env, hs, hl, hp⟩ => ⟨ρ, s, env, hs, hl, hp.bind.imp fun v H1 ⟨ρ1, s1, d, u1, hs1, rd, p1⟩ => by
    cases e : tyOf s1 d with
    | none => rw [e] at p1; exact p1.elim
    | some t =>
      rw [e] at p1
      have q := p1 ρ1 H1 _ .refl hs1 (.bl _)
      unfold isA at q
      rw [List.any_cons, List.any_nil, Bool.or_false] at q
      exact ⟨ρ1, s1, d, t, v, hs1, rd, e, rfl, q⟩⟩
theorem l_isT {x : Str} {p p2 : Pos} {k : Nat} {e : Expr} {es : List Expr} {fe : F} {bs : List Ty} (hb : ∀ b ∈ bs, b ≠ .non) (hz : bs.length ≤ sizeLine) (hg : Gl X x) (hm : X.mg x = none) (hv : bootBuiltins x = some (.builtin "isinstance")) (hn : x ≠ "__name__") (hdb : (x == ("__debug__" : Str)) = false) (he : PE X e (tI g W fe)) (hT : Paired (fun e b => PE X e (tC (.ty b.name)) ∧ ∃ x p, e = .Name x p) es bs) (hse : starEach [e, .Tuple es k p2] X.env = (false, eval e X.env) :: starEach [.Tuple es k p2] X.env) :
    PE X (.Call (.Name x p) [e, .Tuple es k p2] [] pos) (tI g W (eIsi bs fe)) :=
  (pe_callB (c_isT (g := g) hK hb) hg hm hv (pa_cons he (pa_cons (pe_tup (pa_tys hT)) pa_nil rfl) hse) hn hdb hse rfl).imp fun σ H Q ⟨ρ, s, env, hs, hl, hp⟩ => ⟨ρ, s, env, hs, hl, hp.bind.imp fun v H1 ⟨ρ1, s1, d, u1, hs1, rd, p1⟩ => by
    cases e : tyOf s1 d with
    | none => rw [e] at p1; exact p1.elim
    | some t =>
      rw [e] at p1
      refine ⟨by rw [List.length_map]; exact hz, fun tp np => ?_⟩
      have q := p1 ρ1 (upd H1 tp (.tup (bs.map fun b : Ty => V.ty b.name))) _ (Up.new1 hs1 np) (hs1.new1 np) (.bl _)
      exact ⟨ρ1, s1, d, t, v, tp, hs1.new1 np, rd.up (Up.new1 hs1 np), e, rfl, upd_same, q⟩⟩
end

/-! ### fresh results -/
/-- a rule whose result is a new object -/
def rF (g : G) (f : List D → Sr → Option D) : List V → Hp → VK → Prop := fun xs H Q => ∃ ρ s ds d, Sto g ρ s H ∧ RelDs g.K ρ H ds xs ∧ f ds s = some d ∧ ∀ p o, H p = none → NewR g ρ H d o → Q (.ref p) (upd H p o)
def eFr (f : List D → Sr → Option D) (fa : FA) : F := fun env s => (fa env s).bind fun ds s => match f ds s with | some d => .ok d s | none => .bad
section
variable {X : Cx} {g : G} {W : WX} {pos : Pos}
theorem fr_serve {f : List D → Sr → Option D} {fa : FA} {ta : TA} {σ : L2.St} {H : Hp} {Q : VK} (ha : ∀ σ H Q, tA g W fa σ H Q → ta σ H Q) (h : tN g W (eFr f fa) σ H Q) : ta σ H fun vs H1 => rF g f vs H1 Q := by
  obtain ⟨ρ, s, env, hs, hl, hp⟩ := h
  refine ha _ _ _ ⟨ρ, s, env, hs, hl, (PostN.bind (Rel' := RVs g) hp).imp fun xs H1 ⟨ρ1, s1, ds, u1, hs1, rd, p1⟩ => ?_⟩
  cases e : f ds s1 with
  | none => rw [e] at p1; exact p1.elim
  | some d =>
    rw [e] at p1
    exact ⟨ρ1, s1, ds, d, hs1, rd, e, fun p o np r => p1 _ p _ o (New.fresh hs1 (hl.up u1) np r)⟩
/-- sorted -/
def insD (le : D → D → Bool) (x : D) : List D → List D
  | [] => [x]
  | y :: r => if le x y then x :: y :: r else y :: insD le x r
def isortD (le : D → D → Bool) : List D → List D
  | [] => []
  | x :: r => insD le x (isortD le r)
def encD (d : D) : PyData := (D.py d).getD .none
end
end L3

/-! L3P: sorted, list(..), dicts gone through -/
namespace L3
open PySem PySem.Spec PyProof.Rows L2

/-! ### a stable sort that a kernel can run -/
section
variable {le : D → D → Bool}
theorem insD_perm (x : D) : ∀ l : List D, (insD le x l).Perm (x :: l)
  | [] => .refl _
  | y :: r => by
    unfold insD
    split
    · exact .refl _
    · exact ((insD_perm x r).cons y).trans (.swap x y r)
theorem isortD_perm : ∀ l : List D, (isortD le l).Perm l
  | [] => .refl _
  | x :: r => (insD_perm x _).trans ((isortD_perm r).cons x)
theorem insD_sorted (h : PySem.W.TotalLe le) (x : D) : ∀ l : List D, l.Pairwise (fun a b => le a b = true) → (insD le x l).Pairwise (fun a b => le a b = true)
  | [], _ => List.pairwise_singleton _ _
  | y :: r, p => by
    obtain ⟨p1, p2⟩ := List.pairwise_cons.mp p
    unfold insD
    by_cases e : le x y = true
    · rw [if_pos e]
      exact List.pairwise_cons.mpr ⟨fun b hb => by
        rcases List.mem_cons.mp hb with z | hb
        · rw [z]; exact e
        · exact h.trans _ _ _ e (p1 b hb), p⟩
    · rw [if_neg e]
      refine List.pairwise_cons.mpr ⟨fun b hb => ?_, insD_sorted h x r p2⟩
      rcases List.mem_cons.mp ((insD_perm x r).mem_iff.mp hb) with z | hb
      · rw [z]; exact (h.total x y).resolve_left e
      · exact p1 b hb
theorem isortD_sorted (h : PySem.W.TotalLe le) : ∀ l : List D, (isortD le l).Pairwise (fun a b => le a b = true)
  | [] => .nil
  | x :: r => insD_sorted h x _ (isortD_sorted h r)
theorem insD_filter (h : PySem.W.TotalLe le) (x c : D) : ∀ l : List D, (insD le x l).filter (PySem.W.sameRank le c) = (x :: l).filter (PySem.W.sameRank le c)
  | [] => rfl
  | y :: r => by
    unfold insD
    by_cases e : le x y = true
    · rw [if_pos e]
    · rw [if_neg e, List.filter_cons, insD_filter h x c r]
      have ny : ¬ (PySem.W.sameRank le c x = true ∧ PySem.W.sameRank le c y = true) := fun ⟨a, b⟩ => by
        unfold PySem.W.sameRank at a b
        rw [Bool.and_eq_true] at a b
        exact e (h.trans _ _ _ a.2 b.1)
      by_cases hx : PySem.W.sameRank le c x = true
      · have hy : ¬ PySem.W.sameRank le c y = true := fun b => ny ⟨hx, b⟩
        rw [if_neg hy, List.filter_cons, List.filter_cons, if_pos hx, List.filter_cons, if_neg hy, if_pos hx]
      · rw [List.filter_cons, if_neg hx, List.filter_cons, if_neg hx, List.filter_cons]
theorem isortD_filter (h : PySem.W.TotalLe le) (c : D) : ∀ l : List D, (isortD le l).filter (PySem.W.sameRank le c) = l.filter (PySem.W.sameRank le c)
  | [] => rfl
  | x :: r => by
    unfold isortD
    rw [insD_filter h, List.filter_cons, List.filter_cons, isortD_filter h c r]
theorem isortD_eq (h : PySem.W.TotalLe le) (l : List D) : l.mergeSort le = isortD le l := (PySem.W.sort_unique h (isortD_sorted h l) fun c => isortD_filter h c l).symm
end
def leD (a b : D) : Bool := PySem.W.dataLe false encD a b
theorem leD_total : PySem.W.TotalLe leD := PySem.W.sortLe_total (listOrd itemOrd) false fun d => PySem.W.keyToks (encD d)
def pyB (d : D) : Bool := (D.py d).isSome && SeqAt.shaped (encD d)
def alikeB (l : List PyData) : Bool := l.all fun a => l.all fun b => PySem.W.alike a b
def tup1 : PyData → Bool | .tuple (_ :: _) => true | _ => false
def ntup : PyData → Bool | .tuple _ => false | .none => false | _ => true
/-- what may be sorted -/
def sortOk (l : List D) : Bool := l.all pyB && alikeB (l.map encD) && ((l.map encD).all tup1 || (l.map encD).all ntup) && decide (l.length ≤ sizeLine)
theorem alikeB_of {l : List PyData} (h : alikeB l = true) : PySem.W.AllAlike l := fun a ha b hb => List.all_eq_true.mp (List.all_eq_true.mp h a ha) b hb
theorem sortable_of {l : List PyData} (h : (l.all tup1 || l.all ntup) = true) : PySem.W.Sortable l := by
  rw [Bool.or_eq_true] at h
  refine h.imp (fun h d hd => ?_) fun h d hd => ?_
  · have q := List.all_eq_true.mp h d hd
    unfold tup1 at q
    split at q
    · exact ⟨_, _, rfl⟩
    · cases q
  · have q := List.all_eq_true.mp h d hd
    unfold ntup at q
    split at q
    · cases q
    · cases q
    · rename_i h1 h2
      exact ⟨fun e => h2 e, fun xs e => h1 xs e⟩
structure SortOk (l : List D) : Prop where
  py : ∀ d ∈ l, D.py d = some (encD d) ∧ SeqAt.shaped (encD d) = true
  al : PySem.W.AllAlike (l.map encD)
  so : PySem.W.Sortable (l.map encD)
  len : l.length ≤ sizeLine
theorem sortOk_of {l : List D} (h : sortOk l = true) : SortOk l := by
  unfold sortOk at h
  simp only [Bool.and_eq_true] at h
  obtain ⟨⟨⟨h1, h2⟩, h3⟩, h4⟩ := h
  refine ⟨fun d hd => ?_, alikeB_of h2, sortable_of h3, of_decide_eq_true h4⟩
  have q := List.all_eq_true.mp h1 d hd
  unfold pyB at q
  rw [Bool.and_eq_true] at q
  refine ⟨?_, q.2⟩
  unfold encD
  cases e : D.py d with
  | none => rw [e] at q; cases q.1
  | some p => rfl

mutual
theorem reads_mem {h : Heap} : ∀ (d : PyData) (v : Value) (as : List Addr), PySem.W.alike d d = true → Reads h v d as → ∀ a ∈ as, ∃ o, h.get? a = some o
  | .none, _, _, _, r, a, m => by cases r; cases m
  | .bool _, _, _, _, r, a, m => by cases r; cases m
  | .int _, _, _, _, r, a, m => by cases r; cases m
  | .str _, _, _, _, r, a, m => by cases r; cases m
  | .list xs, _, _, hal, r, a, m => by
    cases r with
    | list h1 h2 h3 h4 =>
      rcases List.mem_cons.mp m with e | m
      · rw [e]; exact ⟨_, h1⟩
      · exact readsAll_mem xs _ _ (by simpa [PySem.W.alike] using hal) h4 a m
  | .tuple xs, _, _, hal, r, a, m => by
    cases r with
    | tuple h1 h2 h3 h4 => exact readsAll_mem xs _ _ (by simpa [PySem.W.alike] using hal) h4 a m
  | .dict _, _, _, hal, _, _, _ => absurd hal (by simp [PySem.W.alike])
theorem readsAll_mem {h : Heap} : ∀ (ds : List PyData) (vs : List Value) (as : List Addr), PySem.W.alikeAll ds ds = true → ReadsAll h vs ds as → ∀ a ∈ as, ∃ o, h.get? a = some o
  | [], _, _, _, r, a, m => by cases r; cases m
  | d :: ds, _, _, hal, r, a, m => by
    cases r with
    | cons h1 h2 =>
      rcases List.mem_append.mp m with m | m
      · exact reads_mem d _ _ (PySem.W.alike_all_cons hal).1 h1 a m
      · exact readsAll_mem ds _ _ (PySem.W.alike_all_cons hal).2 h2 a m
end
/-- a value stands for data -/
def Stands (K : PySem.W.Frag) (ρ : Rho) (H : Hp) (u : Value) (d : D) : Prop := ∃ v, RelD K ρ H d v ∧ RelV v u
section
variable {K : PySem.W.Frag} {ρ : Rho} {H : Hp}
theorem stands_of : ∀ {ds : List D} {vs : List V} {us : List Value}, RelDs K ρ H ds vs → Vals vs us → PySem.W.EachIs (Stands K ρ H) us ds
  | _, _, _, .nil, .nil => .nil
  | _, _, _, .cons h r, .cons q t => .cons ⟨_, h, q⟩ (stands_of r t)
theorem of_stands : ∀ {ds : List D} {us : List Value}, PySem.W.EachIs (Stands K ρ H) us ds → ∃ vs, RelDs K ρ H ds vs ∧ Vals vs us
  | _, _, .nil => ⟨[], .nil, .nil⟩
  | _, _, .cons ⟨v, h, q⟩ t => by
    obtain ⟨vs, r, w⟩ := of_stands t
    exact ⟨v :: vs, .cons h r, .cons q w⟩
theorem each_imp {α β : Type} {R R' : α → β → Prop} : ∀ {as : List α} {bs : List β}, PySem.W.EachIs R as bs → (∀ a b, b ∈ bs → R a b → R' a b) → PySem.W.EachIs R' as bs
  | _, _, .nil, _ => .nil
  | _, _, .cons h t, f => .cons (f _ _ List.mem_cons_self h) (each_imp t fun a b m => f a b (List.mem_cons_of_mem _ m))
end
/-- a list, or a dict's keys -/
def keyD : Key → D
  | .inl i => .int i
  | .inr x => .str x
def keysD (s : Sr) (d : D) : Option (List D) := match asDk s d with
  | some l => some (l.map fun p => keyD p.1)
  | none => (asDt s d).map fun l => l.map fun p => .tup (p.1.map keyD)
/-- sorted(..) -/
def vSorted (ds : List D) (s : Sr) : Option D := match ds with
  | [d] => (match asL s d with
    | some l => if sortOk l then some (.lst (isortD leD l)) else none
    | none => (match keysD s d with
      | some l => if sortOk l then some (.lst (isortD leD l)) else none
      | none => none))
  | _ => none
/-- list(..) -/
def vList (ds : List D) (s : Sr) : Option D := match ds with
  | [d] => (match asQ s d with
    | some l => some (.lst l)
    | none => (keysD s d).map .lst)
  | _ => none

/-! ### a dict's keys, one by one -/
section
variable {prog : Program} {w : World} {d : Addr} {es : Array DictEntry} {ep : Nat}
theorem rawKeys {A : Around} (hh : A.handled = none) (I d : Addr) (hne : d ≠ I) (es : Array DictEntry) (ep : Nat) :
    Walks prog w A I [I, d] [I] es.size (fun i v => ∃ en, es[i]? = some en ∧ v = en.key) (fun i h => h.IsKeyIter I d i es.size ep ∧ DT.Raw h d es ep) where
  sub := fun b hb => by simp at hb; simp [hb]
  frame := fun _ _ _ st hk => ⟨st.1.at fun o e => hk I (by simp) o e, st.2.at' fun o e => hk d (by simp) o e⟩
  item := fun i s Q E hi st hQ => by
    obtain ⟨o, ho, hc, hd⟩ := id st.2
    refine next_key_item st.1 ho hd rfl (Array.getElem?_eq_getElem hi) fun h' hit' hs' => ?_
    exact hQ _ h' s.toks ⟨_, Array.getElem?_eq_getElem hi, rfl⟩ ⟨hit', st.2.at' fun o e => hs'.extBut d o hne e⟩ fun b o hb e => hs'.extBut b o (fun h => hb (by simp [h])) e
  done := fun s Q E st hQ => by
    obtain ⟨o, ho, hc, hd⟩ := id st.2
    exact next_key_end hh st.1 ho hd rfl (Nat.le_refl _) fun h' he' => hQ h' s.toks fun b o hb e => he' b o (fun h => hb (by simp [h])) e
  self := fun _ _ _ _ st hQ => wpAny_pyIter_keyiter st.1 hQ
theorem rawSrc (lo : (d == sysModules) = false) : PySem.W.KdlSrc prog w "dict" d d es.size (fun i v => ∃ en, es[i]? = some en ∧ v = en.key) (fun h => DT.Raw h d es ep) where
  type := fun _ hm => hm.typeIs
  there := fun _ hm => ⟨hm.lt, hm.lt⟩
  keep := fun _ _ hm hk => hm.at' fun o e => hk d (.inl rfl) o e
  notList := by decide
  notTuple := by decide
  hint := fun _ _ _ _ hm hq => PySem.W.kdl_hint_dict hm.typeIs hq
  iter := fun _ _ hh hm => by
    obtain ⟨o, ho, hc, hd⟩ := id hm
    exact ⟨_, _, (fun _ _ hq => iter_keys lo ho hc hd hq), rawKeys hh _ d (Nat.ne_of_lt hm.lt) es ep, ⟨⟨_, Heap.get?_push_size _ rfl, rfl, rfl⟩, hm.push _⟩⟩
end
section
variable {X : Cx} {g : G} (hK : X.K = g.K)
theorem keyD_rel {K : PySem.W.Frag} {ρ : Rho} {H : Hp} : ∀ k : Key, RelD K ρ H (keyD k) (kV k)
  | .inl i => .int i
  | .inr x => .str x
theorem keyDs_rel {K : PySem.W.Frag} {ρ : Rho} {H : Hp} : ∀ ks : List Key, RelDs K ρ H (ks.map keyD) (ks.map kV)
  | [] => .nil
  | k :: ks => .cons (keyD_rel k) (keyDs_rel ks)
/-- a tracked tuple is no store cell's, nor hidden -/
theorem Sto.tupOut {ρ : Rho} {s : Sr} {H : Hp} {a : Addr} {xs : List V} (hs : Sto g ρ s H) (h : H a = some (.tup xs)) : ¬ ρ.has a := fun m => by
  rcases m with m | m
  · obtain ⟨n, e⟩ := List.getElem?_of_mem m
    obtain ⟨c, o, q1, q2, q3⟩ := hs.cell n a e
    rw [h] at q2; cases q2; cases q3
  · exact hs.xt a m xs h
theorem each_of {α β : Type} {R : α → β → Prop} : ∀ {as : List α} {bs : List β}, as.length = bs.length → (∀ (i : Nat) (a : α) (b : β), as[i]? = some a → bs[i]? = some b → R a b) → PySem.W.EachIs R as bs
  | [], [], _, _ => .nil
  | a :: as, b :: bs, hl, h => .cons (h 0 a b rfl rfl) (each_of (by simpa using hl) fun i x y e1 e2 => h (i + 1) x y (by simpa using e1) (by simpa using e2))
  | [], _ :: _, hl, _ => by simp at hl
  | _ :: _, [], hl, _ => by simp at hl
/-- a dict as a source of its keys -/
theorem keys_src {pins : List (Addr × Obj)} {σ : L2.St} {H : Hp} {s : Shared} {ρ : Rho} {st : Sr} {d : D} {v : V} {ks : List D} (I : Inv X pins σ H s) (hs : Sto g ρ st H) (r : RelD g.K ρ H d v) (e : keysD st d = some ks) :
    ∃ (a : Addr) (P : Nat → Value → Prop) (OK : Heap → Prop), v = .ref a ∧ PySem.W.KdlSrc X.prog X.w "dict" a a ks.length P OK ∧ OK s.heap ∧ ks.length ≤ sizeLine ∧ ∀ acc, ItemsOf P acc ks.length → PySem.W.EachIs (Stands g.K ρ H) acc.toList ks := by
  unfold keysD at e
  cases e1 : asDk st d with
  | some l =>
    rw [e1] at e
    cases e
    obtain ⟨a, kvs, rfl, h, rs⟩ := dk_at hs r e1
    obtain ⟨z, lo, vs, rel, dd⟩ := dk_rd I.hok h
    obtain ⟨ep, hat⟩ := dd.dictAt
    have hl : l.length = vs.length := rs.len.trans rel.length
    refine ⟨a, _, _, rfl, by rw [List.length_map, hl]; exact PySem.W.kdl_dict (knd := mixKind X.prog X.w) (kvs := vs) (ep := ep) lo, hat, by rw [List.length_map, rs.len]; exact z, fun acc hacc => ?_⟩
    rw [List.length_map] at hacc
    refine each_of (by rw [Array.length_toList, List.length_map]; exact hacc.1) fun i u b h1 h2 => ?_
    obtain ⟨k, x, e2, e3⟩ := hacc.2 i u (by rw [← Array.getElem?_toList]; exact h1)
    rw [List.getElem?_map] at h2
    have hk : (l.map (·.1))[i]? = some k := by
      rw [rs.keys, rel.keys, List.getElem?_map, e2]; rfl
    rw [List.getElem?_map] at hk
    cases e4 : l[i]? with
    | none => rw [e4] at h2; cases h2
    | some p =>
      rw [e4] at h2 hk
      cases h2; cases hk
      exact ⟨_, keyD_rel _, relV_key (show keyIs p.1 u = true from e3)⟩
  | none =>
    rw [e1] at e
    obtain ⟨l, e2, e3⟩ := Option.map_eq_some_iff.mp e
    subst e3
    obtain ⟨a, kvs, rfl, h, rs⟩ := dt_at hs r e2
    obtain ⟨z, lo, xs, pr, o, es, ep, ho, hx, hdt, he, _⟩ := (show ObjOk X.prog X.w H s.heap a (.dT kvs) from rd_of I.hok h)
    have hl : es.size = l.length := by
      have l1 : es.size = xs.length := size_of_entries he
      have l2 : kvs.length = xs.length := Paired.length pr
      have l3 := rs.len
      omega
    refine ⟨a, _, fun h => DT.Raw h a es ep, rfl, by rw [List.length_map, ← hl]; exact rawSrc (es := es) (ep := ep) lo, ⟨o, ho, hx, hdt⟩, by rw [List.length_map, rs.len]; exact z, fun acc hacc => ?_⟩
    rw [List.length_map] at hacc
    refine each_of (by rw [Array.length_toList, List.length_map]; exact hacc.1) fun i u b h1 h2 => ?_
    obtain ⟨en, e4, e5⟩ := hacc.2 i u (by rw [← Array.getElem?_toList]; exact h1)
    rw [List.getElem?_map] at h2
    cases e6 : l[i]? with
    | none => rw [e6] at h2; cases h2
    | some p =>
      rw [e6] at h2
      cases h2
      have hk : (l.map (·.1))[i]? = some p.1 := by rw [List.getElem?_map, e6]; rfl
      rw [rs.keys, List.getElem?_map] at hk
      cases e7 : kvs[i]? with
      | none => rw [e7] at hk; cases hk
      | some q =>
        rw [e7] at hk
        have hq : q.1 = p.1 := by simpa using hk
        obtain ⟨b, hb, e8, e9, _⟩ := paired_get pr e7
        have q2 := entry_at he i
        rw [hb] at q2
        rw [e4] at q2
        cases q2
        subst e5
        exact ⟨.ref b.2.1, .tup ⟨hs.tupOut e9, e9⟩ (by rw [hq]; exact keyDs_rel _), rfl⟩
end
end L3

/-! L3Q: list(..), sorted(..) -/
namespace L3
open PySem PySem.Spec PyProof.Rows L2
section
variable {X : Cx} {g : G} (hK : X.K = g.K)
include hK
/-- a new list of data comes -/
theorem new_list {pins : List (Addr × Obj)} {σ : L2.St} {H : Hp} {s : Shared} {ρ : Rho} {st : Sr} {ds : List D} {us : List Value} {h' : Heap} {tk : Nat} {p n : Nat} {Q : VK} (I : Inv X pins σ H s) (hs : Sto g ρ st H)
    (e : PySem.W.EachIs (Stands g.K ρ H) us ds) (hl : ds.length ≤ sizeLine) (k : ∀ b o, s.heap.get? b = some o → h'.get? b = some o) (hp : s.heap.objs.size ≤ p) (hat : h'.get? p = some { cls := .type "list", data := .seq us.toArray n })
    (q : ∀ p o, H p = none → NewR g ρ H (.lst ds) o → Q (.ref p) (upd H p o)) : EP X pins σ Q (.ref p) { s with heap := h', toks := tk } := by
  obtain ⟨vs, rs, rv⟩ := of_stands e
  exact ⟨.ref p, upd H p (.lst vs), I.laid k hp (show ObjOk X.prog X.w _ _ _ (.lst vs) from ⟨by rw [← rs.len]; exact hl, us, n, rv, hat⟩), rfl, q p _ (I.hok.fresh hp) ⟨_, rfl, .lst rs⟩⟩
theorem c_list (hcalm : X.calm = true) : CallR X (.type "list") (rF g vList) := by
  intro pins s σ H xs us Q I r h
  obtain ⟨ρ, st, ds, d, hs, rds, e, q⟩ := h
  unfold vList at e
  split at e
  · rename_i d1
    obtain ⟨v, rfl, rd⟩ := rds.one
    cases e1 : asQ st d1 with
    | some l =>
      rw [e1] at e
      cases e
      obtain ⟨a, ys, rfl, hq, rs⟩ := seq_of hs rd e1
      exact call_list_of pins s σ H _ us Q I r ⟨a, ys, rfl, hK ▸ hq, fun p np => q p _ np ⟨_, rfl, .lst rs⟩⟩
    | none =>
      rw [e1] at e
      obtain ⟨ks, e2, e3⟩ := Option.map_eq_some_iff.mp e
      subst e3
      obtain ⟨a, P, OK, rfl, K, ok, hz, acc'⟩ := keys_src I hs rd e2
      obtain ⟨u, rfl, ru⟩ := vals1 r
      cases ru
      refine PySem.W.kdl_call K (I.ok.hd hcalm) ok hz fun h' tk acc c' hk hD hacc => ?_
      exact new_list hK I hs (acc' acc hacc) hz hk (Nat.le_refl _) (by rw [Array.toArray_toList]; exact hD) q
  · cases e
omit hK in
theorem sort_reads {pins : List (Addr × Obj)} {σ : L2.St} {H : Hp} {s : Shared} {ρ : Rho} {ds : List D} {us : List Value} (hK : X.K = g.K) (I : Inv X pins σ H s) (ok : SortOk ds) (e : PySem.W.EachIs (Stands g.K ρ H) us ds) :
    PySem.W.EachIs (fun v b => ∃ as, Reads s.heap v (encD b) as) us ds := each_imp e fun u d m ⟨v, r, ru⟩ => Dp.reads I (encD d) v u (hK ▸ dp_of r (ok.py d m).1) ru
omit hK in
theorem sort_units (hu : X.A.units + 67 < cLine) {ds : List D} (ok : SortOk ds) (A : Around) (hA : A.units ≤ X.A.units + 1) : ∀ b, b ∈ ds → A.units + 1 + (encD b).depth < cLine := fun b hb => by
  have := SeqAt.depth_of_shaped (ok.py b hb).2
  omega
theorem c_sorted (hcalm : X.calm = true) (hu : X.A.units + 67 < cLine) : CallR X (.builtin "sorted") (rF g vSorted) := by
  intro pins s σ H xs us Q I r h
  obtain ⟨ρ, st, ds, d, hs, rds, e, q⟩ := h
  unfold vSorted at e
  split at e
  · rename_i d1
    obtain ⟨v, rfl, rd⟩ := rds.one
    obtain ⟨u, rfl, ru⟩ := vals1 r
    cases e1 : asL st d1 with
    | some l =>
      rw [e1] at e
      simp only at e
      split at e
      · rename_i so
        cases e
        have ok := sortOk_of so
        obtain ⟨a, ys, rfl, ha, rs⟩ := lst_of hs rd e1
        cases ru
        obtain ⟨its, rv, ho, hz⟩ := I.list (.inl (.inl ha))
        have st1 : PySem.W.EachIs (Stands g.K ρ H) its l := stands_of rs rv
        refine PySem.W.sorted_data (enc := encD) ho.isList st1 (sort_reads hK I ok st1) ok.al ok.so ok.len (fun b hb => by
          have := SeqAt.depth_of_shaped (ok.py b hb).2
          omega) fun out hlen hout => ?_
        have hout : PySem.W.EachIs (Stands g.K ρ H) out (isortD leD l) := by
          rw [← isortD_eq leD_total]; exact hout
        obtain ⟨ep, he⟩ := PyProof.Rows.sortedAll_at s.heap its out.toArray
        exact new_list (tk := s.toks) hK I hs hout (by rw [(isortD_perm l).length_eq]; exact ok.len) (fun _ _ => PyProof.Rows.sortedAll_old) (Nat.le_succ _) (by simpa using he) q
      · cases e
    | none =>
      rw [e1] at e
      simp only at e
      cases e2 : keysD st d1 with
      | none => rw [e2] at e; cases e
      | some l =>
        rw [e2] at e
        simp only at e
        split at e
        · rename_i so
          cases e
          have ok := sortOk_of so
          obtain ⟨a, P, OK, rfl, K, kok, hz, acc'⟩ := keys_src I hs rd e2
          cases ru
          refine Calls.call_function_entry PyProof.Rows.kind_sorted PyProof.Rows.plain_sorted PyProof.Rows.entry_sorted (PyProof.Rows.args_sorted1 _) ?_
          unfold Builtin.«sorted»
          refine wpAny_bind (m := checkCount "sorted" 1 1 _) (wpAny_pure ?_)
          refine wpAny_bind (PySem.W.kdu_collect (A := X.A.in1) K (I.ok.hd hcalm) kok hz fun h' tk acc hk hacc => ?_)
          have hl : acc.toList.length = l.length := by rw [Array.length_toList]; exact hacc.1
          refine wpAny_bind (wpAny_newList ?_ (by rw [hl]; exact hz))
          have I1 : Inv X pins σ H { s with heap := h', toks := tk } := I.kept hk
          have I2 : Inv X pins σ H { s with heap := h'.push (seqObj "list" acc.toList.toArray 0), toks := tk } := I.kept fun b o e => Heap.get?_push_of_some _ (hk b o e)
          have st1 := acc' acc hacc
          have hoL : (h'.push (seqObj "list" acc.toList.toArray 0)).get? h'.objs.size = some (seqObj "list" acc.toList.toArray 0) := Heap.get?_push_size _ rfl
          have er : PySem.W.EachIs (fun v b => ∃ as, Reads (h'.push (seqObj "list" acc.toList.toArray 0)) v (encD b) as ∧ h'.objs.size ∉ as) acc.toList l := each_imp st1 fun u d m ⟨v, r, ru⟩ => by
            obtain ⟨as, rr⟩ := Dp.reads I1 (encD d) v u (hK ▸ dp_of r (ok.py d m).1) ru
            refine ⟨as, PyProof.Rows.Reads.keeps (fun b o e => Heap.get?_push_of_some _ e) rr, fun ma => ?_⟩
            obtain ⟨o, e⟩ := reads_mem _ _ _ (ok.al _ (List.mem_map.mpr ⟨d, m, rfl⟩) _ (List.mem_map.mpr ⟨d, m, rfl⟩)) rr _ ma
            exact absurd (Heap.lt_size e) (Nat.lt_irrefl _)
          show wpAny _ _ _ _ _ { s with heap := h'.push (seqObj "list" acc.toList.toArray 0), toks := tk }
          refine wpAny_bind (wpAny_holding (PySem.W.list_sort_data (s := { s with heap := h'.push (seqObj "list" acc.toList.toArray 0), toks := tk }) (enc := encD) hoL st1 er ok.al ok.so ok.len (fun b hb => by
            have := SeqAt.depth_of_shaped (ok.py b hb).2
            show X.A.in1.units + 1 + (encD b).depth < cLine
            have : X.A.in1.units = X.A.units + 1 := rfl
            omega) fun out hlen hout => ?_))
          have hout : PySem.W.EachIs (Stands g.K ρ H) out (isortD leD l) := by
            rw [← isortD_eq leD_total]; exact hout
          obtain ⟨e', he'⟩ := PyProof.Rows.sortedHeap_at (vs := acc.toList) (out := out.toArray) hoL
          refine wpAny_pure ⟨_, rfl, ?_⟩
          refine new_list (s := { s with heap := h', toks := tk }) (tk := tk) hK I1 hs hout (by rw [(isortD_perm l).length_eq]; exact ok.len) (fun b u e => ?_) (Nat.le_refl _) (by simpa using he') q
          have hb : b < h'.objs.size := Heap.lt_size e
          rw [PyProof.Rows.sortedHeap_old (Nat.ne_of_lt hb) (by rw [size_push']; exact Nat.lt_succ_of_lt hb)]
          exact Heap.get?_push_of_some _ e
        · cases e
  · cases e
end
end L3

/-! L3R: dict comprehensions, keys ints, texts or tuples of these -/
namespace L3
open PySem PySem.Spec PyProof.Rows L2

/-- a sort of dicts: κ its keys -/
structure Dk (κ : Type) [DecidableEq κ] where
  ho : List (κ × V) → HO
  dat : List (κ × D) → D
  key : D → Option κ
  /-- a key's value -/
  Is : Hp → κ → V → Prop
  Rel : PySem.W.Frag → Rho → Hp → List (κ × D) → List (κ × V) → Prop
def dkK : Dk Key := ⟨.dK, .dk, keyOf, fun _ k v => v = kV k, RelK⟩
def keyT : D → Option (List Key)
  | .tup ds => keysOf ds
  | _ => none
def dkT : Dk (List Key) := ⟨.dT, .dt, keyT, fun H k v => ∃ b, v = .ref b ∧ H b = some (.tup (k.map kV)), RelT⟩
/-- what is asked of a sort -/
structure Dk.Ok {κ : Type} [DecidableEq κ] (k : Dk κ) : Prop where
  dic : ∀ l, isDic (k.ho l) = true
  new : ∀ {P : Program} {w : World} {H : Hp} (h : Heap), sysModules < h.objs.size → ObjOk P w H (h.push { cls := .type "dict", data := .dict #[] }) h.objs.size (k.ho [])
  is : ∀ {K : PySem.W.Frag} {ρ : Rho} {H : Hp} {d : D} {v : V} {j : κ}, RelD K ρ H d v → k.key d = some j → k.Is H j v
  nil : ∀ {K : PySem.W.Frag} {ρ : Rho} {H : Hp}, k.Rel K ρ H [] []
  put : ∀ {K : PySem.W.Frag} {ρ : Rho} {H : Hp} {l : List (κ × D)} {m : List (κ × V)} {j : κ} {d : D} {v : V}, k.Rel K ρ H l m → RelD K ρ H d v → k.Rel K ρ H (L3.put j d l) (putK m j v)
  car : ∀ {K : PySem.W.Frag} {ρ ρ' : Rho} {H H' : Hp} {l : List (κ × D)} {m : List (κ × V)}, Car ρ ρ' H H' → k.Rel K ρ H l m → k.Rel K ρ' H' l m
  len : ∀ {K : PySem.W.Frag} {ρ : Rho} {H : Hp} {l : List (κ × D)} {m : List (κ × V)}, k.Rel K ρ H l m → l.length = m.length
  newR : ∀ {g : G} {ρ : Rho} {H : Hp} {l : List (κ × D)} {m : List (κ × V)}, k.Rel g.K ρ H l m → NewR g ρ H (k.dat l) (k.ho m)
  dset : ∀ {X : Cx} {pins : List (Addr × Obj)} {σ : L2.St} {H : Hp} {s : Shared} {E : Value → Shared → Prop} {a : Addr} {m : List (κ × V)} {j : κ} {y v : V} {u r : Value} {Q : Unit → Shared → Prop}, X.A.units < cLine → Inv X pins σ H s → H a = some (k.ho m) → m.length < sizeLine →
    k.Is H j y → RelV y u → RelV v r → (∀ s', Inv X pins σ (upd H a (k.ho (putK m j v))) s' → Q () s') → wpAny (model X.prog X.w) X.A (dictSet a u r) Q E s
theorem dkK_ok : dkK.Ok where
  dic := fun _ => rfl
  new := fun h hb => dk_empty h hb
  is := fun {K ρ H d v j} r e => key_of (g := ⟨K, fun _ => 0, fun _ => 0⟩) r e
  nil := .nil
  put := fun r rv => r.put rv
  car := fun u r => r.car u
  len := fun r => r.len
  newR := fun r => ⟨_, rfl, .dk r⟩
  dset := fun hu I e hz ek ru rv h => by
    subst ek
    exact d_dictSet I e hz ru rv h
theorem dkT_ok : dkT.Ok where
  dic := fun _ => rfl
  new := fun h hb => dt_empty h hb
  is := fun {K ρ H d v j} r e => by
    cases r with
    | tup hk rks => exact ⟨_, rfl, by rw [← keys_of (g := ⟨K, fun _ => 0, fun _ => 0⟩) rks e]; exact hk.2⟩
    | _ => cases e
  nil := .nil
  put := fun r rv => r.put rv
  car := fun u r => r.car u
  len := fun r => r.len
  newR := fun r => ⟨_, rfl, .dt r⟩
  dset := fun {X pins σ H s E a m j y v u r Q} hu I e hz ek ru rv h => by
    obtain ⟨b, rfl, eb⟩ := ek
    cases (show u = Value.ref b from ru)
    obtain ⟨z, hd, xs, rel, dd⟩ := dt_of I.hok e
    have hl : (putK m j v).length ≤ sizeLine := Nat.le_trans (length_putK m j v) hz
    refine wpAny_dictSet_heap (knd := tupleKind (mixKind X.prog X.w)) (k := j) hu (L2.key_of I.hok eb) dd (fun h' dd' hs => h _ ?_) (by rw [← Paired.length rel]; exact z)
    obtain ⟨q, es, ep, hq, h2, h3, h4, _, h5⟩ := dd'
    exact d_write I (by rw [e]; exact True.intro) hs ⟨q, hq⟩ ⟨hl, hd, _, (rel.put j eb rv).keeps fun c ys ec => (upd_ne (ne_of ec e fun z => nomatch z)).trans ec, q, es, ep, hq, h2, h3, h4, h5⟩

section
variable {κ : Type} [DecidableEq κ]
def dcL (kd : Dk κ) (chk : Sr → Bool) (vs : List Nat) (t : Tg) (test : FB) (fk fv : F) : List D → List (κ × D) → Env' → Sr → R (List (κ × D))
  | [], acc, _, s => if chk s then .ok acc s else .bad
  | d :: ds, acc, env, s => if chk s then (match t.put d (wipeE env vs) with
      | none => .bad
      | some env1 => (test env1 s).nox.bind fun b s => if b then (fk env1 s).nox.bind fun y s => (fv env1 s).nox.bind fun z s => match kd.key y with
          | some j => if acc.length < sizeLine then dcL kd chk vs t test fk fv ds (put j z acc) env s else .bad
          | none => .bad
        else dcL kd chk vs t test fk fv ds acc env s) else .bad
def eDc (kd : Dk κ) (it : FI) (vs : List Nat) (t : Tg) (test : FB) (fk fv : F) : F := fun env s => (it env s).bind fun c s => (dcL kd c.ok vs t test fk fv c.items [] env s).bind fun l s => .ok (kd.dat l) s
variable {X : Cx} {g : G} {W : WX} {pos : Pos}
/-- the state of a block's loop, at the turn i -/
structure DcAt (kd : Dk κ) (g : G) (Hd : Rho → Hp → Prop) (ρ1 : Rho) (H1 : Hp) (a : Addr) (env : Env') (σ : L2.St) (r : Rho) (s : Sr) (acc : List (κ × D)) (H : Hp) : Prop where
  up : UpB (· = a) (ρ1.hide a) r (upd H1 a (kd.ho [])) H
  sto : Sto g r s H
  loc : Loc' g.K r H env σ
  hd : Hd r H
  at' : ∃ m, H a = some (kd.ho m) ∧ kd.Rel g.K r H acc m
  len : acc.length ≤ sizeLine
theorem wipe_idem (us : List Nat) (σ : L2.St) : wipe (wipe σ us) us = wipe σ us := by
  have key : ∀ (ws : List Nat) (τ : L2.St), (∀ i ∈ ws, τ[i]? = some none ∨ τ[i]? = none) → wipe τ ws = τ := by
    intro ws
    induction ws with
    | nil => intro τ _; rfl
    | cons w ws ih =>
      intro τ h
      show (wipe τ ws).set w none = τ
      rw [ih τ fun i hi => h i (List.mem_cons_of_mem _ hi)]
      rcases h w List.mem_cons_self with q | q
      · obtain ⟨hw, q⟩ := List.getElem?_eq_some_iff.mp q
        rw [← q]; exact List.set_getElem_self hw
      · rw [List.set_eq_of_length_le (List.getElem?_eq_none_iff.mp q)]
  refine key us _ fun i hi => ?_
  cases q : (wipe σ us)[i]? with
  | none => exact .inr rfl
  | some z => cases z with
    | none => exact .inl rfl
    | some v => exact absurd hi (wipe_some q).2
/-- what a key, a value and a test of a block's turn give, in the block's context Y -/
theorem dc_turn {kd : Dk κ} (ok : kd.Ok) {Y : Cx} {kx vx : Expr} {fk fv : F} {pins : List (Addr × Obj)} {σ2 : L2.St} {H3 : Hp} {s3 : Shared} {r3 : Rho} {st : Sr} {a : Addr} {acc : List (κ × D)} {env2 env : Env'} {σ : L2.St} {Hd : Rho → Hp → Prop} {ρ1 : Rho} {H1 : Hp} {E : Value → Shared → Prop} {R' : Shared → Prop}
    {fin : List (κ × D) → Sr → Prop} (hu : Y.A.units < cLine) (hk : PE Y kx (tI g W0 fk)) (hv : PE Y vx (tI g W0 fv)) (hx : ∀ e s', Y.xe e s' → E e s') (mono : ∀ {ρ ρ' H H'}, Hd ρ H → Car ρ ρ' H H' → Hd ρ' H') (I : Inv Y pins σ2 H3 s3) (S : DcAt kd g Hd ρ1 H1 a env σ r3 st acc H3) (nD : a ∉ ρ1.c) (l2 : Loc' g.K r3 H3 env2 σ2)
    (hq : ∃ y s1 z s2 j, fk env2 st = .ok y s1 ∧ fv env2 s1 = .ok z s2 ∧ kd.key y = some j ∧ acc.length < sizeLine ∧ fin (put j z acc) s2)
    (done : ∀ (r : Rho) (s : Sr) (acc' : List (κ × D)) (H : Hp) (s' : Shared), fin acc' s → DcAt kd g Hd ρ1 H1 a env σ r s acc' H → Inv Y pins σ2 H s' → R' s') :
    wpAny (model Y.prog Y.w) Y.A (eval kx Y.env) (fun kv s4 => wpAny (model Y.prog Y.w) Y.A (eval vx Y.env) (fun vv s5 => wpAny (model Y.prog Y.w) Y.A (dictSet a kv vv) (fun _ s6 => R' s6) E s5) E s4) E s3 := by
  obtain ⟨y, s1, z, s2, j, e1, e2, ej, hz, hf⟩ := hq
  have hax : a ∈ r3.x := by rw [S.up.ex]; exact List.mem_cons_self
  refine wpAny_mono (hk.run pins s3 σ2 H3 (fun yv H4 => ∃ r4, Up r3 r4 H3 H4 ∧ Sto g r4 s1 H4 ∧ RelD g.K r4 H4 y yv) I ⟨r3, st, env2, S.sto, l2, ?_⟩) (fun kv s4 ⟨yv, H4, I4, ry, r4, u4, hs4, rd4⟩ => ?_) fun e s' h => hx e s' h
  · rw [e1]
    exact fun ρ' H' v u hs r => ⟨ρ', u, hs, r⟩
  refine wpAny_mono (hv.run pins s4 σ2 H4 (fun zv H5 => ∃ r5, Up r4 r5 H4 H5 ∧ Sto g r5 s2 H5 ∧ RelD g.K r5 H5 z zv) I4 ⟨r4, s1, env2, hs4, l2.up u4, ?_⟩) (fun vv s5 ⟨zv, H5, I5, rz, r5, u5, hs5, rd5⟩ => ?_) fun e s' h => hx e s' h
  · rw [e2]
    exact fun ρ' H' v u hs r => ⟨ρ', u, hs, r⟩
  obtain ⟨m, hm, rm⟩ := S.at'
  have U := u4.trans u5
  have hm5 : H5 a = some (kd.ho m) := (U.hid a hax id).trans hm
  have hax5 : a ∈ r5.x := by rw [U.ex]; exact hax
  have rm5 := ok.car U.car rm
  refine ok.dset hu I5 hm5 (by rw [← ok.len rm]; exact hz) (ok.is (rd4.up u5) ej) ry rz fun s6 I6 => ?_
  have uh : UpB (· = a) r5 r5 H5 (upd H5 a (kd.ho (putK m j zv))) := UpB.hide hax5
  have up5 := S.up.trans U.of
  refine done r5 s2 _ _ s6 hf ⟨up5.trans uh, hs5.up rfl uh (fun b mb => upd_ne fun e => hid_out nD up5 (e ▸ mb)) fun b mb ys => ?_, (S.loc.up U).up uh, mono S.hd (U.of.trans uh).car, ⟨_, upd_same, ok.car uh.car (ok.put rm5 rd5)⟩, ?_⟩ I6
  · by_cases e : b = a
    · rw [e, upd_same]
      intro z
      have d := ok.dic (putK m j zv)
      rw [Option.some.inj z] at d
      cases d
    · rw [upd_ne e]; exact hs5.xt b mb ys
  · unfold put
    split
    · rw [List.length_map]; exact Nat.le_of_lt hz
    · rw [List.length_append]; exact hz
/-- the items from i on are still to be gone through -/
structure DcSt (kd : Dk κ) (c : Src) (g : G) (Hd : Rho → Hp → Prop) (ρ1 : Rho) (H1 : Hp) (a : Addr) (env : Env') (σ : L2.St) (W : WX) (Q : VK) (vs : List Nat) (t : Tg) (ft : FB) (fk fv : F) (i : Nat) (H : Hp) : Prop where
  le : i ≤ c.items.length
  ex : ∃ r s acc, DcAt kd g Hd ρ1 H1 a env σ r s acc H ∧ PostN g W ρ1 H1 env σ Q ((dcL kd c.ok vs t ft fk fv (c.items.drop i) acc env s).bind fun l s => .ok (kd.dat l) s)
theorem n_dc {kd : Dk κ} (ok : kd.Ok) {kx vx tg iter : Expr} {ifs : List Expr} {scope : Scope} {own : List (Str × Nat)} {fi : FI} {t : Tg} {ft : FB} {fk fv : F} (hu : X.A.units < cLine) (k : LcOk X g scope own tg iter ifs W fi t ft)
    (hk : ∀ (s : Shared) (H : Hp) (C : Addr) (cl : List (Str × Addr)) (fp : List Addr), PE (X.blk s H scope (compEnvC scope cl C X.env) fp) kx (tI g W0 fk))
    (he : ∀ (s : Shared) (H : Hp) (C : Addr) (cl : List (Str × Addr)) (fp : List Addr), PE (X.blk s H scope (compEnvC scope cl C X.env) fp) vx (tI g W0 fv)) :
    PE X (.DictComp kx vx [⟨tg, iter, ifs, 0⟩] scope pos) (tN g W (eDc kd fi (own.map (·.2)) t ft fk fv)) := by
  refine ⟨fun pins s σ H Q I h => ?_⟩
  obtain ⟨ρ, st, env, hs, hl, hp⟩ := h
  have fre : ∀ y ∈ scope.names, y.2 = .free → ∃ c, X.env.cells.lookup y.1 = some c := fun y hy e => I.ok.has _ (k.ok.free y hy e)
  rw [arm_eval_DictComp]
  refine wpAny_comprehension_free (use := none) rfl k.hs (closure_ok fre) k.ok.kind (fun y hy e => by rw [k.ok.uniq y hy, e]) ?_
  refine wpAny_mono (k.hi.run pins s σ H _ I ⟨ρ, st, env, hs, hl, PostN.bind (Rel' := RI g) hp⟩) (fun xv s1 hx => wpAny_mono hx (fun itv s2 h2 => ?_) fun _ _ x => x) fun _ _ x => x
  obtain ⟨it, fp, tn, J, H2, rfl, I2, T, tn0, fps, ρ1, st1, c, u1, hs1, ⟨Hd, sv, hd⟩, p1⟩ := h2
  refine wpAny_newObj_type (newEnv_comp ?_)
  -- the new dict stands at a, the block's frame behind it
  let a := s2.heap.objs.size
  let s3 : Shared := { s2 with heap := s2.heap.push { cls := .type "dict", data := .dict #[] } }
  have na : H2 a = none := I2.hok.fresh (Nat.le_refl _)
  have I3 : Inv X pins σ (upd H2 a (kd.ho [])) s3 := I2.laid (t' := s2.toks) (fun b o e => Heap.get?_push_of_some _ e) (Nat.le_refl _) (ok.new s2.heap I2.big)
  have nt : ∀ xs, kd.ho [] ≠ .tup xs := fun xs e => by
    have d := ok.dic []
    rw [e] at d
    cases d
  obtain ⟨hs3, nD⟩ := hs1.hide (o := kd.ho []) na nt
  have low : ∀ b ∈ fp, b < s2.heap.objs.size := fun b hb => let ⟨o, e, _⟩ := T.obj _ _ tn0 b hb; Heap.lt_size e
  have fp3 : ∀ b ∈ fp, FpOk X pins (upd H2 a (kd.ho [])) b ∧ b < s3.heap.objs.size := fun b hb => ⟨⟨(upd_ne (Nat.ne_of_lt (low b hb))).trans (fps b hb).1, (fps b hb).2⟩, by
    show b < (s2.heap.push _).objs.size
    rw [Heap.size_push]; exact Nat.lt_succ_of_lt (low b hb)⟩
  have tn3 : tn 0 s3.heap := T.keep _ _ _ tn0 fun b _ o e => Heap.get?_push_of_some _ e
  have IB := block_start I3 k.ok k.hN fp3
  let cl := cellsFrom (s3.heap.objs.size + 1) scope.names (cloFrom X.env.cells scope.names [])
  let ce := compEnvC scope cl s3.heap.objs.size X.env
  let H3 := upd H2 a (kd.ho [])
  let Y := X.blk s3 H3 scope ce fp
  let s4 : Shared := { s3 with heap := pushCells (s3.heap.push { cls := .type "dict", data := .dict #[] }) scope.names }
  have IB : Inv Y [] (wipe σ (own.map (·.2))) H3 s4 := IB
  have tn4 : tn 0 s4.heap := T.keep _ _ _ tn3 fun b _ o e => pushCells_keeps _ _ _ _ (Heap.get?_push_of_some _ e)
  have fpB : ∀ {σ' : L2.St} {H' : Hp} {s' : Shared}, Inv Y [] σ' H' s' → (∀ b ∈ fp, H' b = none) → ∀ b ∈ fp, FpOk Y [] H' b := fun I' n b hb =>
    ⟨n b hb, (I'.ok.exf b hb).1, I'.ok.exfs b hb, .inl hb, fun x c e => (I'.ok.exf b hb).2 x c e, fun p hp => absurd (show p ∈ ([] : List (Addr × Obj)) ++ [] from hp) (by simp)⟩
  let M : Nat → Shared → Prop := fun n s' => ∃ i H', n = c.items.length - i ∧ Inv Y [] (wipe σ (own.map (·.2))) H' s' ∧ tn i s'.heap ∧ (∀ b ∈ fp, H' b = none) ∧ DcSt kd c g Hd ρ1 H2 a env σ W Q (own.map (·.2)) t ft fk fv i H'
  have M0 : M c.items.length s4 := ⟨0, H3, rfl, IB, tn4, fun b hb => (fp3 b hb).1.1, Nat.zero_le _, ρ1.hide a, st1, [], ⟨.refl, hs3, (hl.up u1).car (Car.hide na), sv.mono hd (Car.hide na), ⟨[], upd_same, ok.nil⟩, Nat.zero_le _⟩, p1⟩
  have go : codeAny (model X.prog X.w) X.A (.compLoop (.DictComp kx vx [⟨tg, iter, ifs, 0⟩] scope pos) 0 (.ref it) (.ref a) ce) (compPost (model X.prog X.w) X.A X.xe none (EP X pins σ Q) (.ref a) s3.heap.objs.size) s4 := by
    refine compLoop_anyD M ?_ _ M0
    rintro n s5 ⟨i, H5, rfl, I5, tn5, n5, hi, r, st5, acc, S, p5⟩
    by_cases hlt : i < c.items.length
    · rw [List.drop_eq_getElem_cons hlt] at p5
      unfold dcL at p5
      cases ck : c.ok st5 with
      | false => rw [ck] at p5; exact p5.elim
      | true =>
        rw [ck, if_pos rfl] at p5
        obtain ⟨hgo, hy⟩ := sv.go hlt S.sto ck S.hd
        refine thnF (T.item Y rfl rfl rfl k.hc i [] s5 _ H5 (fun _ _ => False) I5 (fpB I5 n5) tn5 hgo) fun rr s6 ⟨u, hr, h6⟩ => ?_
        subst hr
        refine thnF h6 fun _ s7 ⟨x, H7, I7, rx, y7, tn7, n7⟩ => ?_
        obtain ⟨u7, hs7, rd7⟩ := hy x H7 y7
        have S7 : DcAt kd g Hd ρ1 H2 a env σ r st5 acc H7 := by
          obtain ⟨m, hm, rm⟩ := S.at'
          have hax : a ∈ r.x := by rw [S.up.ex]; exact List.mem_cons_self
          exact ⟨S.up.trans u7.of, hs7, S.loc.up u7, sv.mono S.hd u7.car, ⟨m, (u7.hid a hax id).trans hm, ok.car u7.car rm⟩, S.len⟩
        have I7' := I7.pinned (fpB I7 n7) (T.obj _ _ tn7)
        cases e : t.put c.items[i] (wipeE env (own.map (·.2))) with
        | none => rw [e] at p5; exact p5.elim
        | some env2 =>
          rw [e] at p5
          refine thnF ((k.hg s3 H3 s3.heap.objs.size cl fp).run _ s7 _ H7 x u (fun σ8 H8 => H8 = H7 ∧ Loc' g.K r H7 env2 σ8 ∧ wipe σ8 (own.map (·.2)) = wipe σ (own.map (·.2))) I7' rx ⟨r, _, _, env2, rd7, S7.loc.wipe _, e, fun σ8 l8 w8 => ⟨rfl, l8, (w8 _ k.tw).trans (wipe_idem _ _)⟩⟩) fun _ s8 ⟨σ8, H8, I8, e8, l8, w8⟩ => ?_
          subst e8
          -- what stands behind the turn
          have back : ∀ {s' : Shared} {H' : Hp} {r' : Rho} {st' : Sr} {acc' : List (κ × D)}, Inv Y ([] ++ pinsAt fp s7.heap) σ8 H' s' → DcAt kd g Hd ρ1 H2 a env σ r' st' acc' H' →
              PostN g W ρ1 H2 env σ Q ((dcL kd c.ok (own.map (·.2)) t ft fk fv (c.items.drop (i + 1)) acc' env st').bind fun l s => .ok (kd.dat l) s) → ∃ m, m < c.items.length - i ∧ M m s' := fun {s' H' r' st' acc'} I' S' p' => by
            have pin : ∀ b ∈ fp, ∀ o, s7.heap.get? b = some o → s'.heap.get? b = some o ∧ H' b = none := fun b hb o e =>
              let z := I'.pin (b, o) (List.mem_append_right _ (List.mem_append_right _ (mem_pinsAt hb e)))
              ⟨z.1, z.2.1⟩
            refine ⟨c.items.length - (i + 1), by omega, i + 1, H', rfl, (I'.unpinned (pins := [])).weak (by rw [← w8, wipe_length]) (fun j v e => ?_), T.keep _ _ _ tn7 fun b hb o e => (pin b hb o e).1, fun b hb => ?_, hlt, r', st', acc', S', p'⟩
            · rw [← w8] at e
              exact (wipe_some e).1
            · obtain ⟨o, e, _⟩ := T.obj _ _ tn7 b hb
              exact (pin b hb o e).2
          have p5 : PostN g W ρ1 H2 env σ Q (((ft env2 st5).nox.bind fun b s => if b then (fk env2 s).nox.bind fun y s => (fv env2 s).nox.bind fun z s => match kd.key y with
                  | some j => if acc.length < sizeLine then dcL kd c.ok (own.map (·.2)) t ft fk fv (c.items.drop (i + 1)) (put j z acc) env s else .bad
                  | none => .bad
                else dcL kd c.ok (own.map (·.2)) t ft fk fv (c.items.drop (i + 1)) acc env s).bind fun l s => .ok (kd.dat l) s) := p5
          cases et : ft env2 st5 with
          | exc _ _ _ => rw [et] at p5; exact p5.elim
          | bad => rw [et] at p5; exact p5.elim
          | ok b st6 =>
            rw [et] at p5
            refine thnF ((k.ht s3 H3 s3.heap.objs.size cl fp).run _ s8 σ8 H8 (fun b' H9 => b' = b ∧ ∃ r', DcAt kd g Hd ρ1 H2 a env σ r' st6 acc H9 ∧ Loc' g.K r' H9 env2 σ8) I8 ⟨r, st5, env2, S7.sto, l8, ?_⟩) fun b' s9 ⟨H9, I9, eb, r9, S9, l9⟩ => ?_
            · rw [et]
              intro r3 H9 b' u9 hs9 hb
              obtain rfl : b = b' := hb
              obtain ⟨m, hm, rm⟩ := S7.at'
              have hax : a ∈ r.x := by rw [S7.up.ex]; exact List.mem_cons_self
              exact ⟨rfl, r3, ⟨S7.up.trans u9.of, hs9, S7.loc.up u9, sv.mono S7.hd u9.car, ⟨m, (u9.hid a hax id).trans hm, ok.car u9.car rm⟩, S7.len⟩, l8.up u9⟩
            subst eb
            cases b' with
            | false =>
              rw [if_neg Bool.false_ne_true]
              exact back I9 S9 p5
            | true =>
              rw [if_pos rfl]
              have p5 : PostN g W ρ1 H2 env σ Q (((fk env2 st6).nox.bind fun y s => (fv env2 s).nox.bind fun z s => match kd.key y with
                  | some j => if acc.length < sizeLine then dcL kd c.ok (own.map (·.2)) t ft fk fv (c.items.drop (i + 1)) (put j z acc) env s else .bad
                  | none => .bad).bind fun l s => .ok (kd.dat l) s) := p5
              refine dc_turn ok (Y := Y) (fin := fun acc' st' => PostN g W ρ1 H2 env σ Q ((dcL kd c.ok (own.map (·.2)) t ft fk fv (c.items.drop (i + 1)) acc' env st').bind fun l s => .ok (kd.dat l) s)) hu (hk s3 H3 s3.heap.objs.size cl fp) (he s3 H3 s3.heap.objs.size cl fp) (fun _ _ z => z.elim) sv.mono I9 S9 nD l9 ?_ fun r' st' acc' H' s' f S' I' => back I' S' f
              cases ey : fk env2 st6 with
              | exc _ _ _ => rw [ey] at p5; exact p5.elim
              | bad => rw [ey] at p5; exact p5.elim
              | ok y st7 =>
                rw [ey] at p5
                have p5 : PostN g W ρ1 H2 env σ Q (((fv env2 st7).nox.bind fun z s => match kd.key y with
                  | some j => if acc.length < sizeLine then dcL kd c.ok (own.map (·.2)) t ft fk fv (c.items.drop (i + 1)) (put j z acc) env s else .bad
                  | none => .bad).bind fun l s => .ok (kd.dat l) s) := p5
                cases ez : fv env2 st7 with
                | exc _ _ _ => rw [ez] at p5; exact p5.elim
                | bad => rw [ez] at p5; exact p5.elim
                | ok z st8 =>
                  rw [ez] at p5
                  have p5 : PostN g W ρ1 H2 env σ Q ((match kd.key y with
                    | some j => if acc.length < sizeLine then dcL kd c.ok (own.map (·.2)) t ft fk fv (c.items.drop (i + 1)) (put j z acc) env st8 else .bad
                    | none => .bad : R (List (κ × D))).bind fun l s => .ok (kd.dat l) s) := p5
                  cases ej : kd.key y with
                  | none => rw [ej] at p5; exact p5.elim
                  | some j =>
                    rw [ej] at p5
                    simp only at p5
                    by_cases hz : acc.length < sizeLine
                    · rw [if_pos hz] at p5
                      exact ⟨y, st7, z, st8, j, rfl, ez, ej, hz, p5⟩
                    · rw [if_neg hz] at p5; exact p5.elim
    · have e : i = c.items.length := by omega
      subst e
      rw [List.drop_length] at p5
      unfold dcL at p5
      cases ck : c.ok st5 with
      | false => rw [ck] at p5; exact p5.elim
      | true =>
        rw [ck, if_pos rfl] at p5
        refine thnF (T.done Y rfl rfl rfl k.hc _ [] s5 _ H5 (fun _ _ => False) I5 (fpB I5 n5) tn5 (sv.stop S.sto ck S.hd)) fun rr s6 ⟨hr, I6⟩ => ?_
        subst hr
        have I7 : Inv X pins σ H5 s6 := I3.call' (ch := fp) I6.os I6.base I6.hok I6.bare fun b hb => ⟨(fp3 b hb).1.2.2.2.1, (fp3 b hb).1.2.1, (fp3 b hb).1.2.2.2.2.1, (fp3 b hb).1.2.2.2.2.2⟩
        obtain ⟨m, hn, _⟩ := I6.loc
        obtain ⟨f0, f1, f2, f3, f4, f5⟩ := I3.fpOk (Nat.le_refl _) (show H5 s3.heap.objs.size = none from I6.free)
        obtain ⟨mm, hm, rm⟩ := S.at'
        refine ⟨m, hn, fun h'' sb => ⟨.ref a, H5, I7.turned (t' := s6.toks) (fun b o hb e => (sb.2 b hb).trans e) f0 f1 f3 f4 f5, rfl, ?_⟩⟩
        exact p5 r a H5 _ ⟨S.up.ex, hid_out nD S.up, UpB.unhide na hs1.xin S.up, na, S.sto, S.loc, hm, ok.newR rm⟩
  exact codeAny_compStart_dict go (T.self X.A 0 _ _ _ tn4 go)
end
end L3

/-! L3S: dict(..) -/
namespace L3
open PySem PySem.Spec PyProof.Rows L2

def intKey : List Key → Option (List Int)
  | [] => some []
  | .inl i :: r => (intKey r).map (i :: ·)
  | _ => none
def hashI (l : List Int) : Int := reduceHash (Builtin.Tuple.tupleHashOf (l.map hashInt))
def hashes : List (List Key × D) → Option (List Int)
  | [] => some []
  | p :: r => (intKey p.1).bind fun k => (hashes r).map (hashI k :: ·)
/-- the hashes of the keys (tuples of ints) differ -/
def hashNd (l : List (List Key × D)) : Bool := match hashes l with | some h => decide h.Nodup | none => false
theorem intKey_eq : ∀ {k : List Key} {l : List Int}, intKey k = some l → k = l.map Sum.inl
  | [], _, e => by cases e; rfl
  | .inl i :: r, l, e => by
    unfold intKey at e
    obtain ⟨m, e1, e2⟩ := Option.map_eq_some_iff.mp e
    subst e2
    rw [intKey_eq e1]; rfl
  | .inr x :: r, l, e => by cases e
theorem hashI_eq {P : Program} {w : World} {k : List Key} {l : List Int} (e : intKey k = some l) : tupleKeyHash (mixKind P w) k = hashI l := by
  rw [intKey_eq e]
  unfold tupleKeyHash hashI
  rw [List.map_map]
  rfl
theorem hashes_eq {P : Program} {w : World} : ∀ {l : List (List Key × D)} {h : List Int}, hashes l = some h → (l.map fun p => tupleKeyHash (mixKind P w) p.1) = h
  | [], _, e => by cases e; rfl
  | p :: r, h, e => by
    unfold hashes at e
    obtain ⟨k, e1, e2⟩ := Option.bind_eq_some_iff.mp e
    obtain ⟨m, e3, e4⟩ := Option.map_eq_some_iff.mp e2
    subst e4
    rw [List.map_cons, hashes_eq e3, hashI_eq e1]
/-- pairs of a key and a value -/
def pairsD {κ : Type} (key : D → Option κ) : List D → Option (List (κ × D))
  | [] => some []
  | .tup [k, v] :: r => (key k).bind fun j => (pairsD key r).map ((j, v) :: ·)
  | _ => none
def mergeD {κ : Type} [DecidableEq κ] (acc ps : List (κ × D)) : List (κ × D) := ps.foldl (fun acc p => put p.1 p.2 acc) acc
def vDict (ds : List D) (s : Sr) : Option D := match ds with
  | [d] => (match asDk s d with
    | some l => some (.dk l)
    | none => match asDt s d with
      | some l => if hashNd l then some (.dt l) else none
      | none => match asL s d with
        | some l => (match pairsD keyOf l with
          | some ps => some (.dk (mergeD [] ps))
          | none => (pairsD keyT l).map fun ps => .dt (mergeD [] ps))
        | none => none)
  | _ => none
section
variable {K : PySem.W.Frag} {ρ : Rho} {H : Hp}
theorem RelK.merge : ∀ {ps acc : List (Key × D)} {qs bcc : List (Key × V)}, RelK K ρ H ps qs → RelK K ρ H acc bcc → RelK K ρ H (mergeD acc ps) (mergeK bcc qs)
  | _, _, _, _, .nil, r => r
  | _, _, _, _, .cons (k := k) h t, r => by
    have := RelK.merge t (r.put (k := k) h)
    exact this
def mergeT (kvs more : List (List Key × V)) : List (List Key × V) := more.foldl (fun acc kv => putK acc kv.1 kv.2) kvs
theorem RelT.merge : ∀ {ps acc : List (List Key × D)} {qs bcc : List (List Key × V)}, RelT K ρ H ps qs → RelT K ρ H acc bcc → RelT K ρ H (mergeD acc ps) (mergeT bcc qs)
  | _, _, _, _, .nil, r => r
  | _, _, _, _, .cons (k := k) h t, r => by
    have := RelT.merge t (r.put (k := k) h)
    exact this
theorem kt_all {H : Hp} : ∀ {more acc : List (List Key × V)} {ys xs : List (List Key × Addr × Value)}, KT H more ys → KT H acc xs → KT H (mergeT acc more) (storedAllH xs ys)
  | _, _, _, _, .nil, r => r
  | _, _, _, _, .cons h t, r => by
    obtain ⟨h1, h2, h3⟩ := h
    have q := r.put _ h2 h3
    rw [h1] at q
    have := kt_all t q
    rw [← h1] at this
    rw [← h1] at q
    show KT H (mergeT (putK _ _ _) _) (storedAllH (storedH _ _ _ _) _)
    rw [← h1]
    exact this
theorem kt_keys {H : Hp} : ∀ {kvs : List (List Key × V)} {xs : List (List Key × Addr × Value)}, KT H kvs xs → kvs.map (·.1) = xs.map (·.1)
  | _, _, .nil => rfl
  | _, _, .cons h t => by rw [List.map_cons, List.map_cons, kt_keys t, h.1]
theorem len_mergeT : ∀ (more acc : List (List Key × V)), (mergeT acc more).length ≤ acc.length + more.length
  | [], acc => by show acc.length ≤ acc.length + 0; omega
  | p :: r, acc => by
    have h1 := len_mergeT r (putK acc p.1 p.2)
    have h2 := length_putK acc p.1 p.2
    show (mergeT (putK acc p.1 p.2) r).length ≤ _
    rw [List.length_cons]; omega
end
/-- dict(d), keys that are objects -/
theorem call_dictH {prog : Program} {w : World} {κ : Type} [DecidableEq κ] {knd : HeapKind prog w κ} {A : Around} {E : Value → Shared → Prop} {s : Shared} {o : Addr} {xs : List (κ × Addr × Value)} {Q : Value → Shared → Prop} (hu : knd.room A.in1.in1) (hoS : (o == sysModules) = false) (ho : s.heap.DictOfH knd o xs)
    (hty : ∀ x ∈ xs, s.TypeIs (.ref x.2.1) "tuple") (hst : ∀ h' : Heap, (∀ b o, s.heap.get? b = some o → h'.get? b = some o) → h'.DictOfH knd o xs) (hap : (xs.map fun x => knd.hash x.1).Nodup) (hsz : xs.length ≤ sizeLine)
    (h : ∀ h' : Heap, h'.DictOfH knd s.heap.objs.size xs → (∀ b o, s.heap.get? b = some o → h'.get? b = some o) → Q (.ref s.heap.objs.size) { s with heap := h' }) : wpAny (model prog w) A (call (.type "dict") [.ref o]) Q E s := by
  refine callType_codes (Q₁ := fun obj t => obj = .ref s.heap.objs.size ∧ t = { s with heap := s.heap.push { cls := .type "dict", data := .dict #[] } }) F.kt_called_dict (F.kt_typeCall_dict_1 _) F.entry_dict_init (kt_code_dict_new _ ⟨rfl, rfl⟩) ?_
  rintro obj t ⟨rfl, rfl⟩
  have up : ∀ b u, s.heap.get? b = some u → (s.heap.push { cls := .type "dict", data := .dict #[] }).get? b = some u := fun b u e => Heap.get?_push_of_some _ e
  have hn : (s.heap.push { cls := .type "dict", data := .dict #[] }).DictOfH knd s.heap.objs.size [] := Heap.DictOfH.new s.heap
  have lt : o < s.heap.objs.size := let ⟨_, _, _, e, _⟩ := ho; Heap.lt_size e
  refine ⟨hn.typeIs, F.args_dict_init_2 _ _, ?_⟩
  unfold Builtin.«dict.__init__»
  refine wpAny_bind ?_
  unfold Builtin.Dict.selfAndRest
  refine wpAny_bind (wpAny_notOrdered_dict hn.typeIs ?_)
  show wpAny _ _ (pure (s.heap.objs.size, [Value.ref o])) _ _ _
  refine wpAny_pure ?_
  refine updateFrom_dictH (A := A.in1) (kvs := []) .none hu (Nat.ne_of_gt lt) hoS hn (hst _ up) (.inr ⟨fun x m => ?_, hap⟩) (by simpa using hsz) fun h' hd' ho' hs' => ⟨rfl, h h' ?_ fun b u e => (hs'.2 b (Nat.ne_of_lt (Heap.lt_size e))).trans (up b u e)⟩
  · obtain ⟨ob, e1, e2⟩ := hty x m
    exact ⟨ob, up _ _ e1, e2⟩
  · rw [storedAllH_nil_of_nodup xs ho.nodup] at hd'
    exact hd'
section
variable {X : Cx} {g : G} (hK : X.K = g.K)
/-- a new dict of tuple keys -/
theorem laid_dt {pins : List (Addr × Obj)} {σ : L2.St} {H : Hp} {s : Shared} {h' : Heap} {tk : Nat} {kvs : List (List Key × V)} {xs : List (List Key × Addr × Value)} (I : Inv X pins σ H s) (k : ∀ b u, s.heap.get? b = some u → h'.get? b = some u) (z : kvs.length ≤ sizeLine)
    (r : KT H kvs xs) (d : h'.DictOfH (tupleKind (mixKind X.prog X.w)) s.heap.objs.size xs) : Inv X pins σ (upd H s.heap.objs.size (.dT kvs)) { s with heap := h', toks := tk } := by
  obtain ⟨o, es, ep, h1, h2, h3, h4, _, h5⟩ := d
  refine I.laid k (Nat.le_refl _) (show ObjOk X.prog X.w _ _ _ (.dT kvs) from ⟨z, beq_eq_false_iff_ne.mpr (Ne.symm (Nat.ne_of_lt I.big)), xs, r.keeps fun b ys e => ?_, o, es, ep, h1, h2, h3, h4, h5⟩)
  rw [upd_ne (ne_of_none e (I.hok.fresh (Nat.le_refl _)))]; exact e
theorem pairs_key : ∀ {l : List D} {vs : List V} {ps : List (Key × D)} {ρ : Rho} {H : Hp}, RelDs g.K ρ H l vs → pairsD keyOf l = some ps → ∃ (as : List Addr) (kvs : List (Key × V)), vs = as.map V.ref ∧ Paired (fun p kv => SqT g.K H p [kV kv.1, kv.2]) as kvs ∧ RelK g.K ρ H ps kvs
  | [], _, _, _, _, .nil, e => by cases e; exact ⟨[], [], rfl, .nil, .nil⟩
  | d :: r, _, ps, ρ, H, .cons h t, e => by
    cases h with
    | @tup a xs ds ha hds =>
      cases hds with
      | nil => cases e
      | cons h1 t1 => cases t1 with
        | nil => cases e
        | cons h2 t2 => cases t2 with
          | cons _ _ => cases e
          | nil =>
            unfold pairsD at e
            obtain ⟨j, e1, e2⟩ := Option.bind_eq_some_iff.mp e
            obtain ⟨qs, e3, e4⟩ := Option.map_eq_some_iff.mp e2
            subst e4
            obtain ⟨as, kvs, rfl, pr, rk⟩ := pairs_key t e3
            refine ⟨_ :: as, (j, _) :: kvs, rfl, .cons ?_ pr, .cons h2 rk⟩
            rw [← key_of h1 e1]
            exact ha.sq
    | _ => cases e
/-- pairs with tuple keys, over the heap -/
theorem pairs_keyT {pins : List (Addr × Obj)} {σ : L2.St} {H : Hp} {s : Shared} {ρ : Rho} (I : Inv X pins σ H s) : ∀ {l : List D} {vs : List V} {us : List Value} {ps : List (List Key × D)}, RelDs g.K ρ H l vs → Vals vs us → pairsD keyT l = some ps →
    ∃ (Ts : List Addr) (kvs : List (List Key × V)) (xs : List (List Key × Addr × Value)), us = Ts.map Value.ref ∧ KT H kvs xs ∧ RelT g.K ρ H ps kvs ∧ Paired (fun T (x : List Key × Addr × Value) => s.heap.IsTuple T #[.ref x.2.1, x.2.2]) Ts xs
  | [], _, _, _, .nil, .nil, e => by cases e; exact ⟨[], [], [], rfl, .nil, .nil, .nil⟩
  | d :: r, _, _, ps, .cons h t, .cons hv tv, e => by
    cases h with
    | @tup a xs ds ha hds =>
      cases hds with
      | nil => cases e
      | cons h1 t1 => cases t1 with
        | nil => cases e
        | cons h2 t2 => cases t2 with
          | cons _ _ => cases e
          | nil =>
            unfold pairsD at e
            obtain ⟨j, e1, e2⟩ := Option.bind_eq_some_iff.mp e
            obtain ⟨qs, e3, e4⟩ := Option.map_eq_some_iff.mp e2
            subst e4
            obtain ⟨Ts, kvs, xs', rfl, kt, rt, pr⟩ := pairs_keyT I t tv e3
            obtain ⟨b, rfl, eb⟩ := dkT_ok.is h1 e1
            obtain ⟨_, its, rr, o, o1, o2, n, o3⟩ := (show ObjOk X.prog X.w H s.heap a (.tup [.ref b, _]) from I.hok a _ ha.2)
            obtain ⟨u1, u2, rfl, ru1, ru2⟩ := vals2 rr
            cases (show u1 = Value.ref b from ru1)
            cases (show _ = Value.ref a from hv)
            exact ⟨a :: Ts, (j, _) :: kvs, (j, b, u2) :: xs', rfl, .cons ⟨rfl, eb, ru2⟩ kt, .cons h2 rt, .cons ⟨o, o1, o2, n, o3⟩ pr⟩
    | _ => cases e
include hK
theorem c_dict (hcalm : X.calm = true) (hu : X.A.units + 2 < cLine) : CallR X (.type "dict") (rF g vDict) := by
  intro pins s σ H xs us Q I r h
  obtain ⟨ρ, st, ds, d, hs, rds, e, q⟩ := h
  unfold vDict at e
  split at e
  · rename_i d1
    obtain ⟨v, rfl, rd⟩ := rds.one
    cases e1 : asDk st d1 with
    | some l =>
      rw [e1] at e
      cases e
      obtain ⟨a, kvs, rfl, h, rs⟩ := dk_at hs rd e1
      exact call_dictD pins s σ H _ us Q I r ⟨a, kvs, rfl, h, fun p np => q p _ np ⟨_, rfl, .dk rs⟩⟩
    | none =>
      rw [e1] at e
      simp only at e
      cases e2 : asDt st d1 with
      | some l =>
        rw [e2] at e
        simp only at e
        split at e
        · rename_i hn
          cases e
          obtain ⟨a, kvs, rfl, h, rs⟩ := dt_at hs rd e2
          obtain ⟨u, rfl, ru⟩ := vals1 r
          cases ru
          obtain ⟨z, lo, xs, kt, dd⟩ := dt_rd I.hok h
          have st' : ∀ h' : Heap, (∀ b o, s.heap.get? b = some o → h'.get? b = some o) → h'.DictOfH (tupleKind (mixKind X.prog X.w)) a xs := fun h' k => by
            have I' : Inv X pins σ H { s with heap := h', toks := s.toks } := I.kept k
            obtain ⟨o, es, ep, h1, h2, h3, h4, h5, h6⟩ := dd
            refine ⟨o, es, ep, k _ _ h1, h2, h3, h4, fun x m => ?_, h6⟩
            obtain ⟨p, hp, hx⟩ : ∃ p, p ∈ kvs ∧ p.1 = x.1 ∧ H x.2.1 = some (.tup (p.1.map kV)) := by
              obtain ⟨i, hi⟩ := List.getElem?_of_mem m
              have hlt : i < kvs.length := by rw [Paired.length kt]; exact (List.getElem?_eq_some_iff.mp hi).1
              obtain ⟨y, hy, g1, g2, _⟩ := paired_get kt (List.getElem?_eq_getElem hlt)
              rw [hi] at hy; cases hy
              exact ⟨_, List.getElem_mem hlt, g1, g2⟩
            rw [← hx.1]
            exact L2.key_of I'.hok hx.2
          refine call_dictH (knd := tupleKind (mixKind X.prog X.w)) hu lo dd (fun x m => ?_) st' ?_ (by rw [← Paired.length kt]; exact z) fun h' hd' k => ?_
          · obtain ⟨_, _, _, _, _, _, _, his, _⟩ := dd
            obtain ⟨o, its, n, h1, h2, _⟩ := his x m
            exact ⟨o, h1, h2⟩
          · unfold hashNd at hn
            split at hn
            · rename_i hh eh
              have e3 := hashes_eq (P := X.prog) (w := X.w) eh
              have e4 : (xs.map fun x => (tupleKind (mixKind X.prog X.w)).hash x.1) = hh := by
                rw [← e3]
                have k1 : xs.map (·.1) = l.map (·.1) := by
                  rw [rs.keys, kt_keys kt]
                have k2 := congrArg (List.map (tupleKeyHash (mixKind X.prog X.w))) k1
                rw [List.map_map, List.map_map] at k2
                exact k2
              rw [e4]
              exact of_decide_eq_true hn
            · cases hn
          · exact ⟨.ref s.heap.objs.size, _, laid_dt (tk := s.toks) I k z kt hd', rfl, q _ _ (I.hok.fresh (Nat.le_refl _)) ⟨_, rfl, .dt rs⟩⟩
        · cases e
      | none =>
        rw [e2] at e
        simp only at e
        cases e3 : asL st d1 with
        | none => rw [e3] at e; cases e
        | some l =>
          rw [e3] at e
          simp only at e
          obtain ⟨a, ys, rfl, ha, rs⟩ := lst_of hs rd e3
          cases e4 : pairsD keyOf l with
          | some ps =>
            rw [e4] at e
            cases e
            obtain ⟨as, kvs, rfl, pr, rk⟩ := pairs_key rs e4
            exact call_dictP hcalm pins s σ H _ us Q I r ⟨a, as, kvs, rfl, .inl (.inl ha), by rw [hK]; exact pr, fun p np => q p _ np ⟨_, rfl, .dk (rk.merge .nil)⟩⟩
          | none =>
            rw [e4] at e
            obtain ⟨ps, e5, e6⟩ := Option.map_eq_some_iff.mp e
            subst e6
            obtain ⟨u, rfl, ru⟩ := vals1 r
            cases ru
            obtain ⟨its, rv, pl, hz⟩ := I.list (.inl (.inl ha))
            obtain ⟨Ts, kvs, xs, rfl, kt, rt, pr⟩ := pairs_keyT I rs rv e5
            obtain ⟨o, n, ho, hc, hd, hdat⟩ := pl
            have hl : xs.length = Ts.length := (Paired.length pr).symm
            have hlk : kvs.length = xs.length := Paired.length kt
            have hly : ys.length = Ts.length := by have := rv.length; rw [List.length_map] at this; exact this
            have hm0 : KT H (mergeT [] kvs) (storedAllH [] xs) := kt_all kt .nil
            refine call_dict_pairsH (knd := tupleKind (mixKind X.prog X.w)) (ps := xs) (PairArg.list a (Ts.map Value.ref).toArray (fun j => Ts.getD j 0) (xs.map fun x => (Value.ref x.2.1, x.2.2))) (I.ok.hd hcalm) hu ⟨⟨o, n, ho, hc, hd, hdat⟩, by simp [hl], fun j k v ej => ?_⟩ ⟨by simp, fun i key v ei => ?_⟩ (fun h' k x m => ?_) (by rw [List.length_map, hl, ← hly]; exact hz) fun h' tk hd' k => ?_
            · rw [List.getElem?_map] at ej
              cases ex : xs[j]? with
              | none => rw [ex] at ej; cases ej
              | some x =>
                rw [ex] at ej
                cases ej
                have hj : j < Ts.length := by rw [← hl]; exact (List.getElem?_eq_some_iff.mp ex).1
                obtain ⟨y, hy, ht⟩ := paired_get pr (List.getElem?_eq_getElem hj)
                rw [ex] at hy; cases hy
                refine ⟨by simp [hj], .inl ?_⟩
                simp only [List.getD_eq_getElem?_getD, List.getElem?_eq_getElem hj, Option.getD_some]
                exact ht
            · have ei : (xs.map fun x => (Value.ref x.2.1, x.2.2))[i]? = some (key, v) := ei
              rw [List.getElem?_map] at ei
              cases ex : xs[i]? with
              | none => rw [ex] at ei; cases ei
              | some x => rw [ex] at ei; cases ei; exact ⟨x.1, x.2.1, rfl, rfl⟩
            · obtain ⟨i, hi⟩ := List.getElem?_of_mem m
              have hlt : i < kvs.length := by rw [hlk]; exact (List.getElem?_eq_some_iff.mp hi).1
              obtain ⟨y, hy, g1, g2, _⟩ := paired_get kt (List.getElem?_eq_getElem hlt)
              rw [hi] at hy; cases hy
              obtain ⟨oo, its, nn, w1, w2, w3⟩ := L2.key_of I.hok g2
              rw [← g1]
              exact ⟨oo, its, nn, k _ _ (fun e => absurd (Heap.lt_size w1) (by rw [e]; exact Nat.lt_irrefl _)) (by simp) w1, w2, w3⟩
            · refine ⟨.ref s.heap.objs.size, _, laid_dt (tk := tk) I (fun b u e => k b u (by simp) e) ?_ hm0 hd', rfl, q _ _ (I.hok.fresh (Nat.le_refl _)) ⟨_, rfl, .dt (rt.merge .nil)⟩⟩
              have := len_mergeT kvs []
              rw [List.length_nil] at this
              omega
  · cases e
end
end L3

/-! L3T: dict displays, get, items -/
namespace L3
open PySem PySem.Spec PyProof.Rows L2

def mergeV {κ : Type} [DecidableEq κ] (kvs more : List (κ × V)) : List (κ × V) := more.foldl (fun acc kv => putK acc kv.1 kv.2) kvs
/-- a display's reading -/
def tDispG {κ : Type} [DecidableEq κ] (kd : Dk κ) (trs : List (TE × TE)) : TE := fun σ H Q => ∀ p, H p = none → tPairs trs σ (upd H p (kd.ho [])) fun ps H2 => H2 p = some (kd.ho []) ∧ ∃ kvs : List (κ × V), Paired (fun q kv => kd.Is H2 kv.1 q.1 ∧ q.2 = kv.2) ps kvs ∧ kvs.length ≤ 15 ∧ Q (.ref p) (upd H2 p (kd.ho (mergeV [] kvs)))
structure Dk.OkD {κ : Type} [DecidableEq κ] (k : Dk κ) : Prop extends k.Ok where
  disp : ∀ {X : Cx} {pos : Pos} {keys : List (Option Expr)} {values : List Expr} {trs : List (TE × TE)}, X.A.units < cLine → PPs X pos keys values trs → keys.all (·.isSome) = true → keys.length = values.length → keys ≠ [] → keys.length ≤ 15 → PE X (.Dict keys values pos) (tDispG k trs)
  merge : ∀ {K : PySem.W.Frag} {ρ : Rho} {H : Hp} {l acc : List (κ × D)} {m bcc : List (κ × V)}, k.Rel K ρ H l m → k.Rel K ρ H acc bcc → k.Rel K ρ H (mergeD acc l) (mergeV bcc m)
  cons : ∀ {K : PySem.W.Frag} {ρ : Rho} {H : Hp} {j : κ} {d : D} {v : V} {l : List (κ × D)} {m : List (κ × V)}, RelD K ρ H d v → k.Rel K ρ H l m → k.Rel K ρ H ((j, d) :: l) ((j, v) :: m)
theorem tPairs_imp : ∀ {trs : List (TE × TE)} {X : Cx} {pos : Pos} {keys : List (Option Expr)} {values : List Expr}, PPs X pos keys values trs → ∀ {σ : L2.St} {H : Hp} {Q Q' : List (V × V) → Hp → Prop}, (∀ ps H', Q ps H' → Q' ps H') → True := fun _ _ _ _ _ _ => trivial
theorem dkK_okD : dkK.OkD where
  toOk := dkK_ok
  disp := fun {X pos keys values trs} hu h h1 h2 h3 h4 => ⟨fun pins s σ H Q I q => by
    refine wpAny_Dict_walk (knd := mixKind X.prog X.w) h1 h2 h3 h4 ?_
    have I1 := I.laid (a := s.heap.objs.size) (o := .dK []) (h' := s.heap.push { cls := .type "dict", data := .dict #[] }) (t' := s.toks) (fun _ _ q => Heap.get?_push_of_some _ q) (Nat.le_refl _) (dk_empty s.heap I.big)
    refine thn (h.run pins _ σ _ _ I1 (q _ (I.hok.fresh (Nat.le_refl _)))) fun ws s2 ⟨ps, H2, I2, rel, e, kvs, pr, lk, q2⟩ => ?_
    have ep : ps = kvs.map fun kv => (kV kv.1, kv.2) := by
      clear q2 lk rel
      induction pr with
      | nil => rfl
      | cons a b ih => rw [List.map_cons, ← ih]; exact congrArg (· :: _) (Prod.ext a.1 a.2)
    subst ep
    obtain ⟨rs, c, rk⟩ := carries_of (P := X.prog) (w := X.w) rel
    obtain ⟨z, hd, vs0, r0, dd⟩ := dk_of I2.hok e
    cases r0
    refine ⟨rs, c, dd, fun h' dd' hs => ⟨.ref s.heap.objs.size, _, ?_, rfl, q2⟩⟩
    have hz : (mergeK [] kvs).length ≤ sizeLine := by
      have h1 := length_mergeK kvs []
      rw [List.length_nil] at h1
      rw [sizeLine_eq]; omega
    exact d_write I2 (by rw [e]; exact True.intro) hs (let ⟨q, _, _, hq, _⟩ := dd'; ⟨q, hq⟩) (dk_new hz hd (rk.merge .nil) dd')⟩
  merge := fun r t => RelK.merge r t
  cons := fun h t => .cons h t
theorem carriesT {P : Program} {w : World} {H : Hp} {h : Heap} (hok : HOk P w H h) : ∀ {ps : List (V × V)} {kvs : List (List Key × V)} {ws : List (Value × Value)}, Paired (fun q (kv : List Key × V) => (∃ b, q.1 = .ref b ∧ H b = some (.tup (kv.1.map kV))) ∧ q.2 = kv.2) ps kvs → VV ps ws →
    ∃ xs, PySem.CarriesH (tupleKind (mixKind P w)) h ws xs ∧ KT H kvs xs
  | _, _, _, .nil, .nil => ⟨[], trivial, .nil⟩
  | _, _, _, .cons a t, .cons b u => by
    obtain ⟨xs, c, k⟩ := carriesT hok t u
    obtain ⟨⟨ad, e1, e2⟩, e3⟩ := a
    obtain ⟨b1, b2⟩ := b
    rw [e1] at b1
    rw [e3] at b2
    exact ⟨(_, ad, _) :: xs, ⟨b1, rfl, L2.key_of hok e2, c⟩, .cons ⟨rfl, e2, b2⟩ k⟩
theorem dkT_okD : dkT.OkD where
  toOk := dkT_ok
  disp := fun {X pos keys values trs} hu h h1 h2 h3 h4 => ⟨fun pins s σ H Q I q => by
    have hn := pairTrees_length keys values X.env pos h1 h2
    rw [arm_eval_Dict, zip_pairTrees keys values X.env pos h1 h2, dictDisplay_pairs _ (fun he => h3 (List.length_eq_zero_iff.mp (by rw [← hn, he]; rfl))) (by omega)]
    refine wpAny_bind (wpAny_standAt (wpAny_bind (wpAny_subDictH (knd := tupleKind (mixKind X.prog X.w)) (Q := fun d s' => wpAny (model X.prog X.w) X.A (pure (Value.ref d)) (EP X pins σ Q) X.xe s') hu (by omega) ?_)))
    have I1 := I.laid (a := s.heap.objs.size) (o := .dT []) (h' := s.heap.push { cls := .type "dict", data := .dict #[] }) (t' := s.toks) (fun _ _ q => Heap.get?_push_of_some _ q) (Nat.le_refl _) (dt_empty s.heap I.big)
    refine thn (h.run pins _ σ _ _ I1 (q _ (I.hok.fresh (Nat.le_refl _)))) fun ws s2 ⟨ps, H2, I2, rel, e, kvs, pr, lk, q2⟩ => ?_
    obtain ⟨xs, c, kt⟩ := carriesT I2.hok pr rel
    obtain ⟨z, hd, xs0, r0, dd⟩ := dt_of I2.hok e
    cases r0
    refine ⟨xs, c, dd, fun h' tk dd' hs => wpAny_pure ⟨.ref s.heap.objs.size, _, ?_, rfl, q2⟩⟩
    have hz : (mergeV [] kvs).length ≤ sizeLine := by
      have h1 := len_mergeT kvs []
      rw [List.length_nil] at h1
      have h2 : (mergeV [] kvs).length = (mergeT [] kvs).length := rfl
      rw [sizeLine_eq]; omega
    obtain ⟨qo, es, ep, hq, w2, w3, w4, _, w5⟩ := dd'
    exact d_write (ob := .dT (mergeV [] kvs)) I2 (by rw [e]; exact True.intro) hs ⟨qo, hq⟩ ⟨hz, hd, _, (kt_all (acc := []) (xs := []) kt .nil).keeps fun b ys ec => (upd_ne (ne_of ec e fun z => nomatch z)).trans ec, qo, es, ep, hq, w2, w3, w4, w5⟩⟩
  merge := fun r t => RelT.merge r t
  cons := fun h t => .cons h t

/-! ### a display by functions -/
def evPs : List (F × F) → Env' → Sr → R (List (D × D))
  | [], _, s => .ok [] s
  | (a, b) :: r, env, s => (a env s).nox.bind fun x s => (b env s).nox.bind fun y s => (evPs r env s).bind fun l s => .ok ((x, y) :: l) s
def keysP {κ : Type} [DecidableEq κ] (kd : Dk κ) : List (D × D) → Option (List (κ × D))
  | [] => some []
  | (k, v) :: r => (kd.key k).bind fun j => (keysP kd r).map ((j, v) :: ·)
def eDisp {κ : Type} [DecidableEq κ] (kd : Dk κ) (ps : List (F × F)) : F := fun env s => (evPs ps env s).bind fun l s => match keysP kd l with | some l => if l.length ≤ 15 then .ok (kd.dat (mergeD [] l)) s else .bad | none => .bad
section
variable {X : Cx} {g : G} {W : WX} {pos : Pos}
/-- the pairs, one by one; a: the hidden new dict -/
theorem ps_run {Rel' : True} {E : XK} : ∀ {ps : List (F × F)} {r : Rho} {st : Sr} {env : Env'} {σ : L2.St} {H : Hp} {Q : List (V × V) → Hp → Prop}, Sto g r st H → Loc' g.K r H env σ →
    (∃ l s', evPs ps env st = .ok l s' ∧ ∀ r' H' vs, Up r r' H H' → Sto g r' s' H' → Paired (fun (d : D × D) (v : V × V) => RelD g.K r' H' d.1 v.1 ∧ RelD g.K r' H' d.2 v.2) l vs → Q vs H') →
    tPairs (ps.map fun p => (tI g W p.1, tI g W p.2)) σ H Q
  | [], r, st, env, σ, H, Q, hs, hl, ⟨l, s', e, q⟩ => by
    cases e
    exact q r H [] .refl hs .nil
  | (a, b) :: ps, r, st, env, σ, H, Q, hs, hl, ⟨l, s', e, q⟩ => by
    unfold evPs at e
    cases ea : a env st with
    | exc _ _ _ => rw [ea] at e; cases e
    | bad => rw [ea] at e; cases e
    | ok x s1 =>
      rw [ea] at e
      have e : ((b env s1).nox.bind fun y s => (evPs ps env s).bind fun l s => .ok ((x, y) :: l) s) = .ok l s' := e
      cases eb : b env s1 with
      | exc _ _ _ => rw [eb] at e; cases e
      | bad => rw [eb] at e; cases e
      | ok y s2 =>
        rw [eb] at e
        have e : ((evPs ps env s2).bind fun l s => .ok ((x, y) :: l) s) = .ok l s' := e
        cases ec : evPs ps env s2 with
        | exc _ _ _ => rw [ec] at e; cases e
        | bad => rw [ec] at e; cases e
        | ok l2 s3 =>
          rw [ec] at e
          cases e
          refine ⟨r, st, env, hs, hl, ?_⟩
          show Post g (RV g) r H _ _ (a env st)
          rw [ea]
          intro r1 H1 v1 u1 hs1 rd1
          refine ⟨r1, s1, env, hs1, hl.up u1, ?_⟩
          show Post g (RV g) r1 H1 _ _ (b env s1)
          rw [eb]
          intro r2 H2 v2 u2 hs2 rd2
          refine ps_run (Rel' := trivial) (E := E) hs2 ((hl.up u1).up u2) ⟨l2, _, ec, fun r3 H3 vs u3 hs3 pr => ?_⟩
          exact q r3 H3 _ (u1.trans (u2.trans u3)) hs3 (.cons ⟨(rd1.up u2).up u3, rd2.up u3⟩ pr)
theorem keysP_ok {κ : Type} [DecidableEq κ] {kd : Dk κ} (ok : kd.OkD) {K : PySem.W.Frag} {r : Rho} {H : Hp} : ∀ {l : List (D × D)} {vs : List (V × V)} {m : List (κ × D)}, Paired (fun (d : D × D) (v : V × V) => RelD K r H d.1 v.1 ∧ RelD K r H d.2 v.2) l vs → keysP kd l = some m →
    ∃ kvs : List (κ × V), Paired (fun q kv => kd.Is H kv.1 q.1 ∧ q.2 = kv.2) vs kvs ∧ kd.Rel K r H m kvs
  | [], _, _, .nil, e => by cases e; exact ⟨[], .nil, ok.nil⟩
  | (k, v) :: l, _, m, .cons h t, e => by
    unfold keysP at e
    obtain ⟨j, e1, e2⟩ := Option.bind_eq_some_iff.mp e
    obtain ⟨m', e3, e4⟩ := Option.map_eq_some_iff.mp e2
    subst e4
    obtain ⟨kvs, p, rl⟩ := keysP_ok ok t e3
    exact ⟨(j, _) :: kvs, .cons ⟨ok.is h.1 e1, rfl⟩ p, ok.cons h.2 rl⟩
theorem n_disp {κ : Type} [DecidableEq κ] {kd : Dk κ} (ok : kd.OkD) {keys : List (Option Expr)} {values : List Expr} {ps : List (F × F)} (hu : X.A.units < cLine) (h : PPs X pos keys values (ps.map fun p => (tI g W p.1, tI g W p.2))) (h1 : keys.all (·.isSome) = true) (h2 : keys.length = values.length) (h3 : keys ≠ []) (h4 : keys.length ≤ 15) :
    PE X (.Dict keys values pos) (tN g W (eDisp kd ps)) := (ok.disp hu h h1 h2 h3 h4).imp fun σ H Q ⟨ρ, s, env, hs, hl, hp⟩ p np => by
  have nt : ∀ xs, kd.ho [] ≠ .tup xs := fun xs e => by
    have d := ok.dic []
    rw [e] at d
    cases d
  obtain ⟨hs0, nD⟩ := hs.hide (o := kd.ho []) np nt
  unfold eDisp at hp
  cases e : evPs ps env s with
  | exc c fs s' =>
    have aux : ∀ (ps : List (F × F)) (s : Sr), evPs ps env s ≠ .exc c fs s' := by
      intro ps
      induction ps with
      | nil => intro s e; cases e
      | cons a ps ih =>
        intro s e
        obtain ⟨a, b⟩ := a
        unfold evPs at e
        cases ea : a env s with
        | exc _ _ _ => rw [ea] at e; cases e
        | bad => rw [ea] at e; cases e
        | ok x s1 =>
          rw [ea] at e
          have e : ((b env s1).nox.bind fun y s => (evPs ps env s).bind fun l s => .ok ((x, y) :: l) s) = .exc c fs s' := e
          cases eb : b env s1 with
          | exc _ _ _ => rw [eb] at e; cases e
          | bad => rw [eb] at e; cases e
          | ok y s2 =>
            rw [eb] at e
            have e : ((evPs ps env s2).bind fun l s => .ok ((x, y) :: l) s) = .exc c fs s' := e
            cases ec : evPs ps env s2 with
            | exc _ _ _ => rw [ec] at e; cases e; exact ih _ ec
            | bad => rw [ec] at e; cases e
            | ok l2 s3 => rw [ec] at e; cases e
    exact absurd e (aux ps s)
  | bad => rw [e] at hp; exact hp.elim
  | ok l s' =>
    rw [e] at hp
    have hp : PostN g W ρ H env σ Q (match keysP kd l with | some l => if l.length ≤ 15 then .ok (kd.dat (mergeD [] l)) s' else .bad | none => .bad) := hp
    cases ek : keysP kd l with
    | none => rw [ek] at hp; exact hp.elim
    | some m =>
      rw [ek] at hp
      simp only at hp
      by_cases hz : m.length ≤ 15
      · rw [if_pos hz] at hp
        refine ps_run (Rel' := trivial) (E := fun _ _ _ => False) hs0 (hl.car (Car.hide np)) ⟨l, s', e, fun r' H' vs u hs' pr => ?_⟩
        have hx : p ∈ r'.x := by rw [u.ex]; exact List.mem_cons_self
        have hat : H' p = some (kd.ho []) := (u.hid p List.mem_cons_self id).trans upd_same
        obtain ⟨kvs, pk, rl⟩ := keysP_ok ok pr ek
        refine ⟨hat, kvs, pk, by rw [← ok.len rl]; exact hz, ?_⟩
        have uh : UpB (· = p) r' r' H' (upd H' p (kd.ho (mergeV [] kvs))) := UpB.hide hx
        have U : UpB (· = p) (ρ.hide p) r' (upd H p (kd.ho [])) (upd H' p (kd.ho (mergeV [] kvs))) := u.of.trans uh
        refine hp r' p _ _ ⟨u.ex, hid_out nD U, UpB.unhide np hs.xin U, np, hs'.up rfl uh (fun b mb => upd_ne fun e => hid_out nD U (e ▸ mb)) fun b mb ys => ?_, ((hl.car (Car.hide np)).up u).up uh, upd_same, ok.newR (ok.car uh.car (ok.merge rl ok.nil))⟩
        by_cases e : b = p
        · rw [e, upd_same]
          intro z
          have d := ok.dic (mergeV [] kvs)
          rw [Option.some.inj z] at d
          cases d
        · rw [upd_ne e]; exact hs'.xt b mb ys
      · rw [if_neg hz] at hp; exact hp.elim
end
end L3

/-! L3U: methods -/
namespace L3
open PySem PySem.Spec PyProof.Rows L2

def rM (g : G) (f : D → List D → Sr → R D) : V → List V → Hp → VK → Prop := fun x xs H Q => ∃ ρ s dx ds, Sto g ρ s H ∧ RelD g.K ρ H dx x ∧ RelDs g.K ρ H ds xs ∧ PostV g ρ H Q (f dx ds s)
/-- a list that stands in the store -/
def cellL (s : Sr) : D → Option (Nat × List D)
  | .ref n => (match s[n]? with | some (.lst l) => some (n, l) | _ => none)
  | _ => none
def mAppend (x : D) (ds : List D) (s : Sr) : R D := match cellL s x, ds with
  | some (n, l), [d] => if l.length < sizeLine then .ok .non (s.set n (.lst (l ++ [d]))) else .bad
  | _, _ => .bad
def mExtend (x : D) (ds : List D) (s : Sr) : R D := match cellL s x, ds with
  | some (n, l), [d] => (match asL s d with | some m => if l.length + m.length ≤ sizeLine then .ok .non (s.set n (.lst (l ++ m))) else .bad | none => .bad)
  | _, _ => .bad
def mPop (x : D) (ds : List D) (s : Sr) : R D := match cellL s x, ds with
  | some (n, l), [] => (match l[l.length - 1]? with | some d => .ok d (s.set n (.lst l.dropLast)) | none => .bad)
  | some (n, l), [.int i] => if -(2 ^ 63) ≤ i ∧ i < 2 ^ 63 then (match seqIndex? i l.length with | some k => (match l[k]? with | some d => .ok d (s.set n (.lst (l.eraseIdx k))) | none => .bad) | none => .bad) else .bad
  | _, _ => .bad
def mInsert (x : D) (ds : List D) (s : Sr) : R D := match cellL s x, ds with
  | some (n, l), [.int i, d] => if l.length < sizeLine ∧ 0 ≤ i ∧ i < 2 ^ 63 then .ok .non (s.set n (.lst (l.take i.toNat ++ [d] ++ l.drop i.toNat))) else .bad
  | _, _ => .bad
def mCount (x : D) (ds : List D) (s : Sr) : R D := match (asL s x).bind intsOf, ds with
  | some l, [.int k] => .ok (.int (l.count k : Nat)) s
  | _, _ => .bad
def firstEq (d : PyData) : List PyData → Nat → Option Nat
  | [], _ => none
  | z :: r, i => if PyData.eqv z d then some i else firstEq d r (i + 1)
def mIndex (x : D) (ds : List D) (s : Sr) : R D := match (asL s x).bind D.pys, ds with
  | some l, [k] => (match D.py k with
    | some d => if SeqAt.shaped (.list l) && SeqAt.shaped d then (match firstEq d l 0 with | some j => .ok (.int (j : Nat)) s | none => .bad) else .bad
    | none => .bad)
  | _, _ => .bad
section
variable {K : PySem.W.Frag} {ρ : Rho} {H : Hp}
theorem RelDs.dropLast : ∀ {ds : List D} {vs : List V}, RelDs K ρ H ds vs → RelDs K ρ H ds.dropLast vs.dropLast
  | _, _, .nil => .nil
  | _, _, .cons h .nil => .nil
  | _, _, .cons h (.cons h2 t) => .cons h (RelDs.dropLast (.cons h2 t))
theorem RelDs.eraseIdx : ∀ {ds : List D} {vs : List V} (i : Nat), RelDs K ρ H ds vs → RelDs K ρ H (ds.eraseIdx i) (vs.eraseIdx i)
  | _, _, _, .nil => .nil
  | _, _, 0, .cons _ t => t
  | _, _, i + 1, .cons r t => .cons r (RelDs.eraseIdx i t)
theorem firstEq_ok {d : PyData} : ∀ {l : List PyData} {i j : Nat}, firstEq d l i = some j → ∃ k z, j = i + k ∧ l[k]? = some z ∧ PyData.eqv z d = true ∧ ∀ (m : Nat) (z' : PyData), m < k → l[m]? = some z' → PyData.eqv z' d = false
  | [], _, _, e => by cases e
  | z :: r, i, j, e => by
    unfold firstEq at e
    by_cases c : PyData.eqv z d = true
    · rw [if_pos c] at e
      cases e
      exact ⟨0, z, rfl, rfl, c, fun m z' hm => absurd hm (Nat.not_lt_zero _)⟩
    · rw [if_neg c] at e
      obtain ⟨k, z2, e1, e2, e3, e4⟩ := firstEq_ok e
      refine ⟨k + 1, z2, by omega, by simpa using e2, e3, fun m z' hm hz => ?_⟩
      cases m with
      | zero => simp at hz; subst hz; simpa using c
      | succ m => exact e4 m z' (by omega) (by simpa using hz)
end
section
variable {g : G} {ρ : Rho} {s : Sr} {H : Hp}
theorem cell_of {d : D} {v : V} {n : Nat} {l : List D} (hs : Sto g ρ s H) (r : RelD g.K ρ H d v) (e : cellL s d = some (n, l)) : ∃ a xs, v = .ref a ∧ ρ.c[n]? = some a ∧ H a = some (.lst xs) ∧ RelDs g.K ρ H l xs := by
  cases r with
  | ref ea =>
    obtain ⟨c, o, q1, q2, q3⟩ := hs.cell _ _ ea
    unfold cellL at e
    simp only [q1] at e
    cases q3 with
    | lst rs => cases e; exact ⟨_, _, rfl, ea, q2, rs⟩
    | _ => cases e
  | _ => cases e
/-- a written list, a result -/
theorem PostV.wr {d : D} {v : V} {Q : VK} {n : Nat} {a : Addr} {l : List D} {xs : List V} (hs : Sto g ρ s H) (e : ρ.c[n]? = some a) (rl : RelDs g.K ρ H l xs) (r : RelD g.K ρ H d v) (p : PostV g ρ H Q (.ok d (s.set n (.lst l)))) : Q v (upd H a (.lst xs)) := by
  obtain ⟨u, st⟩ := hs.write e (.lst rl)
  exact p ρ _ _ u st (r.up u)
end
section
variable {X : Cx} {g : G} (hK : X.K = g.K)
theorem m_append : MtR X "list.append" (rM g mAppend) := by
  intro pins s σ H x xs v us Q I rx rv h
  obtain ⟨ρ, st, dx, ds, hs, rd, rds, p⟩ := h
  unfold mAppend at p
  split at p
  · rename_i n l d e
    obtain ⟨a, ys, rfl, ea, ha, rl⟩ := cell_of hs rd e
    obtain ⟨y, rfl, ry⟩ := rds.one
    split at p
    · rename_i hz
      exact mt_append pins s σ H _ _ v us Q I rx rv ⟨a, ys, y, rfl, rfl, ha, by rw [← rl.len]; exact hz, PostV.wr hs ea (rl.snoc ry) .non p⟩
    · exact p.elim
  · exact p.elim
theorem m_extend : MtR X "list.extend" (rM g mExtend) := by
  intro pins s σ H x xs v us Q I rx rv h
  obtain ⟨ρ, st, dx, ds, hs, rd, rds, p⟩ := h
  unfold mExtend at p
  split at p
  · rename_i n l d e
    obtain ⟨a, ys, rfl, ea, ha, rl⟩ := cell_of hs rd e
    obtain ⟨y, rfl, ry⟩ := rds.one
    split at p
    · rename_i m em
      obtain ⟨b, zs, rfl, hb, rm⟩ := lst_of hs ry em
      split at p
      · rename_i hz
        exact mt_extend pins s σ H _ _ v us Q I rx rv ⟨a, b, ys, zs, rfl, rfl, ha, hb, by rw [← rl.len, ← rm.len]; exact hz, PostV.wr hs ea (rl.app rm) .non p⟩
      · exact p.elim
    · exact p.elim
  · exact p.elim
theorem m_pop : MtR X "list.pop" (rM g mPop) := by
  intro pins s σ H x xs v us Q I rx rv h
  obtain ⟨ρ, st, dx, ds, hs, rd, rds, p⟩ := h
  unfold mPop at p
  split at p
  · rename_i n l e
    obtain ⟨a, ys, rfl, ea, ha, rl⟩ := cell_of hs rd e
    cases rds
    split at p
    · rename_i d ed
      obtain ⟨w, ew, rw'⟩ := rl.get ed
      exact mt_pop pins s σ H _ _ v us Q I rx rv ⟨a, ys, w, rfl, rfl, ha, by rw [← rl.len]; exact ew, PostV.wr hs ea rl.dropLast rw' p⟩
    · exact p.elim
  · rename_i n l i e
    obtain ⟨a, ys, rfl, ea, ha, rl⟩ := cell_of hs rd e
    obtain ⟨y, rfl, ry⟩ := rds.one
    cases ry
    split at p
    · rename_i hb
      split at p
      · rename_i k ek
        split at p
        · rename_i d ed
          obtain ⟨w, ew, rw'⟩ := rl.get ed
          exact mt_popAt pins s σ H _ _ v us Q I rx rv ⟨a, ys, i, k, w, rfl, rfl, ha, hb.1, hb.2, by rw [← rl.len]; exact ek, ew, PostV.wr hs ea (rl.eraseIdx k) rw' p⟩
        · exact p.elim
      · exact p.elim
    · exact p.elim
  · exact p.elim
theorem m_insert : MtR X "list.insert" (rM g mInsert) := by
  intro pins s σ H x xs v us Q I rx rv h
  obtain ⟨ρ, st, dx, ds, hs, rd, rds, p⟩ := h
  unfold mInsert at p
  split at p
  · rename_i n l i d e
    obtain ⟨a, ys, rfl, ea, ha, rl⟩ := cell_of hs rd e
    obtain ⟨y, z, rfl, ry, rz⟩ := rds.two
    cases ry
    split at p
    · rename_i hz
      exact mt_insert pins s σ H _ _ v us Q I rx rv ⟨a, ys, i, z, rfl, rfl, ha, by rw [← rl.len]; exact hz.1, hz.2.1, hz.2.2, PostV.wr hs ea (((rl.take _).snoc rz).app (rl.drop _)) .non p⟩
    · exact p.elim
  · exact p.elim
include hK
theorem m_count : MtR X "list.count" (rM g mCount) := by
  intro pins s σ H x xs v us Q I rx rv h
  obtain ⟨ρ, st, dx, ds, hs, rd, rds, p⟩ := h
  unfold mCount at p
  split at p
  · rename_i l k e
    obtain ⟨a, rfl, ha⟩ := ints1 hs rd e
    obtain ⟨y, rfl, ry⟩ := rds.one
    cases ry
    exact mt_lcount pins s σ H _ _ v us Q I rx rv ⟨a, l, k, rfl, rfl, hK ▸ ha, PostV.ok hs (.int _) p⟩
  · exact p.elim
theorem m_index (hu : X.A.units + 65 < cLine) : MtR X "list.index" (rM g mIndex) := by
  intro pins s σ H x xs v us Q I rx rv h
  obtain ⟨ρ, st, dx, ds, hs, rd, rds, p⟩ := h
  unfold mIndex at p
  split at p
  · rename_i l k e
    obtain ⟨m, e1, e2⟩ := Option.bind_eq_some_iff.mp e
    obtain ⟨a, ys, rfl, ha, rl⟩ := lst_of hs rd e1
    obtain ⟨y, rfl, ry⟩ := rds.one
    split at p
    · rename_i d ed
      split at p
      · rename_i c
        rw [Bool.and_eq_true] at c
        split at p
        · rename_i j ej
          obtain ⟨k', z, e3, e4, e5, e6⟩ := firstEq_ok ej
          rw [Nat.zero_add] at e3
          subst e3
          exact mt_indexD hu pins s σ H _ _ v us Q I rx rv ⟨a, y, d, l, j, z, rfl, rfl, hK ▸ (Dp.lst (.inl (.inl ha)) (dps_of rl e2)), hK ▸ dp_of ry ed, c.1, c.2, e4, e5, e6, PostV.ok hs (.int _) p⟩
        · exact p.elim
      · exact p.elim
    · exact p.elim
  · exact p.elim
end
/-! ### the call -/
/-- what must be a list (text) ahead of the arguments -/
def isLst (s : Sr) (d : D) : Bool := (asL s d).isSome
def isStr (_ : Sr) : D → Bool
  | .str _ => true
  | _ => false
def eMeth (ty : Sr → D → Bool) (f : D → List D → Sr → R D) (fo : F) (fa : FA) : F := fun env s => (fo env s).bind fun x s => if ty s x then (fa env s).bind fun ds s => (match f x ds s with | .ok d s => .ok d s | _ => .bad) else .bad
section
variable {X : Cx} {g : G} {W : WX} {pos : Pos} (hK : X.K = g.K)
theorem PostV.of {ρ : Rho} {H : Hp} {E : XK} {Q : VK} {r : R D} (p : Post g (RV g) ρ H E Q (match r with | .ok d s => .ok d s | _ => .bad)) : PostV g ρ H Q r := by
  cases r with
  | ok d s => exact p
  | exc _ _ _ => exact p.elim
  | bad => exact p.elim
include hK
theorem ty_lst {ρ : Rho} {s : Sr} {H : Hp} {d : D} {v : V} (hs : Sto g ρ s H) (r : RelD g.K ρ H d v) (e : isLst s d = true) : tyV X.K "list" v H := by
  obtain ⟨l, el⟩ := Option.isSome_iff_exists.mp e
  obtain ⟨a, xs, rfl, ha, _⟩ := lst_of hs r el
  exact .inl ⟨rfl, xs, .inl (.inl ha)⟩
omit hK in
theorem ty_str {K : PySem.W.Frag} {ρ : Rho} {s : Sr} {H : Hp} {d : D} {v : V} (r : RelD g.K ρ H d v) (e : isStr s d = true) : tyV K "str" v H := by
  cases r with
  | str x => rfl
  | _ => cases e
omit hK in
theorem l_meth {ty : Sr → D → Bool} {f : D → List D → Sr → R D} {T id : String} {name : Str} {o e : Expr} {es : List Expr} {fo : F} {fa : FA} {apos : Pos} (hty : ∀ {ρ : Rho} {s : Sr} {H : Hp} {d : D} {v : V}, Sto g ρ s H → RelD g.K ρ H d v → ty s d = true → tyV X.K T v H)
    (pa : PlainAttrs T) (slot : Slot T name id) (ht : typeOf (.builtin id) = pure (.type "method_descriptor")) (hm : MtR X id (rM g f)) (ho : PE X o (tI g W fo)) (ha : PA X (e :: es) (tA g W fa)) (hbase : attributeBase o name X.env (eval o X.env) = eval o X.env)
    (hfew : ((backTo pos (starEach (e :: es) X.env)).all (fun x => !x.1) && (backToKw pos (keywordEach [] X.env)).all (fun x => x.1.isSome) && decide ((e :: es).length + ([] : List Keyword).length + (if ([] : List Keyword).isEmpty then 0 else 1) < 30)) = true)
    (hline : (apos.endLine == pos.line) = true) (hs : starEach (e :: es) X.env = (false, eval e X.env) :: starEach es X.env) (hpl : (backTo pos (starEach es X.env)).any (·.1) = false) : PE X (.Call (.Attribute o name apos) (e :: es) [] pos) (tI g W (eMeth ty f fo fa)) :=
  (pe_bm pa slot ht hm ho ha hbase hfew hline hs hpl).imp fun σ H Q ⟨ρ, s, env, hs, hl, hp⟩ => ⟨ρ, s, env, hs, hl, hp.bind.imp fun x H1 ⟨ρ1, s1, d, u1, hs1, rd, p1⟩ => by
    split at p1
    · rename_i c
      exact ⟨hty hs1 rd c, ρ1, s1, env, hs1, hl.up u1, (p1.bind (Rel' := RVs g)).imp fun xs H2 ⟨ρ2, s2, ds, u2, hs2, rds, p2⟩ => ⟨ρ2, s2, d, ds, hs2, rd.up u2, rds, PostV.of p2⟩⟩
    · exact p1.elim⟩
omit hK in
theorem l_meth0 {ty : Sr → D → Bool} {f : D → List D → Sr → R D} {T id : String} {name : Str} {o : Expr} {fo : F} {apos : Pos} (hty : ∀ {ρ : Rho} {s : Sr} {H : Hp} {d : D} {v : V}, Sto g ρ s H → RelD g.K ρ H d v → ty s d = true → tyV X.K T v H)
    (pa : PlainAttrs T) (slot : Slot T name id) (ht : typeOf (.builtin id) = pure (.type "method_descriptor")) (hm : MtR X id (rM g f)) (ho : PE X o (tI g W fo)) (hbase : attributeBase o name X.env (eval o X.env) = eval o X.env)
    (hline : (apos.endLine == pos.line) = true) : PE X (.Call (.Attribute o name apos) [] [] pos) (tI g W (eMeth ty f fo eNil)) :=
  (pe_bm0 pa slot ht hm ho hbase hline).imp fun σ H Q ⟨ρ, s, env, hs, hl, hp⟩ => ⟨ρ, s, env, hs, hl, hp.bind.imp fun x H1 ⟨ρ1, s1, d, u1, hs1, rd, p1⟩ => by
    split at p1
    · rename_i c
      exact ⟨hty hs1 rd c, ρ1, s1, d, [], hs1, rd, .nil, PostV.of p1⟩
    · exact p1.elim⟩
end
end L3

/-! L3V: what loops go through -/
namespace L3
open PySem PySem.Spec PyProof.Rows L2

def chars (z : Str) : List D := z.cps.toList.map fun c => .str ⟨#[c]⟩
def srcD (s : Sr) : D → Option Src
  | .tup l => some ⟨l, []⟩
  | .ktp l => some ⟨l, []⟩
  | .lst l => some ⟨l, []⟩
  | .lck l => some ⟨l, []⟩
  | .ref n => (match s[n]? with | some (.lst l) => some ⟨l, [(n, l)]⟩ | _ => none)
  | .dk l => some ⟨l.map fun p => keyD p.1, []⟩
  | .dt l => some ⟨l.map fun p => .tup (p.1.map keyD), []⟩
  | .str z => some ⟨chars z, []⟩
  | _ => none
def iSrc (f : F) : FI := fun env s => (f env s).bind fun d s => match srcD s d with | some c => .ok c s | none => .bad
section
variable {g : G} {W : WX}
theorem serve_t {a : Addr} {d : D} {l : List D} (hd : asT d = some l) : Serves g (Itt g.K a) ⟨l, []⟩ (fun ρ H => RelD g.K ρ H d (.ref a)) where
  mono := fun h u => h.car u
  go := fun {ρ s H i} hi hs _ h => by
    obtain ⟨a', xs, e, hq, rs⟩ := tup_of h hd
    cases e
    have hi : i < l.length := hi
    obtain ⟨v, ev, rv⟩ := rs.get (List.getElem?_eq_getElem hi)
    refine ⟨⟨xs, v, hq, ev⟩, fun x H' y => ?_⟩
    obtain ⟨rfl, y⟩ := y
    have e2 := y xs hq
    rw [ev] at e2; cases e2
    exact ⟨.refl, hs, rv⟩
  stop := fun {ρ s H} hs _ h => by
    obtain ⟨a', xs, e, hq, rs⟩ := tup_of h hd
    cases e
    exact ⟨xs, hq, Nat.le_of_eq rs.len.symm⟩
theorem serve_l {a : Addr} {l : List D} : Serves g (Itl g.K a) ⟨l, []⟩ (fun ρ H => RelD g.K ρ H (.lst l) (.ref a)) where
  mono := fun h u => h.car u
  go := fun {ρ s H i} hi hs _ h => by
    cases h with
    | lst hq rs =>
      have hi : i < l.length := hi
      obtain ⟨v, ev, rv⟩ := rs.get (List.getElem?_eq_getElem hi)
      refine ⟨⟨_, v, hq.sq, ev⟩, fun x H' y => ?_⟩
      obtain ⟨rfl, y⟩ := y
      have e2 := y _ hq.sq
      rw [ev] at e2; cases e2
      exact ⟨.refl, hs, rv⟩
  stop := fun {ρ s H} hs _ h => by
    cases h with
    | lst hq rs => exact ⟨_, hq.sq, Nat.le_of_eq rs.len.symm⟩
theorem serve_f {a : Addr} {l : List D} : Serves g (Itl g.K a) ⟨l, []⟩ (fun ρ H => RelD g.K ρ H (.lck l) (.ref a)) where
  mono := fun h u => h.car u
  go := fun {ρ s H i} hi hs _ h => by
    cases h with
    | lck n hq rs =>
      have hi : i < l.length := hi
      obtain ⟨v, ev, rv⟩ := rs.get (List.getElem?_eq_getElem hi)
      have sq : SqL g.K H a _ := .inl (.inr ⟨_, hq⟩)
      refine ⟨⟨_, v, sq, ev⟩, fun x H' y => ?_⟩
      obtain ⟨rfl, y⟩ := y
      have e2 := y _ sq
      rw [ev] at e2; cases e2
      exact ⟨.refl, hs, rv⟩
    | lkk hq rs =>
      have hi : i < l.length := hi
      obtain ⟨v, ev, rv⟩ := rs.get (List.getElem?_eq_getElem hi)
      have sq : SqL g.K H a _ := .inr hq
      refine ⟨⟨_, v, sq, ev⟩, fun x H' y => ?_⟩
      obtain ⟨rfl, y⟩ := y
      have e2 := y _ sq
      rw [ev] at e2; cases e2
      exact ⟨.refl, hs, rv⟩
  stop := fun {ρ s H} hs _ h => by
    cases h with
    | lck n hq rs => exact ⟨_, .inl (.inr ⟨_, hq⟩), Nat.le_of_eq rs.len.symm⟩
    | lkk hq rs => exact ⟨_, .inr hq, Nat.le_of_eq rs.len.symm⟩
/-- a list of the store: the guard tells that it is the same still -/
theorem guard_cell {ρ : Rho} {s : Sr} {H : Hp} {n : Nat} {l : List D} {a : Addr} (hs : Sto g ρ s H) (ck : Src.ok ⟨l, [(n, l)]⟩ s = true) (h : ρ.c[n]? = some a) : ∃ xs, H a = some (.lst xs) ∧ RelDs g.K ρ H l xs := by
  unfold Src.ok at ck
  simp only [List.all_cons, List.all_nil, Bool.and_true] at ck
  unfold guardOk at ck
  obtain ⟨c, o, q1, q2, q3⟩ := hs.cell _ _ h
  simp only [q1] at ck
  cases q3 with
  | lst rs =>
    have e := D.eq_of_beqs ck
    subst e
    exact ⟨_, q2, rs⟩
  | _ => cases ck
theorem serve_c {a : Addr} {n : Nat} {l : List D} : Serves g (Itl g.K a) ⟨l, [(n, l)]⟩ (fun ρ _ => ρ.c[n]? = some a) where
  mono := fun h u => u.get h
  go := fun {ρ s H i} hi hs ck h => by
    obtain ⟨xs, hq, rs⟩ := guard_cell hs ck h
    have hi : i < l.length := hi
    obtain ⟨v, ev, rv⟩ := rs.get (List.getElem?_eq_getElem hi)
    have sq : SqL g.K H a xs := .inl (.inl hq)
    refine ⟨⟨_, v, sq, ev⟩, fun x H' y => ?_⟩
    obtain ⟨rfl, y⟩ := y
    have e2 := y _ sq
    rw [ev] at e2; cases e2
    exact ⟨.refl, hs, rv⟩
  stop := fun {ρ s H} hs ck h => by
    obtain ⟨xs, hq, rs⟩ := guard_cell hs ck h
    exact ⟨_, .inl (.inl hq), Nat.le_of_eq rs.len.symm⟩
theorem serve_s {z : Str} : Serves g (Its z) ⟨chars z, []⟩ (fun _ _ => True) where
  mono := fun h _ => h
  go := fun {ρ s H i} hi hs _ _ => by
    have hi : i < (chars z).length := hi
    have hz : i < z.cps.size := by
      unfold chars at hi
      simpa using hi
    refine ⟨hz, fun x H' y => ?_⟩
    obtain ⟨rfl, c, ec, rfl⟩ := y
    refine ⟨.refl, hs, ?_⟩
    have e : (chars z)[i]? = some (.str ⟨#[c]⟩) := by
      unfold chars
      rw [List.getElem?_map, Array.getElem?_toList, ec]
      rfl
    rw [List.getElem?_eq_getElem hi] at e
    show RelD g.K ρ H' (chars z)[i] _
    rw [Option.some.inj e]
    exact .str _
  stop := fun _ _ _ => by
    show z.cps.size ≤ (chars z).length
    unfold chars
    simp
theorem RelK.getI {K : PySem.W.Frag} {ρ : Rho} {H : Hp} {l : List (Key × D)} {kvs : List (Key × V)} (r : RelK K ρ H l kvs) {i : Nat} (hi : i < l.length) : ∃ d v, l[i]? = some ((l[i]).1, d) ∧ kvs[i]? = some ((l[i]).1, v) ∧ RelD K ρ H d v := by
  induction l generalizing kvs i with
  | nil => exact absurd hi (Nat.not_lt_zero _)
  | cons p l ih =>
    cases r with
    | cons h t =>
      cases i with
      | zero => exact ⟨_, _, rfl, rfl, h⟩
      | succ i =>
        obtain ⟨d, v, e1, e2, e3⟩ := ih t (by simpa using hi)
        exact ⟨d, v, by simpa using e1, by simpa using e2, e3⟩
theorem RelT.getI {K : PySem.W.Frag} {ρ : Rho} {H : Hp} {l : List (List Key × D)} {kvs : List (List Key × V)} (r : RelT K ρ H l kvs) {i : Nat} (hi : i < l.length) : ∃ d v, l[i]? = some ((l[i]).1, d) ∧ kvs[i]? = some ((l[i]).1, v) ∧ RelD K ρ H d v := by
  induction l generalizing kvs i with
  | nil => exact absurd hi (Nat.not_lt_zero _)
  | cons p l ih =>
    cases r with
    | cons h t =>
      cases i with
      | zero => exact ⟨_, _, rfl, rfl, h⟩
      | succ i =>
        obtain ⟨d, v, e1, e2, e3⟩ := ih t (by simpa using hi)
        exact ⟨d, v, by simpa using e1, by simpa using e2, e3⟩
/-- a frozen dict's object -/
def FzK (K : PySem.W.Frag) (a : Addr) (o : Obj) (l : List (Key × D)) : Rho → Hp → Prop := fun ρ H => ¬ ρ.has a ∧ ∃ kvs, H a = some (.frz o (.dK kvs)) ∧ RelK K ρ H l kvs
def FzT (K : PySem.W.Frag) (a : Addr) (o : Obj) (l : List (List Key × D)) : Rho → Hp → Prop := fun ρ H => ¬ ρ.has a ∧ ∃ kvs, H a = some (.frz o (.dT kvs)) ∧ RelT K ρ H l kvs
theorem FzK.car {a : Addr} {o : Obj} {l : List (Key × D)} {ρ ρ' : Rho} {H H' : Hp} (h : FzK g.K a o l ρ H) (u : Car ρ ρ' H H') : FzK g.K a o l ρ' H' := by
  obtain ⟨n, kvs, e, r⟩ := h
  exact ⟨(u.frz e n).1, kvs, (u.frz e n).2, r.car u⟩
theorem FzT.car {a : Addr} {o : Obj} {l : List (List Key × D)} {ρ ρ' : Rho} {H H' : Hp} (h : FzT g.K a o l ρ H) (u : Car ρ ρ' H H') : FzT g.K a o l ρ' H' := by
  obtain ⟨n, kvs, e, r⟩ := h
  exact ⟨(u.frz e n).1, kvs, (u.frz e n).2, r.car u⟩
theorem serve_k {a : Addr} {o : Obj} {l : List (Key × D)} {kvs : List (Key × V)} : Serves g (Itk a o kvs) ⟨l.map fun p => keyD p.1, []⟩ (fun ρ H => ¬ ρ.has a ∧ H a = some (.frz o (.dK kvs)) ∧ RelK g.K ρ H l kvs) where
  mono := fun ⟨n, e, r⟩ u => ⟨(u.frz e n).1, (u.frz e n).2, r.car u⟩
  go := fun {ρ s H i} hi hs _ ⟨n, e, r⟩ => by
    have hi' : i < l.length := by simpa using hi
    refine ⟨⟨e, by rw [← r.len]; exact hi'⟩, fun x H' y => ?_⟩
    obtain ⟨rfl, k, v, ek, rfl⟩ := y
    refine ⟨.refl, hs, ?_⟩
    obtain ⟨d, v', e1, e2, _⟩ := r.getI hi'
    rw [ek] at e2
    cases e2
    show RelD g.K ρ H' ((l.map fun p => keyD p.1)[i]) _
    rw [List.getElem_map]
    exact keyD_rel _
  stop := fun {ρ s H} hs _ ⟨n, e, r⟩ => ⟨e, by
    show kvs.length ≤ (l.map fun p => keyD p.1).length
    rw [List.length_map, r.len]; exact Nat.le_refl _⟩
theorem serve_kt {a : Addr} {o : Obj} {l : List (List Key × D)} {kvs : List (List Key × V)} : Serves g (Itkt a o kvs) ⟨l.map fun p => .tup (p.1.map keyD), []⟩ (fun ρ H => ¬ ρ.has a ∧ H a = some (.frz o (.dT kvs)) ∧ RelT g.K ρ H l kvs) where
  mono := fun ⟨n, e, r⟩ u => ⟨(u.frz e n).1, (u.frz e n).2, r.car u⟩
  go := fun {ρ s H i} hi hs _ ⟨n, e, r⟩ => by
    have hi' : i < l.length := by simpa using hi
    refine ⟨⟨e, by rw [← r.len]; exact hi'⟩, fun x H' y => ?_⟩
    obtain ⟨rfl, k, v, q, ek, rfl, hq⟩ := y
    refine ⟨.refl, hs, ?_⟩
    obtain ⟨d, v', e1, e2, _⟩ := r.getI hi'
    rw [ek] at e2
    cases e2
    show RelD g.K ρ H' ((l.map fun p => D.tup (p.1.map keyD))[i]) _
    rw [List.getElem_map]
    exact .tup ⟨hs.tupOut hq, hq⟩ (keyDs_rel _)
  stop := fun {ρ s H} hs _ ⟨n, e, r⟩ => ⟨e, by
    show kvs.length ≤ (l.map fun p => D.tup (p.1.map keyD)).length
    rw [List.length_map, r.len]; exact Nat.le_refl _⟩
end
section
variable {X : Cx} {g : G} {W : WX} {pos : Pos} (hK : X.K = g.K)
/-- a value's reading, when it is known to come -/
theorem srcs {f : F} {R : It → Hp → Prop} {σ : L2.St} {H : Hp} {ρ : Rho} {s : Sr} {env : Env'} (hs : Sto g ρ s H) (hl : Loc' g.K ρ H env σ) {E : XK} (hp : Post g (RI g) ρ H E R (iSrc f env s)) : ∀ d s1, f env s = .ok d s1 → ∃ c, srcD s1 d = some c ∧
    ∀ (rd : V → Hp → Prop), (∀ ρ1 H1 v, Up ρ ρ1 H H1 → Sto g ρ1 s1 H1 → RelD g.K ρ1 H1 d v → (∀ J, RI g ρ1 H1 c J → R J H1) → rd v H1) → tI g W f σ H rd := by
  intro d s1 e
  unfold iSrc at hp
  rw [e] at hp
  have hp : Post g (RI g) ρ H E R (match srcD s1 d with | some c => .ok c s1 | none => .bad) := hp
  cases ec : srcD s1 d with
  | none => rw [ec] at hp; exact hp.elim
  | some c =>
    rw [ec] at hp
    refine ⟨c, rfl, fun rd k => ⟨ρ, s, env, hs, hl, ?_⟩⟩
    rw [e]
    exact fun ρ1 H1 v u hs1 r => k ρ1 H1 v u hs1 r fun J j => hp ρ1 H1 J u hs1 j
include hK
theorem l_src {tg e : Expr} {f : F} (he : PE X e (tI g W f)) : PI X tg e (iI g W (iSrc f)) := ⟨fun pins s σ H R I h => by
  obtain ⟨ρ, st, env, hs, hl, hp⟩ := h
  obtain ⟨gK, gc⟩ := g
  have hK : X.K = gK := hK
  subst hK
  cases ef : f env st with
  | exc c fs s1 =>
    refine (pi_tup he).run pins s σ H R I ⟨ρ, st, env, hs, hl, ?_⟩
    rw [ef]
    unfold iSrc at hp
    rw [ef] at hp
    exact hp
  | bad =>
    unfold iSrc at hp
    rw [ef] at hp
    exact hp.elim
  | ok d s1 =>
    obtain ⟨c, ec, k⟩ := srcs (W := W) hs hl hp d s1 ef
    cases d with
    | tup l =>
      cases ec
      refine (pi_tup he).run pins s σ H R I (k _ fun ρ1 H1 v u hs1 r q => ?_)
      cases r with
      | tup h rs => exact ⟨_, rfl, ⟨_, h.sq⟩, q _ ⟨_, serve_t (d := .tup l) rfl, .tup h rs⟩⟩
    | ktp l =>
      cases ec
      refine (pi_tup he).run pins s σ H R I (k _ fun ρ1 H1 v u hs1 r q => ?_)
      cases r with
      | ktp h rs => exact ⟨_, rfl, ⟨_, h.sq⟩, q _ ⟨_, serve_t (d := .ktp l) rfl, .ktp h rs⟩⟩
    | lst l =>
      cases ec
      refine (pi_list he).run pins s σ H R I (k _ fun ρ1 H1 v u hs1 r q => ?_)
      cases r with
      | lst h rs => exact ⟨_, rfl, ⟨_, .inl (.inl h.2)⟩, q _ ⟨_, serve_l, .lst h rs⟩⟩
    | lck l =>
      cases ec
      refine (pi_list he).run pins s σ H R I (k _ fun ρ1 H1 v u hs1 r q => ?_)
      cases r with
      | lck n h rs => exact ⟨_, rfl, ⟨_, .inl (.inr ⟨_, h⟩)⟩, q _ ⟨_, serve_f, .lck n h rs⟩⟩
      | lkk h rs => exact ⟨_, rfl, ⟨_, .inr h⟩, q _ ⟨_, serve_f, .lkk h rs⟩⟩
    | dk l =>
      cases ec
      refine (pi_keys he).run pins s σ H R I (k _ fun ρ1 H1 v u hs1 r q => ?_)
      cases r with
      | dk n h rs => exact ⟨_, _, rfl, .inl ⟨_, h, q _ ⟨_, serve_k, n, h, rs⟩⟩⟩
    | dt l =>
      cases ec
      refine (pi_keys he).run pins s σ H R I (k _ fun ρ1 H1 v u hs1 r q => ?_)
      cases r with
      | dt n h rs => exact ⟨_, _, rfl, .inr ⟨_, h, q _ ⟨_, serve_kt, n, h, rs⟩⟩⟩
    | str z =>
      cases ec
      refine (pi_str he).run pins s σ H R I (k _ fun ρ1 H1 v u hs1 r q => ?_)
      cases r
      exact ⟨z, rfl, q _ ⟨_, serve_s, trivial⟩⟩
    | ref n =>
      cases el : s1[n]? with
      | none => simp only [srcD, el] at ec; cases ec
      | some cc =>
        cases cc with
        | lst l =>
          simp only [srcD, el] at ec
          cases ec
          refine (pi_list he).run pins s σ H R I (k _ fun ρ1 H1 v u hs1 r q => ?_)
          cases r with
          | ref ea =>
            obtain ⟨c, o, q1, q2, q3⟩ := hs1.cell _ _ ea
            rw [el] at q1; cases q1
            cases q3
            exact ⟨_, rfl, ⟨_, .inl (.inl q2)⟩, q _ ⟨_, serve_c, ea⟩⟩
        | _ => simp only [srcD, el] at ec; cases ec
    | _ => cases ec⟩
end
end L3

/-! L3W: pairs that loops go through -/
namespace L3
open PySem PySem.Spec PyProof.Rows L2

/-! ### items of a dict with tuple keys -/
def ItiT (d : Addr) (o : Obj) (kvs : List (List Key × V)) : It :=
  ⟨fun i H => H d = some (.frz o (.dT kvs)) ∧ i < kvs.length, fun i H x H' => ∃ T q k v, kvs[i]? = some (k, v) ∧ H q = some (.tup (k.map kV)) ∧ x = .ref T ∧ H T = none ∧ H' = upd H T (.tup [.ref q, v]), fun i H => H d = some (.frz o (.dT kvs)) ∧ kvs.length ≤ i⟩
section
variable {X : Cx} {pins : List (Addr × Obj)} {σ : L2.St} {H : Hp} {s : Shared} {d : Addr} {o : Obj}
theorem frzE {kvs : List (List Key × V)} (I : Inv X pins σ H s) (h : H d = some (.frz o (.dT kvs))) :
    (d == sysModules) = false ∧ s.heap.get? d = some o ∧ o.ExactDict ∧ ∃ (es : Array DictEntry) (ep : Nat), o.data = .dict es ep ∧ es.size = kvs.length ∧
      ∀ (i : Nat) (k : List Key) (v : V), kvs[i]? = some (k, v) → ∃ (en : DictEntry) (q : Addr), es[i]? = some en ∧ en.key = .ref q ∧ H q = some (.tup (k.map kV)) ∧ RelV v en.val := by
  obtain ⟨hd, z, hs, xs, pr, o', es, ep, ho, hx, hdt, he, _⟩ := I.hok d _ h
  rw [hd] at ho
  cases ho
  refine ⟨hs, hd, hx, es, ep, hdt, ?_, fun i k v e => ?_⟩
  · have l1 : es.size = xs.length := size_of_entries he
    have l2 : kvs.length = xs.length := Paired.length pr
    omega
  · obtain ⟨b, hb, e1, e2, e3⟩ := paired_get pr e
    have q := entry_at he i
    rw [hb] at q
    exact ⟨_, b.2.1, q, rfl, e2, e3⟩
end
theorem turn_itemsT {P : Program} {w : World} {K : PySem.W.Frag} {d : Addr} {o : Obj} {es : Array DictEntry} {ep : Nat} {kvs : List (List Key × V)} {elts : List Expr} {kk : Nat} {tpos : Pos} (it : Addr) (hod : o.data = .dict es ep) :
    Turn P w K (.Tuple elts kk tpos) (ItiT d o kvs) [it] it (fun i h => ∃ a b, IsItemIter h it d i es.size ep a b) where
  mem := List.mem_singleton.mpr rfl
  obj := fun i h ⟨a, b, e⟩ c hc => by
    rw [List.mem_singleton.mp hc]
    exact ⟨_, e, fun v z => nomatch z⟩
  keep := fun i h h' ⟨a, b, e⟩ k => ⟨a, b, k it (List.mem_singleton.mpr rfl) _ e⟩
  item := by
    intro X hP hw hK hc i pins s σ H E I hf st hg
    subst hP hw hK
    obtain ⟨hd, hi⟩ := hg
    obtain ⟨a, b, he⟩ := st
    obtain ⟨hs, hgd, hx, es', ep', hdt, hsz, ent⟩ := frzE I hd
    obtain ⟨rfl, rfl⟩ := dict_ep hod hdt
    obtain ⟨en, q, hen, hkey, hq, rv⟩ := ent i _ _ (List.getElem?_eq_getElem hi)
    have hie : i < es'.size := by rw [hsz]; exact hi
    rw [Array.getElem?_eq_getElem hie] at hen
    have hen := Option.some.inj hen
    have low : it < s.heap.objs.size := Heap.lt_size he
    refine DT.nextI he ⟨o, hgd, hx, hdt⟩ hie fun h' out ht _ hk => ?_
    refine ⟨_, rfl, wpAny_letOwnedTupleGo_items (s := { s with heap := h' }) out fun h'' he' sb => ?_⟩
    have ht2 : h''.get? s.heap.objs.size = some { cls := .type "tuple", data := .seq #[en.key, en.val] } := by
      rw [sb.2 _ (Nat.ne_of_gt low), ht, hen]
    have new : ObjOk X.prog X.w (upd H s.heap.objs.size (.tup [.ref q, (kvs[i]).2])) h'' s.heap.objs.size (.tup [.ref q, (kvs[i]).2]) :=
      ⟨by show 2 ≤ sizeLine; decide, [en.key, en.val], .cons hkey (.cons rv .nil), ⟨_, ht2, rfl, _, rfl⟩⟩
    have I1 : Inv X pins σ (upd H s.heap.objs.size (.tup [.ref q, (kvs[i]).2])) { s with heap := h'' } :=
      I.turnedNew (t' := s.toks) (ch := [it]) (fun c oc hb e => (sb.2 c fun z => hb (List.mem_singleton.mpr z)).trans (hk c oc (fun z => hb (List.mem_singleton.mpr z)) e)) hf (Nat.le_refl _) new
    refine ⟨.ref s.heap.objs.size, _, I1, rfl, ⟨_, q, _, _, List.getElem?_eq_getElem hi, hq, rfl, I.hok.fresh (Nat.le_refl _), rfl⟩, ⟨_, _, he'⟩, fun c hc' => ?_⟩
    rw [List.mem_singleton.mp hc', upd_ne (Nat.ne_of_lt low)]
    exact (hf it (List.mem_singleton.mpr rfl)).1
  done := by
    intro X hP hw hK hc i pins s σ H E I hf st hg
    subst hP hw hK
    obtain ⟨hd, hi⟩ := hg
    obtain ⟨a, b, he⟩ := st
    obtain ⟨hs, hgd, hx, es', ep', hdt, hsz, ent⟩ := frzE I hd
    obtain ⟨rfl, rfl⟩ := dict_ep hod hdt
    obtain ⟨f0, f1, f2, f3, f4, f5⟩ := hf it (List.mem_singleton.mpr rfl)
    exact DT.endI (I.ok.hd hc) he ⟨o, hgd, hx, hdt⟩ (by rw [hsz]; exact hi) fun h' eb => ⟨rfl, I.turned (t' := s.toks) (fun b o hb e => eb b o hb e) f0 f1 f3 f4 f5⟩
  self := fun A i s Q E ⟨a, b, e⟩ h => PySem.W.kcp_self e h
def iItemsT (td : TE) : TI := fun σ H R => td σ H fun x H1 => ∃ d o kvs, x = .ref d ∧ H1 d = some (.frz o (.dT kvs)) ∧ R (ItiT d o kvs) H1
theorem pi_itemsT {X : Cx} {e : Expr} {td : TE} {apos cpos : Pos} {elts : List Expr} {kk : Nat} {tpos : Pos} (he : PE X e td) (hbase : attributeBase e "items" X.env (eval e X.env) = eval e X.env) (hline : (apos.endLine == cpos.line) = true) :
    PI X (.Tuple elts kk tpos) (.Call (.Attribute e "items" apos) [] [] cpos) (iItemsT td) := by
  refine ⟨fun pins s σ H R I h => ?_⟩
  refine wpAny_Call_method (T := "dict") (id := "dict.items") hbase rfl hline F.plainAttrs_dict F.slot_dict_items F.type_dict_items (thn (he.run pins s σ H _ I h) fun u s1 ⟨x, H1, I1, rx, d, o, kvs, ex, hd, q⟩ => ?_)
  subst ex
  obtain rfl : u = Value.ref d := rx
  obtain ⟨hs, hgd, hx, es, ep, hdt, hsz, ent⟩ := frzE I1 hd
  have raw : DT.Raw s1.heap d es ep := ⟨o, hgd, hx, hdt⟩
  refine ⟨raw.typeIs, fun b e => by cases e; exact ⟨o, hgd, hx.2.1⟩, ?_⟩
  have I2 : Inv X pins σ H1 { s1 with heap := s1.heap.push { cls := .type "dict_items", data := .fields #[.ref d] } } := I1.kept (t' := s1.toks) fun b ob q => Heap.get?_push_of_some _ q
  refine Calls.callWith_builtin rfl (PySem.evalArgs_none (DT.callItems hs raw ?_))
  exact DT.iterI (d := d) ⟨_, Heap.get?_push_size _ rfl, rfl, rfl⟩ (raw.push _) (pi_one (tk := s1.toks) I2 _ (turn_itemsT _ hdt) ⟨.none, .none, Heap.get?_push_size _ rfl⟩ q)

/-! ### enumerate(tuple) -/
theorem meets_enum_tup (a : Addr) (items : Array Value) :
    Meets (Builtin.«enumerate.__new__» ⟨[.type "enumerate", .ref a], []⟩) (fun _ R s => s.heap.IsTuple a items ∧
      R (.ok (.ret (.ref (s.heap.push { cls := .type "tuple_iterator", data := .fields #[.ref a, .int 0 0] }).objs.size)))
        { s with heap := (s.heap.push { cls := .type "tuple_iterator", data := .fields #[.ref a, .int 0 0] }).push { cls := .type "enumerate", data := .fields #[.none, .bool false, .ref s.heap.objs.size, rawInt 0, .none, .none] } }) :=
  .of_wp fun prog w A R s h => by
    obtain ⟨hp, g, d, tk, os⟩ := s
    obtain ⟨ht, h⟩ := h
    have hsub := sub_enumerate
    have step : ∀ {A' : Around} {E : Value → Shared → Prop} {Q : Value → Shared → Prop}, Q (.ref hp.objs.size) ⟨hp.push { cls := .type "tuple_iterator", data := .fields #[.ref a, .int 0 0] }, g, d, tk, os⟩ → wpAny (model prog w) A' (pyIter (.ref a)) Q E ⟨hp, g, d, tk, os⟩ := fun q => wpAny_pyIter_tuple (s := ⟨hp, g, d, tk, os⟩) ht q
    wp_walk using step
    refine wpAny_stack_any fun st => wpAny_pure ?_
    split
    · rename_i c _ _ _ _ _
      cases (c == Value.type "enumerate") <;> (wp_walk using step; exact ⟨_, rfl, h⟩)
    · wp_walk using step
      exact ⟨_, rfl, h⟩
/-- the tuple at a, each item in a new pair -/
def IteT (K : PySem.W.Frag) (a : Addr) : It :=
  ⟨fun i H => ∃ (xs : List V) (x : V), SqT K H a xs ∧ xs[i]? = some x, fun i H v H' => ∃ T x, v = .ref T ∧ H T = none ∧ H' = upd H T (.tup [.int (i : Nat), x]) ∧ ∀ xs, SqT K H a xs → xs[i]? = some x, fun i H => ∃ xs : List V, SqT K H a xs ∧ xs.length ≤ i⟩
theorem turn_enumT {P : Program} {w : World} {K : PySem.W.Frag} {elts : List Expr} {kk : Nat} {tpos : Pos} {a e it : Addr} {items : Array Value} (hei : e ≠ it) (hae : a ≠ e) (hai : a ≠ it) :
    Turn P w K (.Tuple elts kk tpos) (IteT K a) [e, it] e (fun i h => (∃ old, IsEnum h e it ((i : Nat) : Int) old) ∧ h.IsTupleIter it a i) where
  mem := by simp
  obj := fun i h ⟨⟨old, he⟩, ⟨o, ho, hc, hd⟩⟩ b hb => by
    rcases (by simpa using hb : b = e ∨ b = it) with z | z
    · rw [z]; exact ⟨_, he, fun v q => nomatch q⟩
    · rw [z]; exact ⟨o, ho, fun v q => by rw [hd] at q; cases q⟩
  keep := fun i h h' ⟨⟨old, he⟩, hi⟩ k => ⟨⟨old, k e (by simp) _ he⟩, hi.at fun o q => k it (by simp) o q⟩
  item := by
    intro X hP hw hK hc i pins s σ H E I hf st hg
    subst hP hw hK
    obtain ⟨⟨old, he⟩, hit⟩ := st
    obtain ⟨xs, x, hq, hx⟩ := hg
    obtain ⟨its, rv, p, hz⟩ := I.tuple hq
    obtain ⟨u, hu, ru⟩ := rv.get hx
    have hel : e < s.heap.objs.size := Heap.lt_size he
    have hil : it < s.heap.objs.size := by obtain ⟨_, q, _⟩ := hit; exact Heap.lt_size q
    have D := Draws.tuple (prog := X.prog) (w := X.w) (A := X.A.in1) (I.ok.hd hc) it a hai its.toArray
    refine wpAny_pyNext_enum_itemD D he ⟨hit, p⟩ (by simpa using (List.getElem?_eq_some_iff.mp hu).1) hei (by simp [hei, hae.symm]) fun y h' tk hP ho hst hT hsz hk => ?_
    have hy : y = u := by
      have hP : its.toArray[i]? = some y := hP
      have hu' : its.toArray[i]? = some u := by simpa using hu
      rw [hu'] at hP
      exact (Option.some.inj hP).symm
    subst hy
    refine ⟨_, rfl, wpAny_letOwnedTupleGo_enum (s := { s with heap := h', toks := tk + 1 }) ho fun h'' he' sb => ?_⟩
    have hT2 : h''.get? s.heap.objs.size = some { cls := .type "tuple", data := .seq #[.int i tk, y] } := (sb.2 _ (Nat.ne_of_gt hel)).trans hT
    have new : ObjOk X.prog X.w (upd H s.heap.objs.size (.tup [.int (i : Nat), x])) h'' s.heap.objs.size (.tup [.int (i : Nat), x]) :=
      ⟨by show 2 ≤ sizeLine; decide, [.int i tk, y], .cons ⟨_, rfl⟩ (.cons ru .nil), ⟨_, hT2, rfl, _, rfl⟩⟩
    have I1 : Inv X pins σ (upd H s.heap.objs.size (.tup [.int (i : Nat), x])) { s with heap := h'', toks := tk + 1 } :=
      I.turnedNew (ch := [e, it]) (fun b ob hb q => (sb.2 b fun z => hb (by simp [z])).trans (hk b ob (fun z => hb (by simp [z])) (fun z => hb (by simp [z])) q)) hf (Nat.le_refl _) new
    refine ⟨.ref s.heap.objs.size, _, I1, rfl, ⟨_, x, rfl, I.hok.fresh (Nat.le_refl _), rfl, fun ys hy => by rw [I.tuple_inj hy hq]; exact hx⟩, ⟨⟨y, ?_⟩, hst.1.at fun o q => (sb.2 it (Ne.symm hei)).trans q⟩, fun b hb => ?_⟩
    · rw [show ((i + 1 : Nat) : Int) = (i : Int) + 1 by omega]; exact he'
    · have hb' : b < s.heap.objs.size := by
        rcases (by simpa using hb : b = e ∨ b = it) with z | z
        · rw [z]; exact hel
        · rw [z]; exact hil
      rw [upd_ne (Nat.ne_of_lt hb')]
      exact (hf b hb).1
  done := by
    intro X hP hw hK hc i pins s σ H E I hf st hg
    subst hP hw hK
    obtain ⟨⟨old, he⟩, hit⟩ := st
    obtain ⟨xs, hq, hx⟩ := hg
    obtain ⟨its, rv, p, hz⟩ := I.tuple hq
    obtain ⟨f0, f1, f2, f3, f4, f5⟩ := hf it (by simp)
    have hl := rv.length
    have D := Draws.tuple (prog := X.prog) (w := X.w) (A := X.A.in1) (I.ok.hd hc) it a hai its.toArray
    have D2 : Draws X.prog X.w X.A.in1 it [it, a] i (fun j v => its.toArray[j]? = some v) (fun j h => if j = i then h.IsTupleIter it a i ∧ h.IsTuple a its.toArray else h.IsTupleIter it a j ∧ h.IsTuple a its.toArray ∧ False) :=
      ⟨fun j h st => by
        split at st
        · exact let ⟨o, ho, _⟩ := st.1; ⟨o, ho⟩
        · exact st.2.2.elim,
       fun j h h' st k => by
        split at st
        · rename_i e'
          rw [if_pos e']
          exact ⟨st.1.at fun o e => k it (by simp) o e, st.2.at fun o e => k a (by simp) o e⟩
        · exact st.2.2.elim,
       fun j s' Q E hj st _ => by
        rw [if_neg (Nat.ne_of_lt hj)] at st
        exact st.2.2.elim,
       fun s' Q E st hE => by
        rw [if_pos rfl] at st
        exact wpAny_nextOf_tuple_end (I.ok.hd hc) st.1 st.2 (by simp; omega) hE⟩
    exact wpAny_pyNext_enum_endD D2 he (by rw [if_pos rfl]; exact ⟨hit, p⟩) fun h' eb => ⟨rfl, I.turned (t' := s.toks) (fun b o hb q => eb b o hb q) f0 f1 f3 f4 f5⟩
  self := fun A i s Q E ⟨⟨_, he⟩, _⟩ h => wpAny_pyIter_enum he h
def iEnumT (K : PySem.W.Frag) (ta : TA) : TI := fun σ H R => ta σ H fun vs H1 => ∃ a xs, vs = [.ref a] ∧ SqT K H1 a xs ∧ R (IteT K a) H1
theorem pi_enumT {X : Cx} {e : Expr} {ta : TA} {p pos tpos : Pos} {elts : List Expr} {kk : Nat} (hg : Gl X "enumerate") (hm : X.mg "enumerate" = none) (ha : PA X [e] ta) (hs : starEach [e] X.env = [(false, eval e X.env)]) :
    PI X (.Tuple elts kk tpos) (.Call (.Name "enumerate" p) [e] [] pos) (iEnumT X.K ta) := by
  refine ⟨fun pins s σ H R I h => ?_⟩
  refine Call_ (ld_blt I hg hm boot_enumerate (PyProof.Rows.callWith_type1 (thn (ha.run pos pins s σ H _ I h) fun us s1 ⟨vs, H1, I1, r1, a, xs, ex, hq, q⟩ => ?_) hs rfl))
  subst ex
  obtain ⟨u, rfl, ru⟩ := vals1 r1
  cases ru
  obtain ⟨its, rv, p', hz⟩ := I1.tuple hq
  have hal : a < s1.heap.objs.size := p'.lt
  refine callType_new F.called_enumerate (by decide) (F.typeCall_enumerate_1 _) (F.newCall_enumerate_1 _) (fun obj => F.args_object_init_2 obj _) F.entry_enumerate_new (meets_enum_tup a its.toArray) ⟨p', ?_⟩
  generalize hh : s1.heap.push { cls := .type "tuple_iterator", data := .fields #[.ref a, .int 0 0] } = h1
  have z1 : h1.objs.size = s1.heap.objs.size + 1 := by rw [← hh, Heap.size_push]
  have hit : h1.IsTupleIter s1.heap.objs.size a 0 := by rw [← hh]; exact ⟨_, Heap.get?_push_size _ rfl, rfl, rfl⟩
  have he : IsEnum (h1.push { cls := .type "enumerate", data := .fields #[.none, .bool false, .ref s1.heap.objs.size, rawInt 0, .none, .none] }) (s1.heap.objs.size + 1) s1.heap.objs.size 0 .none := by
    have := Heap.get?_push_size h1 (o := { cls := .type "enumerate", data := .fields #[.none, .bool false, .ref s1.heap.objs.size, rawInt 0, .none, .none] }) rfl
    rw [z1] at this; exact this
  have kp : ∀ b o, s1.heap.get? b = some o → (h1.push { cls := .type "enumerate", data := .fields #[.none, .bool false, .ref s1.heap.objs.size, rawInt 0, .none, .none] }).get? b = some o := fun b o e => Heap.get?_push_of_some _ (by rw [← hh]; exact Heap.get?_push_of_some _ e)
  show _ ∧ _
  rw [z1]
  refine ⟨⟨_, he, rfl⟩, wpAny_pyIter_enum (s := { s1 with heap := _ }) he ?_⟩
  refine ⟨s1.heap.objs.size + 1, [s1.heap.objs.size + 1, s1.heap.objs.size], _, _, H1, rfl, I1.kept (t' := s1.toks) kp, turn_enumT (items := its.toArray) (Nat.succ_ne_self _) (Nat.ne_of_lt (Nat.lt_succ_of_lt hal)) (Nat.ne_of_lt hal), ⟨⟨.none, he⟩, hit.at fun o e => Heap.get?_push_of_some _ e⟩, fun b hb => ?_, q⟩
  have hle : s1.heap.objs.size ≤ b := by
    rcases (by simpa using hb : b = s1.heap.objs.size + 1 ∨ b = s1.heap.objs.size) with z | z
    · rw [z]; exact Nat.le_add_right _ _
    · rw [z]; exact Nat.le_refl _
  exact I1.fpOk hle (I1.hok.fresh hle)
end L3

/-! L3X: pairs that loops go through, by functions -/
namespace L3
open PySem PySem.Spec PyProof.Rows L2

def rangeL (lo : Int) : Nat → List D
  | 0 => []
  | n + 1 => .int lo :: rangeL (lo + 1) n
def small62 (i : Int) : Bool := decide (-(2 ^ 62) ≤ i) && decide (i < 2 ^ 62)
def enumL (i : Nat) : List D → List D
  | [] => []
  | d :: r => .tup [.int i, d] :: enumL (i + 1) r
def zipL : List D → List D → List D
  | a :: r, b :: t => .tup [a, b] :: zipL r t
  | _, _ => []
def itemsK (l : List (Key × D)) : List D := l.map fun p => .tup [keyD p.1, p.2]
def itemsT (l : List (List Key × D)) : List D := l.map fun p => .tup [.tup (p.1.map keyD), p.2]
theorem rangeL_len : ∀ (n : Nat) (lo : Int), (rangeL lo n).length = n
  | 0, _ => rfl
  | n + 1, lo => congrArg (· + 1) (rangeL_len n (lo + 1))
theorem rangeL_get : ∀ (n : Nat) (lo : Int) (i : Nat), i < n → (rangeL lo n)[i]? = some (.int (lo + i))
  | n + 1, lo, 0, _ => by simp [rangeL]
  | n + 1, lo, i + 1, h => by
    have := rangeL_get n (lo + 1) i (by omega)
    show (rangeL (lo + 1) n)[i]? = _
    rw [this]
    congr 2
    omega
theorem enumL_len : ∀ (l : List D) (j : Nat), (enumL j l).length = l.length
  | [], _ => rfl
  | _ :: r, j => congrArg (· + 1) (enumL_len r (j + 1))
theorem enumL_get : ∀ (l : List D) (j i : Nat) (d : D), l[i]? = some d → (enumL j l)[i]? = some (.tup [.int (j + i : Nat), d])
  | [], _, _, _, h => by simp at h
  | x :: r, j, 0, d, h => by simp at h; subst h; simp [enumL]
  | x :: r, j, i + 1, d, h => by
    have := enumL_get r (j + 1) i d (by simpa using h)
    show (enumL (j + 1) r)[i]? = _
    rw [this]
    congr 4
    omega
theorem zipL_len : ∀ (l m : List D), (zipL l m).length = min l.length m.length
  | [], m => by simp [zipL]
  | _ :: _, [] => by simp [zipL]
  | _ :: r, _ :: t => by simp only [zipL, List.length_cons, zipL_len r t]; omega
theorem zipL_get : ∀ (l m : List D) (i : Nat) (a b : D), l[i]? = some a → m[i]? = some b → (zipL l m)[i]? = some (.tup [a, b])
  | [], _, _, _, _, h, _ => by simp at h
  | _ :: _, [], _, _, _, _, h => by simp at h
  | x :: r, y :: t, 0, a, b, h, k => by simp at h k; subst h; subst k; simp [zipL]
  | x :: r, y :: t, i + 1, a, b, h, k => by
    show (zipL r t)[i]? = _
    exact zipL_get r t i a b (by simpa using h) (by simpa using k)
section
variable {g : G}
/-- a new pair -/
theorem pair_new {ρ : Rho} {s : Sr} {H : Hp} {T : Addr} {a b : D} {x y : V} (hs : Sto g ρ s H) (hT : H T = none) (ra : RelD g.K ρ H a x) (rb : RelD g.K ρ H b y) : Up ρ ρ H (upd H T (.tup [x, y])) ∧ Sto g ρ s (upd H T (.tup [x, y])) ∧ RelD g.K ρ (upd H T (.tup [x, y])) (.tup [a, b]) (.ref T) :=
  ⟨Up.new1 hs hT, hs.new1 hT, .tup ⟨hs.out hT, upd_same⟩ (.cons (ra.up (Up.new1 hs hT)) (.cons (rb.up (Up.new1 hs hT)) .nil))⟩
theorem serve_rng {lo : Int} {n : Nat} : Serves g (Itr lo n) ⟨rangeL lo n, []⟩ (fun _ _ => True) where
  mono := fun h _ => h
  go := fun {ρ s H i} hi hs _ _ => by
    have hi' : i < n := by simpa [rangeL_len] using hi
    refine ⟨hi', fun x H' y => ?_⟩
    obtain ⟨rfl, rfl⟩ := y
    have e := rangeL_get n lo i hi'
    have hi2 : i < (rangeL lo n).length := by rw [rangeL_len]; exact hi'
    rw [List.getElem?_eq_getElem hi2] at e
    refine ⟨.refl, hs, ?_⟩
    show RelD g.K ρ H' (rangeL lo n)[i] _
    rw [Option.some.inj e]
    exact .int _
  stop := fun _ _ _ => by
    show n ≤ (rangeL lo n).length
    rw [rangeL_len]; exact Nat.le_refl _
def downL (lo c : Int) : Nat → List D
  | 0 => []
  | n + 1 => .int lo :: downL (lo + c) c n
theorem downL_len (c : Int) : ∀ (n : Nat) (lo : Int), (downL lo c n).length = n
  | 0, _ => rfl
  | n + 1, lo => congrArg (· + 1) (downL_len c n (lo + c))
theorem downL_get (c : Int) : ∀ (n : Nat) (lo : Int) (i : Nat), i < n → (downL lo c n)[i]? = some (.int (lo + i * c))
  | n + 1, lo, 0, _ => by simp [downL]
  | n + 1, lo, i + 1, h => by
    have := downL_get c n (lo + c) i (by omega)
    show (downL (lo + c) c n)[i]? = _
    rw [this]
    congr 2
    rw [Int.natCast_add, Int.add_mul]
    omega
theorem serve_rngc {lo c : Int} {n : Nat} : Serves g (Itc lo c n) ⟨downL lo c n, []⟩ (fun _ _ => True) where
  mono := fun h _ => h
  go := fun {ρ s H i} hi hs _ _ => by
    have hi' : i < n := by simpa [downL_len] using hi
    refine ⟨hi', fun x H' y => ?_⟩
    obtain ⟨rfl, rfl⟩ := y
    have e := downL_get c n lo i hi'
    have hi2 : i < (downL lo c n).length := by rw [downL_len]; exact hi'
    rw [List.getElem?_eq_getElem hi2] at e
    refine ⟨.refl, hs, ?_⟩
    show RelD g.K ρ H' (downL lo c n)[i] _
    rw [Option.some.inj e]
    exact .int _
  stop := fun _ _ _ => by
    show n ≤ (downL lo c n).length
    rw [downL_len]; exact Nat.le_refl _
theorem serve_enumT {a : Addr} {d : D} {l : List D} (hd : asT d = some l) : Serves g (IteT g.K a) ⟨enumL 0 l, []⟩ (fun ρ H => RelD g.K ρ H d (.ref a)) where
  mono := fun h u => h.car u
  go := fun {ρ s H i} hi hs _ h => by
    obtain ⟨a', xs, e, hq, rs⟩ := tup_of h hd
    cases e
    have hi' : i < l.length := by simpa [enumL_len] using hi
    obtain ⟨v, ev, rv⟩ := rs.get (List.getElem?_eq_getElem hi')
    refine ⟨⟨xs, v, hq, ev⟩, fun x H' y => ?_⟩
    obtain ⟨T, z, rfl, nT, rfl, hz⟩ := y
    have e2 := hz xs hq
    rw [ev] at e2; cases e2
    obtain ⟨u, hs', r⟩ := pair_new hs nT (.int (i : Nat)) rv
    refine ⟨u, hs', ?_⟩
    have e := enumL_get l 0 i _ (List.getElem?_eq_getElem hi')
    have hi2 : i < (enumL 0 l).length := by rw [enumL_len]; exact hi'
    rw [List.getElem?_eq_getElem hi2, Nat.zero_add] at e
    show RelD g.K ρ _ (enumL 0 l)[i] _
    rw [Option.some.inj e]
    exact r
  stop := fun {ρ s H} hs _ h => by
    obtain ⟨a', xs, e, hq, rs⟩ := tup_of h hd
    cases e
    refine ⟨xs, hq, ?_⟩
    show xs.length ≤ (enumL 0 l).length
    rw [enumL_len, rs.len]; exact Nat.le_refl _
/-- lists, data or of the store, that are read at each turn -/
structure LAt (g : G) (l : List D) (gd : List (Nat × List D)) (a : Addr) (Hd : Rho → Hp → Prop) : Prop where
  mono : ∀ {ρ ρ' H H'}, Hd ρ H → Car ρ ρ' H H' → Hd ρ' H'
  at' : ∀ {ρ s H}, Sto g ρ s H → gd.all (guardOk s) = true → Hd ρ H → ∃ xs, SqL g.K H a xs ∧ RelDs g.K ρ H l xs
theorem lAt {ρ : Rho} {s : Sr} {H : Hp} {d : D} {l : List D} {v : V} (hs : Sto g ρ s H) (r : RelD g.K ρ H d v) (e : asL s d = some l) : ∃ a Hd, v = .ref a ∧ LAt g l (match d with | .ref n => [(n, l)] | _ => []) a Hd ∧ Hd ρ H := by
  cases r with
  | @lst a xs ds h rs =>
    cases e
    exact ⟨a, fun ρ H => RelD g.K ρ H (.lst l) (.ref a), rfl, ⟨fun h u => h.car u, fun hs _ h => by
      cases h with
      | lst hq rs => exact ⟨_, hq.sq, rs⟩⟩, .lst h rs⟩
  | @ref n a ea =>
    refine ⟨a, fun ρ _ => ρ.c[n]? = some a, rfl, ⟨fun h u => u.get h, fun {ρ s H} hs ck h => ?_⟩, ea⟩
    obtain ⟨xs, hq, rs⟩ := guard_cell hs (show Src.ok ⟨l, [(n, l)]⟩ s = true from ck) h
    exact ⟨xs, .inl (.inl hq), rs⟩
  | _ => cases e
def gdOf (d : D) (l : List D) : List (Nat × List D) := match d with | .ref n => [(n, l)] | _ => []
theorem serve_enumL {a : Addr} {l : List D} {gd : List (Nat × List D)} {Hd : Rho → Hp → Prop} (L : LAt g l gd a Hd) : Serves g (Ite g.K a) ⟨enumL 0 l, gd⟩ Hd where
  mono := L.mono
  go := fun {ρ s H i} hi hs ck h => by
    obtain ⟨xs, hq, rs⟩ := L.at' hs ck h
    have hi' : i < l.length := by simpa [enumL_len] using hi
    obtain ⟨v, ev, rv⟩ := rs.get (List.getElem?_eq_getElem hi')
    refine ⟨⟨xs, v, hq, ev⟩, fun x H' y => ?_⟩
    obtain ⟨T, z, rfl, nT, rfl, hz⟩ := y
    have e2 := hz xs hq
    rw [ev] at e2; cases e2
    obtain ⟨u, hs', r⟩ := pair_new hs nT (.int (i : Nat)) rv
    refine ⟨u, hs', ?_⟩
    have e := enumL_get l 0 i _ (List.getElem?_eq_getElem hi')
    have hi2 : i < (enumL 0 l).length := by rw [enumL_len]; exact hi'
    rw [List.getElem?_eq_getElem hi2, Nat.zero_add] at e
    show RelD g.K ρ _ (enumL 0 l)[i] _
    rw [Option.some.inj e]
    exact r
  stop := fun {ρ s H} hs ck h => by
    obtain ⟨xs, hq, rs⟩ := L.at' hs ck h
    refine ⟨xs, hq, ?_⟩
    show xs.length ≤ (enumL 0 l).length
    rw [enumL_len, rs.len]; exact Nat.le_refl _
theorem zip_end {l m : List D} {xs ys : List V} {K : PySem.W.Frag} {ρ : Rho} {H : Hp} (r1 : RelDs K ρ H l xs) (r2 : RelDs K ρ H m ys) : xs.length ≤ (zipL l m).length ∨ ys.length ≤ (zipL l m).length := by
  rw [zipL_len, r1.len, r2.len]
  omega
theorem serve_zipL {a b : Addr} {l m : List D} {g1 g2 : List (Nat × List D)} {H1 H2 : Rho → Hp → Prop} (L : LAt g l g1 a H1) (M : LAt g m g2 b H2) : Serves g (Itz g.K a b) ⟨zipL l m, g1 ++ g2⟩ (fun ρ H => H1 ρ H ∧ H2 ρ H) where
  mono := fun h u => ⟨L.mono h.1 u, M.mono h.2 u⟩
  go := fun {ρ s H i} hi hs ck h => by
    have ck : (g1 ++ g2).all (guardOk s) = true := ck
    rw [List.all_append, Bool.and_eq_true] at ck
    obtain ⟨xs, hq, rs⟩ := L.at' hs ck.1 h.1
    obtain ⟨ys, hq2, rs2⟩ := M.at' hs ck.2 h.2
    have hl : i < min l.length m.length := by simpa [zipL_len] using hi
    obtain ⟨v, ev, rv⟩ := rs.get (List.getElem?_eq_getElem (show i < l.length by omega))
    obtain ⟨v2, ev2, rv2⟩ := rs2.get (List.getElem?_eq_getElem (show i < m.length by omega))
    refine ⟨⟨xs, ys, v, v2, hq, hq2, ev, ev2⟩, fun x H' y => ?_⟩
    obtain ⟨T, z, z2, rfl, nT, rfl, hz, hz2⟩ := y
    have e2 := hz xs hq
    rw [ev] at e2; cases e2
    have e3 := hz2 ys hq2
    rw [ev2] at e3; cases e3
    obtain ⟨u, hs', r⟩ := pair_new hs nT rv rv2
    refine ⟨u, hs', ?_⟩
    have e := zipL_get l m i _ _ (List.getElem?_eq_getElem (show i < l.length by omega)) (List.getElem?_eq_getElem (show i < m.length by omega))
    have hi2 : i < (zipL l m).length := hi
    rw [List.getElem?_eq_getElem hi2] at e
    show RelD g.K ρ _ (zipL l m)[i] _
    rw [Option.some.inj e]
    exact r
  stop := fun {ρ s H} hs ck h => by
    have ck : (g1 ++ g2).all (guardOk s) = true := ck
    rw [List.all_append, Bool.and_eq_true] at ck
    obtain ⟨xs, hq, rs⟩ := L.at' hs ck.1 h.1
    obtain ⟨ys, hq2, rs2⟩ := M.at' hs ck.2 h.2
    exact ⟨xs, ys, hq, hq2, zip_end rs rs2⟩
theorem serve_zipT {a b : Addr} {d e : D} {l m : List D} (hd : asT d = some l) (he : asT e = some m) : Serves g (RZ.ItzT g.K a b) ⟨zipL l m, []⟩ (fun ρ H => RelD g.K ρ H d (.ref a) ∧ RelD g.K ρ H e (.ref b)) where
  mono := fun h u => ⟨h.1.car u, h.2.car u⟩
  go := fun {ρ s H i} hi hs _ h => by
    obtain ⟨a', xs, e1, hq, rs⟩ := tup_of h.1 hd
    cases e1
    obtain ⟨b', ys, e1, hq2, rs2⟩ := tup_of h.2 he
    cases e1
    have hl : i < min l.length m.length := by simpa [zipL_len] using hi
    obtain ⟨v, ev, rv⟩ := rs.get (List.getElem?_eq_getElem (show i < l.length by omega))
    obtain ⟨v2, ev2, rv2⟩ := rs2.get (List.getElem?_eq_getElem (show i < m.length by omega))
    refine ⟨⟨xs, ys, v, v2, hq, hq2, ev, ev2⟩, fun x H' y => ?_⟩
    obtain ⟨T, z, z2, rfl, nT, rfl, hz, hz2⟩ := y
    have e2 := hz xs hq
    rw [ev] at e2; cases e2
    have e3 := hz2 ys hq2
    rw [ev2] at e3; cases e3
    obtain ⟨u, hs', r⟩ := pair_new hs nT rv rv2
    refine ⟨u, hs', ?_⟩
    have e := zipL_get l m i _ _ (List.getElem?_eq_getElem (show i < l.length by omega)) (List.getElem?_eq_getElem (show i < m.length by omega))
    have hi2 : i < (zipL l m).length := hi
    rw [List.getElem?_eq_getElem hi2] at e
    show RelD g.K ρ _ (zipL l m)[i] _
    rw [Option.some.inj e]
    exact r
  stop := fun {ρ s H} hs _ h => by
    obtain ⟨a', xs, e1, hq, rs⟩ := tup_of h.1 hd
    cases e1
    obtain ⟨b', ys, e1, hq2, rs2⟩ := tup_of h.2 he
    cases e1
    exact ⟨xs, ys, hq, hq2, zip_end rs rs2⟩
theorem serve_itK {a : Addr} {o : Obj} {l : List (Key × D)} {kvs : List (Key × V)} : Serves g (Iti a o kvs) ⟨itemsK l, []⟩ (fun ρ H => ¬ ρ.has a ∧ H a = some (.frz o (.dK kvs)) ∧ RelK g.K ρ H l kvs) where
  mono := fun ⟨n, e, r⟩ u => ⟨(u.frz e n).1, (u.frz e n).2, r.car u⟩
  go := fun {ρ s H i} hi hs _ ⟨n, e, r⟩ => by
    have hi' : i < l.length := by simpa [itemsK] using hi
    refine ⟨⟨e, by rw [← r.len]; exact hi'⟩, fun x H' y => ?_⟩
    obtain ⟨T, k, v, ek, rfl, nT, rfl⟩ := y
    obtain ⟨d, v', e1, e2, rv⟩ := r.getI hi'
    rw [ek] at e2
    cases e2
    obtain ⟨u, hs', rr⟩ := pair_new hs nT (keyD_rel _) rv
    refine ⟨u, hs', ?_⟩
    rw [List.getElem?_eq_getElem hi'] at e1
    have e3 : (itemsK l)[i]? = some (.tup [keyD (l[i]).1, d]) := by
      unfold itemsK
      rw [List.getElem?_map, List.getElem?_eq_getElem hi']
      have := Option.some.inj e1
      rw [show (Option.map (fun p : Key × D => D.tup [keyD p.1, p.2]) (some l[i])) = some (.tup [keyD (l[i]).1, (l[i]).2]) from rfl]
      rw [show (l[i]).2 = d by rw [this]]
    have hi2 : i < (itemsK l).length := hi
    rw [List.getElem?_eq_getElem hi2] at e3
    show RelD g.K ρ _ (itemsK l)[i] _
    rw [Option.some.inj e3]
    exact rr
  stop := fun {ρ s H} hs _ ⟨n, e, r⟩ => ⟨e, by
    show kvs.length ≤ (itemsK l).length
    unfold itemsK
    rw [List.length_map, r.len]; exact Nat.le_refl _⟩
theorem serve_itT {a : Addr} {o : Obj} {l : List (List Key × D)} {kvs : List (List Key × V)} : Serves g (ItiT a o kvs) ⟨itemsT l, []⟩ (fun ρ H => ¬ ρ.has a ∧ H a = some (.frz o (.dT kvs)) ∧ RelT g.K ρ H l kvs) where
  mono := fun ⟨n, e, r⟩ u => ⟨(u.frz e n).1, (u.frz e n).2, r.car u⟩
  go := fun {ρ s H i} hi hs _ ⟨n, e, r⟩ => by
    have hi' : i < l.length := by simpa [itemsT] using hi
    refine ⟨⟨e, by rw [← r.len]; exact hi'⟩, fun x H' y => ?_⟩
    obtain ⟨T, q, k, v, ek, hq, rfl, nT, rfl⟩ := y
    obtain ⟨d, v', e1, e2, rv⟩ := r.getI hi'
    rw [ek] at e2
    cases e2
    obtain ⟨u, hs', rr⟩ := pair_new hs nT (.tup ⟨hs.tupOut hq, hq⟩ (keyDs_rel _)) rv
    refine ⟨u, hs', ?_⟩
    rw [List.getElem?_eq_getElem hi'] at e1
    have e3 : (itemsT l)[i]? = some (.tup [.tup ((l[i]).1.map keyD), d]) := by
      unfold itemsT
      rw [List.getElem?_map, List.getElem?_eq_getElem hi']
      have := Option.some.inj e1
      rw [show (Option.map (fun p : List Key × D => D.tup [.tup (p.1.map keyD), p.2]) (some l[i])) = some (.tup [.tup ((l[i]).1.map keyD), (l[i]).2]) from rfl]
      rw [show (l[i]).2 = d by rw [this]]
    have hi2 : i < (itemsT l).length := hi
    rw [List.getElem?_eq_getElem hi2] at e3
    show RelD g.K ρ _ (itemsT l)[i] _
    rw [Option.some.inj e3]
    exact rr
  stop := fun {ρ s H} hs _ ⟨n, e, r⟩ => ⟨e, by
    show kvs.length ≤ (itemsT l).length
    unfold itemsT
    rw [List.length_map, r.len]; exact Nat.le_refl _⟩
end
end L3

/-! L3Y: sources by calls -/
namespace L3
open PySem PySem.Spec PyProof.Rows L2

/-- arguments, then a source -/
def iArgs (h : List D → Sr → Option Src) (fa : FA) : FI := fun env s => (fa env s).bind fun ds s => match h ds s with | some c => .ok c s | none => .bad
def hRange1 (ds : List D) (_ : Sr) : Option Src := match ds with
  | [.int j] => if small62 j then some ⟨rangeL 0 j.toNat, []⟩ else none
  | _ => none
def hRange2 (ds : List D) (_ : Sr) : Option Src := match ds with
  | [.int i, .int j] => if small62 i && small62 j then some ⟨rangeL i (j - i).toNat, []⟩ else none
  | _ => none
def hRange3 (ds : List D) (_ : Sr) : Option Src := match ds with
  | [.int i, .int j, .int c] => if small62 i && small62 j && decide (c = -1) then some ⟨downL i (-1) (i - j).toNat, []⟩ else none
  | _ => none
def hEnum (ds : List D) (s : Sr) : Option Src := match ds with
  | [d] => (match asT d with
    | some l => some ⟨enumL 0 l, []⟩
    | none => (asL s d).map fun l => ⟨enumL 0 l, gdOf d l⟩)
  | _ => none
def hZip (ds : List D) (s : Sr) : Option Src := match ds with
  | [d, e] => (match asT d, asT e with
    | some l, some m => some ⟨zipL l m, []⟩
    | none, none => (match asL s d, asL s e with | some l, some m => some ⟨zipL l m, gdOf d l ++ gdOf e m⟩ | _, _ => none)
    | _, _ => none)
  | _ => none
def iItems (f : F) : FI := fun env s => (f env s).bind fun d s => match d with
  | .dk l => .ok ⟨itemsK l, []⟩ s
  | .dt l => .ok ⟨itemsT l, []⟩ s
  | _ => .bad
/-- reversed(list or tuple) -/
def hRev (ds : List D) (s : Sr) : Option Src := match ds with
  | [d] => (match asT d with
    | some l => some ⟨l.reverse, []⟩
    | none => (match d with | .lst l => some ⟨l.reverse, []⟩ | _ => none))
  | _ => none
theorem small62_iff {i : Int} : small62 i = true → -(2 ^ 62) ≤ i ∧ i < 2 ^ 62 := fun h => by
  unfold small62 at h
  rw [Bool.and_eq_true] at h
  exact ⟨of_decide_eq_true h.1, of_decide_eq_true h.2⟩
section
variable {X : Cx} {g : G} {W : WX} {pos : Pos}
/-- arguments' reading, when it is known what they give -/
theorem args_src {h : List D → Sr → Option Src} {fa : FA} {R : It → Hp → Prop} {σ : L2.St} {H : Hp} {ta : TA} {rd : List V → Hp → Prop} (ha : ∀ σ H Q, tA g W fa σ H Q → ta σ H Q) (p : iI g W (iArgs h fa) σ H R)
    (k : ∀ ρ s ds vs H1 c, Sto g ρ s H1 → RelDs g.K ρ H1 ds vs → h ds s = some c → (∀ J, RI g ρ H1 c J → R J H1) → rd vs H1) : ta σ H rd := by
  obtain ⟨ρ, s, env, hs, hl, hp⟩ := p
  refine ha _ _ _ ⟨ρ, s, env, hs, hl, (hp.bind (Rel' := RVs g)).imp fun vs H1 ⟨ρ1, s1, ds, u1, hs1, rd1, p1⟩ => ?_⟩
  cases e : h ds s1 with
  | none => rw [e] at p1; exact p1.elim
  | some c =>
    rw [e] at p1
    exact k ρ1 s1 ds vs H1 c hs1 rd1 e fun J j => p1 ρ1 H1 J .refl hs1 j
theorem RelDs.three {K : PySem.W.Frag} {ρ : Rho} {H : Hp} {d e f : D} {xs : List V} (r : RelDs K ρ H [d, e, f] xs) : ∃ u v w, xs = [u, v, w] ∧ RelD K ρ H d u ∧ RelD K ρ H e v ∧ RelD K ρ H f w := by
  cases r with | cons h t => cases t with | cons h2 t => cases t with | cons h3 t => cases t; exact ⟨_, _, _, rfl, h, h2, h3⟩
theorem l_range1 {tg a : Expr} {fa : FA} {p : Pos} (hg : Gl X "range") (hm : X.mg "range" = none) (ha : PA X [a] (tA g W fa)) (hs : starEach [a] X.env = [(false, eval a X.env)]) : PI X tg (.Call (.Name "range" p) [a] [] pos) (iI g W (iArgs hRange1 fa)) :=
  (pi_range1 hg hm ha hs).imp fun σ H R q => args_src (fun _ _ _ z => z) q fun ρ s ds vs H1 c hs1 rd e k => by
    unfold hRange1 at e
    split at e
    · split at e
      · rename_i j hj
        cases e
        obtain ⟨v, rfl, r⟩ := rd.one
        cases r
        exact ⟨_, rfl, (small62_iff hj).1, (small62_iff hj).2, k _ ⟨_, serve_rng, trivial⟩⟩
      · cases e
    · cases e
theorem l_range2 {tg a b : Expr} {fa : FA} {p : Pos} (hg : Gl X "range") (hm : X.mg "range" = none) (ha : PA X [a, b] (tA g W fa)) (hs : starEach [a, b] X.env = [(false, eval a X.env), (false, eval b X.env)]) (hs2 : starEach [b] X.env = [(false, eval b X.env)]) (hpl : (backTo pos (starEach [b] X.env)).any (·.1) = false) : PI X tg (.Call (.Name "range" p) [a, b] [] pos) (iI g W (iArgs hRange2 fa)) :=
  (pi_range2 hg hm ha hs hs2).imp fun σ H R q => args_src (fun _ _ _ z => z) q fun ρ s ds vs H1 c hs1 rd e k => by
    unfold hRange2 at e
    split at e
    · split at e
      · rename_i i j hj
        rw [Bool.and_eq_true] at hj
        cases e
        obtain ⟨v, w, rfl, r, r2⟩ := rd.two
        cases r; cases r2
        exact ⟨_, _, rfl, ⟨(small62_iff hj.1).1, (small62_iff hj.1).2, (small62_iff hj.2).1, (small62_iff hj.2).2⟩, k _ ⟨_, serve_rng, trivial⟩⟩
      · cases e
    · cases e
theorem l_range3 {tg a b c : Expr} {fa : FA} {p : Pos} (hg : Gl X "range") (hm : X.mg "range" = none) (ha : PA X [a, b, c] (tA g W fa)) (hs : starEach [a, b, c] X.env = (false, eval a X.env) :: starEach [b, c] X.env) (hpl : (backTo pos (starEach [b, c] X.env)).any (·.1) = false) : PI X tg (.Call (.Name "range" p) [a, b, c] [] pos) (iI g W (iArgs hRange3 fa)) :=
  (pi_range3 hg hm ha hs hpl).imp fun σ H R q => args_src (fun _ _ _ z => z) q fun ρ s ds vs H1 c hs1 rd e k => by
    unfold hRange3 at e
    split at e
    · split at e
      · rename_i i j c hj
        rw [Bool.and_eq_true, Bool.and_eq_true] at hj
        cases e
        obtain ⟨u, v, w, rfl, r, r2, r3⟩ := rd.three
        cases r; cases r2; cases r3
        have e3 : c = -1 := of_decide_eq_true hj.2
        subst e3
        have s1 := small62_iff hj.1.1
        have s2 := small62_iff hj.1.2
        exact ⟨_, _, _, _, rfl, RgC.neg s1.1 s1.2 s2.1 s2.2, k _ ⟨_, serve_rngc, trivial⟩⟩
      · cases e
    · cases e
variable (hK : X.K = g.K)
include hK
theorem l_enum {e : Expr} {fa : FA} {p tpos : Pos} {elts : List Expr} {kk : Nat} (hg : Gl X "enumerate") (hm : X.mg "enumerate" = none) (ha : PA X [e] (tA g W fa)) (hs : starEach [e] X.env = [(false, eval e X.env)]) : PI X (.Tuple elts kk tpos) (.Call (.Name "enumerate" p) [e] [] pos) (iI g W (iArgs hEnum fa)) := by
  obtain ⟨gK, gc, gt⟩ := g
  have hK : X.K = gK := hK
  subst hK
  refine ⟨fun pins s σ H R I q => ?_⟩
  -- which of the two: by what the argument gives
  obtain ⟨ρ, st, env, hs', hl, hp⟩ := q
  cases ef : fa env st with
  | bad => unfold iArgs at hp; rw [ef] at hp; exact hp.elim
  | exc c fs s1 =>
    refine (pi_enum hg hm ha hs).run pins s σ H R I ⟨ρ, st, env, hs', hl, ?_⟩
    rw [ef]
    unfold iArgs at hp
    rw [ef] at hp
    exact hp
  | ok ds s1 =>
    unfold iArgs at hp
    rw [ef] at hp
    have hp : Post ⟨X.K, gc, gt⟩ (RI ⟨X.K, gc, gt⟩) ρ H _ R (match hEnum ds s1 with | some c => .ok c s1 | none => .bad) := hp
    cases eh : hEnum ds s1 with
    | none => rw [eh] at hp; exact hp.elim
    | some c =>
      rw [eh] at hp
      unfold hEnum at eh
      split at eh
      · rename_i d
        cases et : asT d with
        | some l =>
          rw [et] at eh
          cases eh
          refine (pi_enumT hg hm ha hs).run pins s σ H R I ⟨ρ, st, env, hs', hl, ?_⟩
          rw [ef]
          intro ρ1 H1 vs u1 hs1 rd
          obtain ⟨v, rfl, r⟩ := rd.one
          obtain ⟨a, xs, rfl, hq, rs⟩ := tup_of r et
          exact ⟨a, xs, rfl, hq, hp ρ1 H1 _ u1 hs1 ⟨_, serve_enumT et, r⟩⟩
        | none =>
          rw [et] at eh
          obtain ⟨l, el, ec⟩ := Option.map_eq_some_iff.mp eh
          subst ec
          refine (pi_enum hg hm ha hs).run pins s σ H R I ⟨ρ, st, env, hs', hl, ?_⟩
          rw [ef]
          intro ρ1 H1 vs u1 hs1 rd
          obtain ⟨v, rfl, r⟩ := rd.one
          obtain ⟨a, Hd, rfl, L, hd⟩ := lAt hs1 r el
          obtain ⟨a2, xs, e2, hq, rs⟩ := lst_of hs1 r el
          cases e2
          exact ⟨a, xs, rfl, .inl (.inl hq), hp ρ1 H1 _ u1 hs1 ⟨_, serve_enumL L, hd⟩⟩
      · cases eh
theorem l_zip {e e2 : Expr} {fa : FA} {p tpos : Pos} {elts : List Expr} {kk : Nat} (hg : Gl X "zip") (hm : X.mg "zip" = none) (ha : PA X [e, e2] (tA g W fa)) (hs : starEach [e, e2] X.env = (false, eval e X.env) :: starEach [e2] X.env) (hpl : (backTo pos (starEach [e2] X.env)).any (·.1) = false) : PI X (.Tuple elts kk tpos) (.Call (.Name "zip" p) [e, e2] [] pos) (iI g W (iArgs hZip fa)) :=
  (RZ.pi_zipA hg hm ha hs hpl).imp fun σ H R q => args_src (fun _ _ _ z => z) q fun ρ s ds vs H1 c hs1 rd eh k => by
    obtain ⟨gK, gc, gt⟩ := g
    have hK : X.K = gK := hK
    subst hK
    unfold hZip at eh
    split at eh
    · obtain ⟨v, w, rfl, r, r2⟩ := rd.two
      split at eh
      · rename_i l m e1 e2
        cases eh
        obtain ⟨a, xs, rfl, hq, rs⟩ := tup_of r e1
        obtain ⟨b, ys, rfl, hq2, rs2⟩ := tup_of r2 e2
        exact ⟨a, b, xs, ys, rfl, .inr ⟨hq, hq2, k _ ⟨_, serve_zipT e1 e2, r, r2⟩⟩⟩
      · split at eh
        · rename_i l m e1 e2
          cases eh
          obtain ⟨a, Hd, rfl, L, hd⟩ := lAt hs1 r e1
          obtain ⟨b, Hd2, rfl, M, hd2⟩ := lAt hs1 r2 e2
          obtain ⟨a2, xs, e3, hq, rs⟩ := lst_of hs1 r e1
          cases e3
          obtain ⟨b2, ys, e3, hq2, rs2⟩ := lst_of hs1 r2 e2
          cases e3
          exact ⟨a, b, xs, ys, rfl, .inl ⟨.inl (.inl hq), .inl (.inl hq2), k _ ⟨_, serve_zipL L M, hd, hd2⟩⟩⟩
        · cases eh
      · cases eh
    · cases eh
omit hK in
theorem l_items {e : Expr} {f : F} {apos cpos tpos : Pos} {elts : List Expr} {kk : Nat} (he : PE X e (tI g W f)) (hbase : attributeBase e "items" X.env (eval e X.env) = eval e X.env) (hline : (apos.endLine == cpos.line) = true) : PI X (.Tuple elts kk tpos) (.Call (.Attribute e "items" apos) [] [] cpos) (iI g W (iItems f)) := by
  refine ⟨fun pins s σ H R I q => ?_⟩
  obtain ⟨ρ, st, env, hs', hl, hp⟩ := q
  unfold iItems at hp
  cases ef : f env st with
  | bad => rw [ef] at hp; exact hp.elim
  | exc c fs s1 =>
    refine (pi_items he hbase hline).run pins s σ H R I ⟨ρ, st, env, hs', hl, ?_⟩
    rw [ef]
    rw [ef] at hp
    exact hp
  | ok d s1 =>
    rw [ef] at hp
    cases d with
    | dk l =>
      refine (pi_items he hbase hline).run pins s σ H R I ⟨ρ, st, env, hs', hl, ?_⟩
      rw [ef]
      intro ρ1 H1 v u1 hs1 r
      cases r with
      | dk n h rs => exact ⟨_, _, _, rfl, h, hp ρ1 H1 _ u1 hs1 ⟨_, serve_itK, n, h, rs⟩⟩
    | dt l =>
      refine (pi_itemsT he hbase hline).run pins s σ H R I ⟨ρ, st, env, hs', hl, ?_⟩
      rw [ef]
      intro ρ1 H1 v u1 hs1 r
      cases r with
      | dt n h rs => exact ⟨_, _, _, rfl, h, hp ρ1 H1 _ u1 hs1 ⟨_, serve_itT, n, h, rs⟩⟩
    | _ => exact hp.elim
end
/-! ### reversed -/
section
variable {g : G}
theorem rev_get {l : List D} {i : Nat} (hi : i < l.length) : l.reverse[i]? = some (l[l.length - 1 - i]'(by omega)) := by
  rw [List.getElem?_reverse hi, List.getElem?_eq_getElem (by omega)]
theorem serve_revT {a : Addr} {d : D} {l : List D} (hd : asT d = some l) : Serves g (RT.ItvT g.K a l.length) ⟨l.reverse, []⟩ (fun ρ H => RelD g.K ρ H d (.ref a)) where
  mono := fun h u => h.car u
  go := fun {ρ s H i} hi hs _ h => by
    obtain ⟨a', xs, e, hq, rs⟩ := tup_of h hd
    cases e
    have hi' : i < l.length := by simpa using hi
    obtain ⟨v, ev, rv⟩ := rs.get (List.getElem?_eq_getElem (show l.length - 1 - i < l.length by omega))
    refine ⟨⟨hi', xs, v, hq, ev⟩, fun x H' y => ?_⟩
    obtain ⟨rfl, y⟩ := y
    have e2 := y xs hq
    rw [ev] at e2; cases e2
    have e3 := rev_get hi'
    rw [List.getElem?_eq_getElem (by simpa using hi')] at e3
    refine ⟨.refl, hs, ?_⟩
    show RelD g.K ρ H' l.reverse[i] _
    rw [Option.some.inj e3]
    exact rv
  stop := fun {ρ s H} hs _ h => by
    show l.length ≤ l.reverse.length
    rw [List.length_reverse]; exact Nat.le_refl _
theorem serve_revL {a : Addr} {l : List D} : Serves g (Itv g.K a l.length) ⟨l.reverse, []⟩ (fun ρ H => RelD g.K ρ H (.lst l) (.ref a)) where
  mono := fun h u => h.car u
  go := fun {ρ s H i} hi hs _ h => by
    cases h with
    | lst hq rs =>
      have hi' : i < l.length := by simpa using hi
      obtain ⟨v, ev, rv⟩ := rs.get (List.getElem?_eq_getElem (show l.length - 1 - i < l.length by omega))
      refine ⟨⟨hi', _, v, hq.sq, ev⟩, fun x H' y => ?_⟩
      obtain ⟨rfl, y⟩ := y
      have e2 := y _ hq.sq
      rw [ev] at e2; cases e2
      have e3 := rev_get hi'
      rw [List.getElem?_eq_getElem (by simpa using hi')] at e3
      refine ⟨.refl, hs, ?_⟩
      show RelD g.K ρ H' l.reverse[i] _
      rw [Option.some.inj e3]
      exact rv
  stop := fun {ρ s H} hs _ h => by
    show l.length ≤ l.reverse.length
    rw [List.length_reverse]; exact Nat.le_refl _
end
def iRevd (f : F) : FI := fun env s => (f env s).bind fun d s => match hRev [d] s with | some c => .ok c s | none => .bad
theorem l_revd {X : Cx} {g : G} {W : WX} {pos p : Pos} {tg e : Expr} {f : F} (hK : X.K = g.K) (hg : Gl X "reversed") (hm : X.mg "reversed" = none) (he : PE X e (tI g W f)) (hs : starEach [e] X.env = (false, eval e X.env) :: starEach [] X.env) : PI X tg (.Call (.Name "reversed" p) [e] [] pos) (iI g W (iRevd f)) :=
  (RT.pi_revA hg hm he hs).imp fun σ H R ⟨ρ, st, env, hs', hl, hp⟩ => by
    obtain ⟨gK, gc, gt⟩ := g
    have hK : X.K = gK := hK
    subst hK
    refine ⟨ρ, st, env, hs', hl, (hp.bind (Rel' := RV ⟨X.K, gc, gt⟩)).imp fun v H1 ⟨ρ1, s1, d, u1, hs1, r, p1⟩ => ?_⟩
    unfold hRev at p1
    simp only at p1
    cases et : asT d with
    | some l =>
      rw [et] at p1
      obtain ⟨a, xs, rfl, hq, rs⟩ := tup_of r et
      refine ⟨a, xs, rfl, .inr ⟨hq, ?_⟩⟩
      have := p1 ρ1 H1 (RT.ItvT X.K a l.length) .refl hs1 ⟨_, serve_revT et, r⟩
      rw [rs.len] at this
      exact this
    | none =>
      rw [et] at p1
      simp only at p1
      cases d with
      | lst l =>
        cases r with
        | @lst a xs _ hq rs =>
          refine ⟨a, xs, rfl, .inl ⟨hq.sq, ?_⟩⟩
          have := p1 ρ1 H1 (Itv X.K a l.length) .refl hs1 ⟨_, serve_revL, .lst hq rs⟩
          rw [rs.len] at this
          exact this
      | _ => exact p1.elim
end L3

/-! L3Z: what is seen of the text -/
namespace L3
open PySem PySem.Spec PyProof.Rows L2

def nst : Expr → Bool
  | .Starred _ _ => false
  | _ => true
theorem star_cons {e : Expr} {es : List Expr} {env : Env} (h : nst e = true) : starEach (e :: es) env = (false, eval e env) :: starEach es env := by
  cases e <;> first | rfl | cases h
theorem star_all {env : Env} : ∀ {es : List Expr}, es.all nst = true → starEach es env = es.map fun e => (false, eval e env)
  | [], _ => rfl
  | e :: es, h => by
    rw [List.all_cons, Bool.and_eq_true] at h
    rw [star_cons h.1, star_all h.2]; rfl
theorem back_any {env : Env} {pos : Pos} {es : List Expr} (h : es.all nst = true) : (backTo pos (starEach es env)).any (·.1) = false := by
  rw [star_all h]
  unfold backTo
  rw [List.map_map, List.any_map]
  rw [List.any_eq_false]
  intro x _ z
  cases z
theorem back_all {env : Env} {pos : Pos} {es : List Expr} (h : es.all nst = true) : (backTo pos (starEach es env)).all (fun x => !x.1) = true := by
  rw [star_all h]
  unfold backTo
  rw [List.map_map, List.all_map]
  exact List.all_eq_true.mpr fun x _ => rfl
theorem few_of {env : Env} {pos : Pos} {e : Expr} {es : List Expr} (h : (e :: es).all nst = true) (hl : (e :: es).length < 30) :
    ((backTo pos (starEach (e :: es) env)).all (fun x => !x.1) && (backToKw pos (keywordEach [] env)).all (fun x => x.1.isSome) && decide ((e :: es).length + ([] : List Keyword).length + (if ([] : List Keyword).isEmpty then 0 else 1) < 30)) = true := by
  rw [back_all h]
  have : decide ((e :: es).length + ([] : List Keyword).length + (if ([] : List Keyword).isEmpty then 0 else 1) < 30) = true := decide_eq_true (by simpa using hl)
  rw [this]
  rfl
/-- a test that is a value's truth -/
def plainT : Expr → Bool
  | .UnaryOp .Not _ _ => false
  | .BoolOp _ _ _ => false
  | .IfExp _ _ _ _ => false
  | .Compare _ _ _ _ => false
  | _ => true
theorem plainT_ok {e : Expr} {env : Env} (h : plainT e = true) (whole : Sem Value) : isTrue e env whole = (do let v ← whole; standAt e.pos; holding [v] (truthy v)) := by
  cases e with
  | UnaryOp op a p => cases op <;> first | rfl | cases h
  | BoolOp _ _ _ => cases h
  | IfExp _ _ _ _ => cases h
  | Compare _ _ _ _ => cases h
  | _ => rfl
def isComp : Expr → Bool
  | .ListComp _ _ _ _ => true
  | .SetComp _ _ _ _ => true
  | .DictComp _ _ _ _ _ => true
  | _ => false
theorem swaps_no {e : Expr} {t : Option Expr} {l : Nat} {env : Env} (h : isComp e = false) : swapsWith e t l env = pure false := by
  cases e <;> first | rfl | cases h
def isTup : Expr → Bool
  | .Tuple _ _ _ => true
  | _ => false
def isSetE : Expr → Bool
  | .Set _ _ _ => true
  | _ => false
def isLstE : Expr → Bool
  | .List _ _ => true
  | _ => false
theorem stores_name {x : Str} {p : Pos} {e : Expr} {env : Env} : swappedStores [.Name x p] e env = pure none := by
  unfold swappedStores
  rfl
theorem stores_val {t e : Expr} {env : Env} (h : isTup e = false) : swappedStores [t] e env = pure none := by
  unfold swappedStores
  cases e <;> first | (cases h; done) | (cases t <;> rfl)
theorem fold_no {e : Expr} {env : Env} (h : isSetE e = false) (x : Value) : foldedSetIterable e env x = pure x := by
  unfold foldedSetIterable
  cases e <;> first | rfl | cases h
theorem mark_no {op : CmpOp} {e : Expr} (h : isSetE e = false) : behindInMarks op e = false := by
  cases e <;> first | rfl | cases h
/-- no call of a name without arguments: super() -/
def noSup : Expr → Bool
  | .Call (.Name _ _) [] [] _ => false
  | _ => true
theorem base_no {o : Expr} {a : Str} {env : Env} {whole : Sem Value} (h : noSup o = true) : attributeBase o a env whole = whole := by
  unfold attributeBase
  split
  · cases h
  · rfl
theorem asg_one {t : Expr} {env : Env} (h : nst t = true) : (assignEach [t] env).map (·.2) = [assign t env] := by
  cases t <;> first | rfl | cases h
theorem asg_cons {t : Expr} {ts : List Expr} {env : Env} (h : nst t = true) : (assignEach (t :: ts) env).map (·.2) = assign t env :: (assignEach ts env).map (·.2) := by
  cases t <;> first | rfl | cases h
theorem asg_len {env : Env} : ∀ {ts : List Expr}, (assignEach ts env).length = ts.length
  | [] => rfl
  | t :: ts => by
    have ih := asg_len (env := env) (ts := ts)
    cases t <;> (show (assignEach ts env).length + 1 = ts.length + 1; rw [ih])
theorem asg_find {env : Env} : ∀ {ts : List Expr}, ts.all nst = true → (assignEach ts env).findIdx? (·.1) = none
  | [], _ => rfl
  | t :: ts, h => by
    rw [List.all_cons, Bool.and_eq_true] at h
    have ih := asg_find (env := env) h.2
    have e : assignEach (t :: ts) env = (false, assign t env) :: assignEach ts env := by
      cases t <;> first | rfl | cases h.1
    rw [e, List.findIdx?_cons, ih]
    rfl
end L3

/-! L3ZK: the key (len(x), x) -/
namespace L3
open PySem PySem.Spec PyProof.Rows L2

section
variable {prog : Program} {w : World} {A : Around} {E : Value → Shared → Prop} {s : Shared}
theorem key_body {K : PySem.W.Frag} {env : Env} {x : Str} {a : Addr} {its : Array Value} {mg m : Str → Option Value} {base : Heap} {p1 p2 p3 p4 p5 : Pos} {kk : Nat} {Q : Value → Shared → Prop} (hk : env.scope.kind = .function) (hx : env.kindOf x = some .local) (hd : (x == ("__debug__" : Str)) = false)
    (hlen : env.kindOf ("len" : Str) = some .globalImplicit) (hg : env.globals = mainGlobals) (hb : env.builtins = builtinsNs) (M : Mod K mg base) (k : ∀ b o, base.get? b = some o → s.heap.get? b = some o) (hm : mg ("len" : Str) = none)
    (hn : s.heap.Ns env.locals m) (hv : m x = some (.ref a)) (ht : IsTup s.heap a its) (hz : its.size ≤ sizeLine)
    (h : ∀ t tk, Q (.ref s.heap.objs.size) { s with heap := s.heap.push { cls := .type "tuple", data := .seq [Value.int its.size t, .ref a].toArray }, toks := tk }) :
    wpAny (model prog w) A (eval (.Tuple [.Call (.Name ("len" : Str) p1) [.Name x p2] [] p3, .Name x p4] kk p5) env) Q E s := by
  obtain ⟨mb, hb1, hb2⟩ := M.blt
  have hname : ∀ {p : Pos} {Q : Value → Shared → Prop} {s' : Shared}, s'.heap = s.heap → Q (.ref a) s' → wpAny (model prog w) A (eval (.Name x p) env) Q E s' := fun {p Q s'} e q =>
    wpAny_Name (wpAny_loadName_local hk hx (by rw [e]; exact hn) hv q) hd
  refine wpAny_Tuple ?_
  refine Calls.spliced_cons ?_
  refine wpAny_Call_Name_kw (Calls.Name_function_global hk hlen (Calls.loadGlobal_builtin (by rw [hg]; exact M.glob.keeps k) hm (by rw [hb]; exact hb1.keeps k) ((hb2 _ (by decide)).trans (by kernel_rfl : bootBuiltins ("len" : Str) = some (.builtin "len"))) ?_) (by decide))
  refine callWith_builtin1 (hname rfl (len_tuple ht (by have := sizeLine_eq; omega) ?_))
  refine Calls.spliced_cons (hname rfl (Calls.spliced_nil ⟨?_, h _ _⟩))
  show 2 ≤ sizeLine
  rw [sizeLine_eq]; omega
end
/-! data without lists -/
mutual
def flatP : PyData → Bool
  | .none => true
  | .bool _ => true
  | .int _ => true
  | .str _ => true
  | .tuple l => flatPs l
  | _ => false
def flatPs : List PyData → Bool
  | [] => true
  | d :: r => flatP d && flatPs r
end
mutual
theorem flat_nil {h : Heap} : ∀ (d : PyData) (v : Value) (as : List Addr), flatP d = true → Reads h v d as → as = []
  | .none, _, _, _, r => by cases r; rfl
  | .bool _, _, _, _, r => by cases r; rfl
  | .int _, _, _, _, r => by cases r; rfl
  | .str _, _, _, _, r => by cases r; rfl
  | .tuple xs, _, _, hf, r => by
    cases r with
    | tuple h1 h2 h3 h4 => exact flat_nils xs _ _ (by unfold flatP at hf; exact hf) h4
  | .list _, _, _, hf, _ => by unfold flatP at hf; cases hf
  | .dict _, _, _, hf, _ => by unfold flatP at hf; cases hf
theorem flat_nils {h : Heap} : ∀ (ds : List PyData) (vs : List Value) (as : List Addr), flatPs ds = true → ReadsAll h vs ds as → as = []
  | [], _, _, _, r => by cases r; rfl
  | d :: ds, _, _, hf, r => by
    unfold flatPs at hf
    rw [Bool.and_eq_true] at hf
    cases r with
    | cons h1 h2 => rw [flat_nil d _ _ hf.1 h1, flat_nils ds _ _ hf.2 h2]; rfl
end

/-- the text of such a key: its name, the parameter -/
def keyE : Expr → Option Str
  | .Tuple [.Call (.Name l _) [.Name x _] [] _, .Name y _] _ _ => if l = "len" ∧ x = y ∧ (x == ("__debug__" : Str)) = false then some x else none
  | _ => none
/-- the names of its block -/
def keySc (x : Str) (sc : Scope) : Bool := decide (sc.kind = .function) && !sc.isCoroutine && !sc.isGenerator && decide (sc.names.lookup x = some .local) && decide (sc.names.lookup ("len" : Str) = some .globalImplicit) && sc.names.all fun y => decide (y.2 ≠ .cell)
section
variable {prog : Program} {w : World} {A : Around} {E : Value → Shared → Prop} {s : Shared}
/-- what the key is -/
def keyP (n : Nat) (d : PyData) : PyData := .tuple [.int n, d]
theorem key_pure {h h' : Heap} {a : Addr} {its : Array Value} {d : PyData} {t : Tok} (hf : flatP d = true) (hr : ∃ as, Reads h (.ref a) d as) (k : ∀ b o, h.get? b = some o → h'.get? b = some o) {p : Addr} (hp : h'.get? p = some { cls := .type "tuple", data := .seq [Value.int its.size t, .ref a].toArray }) : Reads h' (.ref p) (keyP its.size d) [] := by
  obtain ⟨as, r⟩ := hr
  have e := flat_nil d _ _ hf r
  subst e
  exact   .tuple hp rfl rfl (.cons (.int _ _) (.cons (PyProof.Rows.Reads.keeps k r) .nil))
theorem key_env {K : PySem.W.Frag} {e : Expr} {env : Env} {x : Str} {a : Addr} {its : Array Value} {mg : Str → Option Value} {base : Heap} {d : PyData} {s0 : Shared} {L : Addr} (hx : keyE e = some x) (hs : keySc x env.scope = true) (hg : env.globals = mainGlobals) (hb : env.builtins = builtinsNs) (hL : env.locals = L) (M : Mod K mg base)
    (k0 : ∀ b o, base.get? b = some o → s0.heap.get? b = some o) (k : ∀ b o, s0.heap.get? b = some o → s.heap.get? b = some o) (hm : mg ("len" : Str) = none) (hn : s.heap.Ns L fun y => [(x, Value.ref a)].reverse.lookup y) (ht : IsTup s0.heap a its) (hz : its.size ≤ sizeLine) (hf : flatP d = true) (hr : ∃ as, Reads s0.heap (.ref a) d as) (he : ∃ h tk, s = { s0 with heap := h, toks := tk }) :
    wpAny (model prog w) A (eval e env) (PySem.W.KeyPure (keyP its.size d) s0) E s := by
  unfold keyE at hx
  split at hx
  · rename_i l p1 x' p2 p3 y p4 kk p5
    split at hx
    · rename_i c
      obtain ⟨rfl, rfl, hd⟩ := c
      cases hx
      unfold keySc at hs
      simp only [Bool.and_eq_true] at hs
      obtain ⟨⟨⟨⟨⟨h1, h2⟩, h3⟩, h4⟩, h5⟩, h6⟩ := hs
      obtain ⟨h0, tk0, rfl⟩ := he
      refine key_body (of_decide_eq_true h1) (of_decide_eq_true h4) hd (of_decide_eq_true h5) hg hb M (fun b o e => k b o (k0 b o e)) hm (m := fun y => [(x, Value.ref a)].reverse.lookup y) (by rw [hL]; exact hn) (by simp) (ht.keeps k) hz fun t tk => ?_
      exact ⟨_, tk, rfl, fun b o e => Heap.get?_push_of_some _ (k b o e), key_pure hf hr (fun b o e => Heap.get?_push_of_some _ (k b o e)) (Heap.get?_push_size _ rfl)⟩
    · cases hx
  · cases hx
/-- f(v), f a def with this body -/
theorem key_def {K : PySem.W.Frag} {e : Expr} {x : Str} {a f : Addr} {its : Array Value} {mg : Str → Option Value} {base : Heap} {d : PyData} {oc dV kV doc pm cdv ct : Value} {od an : Option Addr} {osl : Array (Option Value)} {name qual : Str} {params : Arguments} {scope : Scope} {pos : Pos}
    (hroom : A.depth < recursionLimit) (lk : K.lookup f = some ⟨oc, od, .func (PySem.W.fnOf name qual params [.Return (some e) pos] scope dV kV doc pm an cdv ct), osl⟩) (hcd : PySem.W.codeIn K cdv qual = true) (hbd : Binds K (PySem.W.fnOf name qual params [.Return (some e) pos] scope dV kV doc pm an cdv ct) [x] [])
    (hx : keyE e = some x) (hs : keySc x scope = true) (M : Mod K mg base) (k0 : ∀ b o, base.get? b = some o → s.heap.get? b = some o) (hm : mg ("len" : Str) = none) (ht : IsTup s.heap a its) (hz : its.size ≤ sizeLine) (hf : flatP d = true) (hr : ∃ as, Reads s.heap (.ref a) d as) :
    wpAny (model prog w) A (call (.ref f) [.ref a]) (PySem.W.KeyPure (keyP its.size d) s) (fun _ _ => False) s := by
  have KX : K.In s.heap := M.kin.keeps k0
  have hs' := hs
  unfold keySc at hs'
  simp only [Bool.and_eq_true] at hs'
  obtain ⟨⟨⟨⟨⟨h1, h2⟩, h3⟩, h4⟩, h5⟩, h6⟩ := hs'
  refine wpAny_call (codeAny_call_function hroom (KX _ _ lk) rfl ((Bool.not_eq_true' _).mp h2) ((Bool.not_eq_true' _).mp h3) rfl (PySem.W.codeRec_of KX hcd) (hbd s [.ref a] KX rfl _ _ _ _ ?_))
  refine wpAny_newFunctionEnv (fun y hy => of_decide_eq_true (List.all_eq_true.mp h6 y hy)) (fun y hy => ?_) (fun h₁ hns hsb => ?_) (of_decide_eq_true h1)
  · simp at hy
    rw [hy]
    exact of_decide_eq_true h4
  · have kp : ∀ b o, s.heap.get? b = some o → h₁.get? b = some o := fun b o e => hsb.extBut b o (Nat.ne_of_lt (Heap.lt_size e)) (Heap.get?_push_of_some _ e)
    refine ⟨(M.nolimit.keeps k0).fresh _ hsb, codeAny_func (wpAny_execs_cons (wpAny_Return_some ?_))⟩
    refine wpAny_mono (key_env (s0 := s) (L := s.heap.objs.size) (E := fun _ _ => False) hx hs rfl rfl rfl M k0 kp hm hns ht hz hf hr ⟨h₁, _, rfl⟩) (fun v s' h => h) fun _ _ h => h.elim
/-- f(v), f a lambda with this text -/
theorem key_lam {K : PySem.W.Frag} {e : Expr} {x : Str} {a f c' : Addr} {its : Array Value} {mg : Str → Option Value} {base : Heap} {d : PyData} {pm ctv : Value} {name qual : Str} {params : Arguments} {scope : Scope} {clos : List (Str × Addr)}
    (hroom : A.depth < recursionLimit) (lk : s.heap.get? f = some (PySem.W.kla_obj name qual params e scope clos pm c' ctv)) (hcd : s.heap.CodeRec (.ref c') qual) (hbd : bindArgs (PySem.W.kla_fn name qual params e scope clos pm (.ref c') ctv) ⟨[.ref a], []⟩ = pure [(x, .ref a)])
    (hx : keyE e = some x) (hs : keySc x scope = true) (M : Mod K mg base) (k0 : ∀ b o, base.get? b = some o → s.heap.get? b = some o) (hm : mg ("len" : Str) = none) (ht : IsTup s.heap a its) (hz : its.size ≤ sizeLine) (hf : flatP d = true) (hr : ∃ as, Reads s.heap (.ref a) d as) :
    wpAny (model prog w) A (call (.ref f) [.ref a]) (PySem.W.KeyPure (keyP its.size d) s) (fun _ _ => False) s := by
  have hs' := hs
  unfold keySc at hs'
  simp only [Bool.and_eq_true] at hs'
  obtain ⟨⟨⟨⟨⟨h1, h2⟩, h3⟩, h4⟩, h5⟩, h6⟩ := hs'
  refine wpAny_call (PySem.W.kla_callFunE hroom lk rfl ((Bool.not_eq_true' _).mp h2) ((Bool.not_eq_true' _).mp h3) rfl hcd ?_)
  rw [hbd]
  refine wpAny_pure (wpAny_newFunctionEnv (fun y hy => of_decide_eq_true (List.all_eq_true.mp h6 y hy)) (fun y hy => ?_) (fun h₁ hns hsb => ?_) (of_decide_eq_true h1))
  · simp at hy
    rw [hy]
    exact of_decide_eq_true h4
  · have kp : ∀ b o, s.heap.get? b = some o → h₁.get? b = some o := fun b o e => hsb.extBut b o (Nat.ne_of_lt (Heap.lt_size e)) (Heap.get?_push_of_some _ e)
    refine ⟨(M.nolimit.keeps k0).fresh _ hsb, PySem.W.kla_codeExpr ?_⟩
    refine wpAny_mono (key_env (s0 := s) (L := s.heap.objs.size) (E := fun _ _ => False) hx hs rfl rfl rfl M k0 kp hm hns ht hz hf hr ⟨h₁, _, rfl⟩) (fun v s' h => h) fun _ _ h => h.elim
end
end L3

/-! L3ZL: sorted by the key (len(x), x) -/
namespace L3
open PySem PySem.Spec PyProof.Rows L2

def keyL : D → D
  | .tup l => .tup [.int l.length, .tup l]
  | d => d
def tupD : D → Bool
  | .tup _ => true
  | _ => false
def leK (a b : D) : Bool := leD (keyL a) (keyL b)
def vSortK (l : List D) : List D := isortD leK l
/-- what may be sorted so -/
def keyOk (l : List D) : Bool := (l.all fun d => tupD d && pyB d && flatP (encD d)) && sortOk (l.map keyL)
theorem leK_total : PySem.W.TotalLe leK := ⟨fun a b c => leD_total.trans _ _ _, fun a b => leD_total.total _ _⟩
theorem py_tup {l : List D} {p : PyData} (e : D.py (.tup l) = some p) : D.py (keyL (.tup l)) = some (keyP l.length p) := by
  unfold keyL keyP
  have e2 : D.pys [D.int l.length, D.tup l] = some [.int l.length, p] := by
    unfold D.pys
    have e3 : D.pys [D.tup l] = some [p] := by
      unfold D.pys
      rw [e]
      unfold D.pys
      rfl
    rw [e3]
    unfold D.py
    rfl
  rw [show D.py (.tup [D.int l.length, D.tup l]) = (D.pys [D.int l.length, D.tup l]).map .tuple by conv => lhs; unfold D.py, e2]
  rfl
theorem tupD_of {d : D} (h : tupD d = true) : ∃ l, d = .tup l := by
  cases d <;> first | exact ⟨_, rfl⟩ | cases h
section
variable {X : Cx} {g : G} (hK : X.K = g.K)
include hK
/-- sorted(xs, key=f) of tuples, f(x) = (len(x), x) -/
theorem sort_key (hu : X.A.units + 67 < cLine) {pins : List (Addr × Obj)} {σ : L2.St} {H : Hp} {s : Shared} {ρ : Rho} {st : Sr} {d : D} {v : V} {u f : Value} {l : List D} {Q : VK} (I : Inv X pins σ H s) (hs : Sto g ρ st H) (rd : RelD g.K ρ H d v) (ru : RelV v u) (e : asL st d = some l) (so : keyOk l = true) (ht : ∀ x, Builtin.«list.sort» ⟨[.ref x], [(Str.ofString "key", f)]⟩ = ksk_tree x f false)
    (turn : ∀ (a : Addr) (its : Array Value) (p : PyData) (h : Heap) (tk : Nat), (∀ b o, s.heap.get? b = some o → h.get? b = some o) → IsTup h a its → its.size ≤ sizeLine → flatP p = true → (∃ as, Reads h (.ref a) p as) →
      wpAny (model X.prog X.w) X.A.in1.in1 (call f [.ref a]) (PySem.W.KeyPure (keyP its.size p) { s with heap := h, toks := tk }) (fun _ _ => False) { s with heap := h, toks := tk })
    (q : ∀ p o, H p = none → NewR g ρ H (.lst (vSortK l)) o → Q (.ref p) (upd H p o)) : wpAny (model X.prog X.w) X.A (call (.builtin "sorted") [u] [(Str.ofString "key", f)]) (EP X pins σ Q) X.xe s := by
  obtain ⟨a, ys, rfl, ha, rs⟩ := lst_of hs rd e
  cases ru
  obtain ⟨its, rv, ho, hz⟩ := I.list (.inl (.inl ha))
  unfold keyOk at so
  rw [Bool.and_eq_true] at so
  obtain ⟨so1, so2⟩ := so
  have ok := sortOk_of so2
  have hl : l.length ≤ sizeLine := by simpa using ok.len
  have st1 : PySem.W.EachIs (Stands g.K ρ H) its l := stands_of rs rv
  have key : ∀ d ∈ l, ∃ m p, d = .tup m ∧ D.py d = some p ∧ encD d = p ∧ flatP p = true ∧ encD (keyL d) = keyP m.length p := fun d hd => by
    have z := List.all_eq_true.mp so1 d hd
    rw [Bool.and_eq_true, Bool.and_eq_true] at z
    obtain ⟨⟨z1, z2⟩, z3⟩ := z
    obtain ⟨m, rfl⟩ := tupD_of z1
    unfold pyB at z2
    rw [Bool.and_eq_true] at z2
    obtain ⟨p, ep⟩ := Option.isSome_iff_exists.mp z2.1
    have e1 : encD (.tup m) = p := by unfold encD; rw [ep]; rfl
    refine ⟨m, p, rfl, ep, e1, by rw [← e1]; exact z3, ?_⟩
    show (D.py (keyL (.tup m))).getD .none = _
    rw [py_tup ep]; rfl
  refine PySem.W.sorted_key_data (b := false) (fun d => encD (keyL d)) ho.isList st1 (by have z := ok.al; rwa [List.map_map] at z) (by have z := ok.so; rwa [List.map_map] at z) hl (fun d hd => ?_) (ksk_s1 _ _) (fun _ => ksk_l1 _ _) ht
    (fun w d hR hd h tk kp => ?_) fun out c h' tk kp fr hD hlen hout => ?_
  · have := SeqAt.depth_of_shaped (ok.py (keyL d) (List.mem_map.mpr ⟨d, hd, rfl⟩)).2
    omega
  · obtain ⟨m, p, rfl, ep, ee, hf, ek⟩ := key _ hd
    obtain ⟨w2, rw2, ru2⟩ := hR
    have hr := Dp.reads I p w2 w (hK ▸ dp_of rw2 ep) ru2
    obtain ⟨a2, xs, rfl, hq, rsm⟩ := tup_of (l := m) rw2 rfl
    cases ru2
    obtain ⟨it2, rv2, ht2, hz2⟩ := I.tuple (hK ▸ hq)
    have el : it2.toArray.size = m.length := by rw [List.size_toArray, ← rv2.length, ← rsm.len]
    have z := turn a2 it2.toArray p h tk kp (ht2.keeps kp) (by rw [List.size_toArray, ← rv2.length]; exact hz2) hf (by obtain ⟨as, r⟩ := hr; exact ⟨as, PyProof.Rows.Reads.keeps kp r⟩)
    rw [el] at z
    show wpAny (model X.prog X.w) X.A.in1.in1 (call f [.ref a2]) (PySem.W.KeyPure (encD (keyL (.tup m))) _) _ _
    rw [ek]
    exact z
  · have hout : PySem.W.EachIs (Stands g.K ρ H) out (vSortK l) := by
      have e : l.mergeSort (PySem.W.dataLe false fun d => encD (keyL d)) = isortD leK l := isortD_eq (le := leK) leK_total l
      rw [e] at hout; exact hout
    exact new_list (tk := tk) hK I hs hout (by unfold vSortK; rw [(isortD_perm l).length_eq]; exact hl) kp (Nat.le_succ _) hD q
end
end L3

/-! L3ZM: sorted(xs, key=f) in a text -/
namespace L3
open PySem PySem.Spec PyProof.Rows L2

def eSortK (chk : Sr → Bool) (fe : F) : F := fun env s => (fe env s).bind fun d s => match asL s d with | some l => if keyOk l && chk s then .ok (.lst (vSortK l)) s else .bad | none => .bad
/-- a def that gives the key -/
structure KeyFn (K : PySem.W.Frag) (mg : Str → Option Value) (x : Str) : Prop where
  ex : ∃ (name qual : Str) (params : Arguments) (e : Expr) (pos : Pos) (scope : Scope) (f : Addr) (fd : FuncData) (y : Str), mg x = some (.ref f) ∧ FunD K name qual params [.Return (some e) pos] scope [] [] f fd ∧ Binds K fd [y] [] ∧ keyE e = some y ∧ keySc y scope = true
/-- what makes the key function -/
def MkKey (X : Cx) (g : G) (chk : Sr → Bool) (kv : Expr) : Prop := ∀ (pins : List (Addr × Obj)) (s : Shared) (σ : L2.St) (ρ : Rho) (st : Sr) (H : Hp) (Q : Value → Shared → Prop), Inv X pins σ H s → Sto g ρ st H → chk st = true →
  (∀ (f : Value) (H' : Hp) (s' : Shared), Inv X pins σ H' s' → Sto g ρ st H' → Up ρ ρ H H' → (∀ x, Builtin.«list.sort» ⟨[.ref x], [(Str.ofString "key", f)]⟩ = ksk_tree x f false) →
    (∀ (a : Addr) (its : Array Value) (p : PyData) (h : Heap) (tk : Nat), (∀ b o, s'.heap.get? b = some o → h.get? b = some o) → IsTup h a its → its.size ≤ sizeLine → flatP p = true → (∃ as, Reads h (.ref a) p as) →
      wpAny (model X.prog X.w) X.A.in1.in1 (call f [.ref a]) (PySem.W.KeyPure (keyP its.size p) { s' with heap := h, toks := tk }) (fun _ _ => False) { s' with heap := h, toks := tk }) → Q f s') →
  wpAny (model X.prog X.w) X.A (eval kv X.env) Q X.xe s
section
variable {X : Cx} {g : G} {W : WX} {pos : Pos}
theorem n_sortK {p kp : Pos} {e kv : Expr} {fe : F} {chk : Sr → Bool} (hK : X.K = g.K) (hu : X.A.units + 67 < cLine) (hg : Gl X ("sorted" : Str)) (hm : X.mg ("sorted" : Str) = none) (he : PE X e (tI g W fe)) (hst : nst e = true) (mk : MkKey X g chk kv) :
    PE X (.Call (.Name ("sorted" : Str) p) [e] [⟨some ("key" : Str), kv, kp⟩] pos) (tN g W (eSortK chk fe)) := by
  refine ⟨fun pins s σ H Q I ⟨ρ, st, env, hs, hl, hp⟩ => ?_⟩
  refine wpAny_Call_Name_kw (ld_blt I hg hm (by kernel_rfl : bootBuiltins ("sorted" : Str) = some (.builtin "sorted")) ?_ (by decide) (by decide))
  have hse : starEach [e] X.env = (false, eval e X.env) :: starEach [] X.env := star_cons hst
  have hbe : backTo pos (starEach [e] X.env) = (false, eval e X.env) :: backTo pos (starEach [] X.env) := by rw [hse]; rfl
  refine PyProof.Rows.callWith_kw ?_ hbe (back_any (by rw [List.all_cons, hst]; rfl)) rfl rfl
  rw [hbe]
  refine Calls.spliced_cons (thn (he.run pins s σ H (fun v H1 => ∃ ρ1 s1 d, Up ρ ρ1 H H1 ∧ Sto g ρ1 s1 H1 ∧ RelD g.K ρ1 H1 d v ∧ PostN g W ρ1 H1 env σ Q (match asL s1 d with | some l => if keyOk l && chk s1 then .ok (.lst (vSortK l)) s1 else .bad | none => .bad)) I ⟨ρ, st, env, hs, hl, PostN.bind (Rel' := RV g) hp⟩) fun u s1 ⟨v, H1, I1, r1, ρ1, st1, d, u1, hs1, rd, p1⟩ => ?_)
  refine Calls.spliced_nil ?_
  cases ea : asL st1 d with
  | none => rw [ea] at p1; exact p1.elim
  | some l =>
    rw [ea] at p1
    have p1 : PostN g W ρ1 H1 env σ Q (if (keyOk l && chk st1) = true then .ok (.lst (vSortK l)) st1 else .bad) := p1
    split at p1
    · rename_i c
      rw [Bool.and_eq_true] at c
      show wpAny _ _ (evalAll [do let v ← eval kv X.env; standAt pos; pure v]) _ _ s1
      refine wpAny_evalAll_cons (wpAny_bind (mk pins s1 σ ρ1 st1 H1 _ I1 hs1 c.2 fun f H2 s2 I2 hs2 u2 ht turn => wpAny_bind (wpAny_standAt (wpAny_pure ?_))))
      refine wpAny_evalAll_nil ?_
      exact sort_key hK hu I2 hs2 (rd.up u2) r1 ea c.1 ht turn fun p o np r => (p1.up u2) _ p _ o (New.fresh hs2 ((hl.up u1).up u2) np r)
    · exact p1.elim
theorem mk_def {x : Str} {p : Pos} (hdp : X.A.depth < recursionLimit) (hg : Gl X x) (hdb : (x == ("__debug__" : Str)) = false) (hm : X.mg ("len" : Str) = none) (k : KeyFn X.K X.mg x) : MkKey X g (fun _ => true) (.Name x p) := by
  intro pins s σ ρ st H Q I hs _ q
  obtain ⟨name, qual, params, e, pos, scope, f, fd, y, h1, F, hb, h2, h3⟩ := k.ex
  obtain ⟨oc, od, dV, kV, doc, pm, an, cdv, ct, osl, rfl, lk, hcd, _, _⟩ := F.ex
  refine ld_glob I hg h1 ?_ hdb
  refine q (.ref f) H s I hs .refl (fun x => ksk_t1 _ _) fun a its p h tk kp ht hz hf hr => ?_
  exact key_def (s := { s with heap := h, toks := tk }) hdp lk hcd hb h2 h3 I.mod (fun b o e => kp b o (I.bk b o e)) hm ht hz hf hr
/-- the table's cell -/
theorem tab_at {ρ : Rho} {st : Sr} {H : Hp} {i : Nat} {q : Str} (hs : Sto g ρ st H) (e : st[i]? = some (.tab q)) :
    ρ.c[i]? = some (g.tb q) ∧ ∃ ps : Array Value, H (g.tb q) = some (.tbl ps) ∧ TriplesOk ps.toList ∧ ∀ (pos : Pos) (cv : Value), codeAmong pos ps.toList = some cv → ∃ c, cv = .ref c ∧ ¬ ρ.has c ∧ H c = some (LamX.CodeO c q) := by
  have hi : i < ρ.c.length := by rw [hs.len]; exact (List.getElem?_eq_some_iff.mp e).1
  obtain ⟨a, ea⟩ : ∃ a, ρ.c[i]? = some a := ⟨_, List.getElem?_eq_getElem hi⟩
  have := hs.tb i a q ea e
  subst this
  obtain ⟨c, o, q1, q2, q3⟩ := hs.cell i _ ea
  rw [e] at q1; cases q1
  cases q3 with
  | tab h1 h2 => exact ⟨ea, _, q2, h1, h2⟩
/-- a code object is put in the table -/
theorem Sto.retab {ρ : Rho} {st : Sr} {H : Hp} {i : Nat} {q : Str} {ps : Array Value} {pos : Pos} {c' : Addr} (hs : Sto g ρ st H) (e : st[i]? = some (.tab q)) (hP : H (g.tb q) = some (.tbl ps)) (nc : H c' = none) :
    Up ρ ρ H (upd (upd H (g.tb q) (.tbl (ps ++ #[rawInt pos.line, rawInt pos.col, .ref c']))) c' (LamX.CodeO c' q)) ∧ Sto g ρ st (upd (upd H (g.tb q) (.tbl (ps ++ #[rawInt pos.line, rawInt pos.col, .ref c']))) c' (LamX.CodeO c' q)) := by
  obtain ⟨ei, ps', hP', ht, ha⟩ := tab_at hs e
  rw [hP] at hP'; cases hP'
  have mP : g.tb q ∈ ρ.c := List.mem_of_getElem? ei
  have nPc : g.tb q ≠ c' := ne_of_none hP nc
  have at_ : ∀ b, b ≠ g.tb q → b ≠ c' → upd (upd H (g.tb q) (.tbl (ps ++ #[rawInt pos.line, rawInt pos.col, .ref c']))) c' (LamX.CodeO c' q) b = H b := fun b h1 h2 => by rw [upd_ne h2, upd_ne h1]
  have u : Up ρ ρ H (upd (upd H (g.tb q) (.tbl (ps ++ #[rawInt pos.line, rawInt pos.col, .ref c']))) c' (LamX.CodeO c' q)) := by
    refine ⟨List.prefix_refl _, rfl, fun _ m n => absurd m n, fun a o h n => ⟨o, ?_, .inl rfl⟩, fun a h => ?_, fun a m _ => ?_⟩
    · rw [at_ a (fun z => n (.inl (z ▸ mP))) (ne_of_none h nc)]; exact h
    · by_cases h1 : a = c'
      · rw [h1, upd_same] at h; cases h
      · rw [upd_ne h1] at h
        by_cases h2 : a = g.tb q
        · rw [h2, upd_same] at h; cases h
        · rwa [upd_ne h2] at h
    · exact at_ a (fun z => hs.dis _ mP (z ▸ m)) (fun z => hs.xin a m (z ▸ nc))
  refine ⟨u, hs.len, hs.nd, hs.tb, hs.dis, fun a m z => hs.xin a m (u.live a z), fun a m xs => by rw [u.hid a m id]; exact hs.xt a m xs, fun n a en => ?_⟩
  obtain ⟨c, o, q1, q2, q3⟩ := hs.cell n a en
  by_cases hn : a = g.tb q
  · subst hn
    have : n = i := (List.getElem?_inj (List.getElem?_eq_some_iff.mp en).1 hs.nd).mp (en.trans ei.symm)
    subst this
    rw [e] at q1; cases q1
    refine ⟨_, _, e, by rw [upd_ne nPc, upd_same], .tab ?_ fun p2 cv hc => ?_⟩
    · rw [show (ps ++ #[rawInt pos.line, rawInt pos.col, Value.ref c']).toList = ps.toList ++ [rawInt pos.line, rawInt pos.col, .ref c'] by simp]
      exact PySem.TriplesOk_snoc _ _ _ _ ht
    · rw [show (ps ++ #[rawInt pos.line, rawInt pos.col, Value.ref c']).toList = ps.toList ++ [rawInt pos.line, rawInt pos.col, .ref c'] by simp] at hc
      rcases LamX.among_app _ ht hc with z | z
      · obtain ⟨c0, e1, n0, e2⟩ := ha p2 cv z
        exact ⟨c0, e1, n0, u.at e2 n0 LamX.codeO_ne⟩
      · exact ⟨c', z, hs.out nc, upd_same⟩
  · exact ⟨c, o, q1, by rw [at_ a hn (ne_of_none q2 nc)]; exact q2, q3.up u⟩
def tabB (i : Nat) (q : Str) (st : Sr) : Bool := match st[i]? with | some (.tab q') => decide (q' = q) | _ => false
/-- the lambda -/
theorem mk_lam {i : Nat} {q x : Str} {c : Addr} {params : Arguments} {body : Expr} {scope : Scope} {lpos : Pos} (hq : X.env.qual ++ "<lambda>" = q) (TB : LamX.TabB X.base X.mg c (g.tb q)) (hcode : X.env.code = .ref c) (hdef : defaultsOf params X.env = ([], [])) (hfree : scope.names.all (fun y => decide (y.2 ≠ .free)) = true)
    (hdp : X.A.depth < recursionLimit) (hbd : ∀ (qq : Str) (cl : List (Str × Addr)) (pm cv ctv v : Value), bindArgs (PySem.W.kla_fn "<lambda>" qq params body scope cl pm cv ctv) ⟨[v], []⟩ = pure [(x, v)]) (hx : keyE body = some x) (hsc : keySc x scope = true) (hm : X.mg ("len" : Str) = none) :
    MkKey X g (tabB i q) (.Lambda params body scope lpos) := by
  intro pins s σ ρ st H Q I hs hck fin
  subst hq
  have es : st[i]? = some (.tab (X.env.qual ++ "<lambda>")) := by
    unfold tabB at hck
    split at hck
    · rename_i q' e; rw [e, of_decide_eq_true hck]
    · cases hck
  obtain ⟨ei, ps, hP, ht, ha⟩ := tab_at hs es
  refine PySem.W.kla_eval hdef ?_
  have bP : s.heap.BuiltinsAt X.mg (g.tb (X.env.qual ++ "<lambda>")) := TB.bm.keeps I.bk
  have hP' : s.heap.get? (g.tb (X.env.qual ++ "<lambda>")) = some { cls := .none, data := .fields ps } := I.hok _ _ hP
  have hcl := closure_ok (scope := scope) (env := X.env) fun y hy e => absurd e (of_decide_eq_true (List.all_eq_true.mp hfree y hy))
  cases hc : codeAmong lpos ps.toList with
  | none =>
    refine PySem.W.kla_makeFunction (mg := X.mg) (c := c) (ps := ps) hcl I.ok.glob (I.mod.glob.keeps I.bk) hcode (TB.code.keeps I.bk) hP' ht hc TB.gP bP fun c' ctv h' tk hx1 hge hlt hrec htb => ?_
    obtain ⟨c2, oc, vs, t, e2, hoc, hd, hv⟩ := id hrec
    cases e2
    have nC : H c' = none := I.hok.fresh hge
    have I1 := LamX.inv_table (t' := tk) (more := #[rawInt lpos.line, rawInt lpos.col, .ref c']) (h' := h'.push (PySem.W.kla_obj "<lambda>" (X.env.qual ++ "<lambda>") params body scope (cloFrom X.env.cells scope.names []) ((X.mg "__name__").getD .none) c' ctv)) I hP
      (fun b o hb e => Heap.get?_push_of_some _ (hx1 b o hb e)) (Heap.get?_push_of_some _ htb) hge ⟨oc, vs, t, Heap.get?_push_of_some _ hoc, hd, hv⟩
    obtain ⟨u, hs1⟩ := hs.retab (pos := lpos) es hP nC
    refine fin _ _ _ I1 hs1 u (fun x => ksk_t1 _ _) fun a its p h tk2 kp ht2 hz hf hr => ?_
    exact key_lam (s := { s with heap := h, toks := tk2 }) hdp (kp _ _ (Heap.get?_push_size _ rfl)) ⟨c', oc, vs, t, rfl, kp _ _ (Heap.get?_push_of_some _ hoc), hd, hv⟩ (hbd _ _ _ _ _ _) hx hsc I1.mod (fun b o e => kp b o (I1.bk b o e)) hm ht2 hz hf hr
  | some cv =>
    obtain ⟨c', e, n0, hco⟩ := ha lpos cv hc
    subst e
    obtain ⟨⟨oc, vs, t, hoc, hd, hv⟩, _, _⟩ := I.hok c' _ hco
    refine PySem.W.kla_makeFunctionHit (mg := X.mg) (c := c) (ps := ps) hcl I.ok.glob (I.mod.glob.keeps I.bk) hcode (TB.code.keeps I.bk) hP' ht hc bP fun ctv h' tk hx1 hsz => ?_
    have I1 : Inv X pins σ H { s with heap := h'.push (PySem.W.kla_obj "<lambda>" (X.env.qual ++ "<lambda>") params body scope (cloFrom X.env.cells scope.names []) ((X.mg "__name__").getD .none) c' ctv), toks := tk } := I.kept fun b o e => Heap.get?_push_of_some _ (hx1 b o e)
    refine fin _ _ _ I1 hs .refl (fun x => ksk_t1 _ _) fun a its p h tk2 kp ht2 hz hf hr => ?_
    exact key_lam (s := { s with heap := h, toks := tk2 }) hdp (kp _ _ (Heap.get?_push_size _ rfl)) ⟨c', oc, vs, t, rfl, kp _ _ (Heap.get?_push_of_some _ (hx1 _ _ hoc)), hd, hv⟩ (hbd _ _ _ _ _ _) hx hsc I1.mod (fun b o e => kp b o (I1.bk b o e)) hm ht2 hz hf hr
end
end L3

/-! L3ZN: list(zip(xs, ys)) of two lists -/
namespace L3
open PySem PySem.Spec PyProof.Rows L2
section
variable {prog : Program} {w : World} {A : Around} {s : Shared} {R : Result → Shared → Prop}
def ZSt (S z TI TO i1 i2 l1 l2 : Addr) (xs ys : Array Value) (i : Nat) (h : Heap) : Prop :=
  IsPair h TI (.ref i1) (.ref i2) ∧ h.IsListIter i1 l1 i ∧ h.IsListIter i2 l2 i ∧ h.IsList l1 xs ∧ h.IsList l2 ys ∧
  ((IsZip h z TI TO .none ∧ ∃ a b, IsPair h TO a b) ∨ ∃ T f oT, IsZipHeld h z TI TO T f ∧ h.get? T = some oT ∧ T ≠ z ∧ T ≠ i1 ∧ T ≠ i2 ∧ T ≠ S)
theorem ZSt.keep {S z TI TO i1 i2 l1 l2 : Addr} {xs ys : Array Value} {i : Nat} {h h' : Heap} (st : ZSt S z TI TO i1 i2 l1 l2 xs ys i h) (n : ∀ b ∈ [z, TI, TO, i1, i2, l1, l2], b ≠ S) (k : ∀ b o, b ≠ S → h.get? b = some o → h'.get? b = some o) : ZSt S z TI TO i1 i2 l1 l2 xs ys i h' := by
  obtain ⟨h1, h2, h3, h4, h5, h6⟩ := st
  refine ⟨k _ _ (n _ (by simp)) h1, h2.at fun o e => k _ o (n _ (by simp)) e, h3.at fun o e => k _ o (n _ (by simp)) e, h4.at fun o e => k _ o (n _ (by simp)) e, h5.at fun o e => k _ o (n _ (by simp)) e, ?_⟩
  rcases h6 with ⟨hz, a, b, hTO⟩ | ⟨T, f, oT, hz, hT, r1, r2, r3, r4⟩
  · exact .inl ⟨k _ _ (n _ (by simp)) hz, a, b, k _ _ (n _ (by simp)) hTO⟩
  · exact .inr ⟨T, f, oT, k _ _ (n _ (by simp)) hz, k _ _ r4 hT, r1, r2, r3, r4⟩
theorem zl_item {S z TI TO i1 i2 l1 l2 : Addr} {xs ys : Array Value} {i : Nat} {E : Value → Shared → Prop} {Q : Option Value → Shared → Prop} (D : ZipApart z TI TO i1 i2 l1 l2) (st : ZSt S z TI TO i1 i2 l1 l2 xs ys i s.heap) (hS : S < s.heap.objs.size) {x y : Value} (ex : xs[i]? = some x) (ey : ys[i]? = some y)
    (hQ : ∀ h', ZSt S z TI TO i1 i2 l1 l2 xs ys (i + 1) h' → IsPair h' s.heap.objs.size x y → (∀ b o, b ∉ [z, TO, i1, i2] → s.heap.get? b = some o → h'.get? b = some o) → Q (some (.ref s.heap.objs.size)) { s with heap := h' }) :
    wpAny (model prog w) A (pyNext (.ref z)) Q E s := by
  obtain ⟨hTI, h1, h2, hl1, hl2, hz⟩ := st
  have lt : ∀ {c o}, s.heap.get? c = some o → s.heap.objs.size ≠ c := fun e => Nat.ne_of_gt (Heap.lt_size e)
  have n1 : s.heap.objs.size ≠ i1 := let ⟨_, e, _⟩ := h1; lt e
  have n2 : s.heap.objs.size ≠ i2 := let ⟨_, e, _⟩ := h2; lt e
  rcases hz with ⟨hz, a, b, hTO⟩ | ⟨T, f, oT, hz, hT, r1, r2, r3, r4⟩
  · refine wpAny_pyNext_zip_item D hz hTI hTO h1 h2 hl1 hl2 ex ey fun h' a1 a2 a3 a4 a5 a6 hk => ?_
    exact hQ h' ⟨hk _ _ D.TIz D.TITO D.TIi1 D.TIi2 hTI, a3, a4, hl1.at fun o e => hk _ o D.l1z D.l1TO D.l1i1 D.l1i2 e, hl2.at fun o e => hk _ o D.l2z D.l2TO D.l2i1 D.l2i2 e, .inr ⟨_, false, _, a1, a5, lt hz, n1, n2, Nat.ne_of_gt hS⟩⟩ a5
      fun c o hc e => hk c o (fun x => hc (by simp [x])) (fun x => hc (by simp [x])) (fun x => hc (by simp [x])) (fun x => hc (by simp [x])) e
  · refine wpAny_pyNext_zip_item_held D hz hT hTI h1 h2 hl1 hl2 ex ey fun h' a1 a3 a4 a5 a6 hk => ?_
    exact hQ h' ⟨hk _ _ D.TIz D.TIi1 D.TIi2 hTI, a3, a4, hl1.at fun o e => hk _ o D.l1z D.l1i1 D.l1i2 e, hl2.at fun o e => hk _ o D.l2z D.l2i1 D.l2i2 e, .inr ⟨T, true, oT, a1, hk _ _ r1 r2 r3 hT, r1, r2, r3, r4⟩⟩ a5
      fun c o hc e => hk c o (fun x => hc (by simp [x])) (fun x => hc (by simp [x])) (fun x => hc (by simp [x])) e
theorem zl_done {S z TI TO i1 i2 l1 l2 : Addr} {xs ys : Array Value} {i : Nat} {E : Value → Shared → Prop} {Q : Option Value → Shared → Prop} (hh : A.handled = none) (D : ZipApart z TI TO i1 i2 l1 l2) (st : ZSt S z TI TO i1 i2 l1 l2 xs ys i s.heap) (hend : xs[i]? = none ∨ ys[i]? = none)
    (hQ : ∀ h', (∀ b o, b ∉ [z, TO, i1, i2] → s.heap.get? b = some o → h'.get? b = some o) → Q none { s with heap := h' }) :
    wpAny (model prog w) A (pyNext (.ref z)) Q E s := by
  obtain ⟨hTI, h1, h2, hl1, hl2, hz⟩ := st
  rcases hz with ⟨hz, a, b, hTO⟩ | ⟨T, f, oT, hz, hT, r1, r2, r3, r4⟩
  · exact wpAny_pyNext_zip_end hh D hz hTI hTO h1 h2 hl1 hl2 hend fun h' hk => hQ h' fun c o hc e => hk c o (fun x => hc (by simp [x])) (fun x => hc (by simp [x])) (fun x => hc (by simp [x])) (fun x => hc (by simp [x])) e
  · exact wpAny_pyNext_zip_end_held hh D hz hT hTI h1 h2 hl1 hl2 hend fun h' hk => hQ h' fun c o hc e => hk c o (fun x => hc (by simp [x])) (fun x => hc (by simp [x])) (fun x => hc (by simp [x])) e
/-- the pairs made -/
def ZG (xs ys : Array Value) (n0 : Nat) (h : Heap) (as : List Addr) : Prop := as.Nodup ∧ ∀ (j : Nat) (a : Addr), as[j]? = some a → n0 ≤ a ∧ ∃ x y, xs[j]? = some x ∧ ys[j]? = some y ∧ IsPair h a x y
theorem zl_loop {S z TI TO i1 i2 l1 l2 : Addr} {xs ys : Array Value} {n0 : Nat} (hh : A.handled = none) (D : ZipApart z TI TO i1 i2 l1 l2) (hlen : xs.size = ys.size) (nS : ∀ b ∈ [z, TI, TO, i1, i2, l1, l2], b ≠ S) (lo : ∀ b ∈ [S, z, TO, i1, i2], b < n0) (hn : xs.size ≤ sizeLine) (res : Value) {h₁ : Heap}
    (hR : ∀ h' tk acc c as, (∀ b o, b ∉ [S, z, TO, i1, i2] → h₁.get? b = some o → h'.get? b = some o) → h'.get? S = some { cls := .type "list", dict := none, data := .seq acc c, slots := #[] } → as.length = xs.size → ZG xs ys n0 h' as →
      acc.toList = as.map Value.ref → R (.ok (.ret res)) { s with heap := h', toks := tk }) :
    ∀ (k i : Nat) (h : Heap) (tk c : Nat) (acc : Array Value) (as : List Addr), xs.size - i = k → i ≤ xs.size → ZSt S z TI TO i1 i2 l1 l2 xs ys i h → (∀ b o, b ∉ [S, z, TO, i1, i2] → h₁.get? b = some o → h.get? b = some o) →
      h.get? S = some { cls := .type "list", dict := none, data := .seq acc c, slots := #[] } → acc.toList = as.map Value.ref → as.length = i → ZG xs ys n0 h as → n0 ≤ h.objs.size →
      codeAny (model prog w) A (.builtin "list.extend.loop" ⟨[.ref S, .ref z, res], []⟩) R { s with heap := h, toks := tk } := by
  have hSw : S ∉ [z, TO, i1, i2] := fun m => by
    simp only [List.mem_cons, List.not_mem_nil, or_false] at m
    rcases m with m | m | m | m
    · exact nS z (by simp) m.symm
    · exact nS TO (by simp) m.symm
    · exact nS i1 (by simp) m.symm
    · exact nS i2 (by simp) m.symm
  have sub : ∀ {b}, b ∉ [S, z, TO, i1, i2] → b ∉ [z, TO, i1, i2] := fun h m => h (List.mem_cons_of_mem _ m)
  have hi : ∀ {a}, n0 ≤ a → a ∉ [S, z, TO, i1, i2] := fun h m => absurd (lo _ m) (Nat.not_lt.mpr h)
  intro k
  induction k with
  | zero =>
    intro i h tk c acc as hk hle hst hkeep hS hacc hal hG hIs
    have hin : i = xs.size := by omega
    refine codeAny_builtin PySem.F.entry_extend_loop ?_
    rw [Around.under_plainId PySem.F.plain_extend_loop _]
    show wpAny _ A.in1 (pyNext (.ref z) >>= _) _ _ _
    refine wpAny_bind (zl_done (s := { s with heap := h, toks := tk }) (A := A.in1) hh D hst (.inl (Array.getElem?_eq_none (by omega))) fun h' he => ?_)
    refine wpAny_pure (hR h' tk acc c as (fun b o hb e => he b o (sub hb) (hkeep b o hb e)) (he S _ hSw hS) (by omega) ⟨hG.1, fun j a hj => ?_⟩ hacc)
    obtain ⟨q1, x, y, q2, q3, q4⟩ := hG.2 j a hj
    exact ⟨q1, x, y, q2, q3, he a _ (sub (hi q1)) q4⟩
  | succ k ih =>
    intro i h tk c acc as hk hle hst hkeep hS hacc hal hG hIs
    have hlt : i < xs.size := by omega
    have hsz : acc.size = i := by rw [← Array.length_toList, hacc, List.length_map, hal]
    have ex := Array.getElem?_eq_getElem hlt
    have ey := Array.getElem?_eq_getElem (xs := ys) (i := i) (by omega)
    refine codeAny_builtin PySem.F.entry_extend_loop ?_
    rw [Around.under_plainId PySem.F.plain_extend_loop _]
    show wpAny _ A.in1 (pyNext (.ref z) >>= _) _ _ _
    refine wpAny_bind (zl_item (s := { s with heap := h, toks := tk }) D hst (Heap.lt_size hS) ex ey fun h' hst' hp hkp => ?_)
    dsimp only at hp hkp ⊢
    have hS' := hkp S _ hSw hS
    have up : ∀ b o, b ≠ S → h'.get? b = some o → (h'.update S (Obj.mapSeq (·.push (Value.ref h.objs.size)))).get? b = some o := fun b o hb e => (Heap.get?_update_other _ _ (Ne.symm hb)).trans e
    have neS : ∀ {b}, b ∉ [S, z, TO, i1, i2] → b ≠ S := fun hb e => hb (by rw [e]; exact List.mem_cons_self)
    show wpAny _ A.in1 (updateSeq S (·.push (Value.ref h.objs.size)) >>= _) _ _ _
    refine wpAny_bind ?_
    refine wpAny_updateSeq hS' rfl (wpAny_pure ⟨plainId_quiet PySem.F.plain_extend_loop _, ih (i + 1) _ tk _ (acc.push (Value.ref h.objs.size)) (as ++ [h.objs.size]) (by omega) hlt (hst'.keep nS up)
      (fun b o hb e => up b o (neS hb) (hkp b o (sub hb) (hkeep b o hb e))) (Heap.get?_update_self _ hS' rfl) (by rw [Array.toList_push, hacc, List.map_append]; rfl) (by rw [List.length_append, hal]; rfl) ?_ ?_⟩) (by rw [hsz]; omega) (by show (acc.push (Value.ref h.objs.size)).size ≤ sizeLine + 1; rw [Array.size_push, hsz]; omega)
    · refine ⟨List.nodup_append.mpr ⟨hG.1, by simp, fun a ha b hb e => ?_⟩, ?_⟩
      · rw [List.mem_singleton.mp hb] at e
        obtain ⟨j, hj⟩ := List.getElem?_of_mem ha
        obtain ⟨q1, x, y, q2, q3, q4⟩ := hG.2 j a hj
        rw [e] at q4
        exact Nat.lt_irrefl _ (Heap.lt_size q4)
      intro j b hj
      rcases Nat.lt_trichotomy j as.length with h1 | h1 | h1
      · rw [List.getElem?_append_left h1] at hj
        obtain ⟨q1, x, y, q2, q3, q4⟩ := hG.2 j b hj
        exact ⟨q1, x, y, q2, q3, up b _ (neS (hi q1)) (hkp b _ (sub (hi q1)) q4)⟩
      · subst h1
        have hb : h.objs.size = b := by simpa using hj
        subst hb
        subst hal
        exact ⟨hIs, _, _, ex, ey, up _ _ (neS (hi hIs)) hp⟩
      · have hnone : (as ++ [h.objs.size])[j]? = none := List.getElem?_eq_none (by rw [List.length_append, List.length_singleton]; omega)
        rw [hnone] at hj; cases hj
    · have e : (h'.update S (Obj.mapSeq (·.push (Value.ref h.objs.size)))).get? h.objs.size = _ := up _ _ (neS (hi hIs)) hp
      exact Nat.le_trans hIs (Nat.le_of_lt (Heap.lt_size e))
theorem zip_no_len : typeLookup (.type "zip") "__len__" = pure none := by rw [typeLookup_type, builtinLookup_eq_fast]; kernel_rfl
theorem zip_no_hint : typeLookup (.type "zip") "__length_hint__" = pure none := by rw [typeLookup_type, builtinLookup_eq_fast]; kernel_rfl
/-- list(z), z a fresh zip of two lists of one length -/
theorem zl_call {z TI TO i1 i2 l1 l2 : Addr} {xs ys : Array Value} {E : Value → Shared → Prop} {Q : Value → Shared → Prop} (hh : A.handled = none) (D : ZipApart z TI TO i1 i2 l1 l2) (hlen : xs.size = ys.size) (hn : xs.size ≤ sizeLine)
    (hz : IsZip s.heap z TI TO .none) (hTI : IsPair s.heap TI (.ref i1) (.ref i2)) (hTO : ∃ a b, IsPair s.heap TO a b) (h1 : s.heap.IsListIter i1 l1 0) (h2 : s.heap.IsListIter i2 l2 0) (hl1 : s.heap.IsList l1 xs) (hl2 : s.heap.IsList l2 ys)
    (hQ : ∀ h' tk acc c as, (∀ b o, b ∉ [z, TO, i1, i2] → s.heap.get? b = some o → h'.get? b = some o) → h'.get? s.heap.objs.size = some { cls := .type "list", dict := none, data := .seq acc c, slots := #[] } → as.length = xs.size → ZG xs ys (s.heap.objs.size + 1) h' as →
      acc.toList = as.map Value.ref → Q (.ref s.heap.objs.size) { s with heap := h', toks := tk }) : wpAny (model prog w) A (call (.type "list") [.ref z]) Q E s := by
  have ltz : ∀ b ∈ [z, TI, TO, i1, i2, l1, l2], b < s.heap.objs.size := fun b hb => by
    obtain ⟨a, b', hTO⟩ := hTO
    obtain ⟨o1, e1, _⟩ := h1
    obtain ⟨o2, e2, _⟩ := h2
    obtain ⟨o3, e3, _⟩ := hl1
    obtain ⟨o4, e4, _⟩ := hl2
    simp only [List.mem_cons, List.not_mem_nil, or_false] at hb
    rcases hb with rfl | rfl | rfl | rfl | rfl | rfl | rfl
    · exact Heap.lt_size hz
    · exact Heap.lt_size hTI
    · exact Heap.lt_size hTO
    · exact Heap.lt_size e1
    · exact Heap.lt_size e2
    · exact Heap.lt_size e3
    · exact Heap.lt_size e4
  have nS : ∀ b ∈ [z, TI, TO, i1, i2, l1, l2], b ≠ s.heap.objs.size := fun b hb => Nat.ne_of_lt (ltz b hb)
  have st0 : ZSt s.heap.objs.size z TI TO i1 i2 l1 l2 xs ys 0 s.heap := ⟨hTI, h1, h2, hl1, hl2, .inl ⟨hz, hTO⟩⟩
  refine callType_codes (Q₁ := fun obj s₁ => obj = .ref s.heap.objs.size ∧ s₁ = { s with heap := s.heap.push { cls := .type "list", data := .seq #[] } }) PySem.F.called_list (PySem.F.typeCall_list_1 _) PySem.F.entry_list_init
    (code_list_new _ ⟨rfl, rfl⟩) fun obj s₁ h₁ => ?_
  obtain ⟨rfl, rfl⟩ := h₁
  have hS : (s.heap.push { cls := .type "list", data := .seq #[] }).get? s.heap.objs.size = some { cls := .type "list", data := .seq #[] } := Heap.get?_push_size _ rfl
  refine ⟨⟨_, hS, rfl⟩, PySem.F.args_list_init_2 _ _, ?_⟩
  show wpAny _ _ (do let old ← Builtin.List.listItems (.ref s.heap.objs.size); Builtin.List.listUpdate (.ref s.heap.objs.size) (fun _ => #[]); letGo old.toList.reverse; Builtin.List.listExtendWith (.ref s.heap.objs.size) (.ref z) .none) _ _ _
  refine wpAny_bind ?_
  unfold Builtin.List.listItems
  refine wpAny_bind (wpAny_seqItems hS rfl (wpAny_pure ?_))
  show wpAny _ _ (updateSeq s.heap.objs.size (fun _ => #[]) >>= fun _ => letGo (#[] : Array Value).toList.reverse >>= fun _ => Builtin.List.listExtendWith (.ref s.heap.objs.size) (.ref z) .none) _ _ _
  refine wpAny_bind (wpAny_updateSeq hS rfl ?_)
  have hS₂ := Heap.get?_update_self (Obj.mapSeq (fun _ => (#[] : Array Value))) hS rfl
  have oth : ∀ b o, b ≠ s.heap.objs.size → s.heap.get? b = some o → ((s.heap.push { cls := .type "list", data := .seq #[] }).update s.heap.objs.size (Obj.mapSeq (fun _ => (#[] : Array Value)))).get? b = some o :=
    fun b o hb e => (Heap.get?_update_other _ _ (Ne.symm hb)).trans (Heap.get?_push_of_some _ e)
  refine wpAny_bind (wpAny_letGo ?_)
  have hz2 := oth z _ (nS z (by simp)) hz
  unfold Builtin.List.listExtendWith
  refine wpAny_bind (wpAny_typeOf (T := "zip") ⟨_, hz2, rfl⟩ ?_)
  have e1 : Builtin.List.listSameRef (.ref s.heap.objs.size) (.ref z) = false := by simp [Builtin.List.listSameRef, Ne.symm (nS z (by simp))]
  have e2 : (Value.type "zip" == Value.type "list") = false := by decide
  have e3 : (Value.type "zip" == Value.type "tuple") = false := by decide
  simp only [e1, e2, e3, Bool.or_false, Bool.false_eq_true, if_false]
  refine wpAny_bind (wpAny_pyIter_zip hz2 ?_)
  refine wpAny_bind (wpAny_holding ?_)
  unfold Builtin.List.listLengthHint
  refine wpAny_bind (wpAny_specialOf (T := "zip") ⟨_, hz2, rfl⟩ zip_no_len ?_)
  show wpAny _ _ (specialOf (Value.ref z) (Str.ofString "__length_hint__") >>= _) _ _ _
  refine wpAny_bind (wpAny_specialOf (T := "zip") ⟨_, hz2, rfl⟩ zip_no_hint ?_)
  refine wpAny_pure ?_
  show wpAny _ _ (rule "list.extend.makes-room" >>= fun _ => Builtin.List.listTouch (.ref s.heap.objs.size) >>= fun _ =>
    again (.builtin "list.extend.loop" ⟨[.ref s.heap.objs.size, .ref z, .none], []⟩)) _ _ _
  refine wpAny_bind (wpAny_rule ?_)
  refine wpAny_bind ?_
  show wpAny _ _ (updateSeq s.heap.objs.size (·.push .none) >>= fun _ => updateSeq s.heap.objs.size (·.pop)) _ _ _
  refine wpAny_bind (wpAny_updateSeq hS₂ rfl ?_)
  have hS₃ := Heap.get?_update_self (Obj.mapSeq (·.push Value.none)) hS₂ rfl
  refine wpAny_updateSeq hS₃ rfl ?_
  have hS₄ := Heap.get?_update_self (Obj.mapSeq (·.pop)) hS₃ rfl
  have oth2 : ∀ b o, b ≠ s.heap.objs.size → s.heap.get? b = some o → ((((s.heap.push { cls := .type "list", data := .seq #[] }).update s.heap.objs.size (Obj.mapSeq (fun _ => (#[] : Array Value)))).update s.heap.objs.size (Obj.mapSeq (·.push Value.none))).update s.heap.objs.size (Obj.mapSeq (·.pop))).get? b = some o :=
    fun b o hb e => (Heap.get?_update_other _ _ (Ne.symm hb)).trans ((Heap.get?_update_other _ _ (Ne.symm hb)).trans (oth b o hb e))
  refine wpAny_pure ⟨plainId_quiet PySem.F.plain_extend_loop _, ?_⟩
  refine zl_loop (A := A.in1) (s := s) (n0 := s.heap.objs.size + 1) hh D hlen nS (fun b hb => ?_) hn .none (h₁ := s.heap) ?hR xs.size 0 _ _ _ #[] [] (Nat.sub_zero _) (Nat.zero_le _) (st0.keep nS oth2) (fun b o hb e => oth2 b o (fun z => hb (by rw [z]; exact List.mem_cons_self)) e) hS₄ rfl rfl ⟨List.nodup_nil, fun j a hj => by simp at hj⟩ ?_
  · rcases List.mem_cons.mp hb with e | hb
    · rw [e]; exact Nat.lt_succ_self _
    · refine Nat.lt_succ_of_lt (ltz b ?_)
      simp only [List.mem_cons, List.not_mem_nil, or_false] at hb ⊢
      rcases hb with h | h | h | h <;> simp [h]
  case hR =>
    intro h' tk acc c as hk hS' hl hG hacc
    refine ⟨rfl, hQ h' tk acc c as (fun b o hb e => hk b o (fun m => ?_) e) hS' hl hG hacc⟩
    rcases List.mem_cons.mp m with e' | m
    · rw [e'] at e; exact Nat.lt_irrefl _ (Heap.lt_size e)
    · exact hb m
  · exact Heap.lt_size hS₄
end
/-- many new pairs are known at once -/
theorem lay_pairs {X : Cx} {pins : List (Addr × Obj)} {σ : L2.St} {h2 : Heap} : ∀ (as : List Addr) (ps : List (V × V)) {s : Shared} {H : Hp} {tk : Nat}, Inv X pins σ H s → (∀ b o, s.heap.get? b = some o → h2.get? b = some o) → as.Nodup → (∀ a ∈ as, H a = none ∧ s.heap.get? a = none) → as.length = ps.length →
    (∀ (j : Nat) (a : Addr) (p : V × V), as[j]? = some a → ps[j]? = some p → ∃ u v, RelV p.1 u ∧ RelV p.2 v ∧ IsPair h2 a u v) →
    ∃ H2, Inv X pins σ H2 { s with heap := h2, toks := tk } ∧ (∀ (j : Nat) (a : Addr) (p : V × V), as[j]? = some a → ps[j]? = some p → H2 a = some (.tup [p.1, p.2])) ∧ ∀ b, b ∉ as → H2 b = H b
  | [], ps, s, H, tk, I, k, _, _, hl, _ => ⟨H, I.kept k, fun j a p e => by simp at e, fun _ _ => rfl⟩
  | a :: as, [], s, H, tk, I, k, _, _, hl, _ => by simp at hl
  | a :: as, p :: ps, s, H, tk, I, k, nd, hn, hl, hp => by
    obtain ⟨na, nd⟩ := List.nodup_cons.mp nd
    obtain ⟨G, g1, g2⟩ := restrict h2 fun b => decide (b ∉ as)
    obtain ⟨u, v, r1, r2, hpair⟩ := hp 0 a p rfl rfl
    have gk : ∀ b o, b ∉ as → h2.get? b = some o → G.get? b = some o := fun b o hb e => (g1 b (decide_eq_true hb)).trans e
    have kG : ∀ b o, s.heap.get? b = some o → G.get? b = some o := fun b o e => gk b o (fun m => by rw [(hn b (List.mem_cons_of_mem _ m)).2] at e; cases e) (k b o e)
    have I1 : Inv X pins σ (upd H a (.tup [p.1, p.2])) { s with heap := G, toks := s.toks } := I.laidN kG (hn a List.mem_cons_self).2 (hn a List.mem_cons_self).1 ⟨by rw [sizeLine_eq]; show 2 ≤ _; omega, [u, v], .cons r1 (.cons r2 .nil), ⟨_, gk a _ na hpair, rfl, _, rfl⟩⟩
    have G2 : ∀ b o, G.get? b = some o → h2.get? b = some o := fun b o e => by
      by_cases hb : b ∈ as
      · rw [g2 b (decide_eq_false (fun z => z hb))] at e; cases e
      · rw [g1 b (decide_eq_true hb)] at e; exact e
    obtain ⟨H2, I2, h1, h3⟩ := lay_pairs as ps (tk := tk) I1 G2 nd (fun b hb => ⟨by rw [upd_ne (fun (e : b = a) => na (by rw [← e]; exact hb))]; exact (hn b (List.mem_cons_of_mem _ hb)).1, g2 b (decide_eq_false fun z => z hb)⟩) (Nat.succ.inj hl) (fun j b q e1 e2 => hp (j + 1) b q (by simpa using e1) (by simpa using e2))
    refine ⟨H2, I2, fun j b q e1 e2 => ?_, fun b hb => ?_⟩
    · cases j with
      | zero =>
        simp at e1 e2
        subst e1 e2
        rw [h3 a na, upd_same]
      | succ j => exact h1 j b q (by simpa using e1) (by simpa using e2)
    · rw [h3 b fun m => hb (List.mem_cons_of_mem _ m), upd_ne fun e => hb (by rw [e]; exact List.mem_cons_self)]
end L3

/-! L3ZO: list(zip(xs, ys)) -/
namespace L3
open PySem PySem.Spec PyProof.Rows L2
def eZipL (fa : FA) : F := fun env s => (fa env s).bind fun ds s => match ds with
  | [x, y] => (match asL s x, asL s y with | some l, some m => if l.length = m.length then .ok (.lst (zipL l m)) s else .bad | _, _ => .bad)
  | _ => .bad
theorem zipL_rel {K : PySem.W.Frag} {ρ : Rho} {H : Hp} : ∀ {l m : List D} {xs ys : List V} {as : List Addr}, RelDs K ρ H l xs → RelDs K ρ H m ys → as.length = l.length → l.length = m.length → (∀ (j : Nat) (a : Addr) (p : V × V), as[j]? = some a → (xs.zip ys)[j]? = some p → TupAt ρ H a [p.1, p.2]) → RelDs K ρ H (zipL l m) (as.map V.ref)
  | _, _, _, _, [], .nil, .nil, _, _, _ => .nil
  | _, _, _, _, a :: as, .cons r1 t1, .cons r2 t2, e1, e2, h =>
    .cons (.tup (h 0 a _ rfl rfl) (.cons r1 (.cons r2 .nil))) (zipL_rel t1 t2 (Nat.succ.inj e1) (Nat.succ.inj e2) fun j a p q1 q2 => h (j + 1) a p (by simpa using q1) (by simpa using q2))
  | _, _, _, _, [], .cons _ _, _, e1, _, _ => by cases e1
  | _, _, _, _, _ :: _, .nil, _, e1, _, _ => by cases e1
  | _, _, _, _, _, .cons _ _, .nil, _, e2, _ => by cases e2
  | _, _, _, _, _, .nil, .cons _ _, _, e2, _ => by cases e2
section
variable {X : Cx} {g : G} {W : WX} {pos : Pos}
theorem n_zipL {a b : Expr} {fa : FA} {p p2 p3 : Pos} (hc : X.calm = true) (hg1 : Gl X ("list" : Str)) (hm1 : X.mg ("list" : Str) = none) (hg : Gl X ("zip" : Str)) (hm : X.mg ("zip" : Str) = none) (ha : PA X [a, b] (tA g W fa)) (hst : [a, b].all nst = true) :
    PE X (.Call (.Name ("list" : Str) p) [.Call (.Name ("zip" : Str) p2) [a, b] [] p3] [] pos) (tN g W (eZipL fa)) := by
  refine ⟨fun pins s σ H Q I ⟨ρ, st, env, hs, hl, hp⟩ => ?_⟩
  refine wpAny_Call_Name_kw (ld_blt I hg1 hm1 (by kernel_rfl : bootBuiltins ("list" : Str) = some (.type "list")) ?_ (by decide) (by decide))
  refine PyProof.Rows.callWith_type1 ?_ rfl rfl
  show wpAny _ _ (spliced [(false, eval (.Call (.Name ("zip" : Str) p2) [a, b] [] p3) X.env)]) _ _ s
  refine Calls.spliced_cons ?_
  have hst' := hst
  rw [List.all_cons, Bool.and_eq_true] at hst'
  refine wpAny_Call_Name_kw (ld_blt I hg hm PyProof.Rows.boot_zip ?_ (by decide) (by decide))
  refine PyProof.Rows.callWith_type1 (thn (ha.run p3 pins s σ H (fun vs H1 => ∃ ρ1 s1 ds, Up ρ ρ1 H H1 ∧ Sto g ρ1 s1 H1 ∧ RelDs g.K ρ1 H1 ds vs ∧ PostN g W ρ1 H1 env σ Q (match ds with
      | [x, y] => (match asL s1 x, asL s1 y with | some l, some m => if l.length = m.length then .ok (.lst (zipL l m)) s1 else .bad | _, _ => .bad)
      | _ => .bad)) I ⟨ρ, st, env, hs, hl, PostN.bind (Rel' := RVs g) hp⟩) fun us s1 ⟨vs, H1, I1, r1, ρ1, st1, ds, u1, hs1, rd, p1⟩ => ?_) (star_cons hst'.1) (back_any hst'.2)
  split at p1
  · rename_i x y
    split at p1
    · rename_i l m ex ey
      split at p1
      · rename_i hlen
        obtain ⟨v1, v2, rfl, rx, ry⟩ := rd.two
        obtain ⟨w1, w2, rfl, q1, q2⟩ := vals2 r1
        obtain ⟨ad, xs, rfl, hax, rxs⟩ := lst_of hs1 rx ex
        obtain ⟨bd, ys, rfl, hby, rys⟩ := lst_of hs1 ry ey
        cases q1
        cases q2
        obtain ⟨its, rv, pl1, z1⟩ := I1.list (.inl (.inl hax))
        obtain ⟨its2, rv2, pl2, z2⟩ := I1.list (.inl (.inl hby))
        refine call_zip_2 pl1.isList pl2.isList fun h1 hz hTI hTO hi1 hi2 hsz hk => ?_
        refine Calls.spliced_nil ?_
        have lt1 := pl1.lt
        have lt2 := pl2.lt
        have hl1 : its.toArray.size = l.length := by rw [List.size_toArray, ← rv.length, ← rxs.len]
        have hl2 : its2.toArray.size = m.length := by rw [List.size_toArray, ← rv2.length, ← rys.len]
        have up1 : ∀ {c o}, s1.heap.get? c = some o → c ∉ [s1.heap.objs.size + 4, s1.heap.objs.size + 3, s1.heap.objs.size, s1.heap.objs.size + 1] := fun {c o} e mm => by
          simp only [List.mem_cons, List.not_mem_nil, or_false] at mm
          rcases mm with h | h | h | h <;> (rw [h] at e; exact absurd (Heap.lt_size e) (Nat.not_lt.mpr (by first | exact Nat.le_add_right _ _ | exact Nat.le_refl _)))
        refine zl_call (s := { s1 with heap := h1 }) (I1.ok.hd hc) (PySem.W.ktu_apart s1.heap.objs.size ad bd lt1 lt2) (by rw [hl1, hl2, hlen]) (by rw [List.size_toArray, ← rv.length]; exact z1) hz hTI ⟨_, _, hTO⟩ hi1 hi2 (pl1.isList.at fun o e => hk _ o e) (pl2.isList.at fun o e => hk _ o e) fun h2 tk acc cc as hk2 hS hal hG hacc => ?_
        have I0 : Inv X pins σ H1 { s1 with heap := h1 } := I1.kept (t' := s1.toks) hk
        have k2 : ∀ b o, s1.heap.get? b = some o → h2.get? b = some o := fun b o e => hk2 b o (up1 e) (hk b o e)
        have dead : ∀ {c}, h1.objs.size ≤ c → s1.heap.get? c = none := fun {c} hc => Heap.get?_none_of_le (by omega)
        have gtn : ∀ c ∈ as, h1.objs.size + 1 ≤ c := fun c mc => by
          obtain ⟨j, hj⟩ := List.getElem?_of_mem mc
          exact (hG.2 j c hj).1
        have psl : (xs.zip ys).length = l.length := by rw [List.length_zip, ← rxs.len, ← rys.len, hlen, Nat.min_self]
        have lne : ∀ c ∈ as, c ≠ h1.objs.size := fun c mc e => by have := gtn c mc; rw [e] at this; exact Nat.lt_irrefl _ this
        have hle : s1.heap.objs.size ≤ h1.objs.size := by omega
        have hD : H1 h1.objs.size = none := I1.hok.fresh hle
        have hnone : ∀ c ∈ as, H1 c = none := fun c mc => I1.hok.fresh (Nat.le_trans hle (Nat.le_of_succ_le (gtn c mc)))
        have hdead : ∀ c ∈ as, s1.heap.get? c = none := fun c mc => dead (Nat.le_of_succ_le (gtn c mc))
        have Lout : h1.objs.size ∉ as := fun mc => lne _ mc rfl
        obtain ⟨G, g1, g2⟩ := restrict h2 fun b => decide (b ∉ as)
        have gk : ∀ b o, b ∉ as → h2.get? b = some o → G.get? b = some o := fun b o hb e => (g1 b (decide_eq_true hb)).trans e
        have kG : ∀ b o, s1.heap.get? b = some o → G.get? b = some o := fun b o e => gk b o (fun mm => by rw [hdead b mm] at e; cases e) (k2 b o e)
        have G2 : ∀ b o, G.get? b = some o → h2.get? b = some o := fun b o e => by
          by_cases hb : b ∈ as
          · rw [g2 b (decide_eq_false (fun z => z hb))] at e; cases e
          · rw [g1 b (decide_eq_true hb)] at e; exact e
        have vr : ∀ l : List Addr, Vals (l.map V.ref) (l.map Value.ref) := fun l => by
          induction l with
          | nil => exact .nil
          | cons c l ih => exact .cons rfl ih
        have IL : Inv X pins σ (upd H1 h1.objs.size (.lst (as.map V.ref))) { s1 with heap := G, toks := s1.toks } := I1.laidN kG (dead (Nat.le_refl _)) hD ⟨by rw [List.length_map, hal, hl1, rxs.len]; exact z1, as.map Value.ref, cc, vr as, by rw [gk _ _ Lout hS, ← hacc]⟩
        obtain ⟨H2, I2, t1, t2⟩ := lay_pairs (tk := tk) as (xs.zip ys) IL G2 hG.1 (fun c mc => ⟨by rw [upd_ne (lne c mc)]; exact hnone c mc, g2 c (decide_eq_false fun z => z mc)⟩) (by rw [hal, hl1, psl]) (fun j c q e1 e2 => by
          obtain ⟨_, x', y', ex', ey', hp'⟩ := hG.2 j c e1
          obtain ⟨q1, q2⟩ := List.getElem?_zip_eq_some.mp e2
          obtain ⟨u', eu, ru⟩ := rv.get q1
          obtain ⟨v', ev, rv'⟩ := rv2.get q2
          have a1 : its.toArray[j]? = its[j]? := by simp
          have a2 : its2.toArray[j]? = its2[j]? := by simp
          rw [a1, eu] at ex'
          rw [a2, ev] at ey'
          cases ex'; cases ey'
          exact ⟨_, _, ru, rv', hp'⟩)
        obtain ⟨hs0, nD⟩ := hs1.hide (o := .lst (as.map V.ref)) hD (fun _ e => by cases e)
        have hn0 : ∀ c ∈ as, upd H1 h1.objs.size (.lst (as.map V.ref)) c = none := fun c mc => by rw [upd_ne (lne c mc)]; exact hnone c mc
        have uP : Up (ρ1.hide h1.objs.size) (ρ1.hide h1.objs.size) (upd H1 h1.objs.size (.lst (as.map V.ref))) H2 := ⟨List.prefix_refl _, rfl, fun _ mm nn => absurd mm nn, fun c o e nn => ⟨o, by rw [t2 c fun mm => by rw [hn0 c mm] at e; cases e]; exact e, .inl rfl⟩, fun c e => by
          by_cases mc : c ∈ as
          · exact hn0 c mc
          · rw [t2 c mc] at e; exact e, fun c mm _ => t2 c fun mc => hs0.xin c mm (hn0 c mc)⟩
        have hs2 : Sto g (ρ1.hide h1.objs.size) st1 H2 := hs0.up rfl uP (fun c mm => t2 c fun mc => hs0.out (hn0 c mc) (.inl mm)) fun c mm xs e => by
          rw [t2 c fun mc => hs0.xin c mm (hn0 c mc)] at e
          exact hs0.xt c mm xs e
        have rl : RelDs g.K (ρ1.hide h1.objs.size) H2 (zipL l m) (as.map V.ref) := zipL_rel ((rxs.car (Car.hide hD)).up uP) ((rys.car (Car.hide hD)).up uP) (by rw [hal, hl1]) hlen fun j c q e1 e2 => ⟨fun z => hs0.out (hn0 c (List.mem_of_getElem? e1)) z, t1 j c q e1 e2⟩
        exact ⟨.ref h1.objs.size, H2, I2, rfl, p1 (ρ1.hide h1.objs.size) _ H2 _ ⟨rfl, hid_out nD uP.of, UpB.unhide hD hs1.xin uP.of, hD, hs2, ((hl.up u1).car (Car.hide hD)).up uP, by rw [t2 _ Lout, upd_same], _, rfl, .lst rl⟩⟩
      · exact p1.elim
    · exact p1.elim
  · exact p1.elim
end
end L3

/-! L3GB: comprehensions of two clauses -/
namespace L3
open PySem PySem.Spec PyProof.Rows L2
def lcO (chk : Sr → Bool) (vs : List Nat) (t : Tg) (test : FB) (inner : Env' → List D → Sr → R (List D)) : List D → List D → Env' → Sr → R (List D)
  | [], acc, _, s => if chk s then .ok acc s else .bad
  | d :: ds, acc, env, s => if chk s then (match t.put d (wipeE env vs) with
      | none => .bad
      | some env1 => (test env1 s).nox.bind fun b s => if b then (inner env1 acc s).bind fun acc s => lcO chk vs t test inner ds acc env s
        else lcO chk vs t test inner ds acc env s) else .bad
def lcIn (it1 : FI) (vs1 : List Nat) (t1 : Tg) (test1 : FB) (elt : F) : Env' → List D → Sr → R (List D) := fun env1 acc s => (it1 env1 s).nox.bind fun c1 s => lcL c1.ok vs1 t1 test1 elt c1.items acc env1 s
def eLc2 (it : FI) (vs : List Nat) (t : Tg) (test : FB) (it1 : FI) (vs1 : List Nat) (t1 : Tg) (test1 : FB) (elt : F) : F := fun env s => (it env s).bind fun c s => (lcO c.ok vs t test (lcIn it1 vs1 t1 test1 elt) c.items [] env s).bind fun ds s => .ok (.lst ds) s
theorem wipe_twice {σ : L2.St} (us : List Nat) : wipe (wipe σ us) us = wipe σ us := by
  have key : ∀ (ws : List Nat) (τ : L2.St), (∀ i ∈ ws, τ[i]? = some none ∨ τ[i]? = none) → wipe τ ws = τ := by
    intro ws
    induction ws with
    | nil => intro τ _; rfl
    | cons w ws ih =>
      intro τ h
      show (wipe τ ws).set w none = τ
      rw [ih τ fun i hi => h i (List.mem_cons_of_mem _ hi)]
      rcases h w List.mem_cons_self with q | q
      · obtain ⟨hw, q⟩ := List.getElem?_eq_some_iff.mp q
        rw [← q]; exact List.set_getElem_self hw
      · rw [List.set_eq_of_length_le (List.getElem?_eq_none_iff.mp q)]
  refine key us _ fun i hi => ?_
  cases q : (wipe σ us)[i]? with
  | none => exact .inr rfl
  | some z => cases z with
    | none => exact .inl rfl
    | some v => exact absurd hi (wipe_some q).2
section
variable {X : Cx} {g : G} {W : WX} {pos : Pos}
theorem lc2_serve {fi fi1 : FI} {t t1 : Tg} {ft ft1 : FB} {fe : F} {vs vs1 : List Nat} {σ : L2.St} {H : Hp} {Q : VK} (tw : t.within vs = true) (tw1 : t1.within vs1 = true) (h : tN g W (eLc2 fi vs t ft fi1 vs1 t1 ft1 fe) σ H Q) : tLc2 (iI g W fi) (tgI g.K t) (tT g W0 ft) (iI g W0 fi1) (tgI g.K t1) (tT g W0 ft1) (tI g W0 fe) vs vs1 σ H Q := by
  obtain ⟨ρ, s, env, hs, hl, hp⟩ := h
  refine ⟨ρ, s, env, hs, hl, (PostN.bind (Rel' := RI g) hp).imp fun J H1 ⟨ρ1, s1, c, u1, hs1, ⟨Hd, sv, hd⟩, p1⟩ D hD => ?_⟩
  obtain ⟨hs0, nD⟩ := hs1.hide (o := .lst []) hD (fun _ e => by cases e)
  have hl1 := hl.up u1
  generalize hin : lcIn fi1 vs1 t1 ft1 fe = inner at p1
  refine ⟨fun i m H => i ≤ c.items.length ∧ m = c.items.length - i ∧ ∃ r s acc xs, UpB (· = D) (ρ1.hide D) r (upd H1 D (.lst [])) H ∧ Sto g r s H ∧ Loc' g.K r H env σ ∧ Hd r H ∧ H D = some (.lst xs) ∧ RelDs g.K r H acc xs ∧ acc.length ≤ sizeLine ∧
    PostN g W ρ1 H1 env σ Q ((lcO c.ok vs t ft inner (c.items.drop i) acc env s).bind fun ds s => .ok (.lst ds) s),
    ⟨_, Nat.zero_le _, rfl, ρ1.hide D, s1, [], [], .refl, hs0, hl1.car (Car.hide hD), ?_, upd_same, .nil, Nat.zero_le _, p1⟩, ?_⟩
  · exact sv.mono hd (Car.hide hD)
  · rintro i m H ⟨hi, rfl, r, s, acc, xs, u, hs, hl, hd, hDx, ra, hz, hp⟩
    have hDr : D ∈ r.x := by rw [u.ex]; exact List.mem_cons_self
    by_cases hlt : i < c.items.length
    · refine .inr ?_
      rw [List.drop_eq_getElem_cons hlt] at hp
      unfold lcO at hp
      cases ck : c.ok s with
      | false => rw [ck] at hp; exact hp.elim
      | true =>
        rw [ck, if_pos rfl] at hp
        obtain ⟨hgo, hy⟩ := sv.go hlt hs ck hd
        refine ⟨hgo, fun H' => ∃ r s acc xs, UpB (· = D) (ρ1.hide D) r (upd H1 D (.lst [])) H' ∧ Sto g r s H' ∧ Loc' g.K r H' env σ ∧ Hd r H' ∧ H' D = some (.lst xs) ∧ RelDs g.K r H' acc xs ∧ acc.length ≤ sizeLine ∧
          PostN g W ρ1 H1 env σ Q ((lcO c.ok vs t ft inner (c.items.drop (i + 1)) acc env s).bind fun ds s => .ok (.lst ds) s),
          fun H' h => ⟨c.items.length - (i + 1), by omega, hlt, rfl, h⟩, fun x H' y => ?_⟩
        obtain ⟨u2, hs2, rx⟩ := hy x H' y
        cases e : t.put c.items[i] (wipeE env vs) with
        | none => rw [e] at hp; exact hp.elim
        | some env2 =>
          rw [e] at hp
          refine ⟨r, _, wipeE env vs, env2, rx, (hl.up u2).wipe vs, e, fun σ2 hl2 hw => ⟨(hw vs tw).trans (wipe_twice vs), ?_⟩⟩
          have hp : PostN g W ρ1 H1 env σ Q (((ft env2 s).nox.bind fun b s => if b then (inner env2 acc s).bind fun acc s => lcO c.ok vs t ft inner (c.items.drop (i + 1)) acc env s
              else lcO c.ok vs t ft inner (c.items.drop (i + 1)) acc env s).bind fun ds s => .ok (.lst ds) s) := hp
          refine ⟨r, s, env2, hs2, hl2, ?_⟩
          cases eb : ft env2 s with
          | exc _ _ _ => rw [eb] at hp; exact hp.elim
          | bad => rw [eb] at hp; exact hp.elim
          | ok b s3 =>
            rw [eb] at hp
            intro r3 H3 b' u3 hs3 hb
            obtain rfl : b = b' := hb
            cases b with
            | false => exact (if_neg Bool.false_ne_true).mpr ⟨r3, s3, acc, xs, u.trans (u2.trans u3).of, hs3, hl.up (u2.trans u3), sv.mono hd (u2.trans u3).car, ((u2.trans u3).hid D hDr id).trans hDx, ra.up (u2.trans u3), hz, hp⟩
            | true =>
              refine (if_pos rfl).mpr ⟨r3, s3, env2, hs3, hl2.up u3, ?_⟩
              have hp : PostN g W ρ1 H1 env σ Q (((inner env2 acc s3).bind fun acc s => lcO c.ok vs t ft inner (c.items.drop (i + 1)) acc env s).bind fun ds s => .ok (.lst ds) s) := hp
              subst hin
              unfold lcIn at hp
              cases ei : fi1 env2 s3 with
              | exc _ _ _ => rw [ei] at hp; exact hp.elim
              | bad => rw [ei] at hp; exact hp.elim
              | ok c1 s4 =>
                rw [ei] at hp
                intro r4 H4 J1 u4 hs4 ⟨Hd1, sv1, hd1⟩
                have U4 := u2.trans (u3.trans u4)
                generalize hin : lcIn fi1 vs1 t1 ft1 fe = inner at hp
                have hp : PostN g W ρ1 H1 env σ Q (((lcL c1.ok vs1 t1 ft1 fe c1.items acc env2 s4).bind fun acc s => lcO c.ok vs t ft inner (c.items.drop (i + 1)) acc env s).bind fun ds s => .ok (.lst ds) s) := by
                  subst hin; exact hp
                subst hin
                refine ⟨fun j k H => j ≤ c1.items.length ∧ k = c1.items.length - j ∧ ∃ r s acc xs, UpB (· = D) (ρ1.hide D) r (upd H1 D (.lst [])) H ∧ Sto g r s H ∧ Loc' g.K r H env σ ∧ Loc' g.K r H env2 σ2 ∧ Hd r H ∧ Hd1 r H ∧ H D = some (.lst xs) ∧ RelDs g.K r H acc xs ∧ acc.length ≤ sizeLine ∧
                  PostN g W ρ1 H1 env σ Q (((lcL c1.ok vs1 t1 ft1 fe (c1.items.drop j) acc env2 s).bind fun acc s => lcO c.ok vs t ft (lcIn fi1 vs1 t1 ft1 fe) (c.items.drop (i + 1)) acc env s).bind fun ds s => .ok (.lst ds) s),
                  ⟨_, Nat.zero_le _, rfl, r4, s4, acc, xs, u.trans U4.of, hs4, hl.up U4, hl2.up (u3.trans u4), sv.mono hd U4.car, hd1, (U4.hid D hDr id).trans hDx, ra.up U4, hz, hp⟩, ?_⟩
                clear hp hd1 hs4 u4 U4
                rintro j k H ⟨hj, rfl, r5, s5, acc, xs, u, hs, hl, hl2, hd, hd1, hDx, ra, hz, hp⟩
                have hDr : D ∈ r5.x := by rw [u.ex]; exact List.mem_cons_self
                by_cases hlt1 : j < c1.items.length
                · refine .inr ?_
                  rw [List.drop_eq_getElem_cons hlt1] at hp
                  unfold lcL at hp
                  cases ck : c1.ok s5 with
                  | false => rw [ck] at hp; exact hp.elim
                  | true =>
                    rw [ck, if_pos rfl] at hp
                    obtain ⟨hgo, hy⟩ := sv1.go hlt1 hs ck hd1
                    refine ⟨hgo, fun H' => ∃ r s acc xs, UpB (· = D) (ρ1.hide D) r (upd H1 D (.lst [])) H' ∧ Sto g r s H' ∧ Loc' g.K r H' env σ ∧ Loc' g.K r H' env2 σ2 ∧ Hd r H' ∧ Hd1 r H' ∧ H' D = some (.lst xs) ∧ RelDs g.K r H' acc xs ∧ acc.length ≤ sizeLine ∧
                      PostN g W ρ1 H1 env σ Q (((lcL c1.ok vs1 t1 ft1 fe (c1.items.drop (j + 1)) acc env2 s).bind fun acc s => lcO c.ok vs t ft (lcIn fi1 vs1 t1 ft1 fe) (c.items.drop (i + 1)) acc env s).bind fun ds s => .ok (.lst ds) s),
                      fun H' h => ⟨c1.items.length - (j + 1), by omega, hlt1, rfl, h⟩, fun x H' y => ?_⟩
                    obtain ⟨u6, hs6, rx⟩ := hy x H' y
                    cases e6 : t1.put c1.items[j] (wipeE env2 vs1) with
                    | none => rw [e6] at hp; exact hp.elim
                    | some env3 =>
                      rw [e6] at hp
                      refine ⟨r5, _, wipeE env2 vs1, env3, rx, (hl2.up u6).wipe vs1, e6, fun σ3 hl3 hw3 => ⟨(hw3 vs1 tw1).trans (wipe_twice vs1), ?_⟩⟩
                      have hp : PostN g W ρ1 H1 env σ Q ((((ft1 env3 s5).nox.bind fun b s => if b then (fe env3 s).nox.bind fun y s => if acc.length < sizeLine then lcL c1.ok vs1 t1 ft1 fe (c1.items.drop (j + 1)) (acc ++ [y]) env2 s else .bad
                          else lcL c1.ok vs1 t1 ft1 fe (c1.items.drop (j + 1)) acc env2 s).bind fun acc s => lcO c.ok vs t ft (lcIn fi1 vs1 t1 ft1 fe) (c.items.drop (i + 1)) acc env s).bind fun ds s => .ok (.lst ds) s) := hp
                      refine ⟨r5, s5, env3, hs6, hl3, ?_⟩
                      cases eb : ft1 env3 s5 with
                      | exc _ _ _ => rw [eb] at hp; exact hp.elim
                      | bad => rw [eb] at hp; exact hp.elim
                      | ok b s7 =>
                        rw [eb] at hp
                        intro r7 H7 b' u7 hs7 hb
                        obtain rfl : b = b' := hb
                        cases b with
                        | false => exact (if_neg Bool.false_ne_true).mpr ⟨r7, s7, acc, xs, u.trans (u6.trans u7).of, hs7, hl.up (u6.trans u7), hl2.up (u6.trans u7), sv.mono hd (u6.trans u7).car, sv1.mono hd1 (u6.trans u7).car, ((u6.trans u7).hid D hDr id).trans hDx, ra.up (u6.trans u7), hz, hp⟩
                        | true =>
                          refine (if_pos rfl).mpr ⟨r7, s7, env3, hs7, hl3.up u7, ?_⟩
                          have hp : PostN g W ρ1 H1 env σ Q ((((fe env3 s7).nox.bind fun y s => if acc.length < sizeLine then lcL c1.ok vs1 t1 ft1 fe (c1.items.drop (j + 1)) (acc ++ [y]) env2 s else .bad).bind fun acc s => lcO c.ok vs t ft (lcIn fi1 vs1 t1 ft1 fe) (c.items.drop (i + 1)) acc env s).bind fun ds s => .ok (.lst ds) s) := hp
                          cases ee : fe env3 s7 with
                          | exc _ _ _ => rw [ee] at hp; exact hp.elim
                          | bad => rw [ee] at hp; exact hp.elim
                          | ok yd s8 =>
                            rw [ee] at hp
                            intro r8 H8 yv u8 hs8 ry
                            have hp : PostN g W ρ1 H1 env σ Q (((if acc.length < sizeLine then lcL c1.ok vs1 t1 ft1 fe (c1.items.drop (j + 1)) (acc ++ [yd]) env2 s8 else .bad).bind fun acc s => lcO c.ok vs t ft (lcIn fi1 vs1 t1 ft1 fe) (c.items.drop (i + 1)) acc env s).bind fun ds s => .ok (.lst ds) s) := hp
                            have U := u6.trans (u7.trans u8)
                            by_cases hzl : acc.length < sizeLine
                            · rw [if_pos hzl] at hp
                              have hDx4 : H8 D = some (.lst xs) := (U.hid D hDr id).trans hDx
                              have hDr4 : D ∈ r8.x := by rw [U.ex]; exact hDr
                              have uh : UpB (· = D) r8 r8 H8 (upd H8 D (.lst (xs ++ [yv]))) := UpB.hide hDr4
                              refine ⟨xs, hDx4, by rw [← ra.len]; exact hzl, r8, s8, acc ++ [yd], xs ++ [yv], (u.trans U.of).trans uh, ?_, (hl.up U).up uh, (hl2.up U).up uh, sv.mono hd (U.of.trans uh).car, sv1.mono hd1 (U.of.trans uh).car, upd_same, ((ra.up U).snoc ry).up uh, by rw [List.length_append]; exact hzl, hp⟩
                              refine hs8.up rfl uh (fun a m => upd_ne fun e => hid_out nD (u.trans U.of) (e ▸ m)) fun a m ys => ?_
                              by_cases e : a = D
                              · rw [e, upd_same]; exact fun z => by cases z
                              · rw [upd_ne e]; exact hs8.xt a m ys
                            · rw [if_neg hzl] at hp; exact hp.elim
                · have e : j = c1.items.length := by omega
                  subst e
                  rw [List.drop_length] at hp
                  unfold lcL at hp
                  cases ck : c1.ok s5 with
                  | false => rw [ck] at hp; exact hp.elim
                  | true =>
                    rw [ck, if_pos rfl] at hp
                    exact .inl ⟨sv1.stop hs ck hd1, r5, s5, acc, xs, u, hs, hl, hd, hDx, ra, hz, hp⟩
    · have e : i = c.items.length := by omega
      subst e
      rw [List.drop_length] at hp
      unfold lcO at hp
      cases ck : c.ok s with
      | false => rw [ck] at hp; exact hp.elim
      | true =>
        rw [ck, if_pos rfl] at hp
        exact .inl ⟨sv.stop hs ck hd, hp r D H _ ⟨u.ex, hid_out nD u, UpB.unhide hD hs1.xin u, hD, hs, hl, hDx, _, rfl, .lst ra⟩⟩
theorem eLc2_lst {fi fi1 : FI} {t t1 : Tg} {ft ft1 : FB} {fe : F} {vs vs1 : List Nat} : ∀ env s d s', eLc2 fi vs t ft fi1 vs1 t1 ft1 fe env s = .ok d s' → ∃ l, d = .lst l := by
  intro env s d s' e
  unfold eLc2 at e
  cases e1 : fi env s with
  | exc c fs s' => rw [e1] at e; cases e
  | bad => rw [e1] at e; cases e
  | ok c s1 =>
    rw [e1] at e
    have e : ((lcO c.ok vs t ft (lcIn fi1 vs1 t1 ft1 fe) c.items [] env s1).bind fun ds s => .ok (.lst ds) s) = .ok d s' := e
    cases e2 : lcO c.ok vs t ft (lcIn fi1 vs1 t1 ft1 fe) c.items [] env s1 with
    | exc c fs s' => rw [e2] at e; cases e
    | bad => rw [e2] at e; cases e
    | ok l s2 => rw [e2] at e; cases e; exact ⟨l, rfl⟩
/-- the second clause's parts -/
structure LcOk2 (X : Cx) (g : G) (scope : Scope) (own : List (Str × Nat)) (tg1 iter1 : Expr) (ifs1 : List Expr) (fi1 : FI) (vs1 : List Nat) (t1 : Tg) (ft1 : FB) : Prop where
  hv : ∀ i ∈ vs1, i ∈ own.map (·.2)
  hi : ∀ (s : Shared) (H : Hp) (C : Addr) (cl : List (Str × Addr)) (fp : List Addr), PI (X.blk s H scope (compEnvC scope cl C X.env) fp) tg1 iter1 (iI g W0 fi1)
  hg : ∀ (s : Shared) (H : Hp) (C : Addr) (cl : List (Str × Addr)) (fp : List Addr), PG (X.blk s H scope (compEnvC scope cl C X.env) fp) tg1 (tgI g.K t1)
  ht : ∀ (s : Shared) (H : Hp) (C : Addr) (cl : List (Str × Addr)) (fp : List Addr), PTs (X.blk s H scope (compEnvC scope cl C X.env) fp) ifs1 (tT g W0 ft1)
  hs : ∀ env x, foldedSetIterable iter1 env x = pure x
  tw : t1.within vs1 = true
theorem n_lc2 {elt tg iter tg1 iter1 : Expr} {ifs ifs1 : List Expr} {scope : Scope} {own : List (Str × Nat)} {fi fi1 : FI} {t t1 : Tg} {ft ft1 : FB} {fe : F} {vs1 : List Nat} (k : LcOk X g scope own tg iter ifs W fi t ft) (k1 : LcOk2 X g scope own tg1 iter1 ifs1 fi1 vs1 t1 ft1)
    (he : ∀ (s : Shared) (H : Hp) (C : Addr) (cl : List (Str × Addr)) (fp : List Addr), PE (X.blk s H scope (compEnvC scope cl C X.env) fp) elt (tI g W0 fe)) : PE X (.ListComp elt [⟨tg, iter, ifs, 0⟩, ⟨tg1, iter1, ifs1, 0⟩] scope pos) (tN g W (eLc2 fi (own.map (·.2)) t ft fi1 vs1 t1 ft1 fe)) :=
  (pe_lc2 k.hc k.hN k.hi k.ok k1.hv k.hg k.ht k1.hi k1.hg k1.ht he k.hs k1.hs).imp fun σ H Q h => lc2_serve k.tw k1.tw h
theorem l_setLc2 {i : Nat} {y : Str} {py spos : Pos} {elt tg iter tg1 iter1 : Expr} {ifs ifs1 : List Expr} {scope : Scope} {own : List (Str × Nat)} {fi fi1 : FI} {t t1 : Tg} {ft ft1 : FB} {fe : F} {vs1 : List Nat} (k : LcOk X g scope own tg iter ifs W fi t ft) (k1 : LcOk2 X g scope own tg1 iter1 ifs1 fi1 vs1 t1 ft1) (hy : X.N[i]? = some y) (hyl : X.env.scope.names.lookup y = some .local)
    (he : ∀ (s : Shared) (H : Hp) (C : Addr) (cl : List (Str × Addr)) (fp : List Addr), PE (X.blk s H scope (compEnvC scope cl C X.env) fp) elt (tI g W0 fe)) (hsw : swapsWith (.ListComp elt [⟨tg, iter, ifs, 0⟩, ⟨tg1, iter1, ifs1, 0⟩] scope pos) (some (.Name y py)) spos.line X.env = pure true) :
    PS X (.Assign [.Name y py] (.ListComp elt [⟨tg, iter, ifs, 0⟩, ⟨tg1, iter1, ifs1, 0⟩] scope pos) spos) (sI g W (sAsg (.name i) (eLc2 fi (own.map (·.2)) t ft fi1 vs1 t1 ft1 fe))) :=
  (ps_setLc2 k.hc k.hN hy hyl hsw k.hi k.ok k1.hv k.hg k.ht k1.hi k1.hg k1.ht he k.hs k1.hs).imp fun E σ H ⟨ρ, s, env, hs, hl, hp⟩ => lc2_serve k.tw k1.tw (tN_of eLc2_lst ⟨ρ, s, env, hs, hl, (PostS.bind (Rel' := RV g) hp).imp fun v H1 ⟨ρ1, s1, a, u, hs1, r, p⟩ => by
    unfold Tg.put at p
    exact p ρ1 H1 _ .refl hs1 ((hl.up u).set i r)⟩)
end
end L3

/-! L3ZA: the interpreter over the text: expressions -/
namespace L3
open PySem PySem.Spec PyProof.Rows L2

/-- what is known of the names of the top, of the text's places -/
structure Cf where
  call : Str → Option (Nat × (List D → Sr → R D))
  free : Str → Bool
  glo : Str → Option D
  /-- what is made there stands in the store -/
  cell : Pos → Bool
  /-- a dict whose keys are tuples -/
  tdict : Pos → Bool
  /-- defs that give sort keys -/
  keyf : Str → Bool
  /-- the cell of the def's table, its lambdas' name -/
  lam : Option (Nat × Str)

def idx (x : Str) : List Str → Option Nat
  | [] => none
  | y :: r => if x = y then some 0 else (idx x r).map (· + 1)
theorem idx_get {x : Str} : ∀ {N : List Str} {i : Nat}, idx x N = some i → N[i]? = some x
  | [], _, e => by cases e
  | y :: r, i, e => by
    unfold idx at e
    by_cases h : x = y
    · rw [if_pos h] at e; cases e; rw [h]; rfl
    · rw [if_neg h] at e
      obtain ⟨j, e1, e2⟩ := Option.map_eq_some_iff.mp e
      subst e2
      simpa using idx_get e1
def dbg (x : Str) : Bool := (x == ("__debug__" : Str)) || (x == ("__classdict__" : Str)) || decide (x = "__name__")
/-- the slot of a name that the frame has -/
def slot (N : List Str) (sc : Scope) (x : Str) : Option Nat := if dbg x then none else match sc.names.lookup x with
  | some .local => idx x N
  | some .cell => idx x N
  | some .free => idx x N
  | _ => none
/-- the slot of a name that the frame stores -/
def slotW (N : List Str) (sc : Scope) (x : Str) : Option Nat := match sc.names.lookup x with
  | some .local => idx x N
  | some .cell => idx x N
  | _ => none
def isGlo (sc : Scope) (x : Str) : Bool := match sc.names.lookup x with
  | some .globalImplicit => !dbg x
  | _ => false
def badF : F := fun _ _ => .bad
def badI : FI := fun _ _ => .bad
def badB : FB := fun _ _ => .bad
def eNew (f : F) : F := fun env s => (f env s).bind fun d s => match toCell d with | some c => .ok (.ref s.length) (s ++ [c]) | none => .bad
mutual
def tgE (N : List Str) (sc : Scope) : Expr → Option Tg
  | .Name x _ => (slotW N sc x).map .name
  | .Tuple es _ _ => (tgEs N sc es).map .tup
  | _ => none
def tgEs (N : List Str) (sc : Scope) : List Expr → Option (List Tg)
  | [] => some []
  | e :: es => (tgE N sc e).bind fun t => (tgEs N sc es).bind fun ts => some (t :: ts)
end
def opB : Operator → Option (D → D → Sr → R D)
  | .Add => some oAdd | .Sub => some oSub | .Mult => some oMul | .FloorDiv => some oDiv | .Mod => some oMod | .Pow => some oPow | _ => none
def opC : CmpOp → Option (D → D → Sr → R D)
  | .Eq => some oEq | .NotEq => some oNe | .Lt => some oLt | .LtE => some oLe | .Gt => some oGt | .GtE => some oGe
  | .In => some (oIn false) | .NotIn => some (oIn true) | .Is => some (oIs false) | .IsNot => some (oIs true)
/-- types, by their names -/
def tyNamed (x : Str) : Option Ty :=
  if x = "int" then some .int else if x = "bool" then some .bl else if x = "tuple" then some .tup else if x = "str" then some .str else if x = "list" then some .lst else if x = "dict" then some .dct else none
def tyE (Γ : Cf) (sc : Scope) : Expr → Option Ty
  | .Name x _ => if isGlo sc x && Γ.free x then tyNamed x else none
  | _ => none
def tysE (Γ : Cf) (sc : Scope) : List Expr → Option (List Ty)
  | [] => some []
  | e :: es => (tyE Γ sc e).bind fun t => (tysE Γ sc es).bind fun ts => some (t :: ts)
/-- built-in functions and types whose results are no new objects, or tuples -/
inductive Bv where
  | len | abs | min | max | sum | any | all | int | str | tuple
def Bv.of (x : Str) : Option Bv :=
  if x = "len" then some .len else if x = "min" then some .min else if x = "max" then some .max else if x = "tuple" then some .tuple else if x = "all" then some .all else if x = "any" then some .any else if x = "sum" then some .sum
  else if x = "int" then some .int else if x = "abs" then some .abs else if x = "str" then some .str else none
def Bv.f : Bv → List D → Sr → R D
  | .len => vLen | .abs => vAbs | .min => vMin | .max => vMax | .sum => vSum | .any => vAny | .all => vAll | .int => vInt | .str => vStr | .tuple => vTuple
/-- those whose results are new -/
inductive Bn where
  | list | sorted | dict
def Bn.of (x : Str) : Option Bn := if x = "list" then some .list else if x = "sorted" then some .sorted else if x = "dict" then some .dict else none
def Bn.f : Bn → List D → Sr → Option D
  | .list => vList | .sorted => vSorted | .dict => vDict
/-- methods of lists -/
inductive Mt where
  | append | extend | pop | insert | count | index
def Mt.of (x : Str) : Option Mt := if x = "append" then some .append else if x = "extend" then some .extend else if x = "pop" then some .pop else if x = "insert" then some .insert else if x = "count" then some .count else if x = "index" then some .index else none
def Mt.f : Mt → D → List D → Sr → R D
  | .append => mAppend | .extend => mExtend | .pop => mPop | .insert => mInsert | .count => mCount | .index => mIndex
def eGet (fo fk fd : F) : F := fun env s => (fo env s).bind fun o s => if (asDk s o).isSome || (asDt s o).isSome then (fk env s).bind fun k s => (fd env s).bind fun d s => match dget s o k with | some r => .ok (r.getD d) s | none => .bad else .bad
/-- tuple(range(..)), list(range(..)) -/
def rgTup (k : Nat) (ds : List D) : Option (List D) := match k, ds with
  | 1, [.int n] => if small62 n && decide (n ≤ 16777216) then some (rangeL 0 n.toNat) else none
  | 2, [.int i, .int j] => if small62 i && small62 j && decide ((j - i).toNat ≤ 16777216) then some (rangeL i (j - i).toNat) else none
  | _, _ => none
/-- what the interpreter gives for each text -/
structure Ev where
  e : Scope → Expr → F
  n : Scope → Expr → F
  t : Scope → Expr → FB
  i : Scope → Bool → Expr → FI
def Ev.bad : Ev := ⟨fun _ _ => badF, fun _ _ => badF, fun _ _ => badB, fun _ _ _ => badI⟩
def Ev.as (v : Ev) (sc : Scope) : List Expr → FA
  | [] => eNil
  | e :: es => eCons (v.e sc e) (Ev.as v sc es)
/-- a value, of the store where the place is marked -/
def Ev.at (Γ : Cf) (v : Ev) (sc : Scope) (e : Expr) (f : F) : F := if Γ.cell e.pos then eNew f else f
def litD : Const → Option D
  | .none => some .non | .bool b => some (.bl b) | .int i => some (.int i) | .str x => some (.str x) | _ => none
/-- a block's own names -/
def ownOne (N : List Str) (p : Str × NameKind) : Option (Str × Nat) := match p.2 with
  | .local => (idx p.1 N).map fun i => (p.1, i)
  | .cell => (idx p.1 N).map fun i => (p.1, i)
  | _ => none
def ownOf (N : List Str) (scope : Scope) : List (Str × Nat) := scope.names.filterMap (ownOne N)
/-- BlkOk, seen -/
def blkB (N : List Str) (sc scope : Scope) : Bool :=
  decide (scope.kind = .function) && (scope.names.all fun (y : Str × NameKind) => decide (scope.names.lookup y.1 = some y.2)) &&
  (scope.names.all fun (y : Str × NameKind) => match y.2 with | .free => decide (sc.names.lookup y.1 = some .cell) || decide (sc.names.lookup y.1 = some .free) | _ => true)
def evPairsE (v : Ev) (sc : Scope) : List (Option Expr) → List Expr → Option (List (F × F))
  | [], [] => some []
  | some k :: ks, x :: xs => (evPairsE v sc ks xs).map ((v.e sc k, v.e sc x) :: ·)
  | _, _ => none
/-- what a comprehension's clause gives: source, slots, target, test -/
structure Cl where
  src : FI
  vs : List Nat
  tg : Tg
  tst : FB
def clause (N : List Str) (v : Ev) (sc scope : Scope) (c : Comprehension) : Option Cl :=
  if c.is_async = 0 && blkB N sc scope && !isSetE c.iter then
    (tgE N scope c.target).bind fun t => if t.within ((ownOf N scope).map Prod.snd) then
      (match c.ifs with
      | [] => some bYes
      | [x] => some (v.t scope x)
      | _ => none).map fun tt => Cl.mk (v.i sc (isTup c.target) c.iter) ((ownOf N scope).map Prod.snd) t tt
    else none
  else none
mutual
def Tg.slots : Tg → List Nat
  | .name i => [i]
  | .tup l => Tg.slotss l
def Tg.slotss : List Tg → List Nat
  | [] => []
  | t :: ts => t.slots ++ Tg.slotss ts
end
/-- a comprehension's second clause -/
def clause2 (N : List Str) (v : Ev) (scope : Scope) (c : Comprehension) : Option Cl :=
  if c.is_async = 0 && !isSetE c.iter then
    (tgE N scope c.target).bind fun t => if t.within t.slots && t.slots.all (fun i => ((ownOf N scope).map Prod.snd).contains i) then
      (match c.ifs with
      | [] => some bYes
      | [x] => some (v.t scope x)
      | _ => none).map fun tt => Cl.mk (v.i scope (isTup c.target) c.iter) t.slots t tt
    else none
  else none
/-- new lists by operators -/
def nAdd (x y : D) (s : Sr) : Option D := match asL s x, asL s y with | some a, some b => if a.length + b.length ≤ sizeLine then some (.lst (a ++ b)) else none | _, _ => none
def nMul (x y : D) (s : Sr) : Option D := match y with
  | .int k => (match asL s x with | some a => if -(2 ^ 63) ≤ k ∧ k < 2 ^ 63 ∧ a.length * k.toNat ≤ sizeLine then some (.lst (List.replicate k.toNat a).flatten) else none | none => none)
  | _ => none
def eFr2 (f : D → D → Sr → Option D) (a b : F) : F := fun env s => (a env s).bind fun x s => (b env s).bind fun y s => match f x y s with | some d => .ok d s | none => .bad
def eSliceN (fe : F) (fl fh : Env' → Sr → R (Option Int)) : F := fun env s => (fe env s).bind fun x s => (fl env s).bind fun l s => (fh env s).bind fun h s => match asL s x with | some a => .ok (.lst (cutD a l h)) s | none => .bad
def eRgL (k : Nat) (fa : FA) : F := fun env s => (fa env s).bind fun ds s => match rgTup k ds with | some l => .ok (.lst l) s | none => .bad
def eRgT (k : Nat) (fa : FA) : F := fun env s => (fa env s).bind fun ds s => match rgTup k ds with | some l => .ok (.tup l) s | none => .bad
def bIf (c a b : FB) : FB := fun env s => (c env s).bind fun c s => if c then a env s else b env s
/-- range(..) with one argument or two -/
def rangeArgs (Γ : Cf) (sc : Scope) : List Expr → Option (List Expr)
  | [.Call (.Name y _) ras [] _] => if decide (y = "range") && isGlo sc y && Γ.free y && ras.all nst && decide (ras.length = 1 ∨ ras.length = 2) then some ras else none
  | _ => none
/-- zip(a, b) -/
def zipArgs (Γ : Cf) (sc : Scope) : List Expr → Option (List Expr)
  | [.Call (.Name y _) [a, b] [] _] => if decide (y = "zip") && isGlo sc y && Γ.free y && nst a && nst b then some [a, b] else none
  | _ => none
def partF (v : Ev) (sc : Scope) : Option Expr → Env' → Sr → R (Option Int)
  | none => pNone
  | some e => pSome (v.e sc e)
/-- one plain parameter -/
def par1 : Arguments → Option Str
  | ⟨[], [⟨x, none, _⟩], none, [], [], none, []⟩ => some x
  | _ => none
/-- what sorts by (len(x), x) -/
def keyChk (Γ : Cf) (sc : Scope) : Expr → Option (Sr → Bool)
  | .Name y _ => if isGlo sc y && Γ.keyf y then some fun _ => true else none
  | .Lambda params body scope _ => (match Γ.lam, par1 params with
    | some (i, q), some x => if decide (x = "lot") && decide (keyE body = some x) && keySc x scope && scope.names.all (fun y => decide (y.2 ≠ .free)) then some (tabB i q) else none
    | _, _ => none)
  | _ => none
/-- new objects -/
def stepN (Γ : Cf) (N : List Str) (v : Ev) (sc : Scope) : Expr → F
  | .List es _ => if es.all nst then eLst (v.as sc es) else badF
  | .Dict [] [] p => if Γ.tdict p then eC (.dt []) else eC (.dk [])
  | .Dict ks xs p => (match evPairsE v sc ks xs with
    | some ps => if ks.length ≤ 15 then (if Γ.tdict p then eDisp dkT ps else eDisp dkK ps) else badF
    | none => badF)
  | .ListComp elt [c] scope _ => (match clause N v sc scope c with | some k => eLc k.src k.vs k.tg k.tst (v.e scope elt) | none => badF)
  | .ListComp elt [c, c1] scope _ => (match clause N v sc scope c, clause2 N v scope c1 with | some k, some k1 => eLc2 k.src k.vs k.tg k.tst k1.src k1.vs k1.tg k1.tst (v.e scope elt) | _, _ => badF)
  | .DictComp kx vx [c] scope p => (match clause N v sc scope c with
    | some k => if Γ.tdict p then eDc dkT k.src k.vs k.tg k.tst (v.e scope kx) (v.e scope vx) else eDc dkK k.src k.vs k.tg k.tst (v.e scope kx) (v.e scope vx)
    | none => badF)
  | .Call (.Name x _) (e :: es) [] _ => if isGlo sc x && Γ.free x && (e :: es).all nst then
      (match (if x = "list" then rangeArgs Γ sc (e :: es) else none) with
      | some ras => eRgL ras.length (v.as sc ras)
      | none => match (if x = "list" then zipArgs Γ sc (e :: es) else none) with
        | some zas => eZipL (v.as sc zas)
        | none => match Bn.of x with | some b => eFr b.f (v.as sc (e :: es)) | none => badF) else badF
  | .Call (.Name x _) [e] [⟨some k, kv, _⟩] _ => if decide (x = "sorted") && decide (k = "key") && isGlo sc "sorted" && Γ.free "sorted" && Γ.free "len" && nst e then
      (match keyChk Γ sc kv with | some chk => eSortK chk (v.e sc e) | none => badF) else badF
  | .BinOp a .Add b _ => eFr2 nAdd (v.e sc a) (v.e sc b)
  | .BinOp a .Mult b _ => eFr2 nMul (v.e sc a) (v.e sc b)
  | .Subscript a (.Slice lo hi none _) _ => eSliceN (v.e sc a) (partF v sc lo) (partF v sc hi)
  | _ => badF
/-- calls of names -/
def callE (Γ : Cf) (N : List Str) (v : Ev) (sc : Scope) (ex : Expr) (x : Str) (es : List Expr) (p : Pos) : F :=
  if isGlo sc x && es.all nst then (match Γ.call x with
    | some (n, f) => (match es with | _ :: _ => eCall n f (v.as sc es) | [] => badF)
    | none => if Γ.free x then (match (if x = "tuple" then rangeArgs Γ sc es else none) with
      | some ras => eRgT ras.length (v.as sc ras)
      | none => (match es with
        | _ :: _ => (match Bv.of x with
          | some b => eCallV b.f (v.as sc es)
          | none => if Γ.cell p then eNew (stepN Γ N v sc ex) else stepN Γ N v sc ex)
        | [] => badF)) else badF) else badF
/-- values -/
def stepE (Γ : Cf) (N : List Str) (v : Ev) (sc : Scope) (ex : Expr) : F := match ex with
  | .Name x _ => (match slot N sc x with
    | some i => eVar i
    | none => if isGlo sc x then (match Γ.glo x with | some d => eC d | none => badF) else badF)
  | .Constant c _ _ => (match litD c with | some d => eC d | none => badF)
  | .Tuple es _ _ => if es.all nst then eTup (v.as sc es) else badF
  | .BinOp a op b p => if Γ.cell p then eNew (stepN Γ N v sc ex) else (match opB op with | some f => eBin f (v.e sc a) (v.e sc b) | none => badF)
  | .UnaryOp .USub a _ => eUn oNeg (v.e sc a)
  | .UnaryOp .Not a _ => eNot (v.e sc a)
  | .BoolOp _ [a] _ => v.e sc a
  | .BoolOp .And (a :: b :: r) p => eAnd (v.e sc a) (v.e sc (.BoolOp .And (b :: r) p))
  | .BoolOp .Or (a :: b :: r) p => eOr (v.e sc a) (v.e sc (.BoolOp .Or (b :: r) p))
  | .Compare a [op] [b] _ => if isSetE b then badF else (match opC op with | some f => eBin f (v.e sc a) (v.e sc b) | none => badF)
  | .Compare a [op, op'] [b, c] _ => if isSetE c then badF else (match opC op, opC op' with | some f, some f' => eChain f f' (v.e sc a) (v.e sc b) (v.e sc c) | _, _ => badF)
  | .IfExp c a b _ => eIf (v.t sc c) (v.e sc a) (v.e sc b)
  | .Subscript a (.Slice none none (some (.UnaryOp .USub (.Constant (.int 1) _ _) _)) _) _ => eRev (v.e sc a)
  | .Subscript a (.Slice lo hi none _) p => if Γ.cell p then eNew (stepN Γ N v sc ex) else eSlice (v.e sc a) (partF v sc lo) (partF v sc hi)
  | .Subscript a b _ => if isSl b then badF else eBin oIdx (v.e sc a) (v.e sc b)
  | .Call (.Name x _) [a, b] [] p => if x = "isinstance" then (if isGlo sc x && Γ.free x && nst a then (match b with
      | .Name _ _ => (match tyE Γ sc b with | some t => eIsi [t] (v.e sc a) | none => badF)
      | .Tuple es _ _ => (match tysE Γ sc es with | some ts => if decide (ts.length ≤ 100) then eIsi ts (v.e sc a) else badF | none => badF)
      | _ => badF) else badF) else callE Γ N v sc ex x [a, b] p
  | .Call (.Name x _) es [] p => callE Γ N v sc ex x es p
  | .Call (.Attribute o m ap) es [] p => if noSup o && (ap.endLine == p.line) && es.all nst && decide (es.length < 29) then
      (if m = "get" then (match es with | [k, d] => eGet (v.e sc o) (v.e sc k) (v.e sc d) | _ => badF)
      else match Mt.of m with | some f => eMeth isLst f.f (v.e sc o) (v.as sc es) | none => badF) else badF
  | e => if Γ.cell e.pos then eNew (stepN Γ N v sc e) else stepN Γ N v sc e
def tAnds (t : Expr → FB) : Expr → List Expr → FB
  | a, [] => t a
  | a, b :: r => bAnd (t a) (tAnds t b r)
def tOrs (t : Expr → FB) : Expr → List Expr → FB
  | a, [] => t a
  | a, b :: r => bOr (t a) (tOrs t b r)
/-- tests -/
def stepT (v : Ev) (sc : Scope) : Expr → FB
  | .UnaryOp .Not a _ => bNot (v.t sc a)
  | .BoolOp .And (a :: r) _ => tAnds (v.t sc) a r
  | .BoolOp .Or (a :: r) _ => tOrs (v.t sc) a r
  | .IfExp c a b _ => bIf (v.t sc c) (v.t sc a) (v.t sc b)
  | .Compare a [op] [b] _ => if isSetE b then badB else (match opC op with | some f => eB (eBin f (v.e sc a) (v.e sc b)) | none => badB)
  | .Compare a [op, op'] [b, c] _ => if isSetE c then badB else (match opC op, opC op' with | some f, some f' => eB (eChain f f' (v.e sc a) (v.e sc b) (v.e sc c)) | _, _ => badB)
  | e => if plainT e then eB (v.e sc e) else badB
/-- what loops go through -/
def stepI (Γ : Cf) (v : Ev) (sc : Scope) (tup : Bool) (ex : Expr) : FI := match ex with
  | .Call (.Name x _) es [] _ => if isGlo sc x && Γ.free x && es.all nst then
      (if x = "range" then (match es with
        | [_] => iArgs hRange1 (v.as sc es)
        | [_, _] => iArgs hRange2 (v.as sc es)
        | [_, _, _] => iArgs hRange3 (v.as sc es)
        | _ => badI)
      else if x = "enumerate" then (match es with | [_] => if tup then iArgs hEnum (v.as sc es) else badI | _ => badI)
      else if x = "zip" then (match es with | [_, _] => if tup then iArgs hZip (v.as sc es) else badI | _ => badI)
      else if x = "reversed" then (match es with | [a] => iRevd (v.e sc a) | _ => badI)
      else iSrc (v.e sc ex)) else iSrc (v.e sc ex)
  | .Call (.Attribute o m ap) [] [] p => if m = "items" then (if tup && noSup o && (ap.endLine == p.line) then iItems (v.e sc o) else badI) else iSrc (v.e sc ex)
  | e => iSrc (v.e sc e)
def EV (Γ : Cf) (N : List Str) : Nat → Ev
  | 0 => Ev.bad
  | n + 1 => ⟨stepE Γ N (EV Γ N n), stepN Γ N (EV Γ N n), stepT (EV Γ N n), stepI Γ (EV Γ N n)⟩
end L3

/-! L3ZB: the interpreter is sound: expressions -/
namespace L3
open PySem PySem.Spec PyProof.Rows L2

structure Okx (Γ : Cf) (N : List Str) (X : Cx) (g : G) (W : WX) (sc : Scope) : Prop where
  hK : X.K = g.K
  hN : X.N = N
  nd : N.Nodup
  scr : ∀ x k, sc.names.lookup x = some k → X.env.scope.names.lookup x = some k ∨ (k = .free ∧ X.env.scope.names.lookup x = some .cell)
  fnc : ∀ x, sc.names.lookup x = some .cell → X.fn x = true
  hc : X.calm = true
  hu : X.A.units + 67 < cLine
  dp : X.A.depth < recursionLimit
  tk : Takes X W
  calls : ∀ x n f, Γ.call x = some (n, f) → ∃ a fd ps k, X.mg x = some (.ref a) ∧ PySem.W.keepIn X.K (.ref a) = true ∧ FnOk X.prog X.w X.K X.mg X.base (L2.CX X.prog X.w) k a fd ps (spI g n f) ∧ Room k X.A ∧ Binds X.K fd ps []
  free : ∀ x, Γ.free x = true → X.mg x = none
  keyf : ∀ x, Γ.keyf x = true → KeyFn X.K X.mg x
  lam : ∀ i q, Γ.lam = some (i, q) → X.env.qual ++ "<lambda>" = q ∧ ∃ c, X.env.code = .ref c ∧ LamX.TabB X.base X.mg c (g.tb q)
  glo : ∀ x d, Γ.glo x = some d → ∃ v u, X.mg x = some u ∧ RelV v u ∧ ∀ ρ H, RelD g.K ρ H d v
section
variable {Γ : Cf} {N : List Str} {X : Cx} {g : G} {W : WX} {sc : Scope}
theorem dbg_no {x : Str} (h : dbg x = false) : (x == ("__debug__" : Str)) = false ∧ (x == ("__classdict__" : Str)) = false ∧ x ≠ "__name__" := by
  unfold dbg at h
  rw [Bool.or_eq_false_iff, Bool.or_eq_false_iff] at h
  exact ⟨h.1.1, h.1.2, of_decide_eq_false h.2⟩
theorem Okx.glob (o : Okx Γ N X g W sc) {x : Str} (h : isGlo sc x = true) : Gl X x ∧ (x == ("__debug__" : Str)) = false ∧ x ≠ "__name__" := by
  unfold isGlo at h
  split at h
  · rename_i e
    have d := dbg_no (x := x) (by simpa using h)
    refine ⟨?_, d.1, d.2.2⟩
    rcases o.scr x _ e with q | ⟨q, _⟩
    · exact q
    · cases q
  · cases h
theorem Okx.slot (o : Okx Γ N X g W sc) {x : Str} {i : Nat} (h : slot N sc x = some i) : X.N[i]? = some x ∧ Vis X.env.scope x ∧ (x == ("__debug__" : Str)) = false ∧ (x == ("__classdict__" : Str)) = false := by
  unfold L3.slot at h
  split at h
  · cases h
  · rename_i nd
    have d := dbg_no (x := x) (by simpa using nd)
    rw [o.hN]
    split at h
    · rename_i e
      refine ⟨idx_get h, ?_, d.1, d.2.1⟩
      rcases o.scr x _ e with q | ⟨q, _⟩
      · exact .inl q
      · cases q
    · rename_i e
      refine ⟨idx_get h, ?_, d.1, d.2.1⟩
      rcases o.scr x _ e with q | ⟨q, _⟩
      · exact .inr (.inl q)
      · cases q
    · rename_i e
      refine ⟨idx_get h, ?_, d.1, d.2.1⟩
      rcases o.scr x _ e with q | ⟨_, q⟩
      · exact .inr (.inr q)
      · exact .inr (.inl q)
    · cases h
theorem Okx.slotW (o : Okx Γ N X g W sc) {x : Str} {i : Nat} (h : slotW N sc x = some i) : X.N[i]? = some x ∧ Loc X.env.scope x ∧ (X.fn x = true ∨ X.env.scope.names.lookup x = some .local) := by
  unfold L3.slotW at h
  rw [o.hN]
  split at h
  · rename_i e
    rcases o.scr x _ e with q | ⟨q, _⟩
    · exact ⟨idx_get h, .inl q, .inr q⟩
    · cases q
  · rename_i e
    rcases o.scr x _ e with q | ⟨q, _⟩
    · exact ⟨idx_get h, .inr q, .inl (o.fnc x e)⟩
    · cases q
  · cases h
theorem rel_free {scope sc : Scope} {x : Str} (e : scope.names.lookup x = some .free) : (relS scope sc).names.lookup x = some .free ∨ (NameKind.free = NameKind.free ∧ (relS scope sc).names.lookup x = some .cell) := by
  have aux : ∀ (l : List (Str × NameKind)), l.lookup x = some .free →
      (l.map fun (n, k) => if (k == NameKind.free && sc.kind == .function && sc.names.lookup n == some .cell) then (n, NameKind.cell) else (n, k)).lookup x = some .free ∨
      (l.map fun (n, k) => if (k == NameKind.free && sc.kind == .function && sc.names.lookup n == some .cell) then (n, NameKind.cell) else (n, k)).lookup x = some .cell := by
    intro l
    induction l with
    | nil => intro h; cases h
    | cons p r ih =>
      intro h
      obtain ⟨n, k⟩ := p
      simp only [List.map_cons]
      by_cases hc : (k == NameKind.free && sc.kind == .function && sc.names.lookup n == some .cell) = true
      · rw [if_pos hc]
        cases hx : x == n with
        | true => simp only [List.lookup_cons, hx]; simp
        | false => simp only [List.lookup_cons, hx] at h ⊢; exact ih h
      · rw [if_neg hc]
        cases hx : x == n with
        | true => simp only [List.lookup_cons, hx] at h ⊢; exact .inl h
        | false => simp only [List.lookup_cons, hx] at h ⊢; exact ih h
  exact (aux scope.names e).imp id fun h => ⟨rfl, h⟩
/-- a block's context -/
theorem Okx.blk (o : Okx Γ N X g W sc) (scope : Scope) (s : Shared) (H : Hp) (C : Addr) (cl : List (Str × Addr)) (fp : List Addr) : Okx Γ N (X.blk s H scope (compEnvC scope cl C X.env) fp) g W0 scope where
  hK := o.hK
  hN := o.hN
  nd := o.nd
  scr := fun x k e => by
    show (relS scope X.env.scope).names.lookup x = some k ∨ _
    by_cases hk : k = .free
    · subst hk
      show _ ∨ (_ ∧ (relS scope X.env.scope).names.lookup x = _)
      exact rel_free e
    · exact .inl (lookup_relS_keep hk e)
  fnc := fun x e => by
    show (scope.names.lookup x == some .cell) = true
    rw [e]; rfl
  hc := o.hc
  hu := o.hu
  dp := o.dp
  tk := takes0
  calls := o.calls
  free := o.free
  keyf := o.keyf
  lam := o.lam
  glo := o.glo
/-! targets -/
theorem Okx.tgt (o : Okx Γ N X g W sc) : (∀ {e : Expr} {t : Tg}, tgE N sc e = some t → PG X e (tgI g.K t) ∧ nst e = true) := by
  have hall : ∀ (es : List Expr) (ts : List Tg), tgEs N sc es = some ts → (∀ e ∈ es, ∀ t, tgE N sc e = some t → PG X e (tgI g.K t) ∧ nst e = true) → PGs X es (tgIs g.K ts) ∧ es.all nst = true ∧ ts.length = es.length := by
    intro es
    induction es with
    | nil => intro ts e _; unfold tgEs at e; cases e; exact ⟨l_gnil, rfl, rfl⟩
    | cons a es ih =>
      intro ts e h
      unfold tgEs at e
      obtain ⟨t, e1, e2⟩ := Option.bind_eq_some_iff.mp e
      obtain ⟨us, e3, e4⟩ := Option.bind_eq_some_iff.mp e2
      cases e4
      obtain ⟨p1, n1⟩ := h a List.mem_cons_self t e1
      obtain ⟨p2, n2, l2⟩ := ih us e3 fun x m => h x (List.mem_cons_of_mem _ m)
      exact ⟨l_gcons p1 p2 (asg_cons n1), by rw [List.all_cons, n1, n2]; rfl, congrArg (· + 1) l2⟩
  intro e
  -- by the size of the text
  suffices hs : ∀ (n : Nat) (e : Expr), sizeOf e ≤ n → ∀ t, tgE N sc e = some t → PG X e (tgI g.K t) ∧ nst e = true from fun {t} h => hs _ e (Nat.le_refl _) t h
  intro n
  induction n with
  | zero => intro e he; cases e <;> simp at he
  | succ n ih =>
    intro e he t h
    cases e with
    | Name x p =>
      unfold tgE at h
      obtain ⟨i, e1, e2⟩ := Option.map_eq_some_iff.mp h
      subst e2
      obtain ⟨h1, h2, h3⟩ := o.slotW e1
      exact ⟨l_gname (pg_name (by rw [o.hN]; exact o.nd) h1 h2 h3), rfl⟩
    | Tuple es k p =>
      unfold tgE at h
      obtain ⟨ts, e1, e2⟩ := Option.map_eq_some_iff.mp h
      subst e2
      obtain ⟨p1, n1, l1⟩ := hall es ts e1 fun x m u hu => ih x (by
        have := List.sizeOf_lt_of_mem m
        simp at he
        omega) u hu
      refine ⟨l_gtup o.hc l1 ?_, rfl⟩
      have := pg_tup (pos := p) (k := k) o.hc p1 asg_len (asg_find n1)
      rw [o.hK] at this
      exact this
    | _ => unfold tgE at h; cases h
/-! operators -/
theorem opB_nox {op : Operator} {f : D → D → Sr → R D} (e : opB op = some f) : ∀ x y s, NoX (f x y s) := by
  intro x y s c fs s' h
  cases op <;> simp only [opB] at e <;> cases e
  · unfold oAdd at h
    split at h <;> first | cases h | (split at h <;> cases h) | (split at h <;> first | (split at h <;> cases h) | cases h)
  · unfold oSub at h
    split at h <;> cases h
  · unfold oMul at h
    split at h <;> first | cases h | (split at h <;> cases h) | (split at h <;> first | (split at h <;> cases h) | cases h)
  · unfold oMod at h
    split at h <;> first | cases h | (split at h <;> cases h)
  · unfold oPow at h
    split at h <;> first | cases h | (split at h <;> cases h)
  · unfold oDiv at h
    split at h <;> first | cases h | (split at h <;> cases h)
theorem withPy_nox {s : Sr} {x y : D} {k : PyData → PyData → R D} (hk : ∀ p q, NoX (k p q)) : NoX (withPy s x y k) := by
  intro c fs s' h
  unfold withPy at h
  split at h
  · split at h
    · exact hk _ _ _ _ _ h
    · cases h
  · cases h
theorem opC_nox {op : CmpOp} {f : D → D → Sr → R D} (e : opC op = some f) : ∀ x y s, NoX (f x y s) := by
  intro x y s
  have hin : ∀ n, NoX (oIn n x y s) := by
    intro n c fs s' h
    unfold oIn at h
    split at h
    · cases h
    · split at h
      · split at h
        · split at h <;> cases h
        · cases h
      · split at h <;> cases h
  have his : ∀ n, NoX (oIs n x y s) := by
    intro n c fs s' h
    unfold oIs at h
    split at h
    · cases h
    · split at h <;> cases h
    · cases h
  have hi : ∀ k : Int → Int → Bool, NoX (oInt k x y s) := by
    intro k c fs s' h
    unfold oInt at h
    split at h <;> cases h
  cases op <;> simp only [opC] at e <;> cases e
  · unfold oEq; split
    · intro _ _ _ h; cases h
    · exact withPy_nox fun _ _ _ _ _ h => by cases h
  · unfold oNe; split
    · intro _ _ _ h; cases h
    · exact withPy_nox fun _ _ _ _ _ h => by cases h
  · exact hi _
  · exact hi _
  · exact hi _
  · exact hi _
  · exact his _
  · exact his _
  · exact hin _
  · exact hin _
theorem Okx.opB (o : Okx Γ N X g W sc) {op : Operator} {f : D → D → Sr → R D} (e : L3.opB op = some f) : OpR X (binaryOp op) (r2 g f) := by
  cases op <;> simp only [L3.opB] at e <;> cases e
  · exact o_add o.hK
  · exact o_sub o.hK
  · exact o_mul o.hK
  · exact o_mod o.hK
  · exact o_pow o.hK
  · exact o_div o.hK
theorem Okx.opC (o : Okx Γ N X g W sc) {op : CmpOp} {f : D → D → Sr → R D} (e : L3.opC op = some f) : OpR X (compareOp op) (r2 g f) := by
  have hu := o.hu
  cases op <;> simp only [L3.opC] at e <;> cases e
  · exact o_eq o.hK (by omega)
  · exact o_ne o.hK (by omega)
  · exact o_int o.hK op_lt
  · exact o_int o.hK op_le
  · exact o_int o.hK op_gt
  · exact o_int o.hK op_ge
  · exact o_is o.hK
  · exact o_isnot o.hK
  · exact o_in o.hK (by omega)
  · exact o_notin o.hK (by omega)
end
end L3

/-! L3ZC: new objects by calls and operators; get; tests -/
namespace L3
open PySem PySem.Spec PyProof.Rows L2
section
variable {X : Cx} {g : G} {W : WX} {pos : Pos}
/-- new, of the store -/
theorem l_newC {e : Expr} {f : F} (h : PE X e (tN g W f)) : PE X e (tI g W (eNew f)) := h.imp fun σ H Q ⟨ρ, s, env, hs, hl, hp⟩ => ⟨ρ, s, env, hs, hl, by
  unfold eNew at hp
  cases e : f env s with
  | exc c fs s' => rw [e] at hp; exact hp
  | bad => rw [e] at hp; exact hp
  | ok d s' =>
    rw [e] at hp
    intro r D H' o n
    obtain ⟨c, ec, rc⟩ := id n.rel
    have hp : Post g (RV g) ρ H _ Q (match toCell d with | some c => .ok (.ref s'.length) (s' ++ [c]) | none => .bad) := hp
    rw [ec] at hp
    obtain ⟨ρ', u, hs', hl', rd⟩ := n.put hs.xin ec
    exact hp ρ' H' _ u hs' rd⟩
/-- two values, then a new object -/
theorem fr2_serve {f : D → D → Sr → Option D} {fa fb : F} {ta tb : TE} {σ : L2.St} {H : Hp} {Q : VK} (ha : ∀ σ H Q, tI g W fa σ H Q → ta σ H Q) (hb : ∀ σ H Q, tI g W fb σ H Q → tb σ H Q) (h : tN g W (eFr2 f fa fb) σ H Q) {R : V → V → Hp → Prop}
    (k : ∀ ρ s x y u v d H2, Sto g ρ s H2 → RelD g.K ρ H2 x u → RelD g.K ρ H2 y v → f x y s = some d → (∀ p o, H2 p = none → NewR g ρ H2 d o → Q (.ref p) (upd H2 p o)) → R u v H2) : ta σ H fun u H1 => tb σ H1 fun v H2 => R u v H2 := by
  obtain ⟨ρ, s, env, hs, hl, hp⟩ := h
  refine ha _ _ _ ⟨ρ, s, env, hs, hl, (PostN.bind (Rel' := RV g) hp).imp fun u H1 ⟨ρ1, s1, x, u1, hs1, rx, p1⟩ => hb _ _ _ ⟨ρ1, s1, env, hs1, hl.up u1, (PostN.bind (Rel' := RV g) p1).imp fun v H2 ⟨ρ2, s2, y, u2, hs2, ry, p2⟩ => ?_⟩⟩
  cases e : f x y s2 with
  | none => rw [e] at p2; exact p2.elim
  | some d =>
    rw [e] at p2
    exact k ρ2 s2 x y u v d H2 hs2 (rx.up u2) ry e fun p o np r => p2 _ p _ o (New.fresh hs2 ((hl.up u1).up u2) np r)
theorem n_add {a b : Expr} {fa fb : F} (ha : PE X a (tI g W fa)) (hb : PE X b (tI g W fb)) : PE X (.BinOp a .Add b pos) (tN g W (eFr2 nAdd fa fb)) :=
  (pe_op op_cat ha hb).imp fun σ H Q h => fr2_serve (fun _ _ _ z => z) (fun _ _ _ z => z) h fun ρ s x y u v d H2 hs rx ry e q => by
    unfold nAdd at e
    split at e
    · rename_i l m e1 e2
      split at e
      · rename_i hz
        cases e
        obtain ⟨a1, xs, rfl, h1, r1⟩ := lst_of hs rx e1
        obtain ⟨b1, ys, rfl, h2, r2⟩ := lst_of hs ry e2
        exact ⟨_, _, _, _, rfl, rfl, h1, h2, by rw [← r1.len, ← r2.len]; exact hz, fun p np => q p _ np ⟨_, rfl, .lst (r1.app r2)⟩⟩
      · cases e
    · cases e
theorem RelDs.rep {K : PySem.W.Frag} {ρ : Rho} {H : Hp} {d : List D} {w : List V} (r : RelDs K ρ H d w) : ∀ n : Nat, RelDs K ρ H (List.replicate n d).flatten (List.replicate n w).flatten
  | 0 => .nil
  | n + 1 => by rw [List.replicate_succ, List.replicate_succ, List.flatten_cons, List.flatten_cons]; exact r.app (RelDs.rep r n)
theorem n_mul {a b : Expr} {fa fb : F} (ha : PE X a (tI g W fa)) (hb : PE X b (tI g W fb)) : PE X (.BinOp a .Mult b pos) (tN g W (eFr2 nMul fa fb)) :=
  (pe_op op_rep ha hb).imp fun σ H Q h => fr2_serve (fun _ _ _ z => z) (fun _ _ _ z => z) h fun ρ s x y u v d H2 hs rx ry e q => by
    unfold nMul at e
    split at e
    · split at e
      · rename_i k l e1
        split at e
        · rename_i c
          cases e
          obtain ⟨a1, xs, rfl, h1, r1⟩ := lst_of hs rx e1
          cases ry
          exact ⟨a1, _, xs, rfl, rfl, h1, c.1, c.2.1, by rw [← r1.len]; exact c.2.2, fun p np => q p _ np ⟨_, rfl, .lst (r1.rep _)⟩⟩
        · cases e
      · cases e
    · cases e
variable (hK : X.K = g.K)
include hK
theorem n_slice {e : Expr} {lo hi : Option Expr} {fe : F} {fl fh : Env' → Sr → R (Option Int)} {p2 : Pos} (he : PE X e (tI g W fe)) (hl : PO X lo (tO g W fl)) (hu : PO X hi (tO g W fh)) : PE X (.Subscript e (.Slice lo hi none p2) pos) (tN g W (eSliceN fe fl fh)) :=
  (pe_slice sl_list he hl hu).imp fun σ H Q ⟨ρ, s, env, hs, hl, hp⟩ => ⟨ρ, s, env, hs, hl, (PostN.bind (Rel' := RV g) hp).imp fun x H1 ⟨ρ1, s1, d, u1, hs1, rd, p1⟩ =>
    ⟨ρ1, s1, env, hs1, hl.up u1, (PostN.bind (Rel' := fun _ _ a b => a = b) p1).imp fun l H2 ⟨ρ2, s2, l', u2, hs2, el, p2⟩ => ⟨ρ2, s2, env, hs2, (hl.up u1).up u2, (PostN.bind (Rel' := fun _ _ a b => a = b) p2).imp fun h H3 ⟨ρ3, s3, h', u3, hs3, eh, p3⟩ => by
      obtain rfl : l' = l := el
      obtain rfl : h' = h := eh
      cases e : asL s3 d with
      | none => rw [e] at p3; exact p3.elim
      | some m =>
        rw [e] at p3
        obtain ⟨a1, xs, rfl, h1, r1⟩ := lst_of hs3 ((rd.up u2).up u3) e
        exact ⟨a1, xs, rfl, .inl (.inl h1), fun p np => p3 _ p _ _ (New.fresh hs3 (((hl.up u1).up u2).up u3) np ⟨_, rfl, .lst (r1.cut l' h')⟩)⟩⟩⟩⟩
theorem n_bn {b : Bn} {x : Str} {p : Pos} {e : Expr} {es : List Expr} {fa : FA} (hc : X.calm = true) (hu : X.A.units + 67 < cLine) (hb : Bn.of x = some b) (hg : Gl X x) (hm : X.mg x = none) (hn : x ≠ "__name__") (hdb : (x == ("__debug__" : Str)) = false) (ha : PA X (e :: es) (tA g W fa)) (hst : (e :: es).all nst = true) :
    PE X (.Call (.Name x p) (e :: es) [] pos) (tN g W (eFr b.f fa)) := by
  have he : starEach (e :: es) X.env = (false, eval e X.env) :: starEach es X.env := star_cons (by rw [List.all_cons, Bool.and_eq_true] at hst; exact hst.1)
  have hpl : (backTo pos (starEach es X.env)).any (·.1) = false := back_any (by rw [List.all_cons, Bool.and_eq_true] at hst; exact hst.2)
  unfold Bn.of at hb
  split at hb
  · rename_i ex; subst ex; cases hb
    exact (pe_callTy (c_list hK hc) hg hm (by kernel_rfl) ha hn hdb he hpl).imp fun σ H Q h => fr_serve (fun _ _ _ z => z) h
  · split at hb
    · rename_i ex; subst ex; cases hb
      exact (pe_callB (c_sorted hK hc (by omega)) hg hm (by kernel_rfl) ha hn hdb he hpl).imp fun σ H Q h => fr_serve (fun _ _ _ z => z) h
    · split at hb
      · rename_i ex; subst ex; cases hb
        exact (pe_callTy (c_dict hK hc (by omega)) hg hm (by kernel_rfl) ha hn hdb he hpl).imp fun σ H Q h => fr_serve (fun _ _ _ z => z) h
      · cases hb
theorem v_bv {b : Bv} {x : Str} {p : Pos} {e : Expr} {es : List Expr} {fa : FA} (hc : X.calm = true) (hu : X.A.units + 67 < cLine) (hb : Bv.of x = some b) (hg : Gl X x) (hm : X.mg x = none) (hn : x ≠ "__name__") (hdb : (x == ("__debug__" : Str)) = false) (ha : PA X (e :: es) (tA g W fa)) (hst : (e :: es).all nst = true) :
    PE X (.Call (.Name x p) (e :: es) [] pos) (tI g W (eCallV b.f fa)) := by
  have he : starEach (e :: es) X.env = (false, eval e X.env) :: starEach es X.env := star_cons (by rw [List.all_cons, Bool.and_eq_true] at hst; exact hst.1)
  have hpl : (backTo pos (starEach es X.env)).any (·.1) = false := back_any (by rw [List.all_cons, Bool.and_eq_true] at hst; exact hst.2)
  have nox : ∀ (b : Bv) ds s, NoX (b.f ds s) := by
    intro b ds s c fs s' h
    cases b <;> simp only [Bv.f] at h
    · unfold vLen at h
      split at h
      · split at h
        · cases h
        · split at h
          · cases h
          · split at h
            · cases h
            · split at h
              · split at h <;> cases h
              · cases h
      · cases h
    · unfold vAbs at h; split at h <;> cases h
    · unfold vMin at h; split at h <;> first | cases h | (split at h <;> cases h)
    · unfold vMax at h; split at h <;> first | cases h | (split at h <;> cases h)
    · unfold vSum at h; split at h <;> first | cases h | (split at h <;> cases h)
    · unfold vAny at h; split at h <;> first | cases h | (split at h <;> cases h)
    · unfold vAll at h; split at h <;> first | cases h | (split at h <;> cases h)
    · unfold vInt at h; split at h <;> first | cases h | (split at h <;> first | cases h | (split at h <;> cases h))
    · unfold vStr at h; split at h <;> first | cases h | (split at h <;> cases h)
    · unfold vTuple at h; split at h <;> first | cases h | (split at h <;> cases h)
  have fin : ∀ {r : List V → Hp → VK → Prop}, r = rN g b.f → PE X (.Call (.Name x p) (e :: es) [] pos) (tCB r (tA g W fa)) → PE X (.Call (.Name x p) (e :: es) [] pos) (tI g W (eCallV b.f fa)) := fun {r} er h => h.imp fun σ H Q ⟨ρ, s, env, hs, hl, hp⟩ => by
    subst er
    exact ⟨ρ, s, env, hs, hl, (hp.bind (Rel' := RVs g)).imp fun vs H1 ⟨ρ1, s1, ds, u1, hs1, rd, p1⟩ => ⟨ρ1, s1, ds, hs1, rd, p1.v (nox _ _ _)⟩⟩
  unfold Bv.of at hb
  split at hb
  · rename_i ex; subst ex; cases hb; exact fin rfl (pe_callB (b_len hK) hg hm (by kernel_rfl) ha hn hdb he hpl)
  split at hb
  · rename_i ex; subst ex; cases hb; exact fin rfl (pe_callB (b_min hK hc) hg hm (by kernel_rfl) ha hn hdb he hpl)
  split at hb
  · rename_i ex; subst ex; cases hb; exact fin rfl (pe_callB (b_max hK hc) hg hm (by kernel_rfl) ha hn hdb he hpl)
  split at hb
  · rename_i ex; subst ex; cases hb; exact fin rfl (pe_callTy (b_tuple hK) hg hm (by kernel_rfl) ha hn hdb he hpl)
  split at hb
  · rename_i ex; subst ex; cases hb; exact fin rfl (pe_callB (b_all hK hc) hg hm (by kernel_rfl) ha hn hdb he hpl)
  split at hb
  · rename_i ex; subst ex; cases hb; exact fin rfl (pe_callB (b_any hK hc) hg hm (by kernel_rfl) ha hn hdb he hpl)
  split at hb
  · rename_i ex; subst ex; cases hb; exact fin rfl (pe_callB (b_sum hK hc) hg hm (by kernel_rfl) ha hn hdb he hpl)
  split at hb
  · rename_i ex; subst ex; cases hb; exact fin rfl (pe_callTy b_int hg hm (by kernel_rfl) ha hn hdb he hpl)
  split at hb
  · rename_i ex; subst ex; cases hb; exact fin rfl (pe_callB b_abs hg hm (by kernel_rfl) ha hn hdb he hpl)
  split at hb
  · rename_i ex; subst ex; cases hb; exact fin rfl (pe_callTy b_str hg hm (by kernel_rfl) ha hn hdb he hpl)
  · cases hb
/-- d.get(k, x) -/
theorem l_get {o k d : Expr} {fo fk fd : F} {apos : Pos} (hu : X.A.units + 1 < cLine) (ho : PE X o (tI g W fo)) (hk : PE X k (tI g W fk)) (hd : PE X d (tI g W fd)) (hn : noSup o = true) (hst : [k, d].all nst = true) (hline : (apos.endLine == pos.line) = true) :
    PE X (.Call (.Attribute o "get" apos) [k, d] [] pos) (tI g W (eGet fo fk fd)) :=
  (pe_dget2 hu ho hk hd ⟨base_no hn, few_of hst (by show 2 < 30; decide), hline, by rw [star_all hst]; rfl⟩).imp fun σ H Q ⟨ρ, s, env, hs, hl, hp⟩ => ⟨ρ, s, env, hs, hl, hp.bind.imp fun x H1 ⟨ρ1, s1, od, u1, hs1, ro, p1⟩ => by
    split at p1
    · rename_i c
      obtain ⟨a, ea, isd⟩ : ∃ a, x = .ref a ∧ IsD H1 a := by
        rw [Bool.or_eq_true] at c
        rcases c with c | c
        · obtain ⟨l, el⟩ := Option.isSome_iff_exists.mp c
          obtain ⟨a, kvs, rfl, h, _⟩ := dk_at hs1 ro el
          exact ⟨a, rfl, .inl ⟨kvs, h⟩⟩
        · obtain ⟨l, el⟩ := Option.isSome_iff_exists.mp c
          obtain ⟨a, kvs, rfl, h, _⟩ := dt_at hs1 ro el
          exact ⟨a, rfl, .inr ⟨kvs, h⟩⟩
      subst ea
      refine ⟨a, rfl, isd, ρ1, s1, env, hs1, hl.up u1, p1.bind.imp fun y H2 ⟨ρ2, s2, kd, u2, hs2, rk, p2⟩ => ⟨ρ2, s2, env, hs2, (hl.up u1).up u2, p2.bind.imp fun z H3 ⟨ρ3, s3, dd, u3, hs3, rdd, p3⟩ => ?_⟩⟩
      cases e : dget s3 od kd with
      | none => rw [e] at p3; exact p3.elim
      | some r =>
        rw [e] at p3
        obtain ⟨a', w, ea, hg, hw⟩ := dget_at hs3 ((ro.up u2).up u3) (rk.up u3) e
        cases ea
        refine ⟨w, hg, p3 ρ3 H3 _ .refl hs3 ?_⟩
        cases r <;> cases w
        · exact rdd
        · exact hw.elim
        · exact hw.elim
        · exact hw
    · exact p1.elim⟩
omit hK in
theorem rgL_eq : ∀ (n : Nat) (lo : Int) {K : PySem.W.Frag} {ρ : Rho} {H : Hp}, RelDs K ρ H (rangeL lo n) ((List.range n).map fun i => V.int (lo + (i : Nat)))
  | 0, _, _, _, _ => .nil
  | n + 1, lo, K, ρ, H => by
    rw [List.range_succ_eq_map, List.map_cons, List.map_map]
    show RelDs K ρ H (.int lo :: rangeL (lo + 1) n) _
    refine .cons (by rw [Int.natCast_zero, Int.add_zero]; exact .int lo) ?_
    have e : ((fun i : Nat => V.int (lo + (i : Nat))) ∘ Nat.succ) = fun i : Nat => V.int (lo + 1 + (i : Nat)) := by
      funext i
      show V.int _ = V.int _
      congr 1
      rw [Nat.succ_eq_add_one, Int.natCast_add]
      omega
    rw [e]
    exact rgL_eq n (lo + 1)
end
end L3

/-! L3ZD: ranges as lists, chains and choices as tests -/
namespace L3
open PySem PySem.Spec PyProof.Rows L2
section
variable {X : Cx} {g : G} {W : WX} {pos : Pos}
theorem RgOk.of62 {a b : Int} (h1 : small62 a = true) (h2 : small62 b = true) (h3 : (b - a).toNat ≤ 16777216) : RgOk a b :=
  ⟨(small62_iff h1).1, (small62_iff h1).2, (small62_iff h2).1, (small62_iff h2).2, h3⟩
/-- what a range's arguments give, by the kit's own readings -/
theorem rg1 {a : Expr} {fa : F} {σ : L2.St} {H : Hp} {R : Int → Int → Hp → Prop} {E : XK} {ρ : Rho} {s : Sr} {env : Env'} (hs : Sto g ρ s H) (hl : Loc' g.K ρ H env σ)
    (k : Post g (RVs g) ρ H (fun c d H' => W c d σ H') (fun vs H1 => ∃ n, vs = [.int n] ∧ R 0 n H1) ((eCons fa eNil) env s)) : tRg1 (tI g W fa) σ H R := by
  refine ⟨ρ, s, env, hs, hl, ?_⟩
  unfold eCons eNil at k
  cases e : fa env s with
  | bad => rw [e] at k; exact k
  | exc c fs s1 => rw [e] at k; exact k
  | ok d s1 =>
    rw [e] at k
    intro ρ1 H1 v u hs1 r
    obtain ⟨n, en, q⟩ := k ρ1 H1 [v] u hs1 (.cons r .nil)
    exact ⟨n, by cases en; rfl, q⟩
theorem rg2 {fa fb : F} {σ : L2.St} {H : Hp} {R : Int → Int → Hp → Prop} {ρ : Rho} {s : Sr} {env : Env'} (hs : Sto g ρ s H) (hl : Loc' g.K ρ H env σ)
    (k : Post g (RVs g) ρ H (fun c d H' => W c d σ H') (fun vs H1 => ∃ i j, vs = [.int i, .int j] ∧ R i j H1) ((eCons fa (eCons fb eNil)) env s)) : tRg2 (tI g W fa) (tI g W fb) σ H R := by
  refine ⟨ρ, s, env, hs, hl, ?_⟩
  unfold eCons at k
  cases e : fa env s with
  | bad => rw [e] at k; exact k
  | exc c fs s1 => rw [e] at k; exact k
  | ok d s1 =>
    rw [e] at k
    intro ρ1 H1 v u hs1 r
    refine ⟨ρ1, s1, env, hs1, hl.up u, ?_⟩
    have k := Post.up u k
    have k : Post g (RVs g) ρ1 H1 _ (fun vs H1 => ∃ i j, vs = [.int i, .int j] ∧ R i j H1) (((fb env s1).bind fun d s => .ok [d] s).bind fun ds s => .ok (d :: ds) s) := k
    cases e2 : fb env s1 with
    | bad => rw [e2] at k; exact k
    | exc c fs s2 => rw [e2] at k; exact k
    | ok d2 s2 =>
      rw [e2] at k
      intro ρ2 H2 w u2 hs2 r2
      obtain ⟨i, j, en, q⟩ := k ρ2 H2 [v, w] u2 hs2 (.cons (r.up u2) (.cons r2 .nil))
      exact ⟨i, j, by cases en; rfl, by cases en; rfl, q⟩
theorem rgTup_ok1 {ds : List D} {l : List D} {ρ : Rho} {H : Hp} {vs : List V} (r : RelDs g.K ρ H ds vs) (e : rgTup 1 ds = some l) :
    ∃ b : Int, RgOk 0 b ∧ RelDs g.K ρ H l (rgV 0 b) ∧ l.length ≤ sizeLine ∧ vs = [.int b] := by
  unfold rgTup at e
  split at e
  · rename_i n _
    split at e
    · rename_i c
      rw [Bool.and_eq_true] at c
      cases e
      obtain ⟨v, rfl, rv⟩ := r.one
      cases rv
      have z : n.toNat ≤ 16777216 := by have := of_decide_eq_true c.2; omega
      refine ⟨n, RgOk.of62 rfl c.1 (by omega), ?_, by rw [rangeL_len, sizeLine_eq]; exact z, rfl⟩
      unfold rgV
      rw [Int.sub_zero]
      exact rgL_eq _ _
    · cases e
  · exfalso; omega
  · cases e
theorem rgTup_ok2 {ds : List D} {l : List D} {ρ : Rho} {H : Hp} {vs : List V} (r : RelDs g.K ρ H ds vs) (e : rgTup 2 ds = some l) :
    ∃ a b : Int, RgOk a b ∧ RelDs g.K ρ H l (rgV a b) ∧ l.length ≤ sizeLine ∧ vs = [.int a, .int b] := by
  unfold rgTup at e
  split at e
  · exfalso; omega
  · rename_i i j _
    split at e
    · rename_i c
      rw [Bool.and_eq_true, Bool.and_eq_true] at c
      cases e
      obtain ⟨v, w, rfl, rv, rw'⟩ := r.two
      cases rv; cases rw'
      exact ⟨i, j, RgOk.of62 c.1.1 c.1.2 (of_decide_eq_true c.2), rgL_eq _ _, by rw [rangeL_len, sizeLine_eq]; exact of_decide_eq_true c.2, rfl⟩
    · cases e
  · cases e
/-- range(a) or range(a, b), then a reading of the bounds -/
theorem rg_both {ras : List Expr} {fs : List F} {p : Pos} {y : Str} {P : Expr → TE → Prop} {tt : (L2.St → Hp → (Int → Int → Hp → Prop) → Prop) → TE} (hg : Gl X y) (hm : X.mg y = none) (hy : y = "range") (hpe : ∀ {te}, PRg X (.Call (.Name y p) ras [] pos) te → P (.Call (.Name y p) ras [] pos) (tt te))
    (h : Paired (fun e f => PE X e (tI g W f)) ras fs) (hst : ras.all nst = true) (h12 : ras.length = 1 ∨ ras.length = 2) :
    (∃ a fa, ras = [a] ∧ fs = [fa] ∧ P (.Call (.Name y p) ras [] pos) (tt (tRg1 (tI g W fa)))) ∨ ∃ a b fa fb, ras = [a, b] ∧ fs = [fa, fb] ∧ P (.Call (.Name y p) ras [] pos) (tt (tRg2 (tI g W fa) (tI g W fb))) := by
  subst hy
  cases h with
  | nil => simp at h12
  | @cons a fa ras fs h t =>
    cases t with
    | nil =>
      refine .inl ⟨a, fa, rfl, rfl, hpe (prg_1 hg hm h (star_cons ?_))⟩
      rw [List.all_cons, Bool.and_eq_true] at hst
      exact hst.1
    | @cons b fb ras fs h2 t =>
      cases t with
      | nil =>
        rw [List.all_cons, Bool.and_eq_true, List.all_cons, Bool.and_eq_true] at hst
        exact .inr ⟨a, b, fa, fb, rfl, rfl, hpe (prg_2 hg hm h h2 (star_cons hst.1) (star_cons hst.2.1) (back_any (by rw [List.all_cons, hst.2.1]; rfl)))⟩
      | cons _ _ => simp at h12
def asF : List F → FA
  | [] => eNil
  | f :: r => eCons f (asF r)
theorem l_rgT {ras : List Expr} {fs : List F} {p pc p2 : Pos} (hc : X.calm = true) (hg1 : Gl X "tuple") (hm1 : X.mg "tuple" = none) (hg : Gl X "range") (hm : X.mg "range" = none) (h : Paired (fun e f => PE X e (tI g W f)) ras fs) (hst : ras.all nst = true) (h12 : ras.length = 1 ∨ ras.length = 2) :
    PE X (.Call (.Name "tuple" pc) [.Call (.Name "range" p) ras [] p2] [] pos) (tI g W (eRgT ras.length (asF fs))) := by
  rcases rg_both (pos := p2) (p := p) (P := fun e t => PE X (.Call (.Name "tuple" pc) [e] [] pos) t) (tt := tTupRg) hg hm rfl (fun {te} h => pe_tupRg hc hg1 hm1 h rfl) h hst h12 with ⟨a, fa, rfl, rfl, q⟩ | ⟨a, b, fa, fb, rfl, rfl, q⟩
  · refine q.imp fun σ H Q ⟨ρ, s, env, hs, hl, hp⟩ => rg1 (E := fun _ _ _ => False) (a := a) hs hl ((hp.bind (Rel' := RVs g)).imp fun vs H1 ⟨ρ1, s1, ds, u1, hs1, rd, p1⟩ => ?_)
    have p1 : Post g (RV g) ρ1 H1 (fun c d H' => W c d σ H') Q (match rgTup 1 ds with | some l => .ok (.tup l) s1 | none => .bad) := p1
    cases e : rgTup 1 ds with
    | none => rw [e] at p1; exact p1.elim
    | some l =>
      rw [e] at p1
      obtain ⟨y, ok, rl, hz, rfl⟩ := rgTup_ok1 rd e
      exact ⟨y, rfl, ok, fun q nq => PostV.tup hs1 rl (p1.v (fun _ _ _ e => by cases e)) q nq⟩
  · refine q.imp fun σ H Q ⟨ρ, s, env, hs, hl, hp⟩ => rg2 hs hl ((hp.bind (Rel' := RVs g)).imp fun vs H1 ⟨ρ1, s1, ds, u1, hs1, rd, p1⟩ => ?_)
    have p1 : Post g (RV g) ρ1 H1 (fun c d H' => W c d σ H') Q (match rgTup 2 ds with | some l => .ok (.tup l) s1 | none => .bad) := p1
    cases e : rgTup 2 ds with
    | none => rw [e] at p1; exact p1.elim
    | some l =>
      rw [e] at p1
      obtain ⟨x, y, ok, rl, hz, rfl⟩ := rgTup_ok2 rd e
      exact ⟨x, y, rfl, ok, fun q nq => PostV.tup hs1 rl (p1.v (fun _ _ _ e => by cases e)) q nq⟩
theorem PostN.postE {ρ : Rho} {H : Hp} {env : Env'} {σ : L2.St} {Q : VK} {k : Nat} {fs : FA} {st : Sr} (p : PostN g W ρ H env σ Q (eRgL k fs env st)) (hs : Sto g ρ st H) (hl : Loc' g.K ρ H env σ) : Post g (RVs g) ρ H (fun c d H' => W c d σ H') (fun vs H1 => ∃ ρ1 s1 ds l, Sto g ρ1 s1 H1 ∧ RelDs g.K ρ1 H1 ds vs ∧ rgTup k ds = some l ∧ ∀ q o, H1 q = none → NewR g ρ1 H1 (.lst l) o → Q (.ref q) (upd H1 q o)) (fs env st) :=
  (PostN.bind (Rel' := RVs g) p).imp fun vs H1 ⟨ρ1, s1, ds, u1, hs1, rd, p1⟩ => by
    cases e : rgTup k ds with
    | none => rw [e] at p1; exact p1.elim
    | some l =>
      rw [e] at p1
      exact ⟨ρ1, s1, ds, l, hs1, rd, e, fun q o nq r => p1 _ q _ o (New.fresh hs1 (hl.up u1) nq r)⟩
theorem n_rgL {ras : List Expr} {fs : List F} {p pc p2 : Pos} (hc : X.calm = true) (hg1 : Gl X "list") (hm1 : X.mg "list" = none) (hg : Gl X "range") (hm : X.mg "range" = none) (h : Paired (fun e f => PE X e (tI g W f)) ras fs) (hst : ras.all nst = true) (h12 : ras.length = 1 ∨ ras.length = 2) :
    PE X (.Call (.Name "list" pc) [.Call (.Name "range" p) ras [] p2] [] pos) (tN g W (eRgL ras.length (asF fs))) := by
  rcases rg_both (pos := p2) (p := p) (P := fun e t => PE X (.Call (.Name "list" pc) [e] [] pos) t) (tt := tLstRg) hg hm rfl (fun {te} h => pe_listRg hc hg1 hm1 h rfl) h hst h12 with ⟨a, fa, rfl, rfl, q⟩ | ⟨a, b, fa, fb, rfl, rfl, q⟩
  · refine q.imp fun σ H Q ⟨ρ, s, env, hs, hl, hp⟩ => rg1 (E := fun _ _ _ => False) (a := a) hs hl ((PostN.postE (k := 1) hp hs hl).imp fun vs H1 ⟨ρ1, s1, ds, l, hs1, rd, e, q⟩ => ?_)
    obtain ⟨y, ok, rl, hz, rfl⟩ := rgTup_ok1 rd e
    exact ⟨y, rfl, ok, fun q' nq => q q' _ nq ⟨_, rfl, .lst rl⟩⟩
  · refine q.imp fun σ H Q ⟨ρ, s, env, hs, hl, hp⟩ => rg2 hs hl ((PostN.postE (k := 2) hp hs hl).imp fun vs H1 ⟨ρ1, s1, ds, l, hs1, rd, e, q⟩ => ?_)
    obtain ⟨x, y, ok, rl, hz, rfl⟩ := rgTup_ok2 rd e
    exact ⟨x, y, rfl, ok, fun q' nq => q q' _ nq ⟨_, rfl, .lst rl⟩⟩
/-! tests -/
theorem l_chainT {op op' : CmpOp} {a b c : Expr} {fa fb fc : F} {f f' : D → D → Sr → R D} (n : ∀ x y s, NoX (f x y s)) (n' : ∀ x y s, NoX (f' x y s)) (ho : OpR X (compareOp op) (r2 g f)) (ho' : OpR X (compareOp op') (r2 g f')) (ha : PE X a (tI g W fa)) (hb : PE X b (tI g W fb)) (hc : PE X c (tI g W fc)) (hm : lastMarks [op, op'] [b, c] = false) :
    PT X (.Compare a [op, op'] [b, c] pos) (tT g W (eB (eChain f f' fa fb fc))) :=
  (pt_chain ho ho' ha hb hc hm).imp fun σ H Q ⟨ρ, s, env, hs, hl, hp⟩ => by
    have e : eB (eChain f f' fa fb fc) env s = (fa env s).bind fun x s => (fb env s).bind fun y s => (f x y s).bind fun z s => (asB z s).bind fun k s => (if k then (fc env s).bind fun w s => f' y w s else .ok (.bl false) s).bind asB := by
      unfold eB eChain
      cases fa env s with
      | ok d s1 =>
        simp only [bind_ok]
        cases fb env s1 with
        | ok d2 s2 =>
          simp only [bind_ok]
          cases f d d2 s2 with
          | ok z s3 => simp only [bind_ok]; cases asB z s3 <;> rfl
          | exc _ _ _ => rfl
          | bad => rfl
        | exc _ _ _ => rfl
        | bad => rfl
      | exc _ _ _ => rfl
      | bad => rfl
    rw [e] at hp
    refine ⟨ρ, s, env, hs, hl, hp.bind.imp fun x H1 ⟨ρ1, s1, d, u1, hs1, rd, p1⟩ => ⟨ρ1, s1, env, hs1, hl.up u1, p1.bind.imp fun y H2 ⟨ρ2, s2, e, u2, hs2, re, p2⟩ => ⟨ρ2, s2, d, e, hs2, rd.up u2, re, (Post.v (n _ _ _) (p2.bind (Rel' := RV g))).imp fun z H3 ⟨ρ3, s3, k, u3, hs3, rk, p3⟩ => ?_⟩⟩⟩
    obtain ⟨k, rfl, rfl, p4⟩ := asB_bl rk p3
    refine ⟨k, rfl, ?_⟩
    cases k with
    | true =>
      have p4 : Post g RB ρ3 H3 (fun c d H' => W c d σ H') Q (((fc env s3).bind fun w s => f' e w s).bind asB) := p4
      have e4 : (((fc env s3).bind fun w s => f' e w s).bind asB) = (fc env s3).bind fun w s => (f' e w s).bind asB := by
        cases fc env s3 <;> rfl
      rw [e4] at p4
      exact ⟨ρ3, s3, env, hs3, ((hl.up u1).up u2).up u3, p4.bind.imp fun w H4 ⟨ρ4, s4, e4, u4, hs4, re4, p5⟩ => ⟨ρ4, s4, e, e4, hs4, (re.up u3).up u4, re4, (Post.v (n' _ _ _) (p5.bind (Rel' := RV g))).imp fun z H5 ⟨ρ5, s5, c5, u5, hs5, rc, p6⟩ => by
        cases rc with
        | bl c5 => exact ⟨c5, rfl, p6 ρ5 H5 _ .refl hs5 rfl⟩
        | _ => exact p6.elim⟩⟩
    | false => exact ⟨false, rfl, p4 ρ3 H3 _ .refl hs3 rfl⟩
theorem l_ifT {c a b : Expr} {fc fa fb : FB} (hc : PT X c (tT g W fc)) (ha : PT X a (tT g W fa)) (hb : PT X b (tT g W fb)) : PT X (.IfExp c a b pos) (tT g W (bIf fc fa fb)) := by
  refine ⟨fun pins s σ H Q I ⟨ρ, st, env, hs, hl, hp⟩ => ?_⟩
  show wpAny (model X.prog X.w) X.A (do if ← isTrue c X.env (eval c X.env) then isTrue a X.env (eval a X.env) else isTrue b X.env (eval b X.env)) _ _ _
  refine wpAny_bind (wpAny_mono (hc.run pins s σ H _ I ⟨ρ, st, env, hs, hl, hp.bind (Rel' := RB)⟩) (fun k s1 h1 => ?_) fun _ _ x => x)
  obtain ⟨H1, I1, ρ1, s1', k', u1, hs1, rc, p1⟩ := h1
  obtain rfl : k' = k := rc
  cases k' with
  | true => exact ha.run pins s1 σ H1 Q I1 ⟨ρ1, s1', env, hs1, hl.up u1, p1⟩
  | false => exact hb.run pins s1 σ H1 Q I1 ⟨ρ1, s1', env, hs1, hl.up u1, p1⟩
end
end L3

/-! L3ZE: the interpreter is sound: one step -/
namespace L3
open PySem PySem.Spec PyProof.Rows L2

structure EvOk (Γ : Cf) (N : List Str) (v : Ev) : Prop where
  e : ∀ {X : Cx} {g : G} {W : WX} {sc : Scope}, Okx Γ N X g W sc → ∀ ex, PE X ex (tI g W (v.e sc ex))
  n : ∀ {X : Cx} {g : G} {W : WX} {sc : Scope}, Okx Γ N X g W sc → ∀ ex, PE X ex (tN g W (v.n sc ex))
  t : ∀ {X : Cx} {g : G} {W : WX} {sc : Scope}, Okx Γ N X g W sc → ∀ ex, PT X ex (tT g W (v.t sc ex))
  i : ∀ {X : Cx} {g : G} {W : WX} {sc : Scope}, Okx Γ N X g W sc → ∀ tg ex, PI X tg ex (iI g W (v.i sc (isTup tg) ex))
section
variable {X : Cx} {g : G} {W : WX}
theorem e_bad {ex : Expr} : PE X ex (tI g W badF) := ⟨fun _ _ _ _ _ _ ⟨_, _, _, _, _, hp⟩ => hp.elim⟩
theorem n_bad {ex : Expr} : PE X ex (tN g W badF) := ⟨fun _ _ _ _ _ _ ⟨_, _, _, _, _, hp⟩ => hp.elim⟩
theorem t_bad {ex : Expr} : PT X ex (tT g W badB) := ⟨fun _ _ _ _ _ _ ⟨_, _, _, _, _, hp⟩ => hp.elim⟩
theorem i_bad {tg ex : Expr} : PI X tg ex (iI g W badI) := ⟨fun _ _ _ _ _ _ ⟨_, _, _, _, _, hp⟩ => hp.elim⟩
theorem EvOk.bad {Γ : Cf} {N : List Str} : EvOk Γ N Ev.bad := ⟨fun _ _ => e_bad, fun _ _ => n_bad, fun _ _ => t_bad, fun _ _ _ => i_bad⟩
end
section
variable {Γ : Cf} {N : List Str} {v : Ev} {X : Cx} {g : G} {W : WX} {sc : Scope}
theorem EvOk.as (k : EvOk Γ N v) (o : Okx Γ N X g W sc) : ∀ {es : List Expr}, es.all nst = true → PA X es (tA g W (v.as sc es))
  | [], _ => l_nil
  | e :: es, h => by
    rw [List.all_cons, Bool.and_eq_true] at h
    exact l_cons (k.e o e) (k.as o h.2) (star_cons h.1)
theorem as_asF : ∀ {es : List Expr}, v.as sc es = asF (es.map (v.e sc))
  | [] => rfl
  | e :: es => by
    show eCons (v.e sc e) (v.as sc es) = eCons (v.e sc e) (asF (es.map (v.e sc)))
    rw [as_asF]
theorem EvOk.pairs (k : EvOk Γ N v) (o : Okx Γ N X g W sc) : ∀ {es : List Expr}, Paired (fun e f => PE X e (tI g W f)) es (es.map (v.e sc))
  | [] => .nil
  | e :: es => .cons (k.e o e) (k.pairs o)
theorem EvOk.pps (k : EvOk Γ N v) (o : Okx Γ N X g W sc) {pos : Pos} : ∀ {ks : List (Option Expr)} {xs : List Expr} {ps : List (F × F)}, evPairsE v sc ks xs = some ps → PPs X pos ks xs (ps.map fun p => (tI g W p.1, tI g W p.2)) ∧ ks.all (·.isSome) = true ∧ ks.length = xs.length
  | [], [], _, e => by cases e; exact ⟨pps_nil, rfl, rfl⟩
  | some a :: ks, x :: xs, ps, e => by
    unfold evPairsE at e
    obtain ⟨qs, e1, e2⟩ := Option.map_eq_some_iff.mp e
    subst e2
    obtain ⟨h1, h2, h3⟩ := k.pps o (pos := pos) e1
    exact ⟨pps_cons (k.e o a) (k.e o x) h1, by rw [List.all_cons, h2]; rfl, congrArg (· + 1) h3⟩
  | none :: _, _, _, e => by unfold evPairsE at e; cases e
  | some _ :: _, [], _, e => by unfold evPairsE at e; cases e
  | [], _ :: _, _, e => by unfold evPairsE at e; cases e
theorem blkB_ok {N : List Str} {sc scope : Scope} (h : blkB N sc scope = true) (esc : ∀ y k, sc.names.lookup y = some k → X.env.scope.names.lookup y = some k ∨ (k = .free ∧ X.env.scope.names.lookup y = some .cell)) : BlkOk N X.env.scope scope (ownOf N scope) := by
  unfold blkB at h
  rw [Bool.and_eq_true, Bool.and_eq_true] at h
  obtain ⟨⟨h1, h2⟩, h3⟩ := h
  refine ⟨of_decide_eq_true h1, fun y m => of_decide_eq_true (List.all_eq_true.mp h2 y m), fun p m => ?_, fun y m e => ?_, fun y m e => ?_⟩
  · unfold ownOf at m
    obtain ⟨q, _, e⟩ := List.mem_filterMap.mp m
    unfold ownOne at e
    split at e
    · obtain ⟨i, e1, e2⟩ := Option.map_eq_some_iff.mp e
      subst e2
      exact idx_get e1
    · obtain ⟨i, e1, e2⟩ := Option.map_eq_some_iff.mp e
      subst e2
      exact idx_get e1
    · cases e
  · have q := List.all_eq_true.mp h3 y m
    rw [e] at q
    simp only [Bool.or_eq_true] at q
    rcases q with q | q
    · rcases esc _ _ (of_decide_eq_true q) with z | ⟨z, _⟩
      · exact .inl z
      · cases z
    · rcases esc _ _ (of_decide_eq_true q) with z | ⟨_, z⟩
      · exact .inr z
      · exact .inl z
  · have key : ∀ {k : NameKind}, y.2 = k → (k = .local ∨ k = .cell) → y.1 ∈ (ownOf N scope).map (·.1) ∨ y.1 ∉ N := by
      intro k ek hk
      cases ei : idx y.1 N with
      | some i =>
        refine .inl (List.mem_map.mpr ⟨(y.1, i), List.mem_filterMap.mpr ⟨y, m, ?_⟩, rfl⟩)
        unfold ownOne
        rcases hk with rfl | rfl <;> rw [ek] <;> simp only [ei] <;> rfl
      | none =>
        refine .inr fun hm => ?_
        have aux : ∀ (l : List Str), y.1 ∈ l → idx y.1 l ≠ none := by
          intro l
          induction l with
          | nil => intro h; cases h
          | cons z r ih =>
            intro h e
            unfold idx at e
            by_cases hz : y.1 = z
            · rw [if_pos hz] at e; cases e
            · rw [if_neg hz] at e
              rcases List.mem_cons.mp h with q | q
              · exact hz q
              · have := ih q
                cases er : idx y.1 r with
                | none => exact this er
                | some j => rw [er] at e; cases e
        exact aux N hm ei
    exact key rfl e
/-- a comprehension's clause -/
theorem EvOk.clause (k : EvOk Γ N v) (o : Okx Γ N X g W sc) {scope : Scope} {c : Comprehension} {cl : Cl} (h : clause N v sc scope c = some cl) :
    c.is_async = 0 ∧ LcOk X g scope (ownOf N scope) c.target c.iter c.ifs W cl.src cl.tg cl.tst ∧ cl.vs = (ownOf N scope).map (·.2) := by
  unfold L3.clause at h
  split at h
  · rename_i c1
    rw [Bool.and_eq_true, Bool.and_eq_true] at c1
    obtain ⟨⟨ha, hb⟩, hs⟩ := c1
    obtain ⟨t, et, h2⟩ := Option.bind_eq_some_iff.mp h
    split at h2
    · rename_i tw
      obtain ⟨tt, ett, h3⟩ := Option.map_eq_some_iff.mp h2
      subst h3
      refine ⟨of_decide_eq_true ha, ⟨o.hc, by rw [o.hN]; exact o.nd, k.i o c.target c.iter, by rw [o.hN]; exact blkB_ok hb o.scr, fun s H C cl fp => ((o.blk scope s H C cl fp).tgt et).1, fun s H C cl fp => ?_, fold_no (by simpa using hs), tw⟩, rfl⟩
      split at ett
      · rename_i ei
        cases ett
        rw [ei]
        exact l_pts_nil
      · rename_i x ei
        cases ett
        rw [ei]
        exact l_pts_one (k.t (o.blk scope s H C cl fp) x)
      · cases ett
    · cases h2
  · cases h
theorem EvOk.clause2 (k : EvOk Γ N v) (o : Okx Γ N X g W sc) {scope : Scope} {c : Comprehension} {cl : Cl} (h : clause2 N v scope c = some cl) :
    c.is_async = 0 ∧ LcOk2 X g scope (ownOf N scope) c.target c.iter c.ifs cl.src cl.vs cl.tg cl.tst := by
  unfold L3.clause2 at h
  split at h
  · rename_i c1
    rw [Bool.and_eq_true] at c1
    obtain ⟨ha, hs⟩ := c1
    obtain ⟨t, et, h2⟩ := Option.bind_eq_some_iff.mp h
    split at h2
    · rename_i tw
      rw [Bool.and_eq_true] at tw
      obtain ⟨tt, ett, h3⟩ := Option.map_eq_some_iff.mp h2
      subst h3
      refine ⟨of_decide_eq_true ha, ⟨fun i m => by have := List.all_eq_true.mp tw.2 i m; simpa using this, fun s H C cl fp => k.i (o.blk scope s H C cl fp) c.target c.iter, fun s H C cl fp => ((o.blk scope s H C cl fp).tgt et).1, fun s H C cl fp => ?_, fun env => fold_no (by simpa using hs), tw.1⟩⟩
      split at ett
      · rename_i ei
        cases ett
        rw [ei]
        exact l_pts_nil
      · rename_i x ei
        cases ett
        rw [ei]
        exact l_pts_one (k.t (o.blk scope s H C cl fp) x)
      · cases ett
    · cases h2
  · cases h
theorem range_args {es ras : List Expr} (h : rangeArgs Γ sc es = some ras) : ∃ p p2, es = [.Call (.Name "range" p) ras [] p2] ∧ isGlo sc "range" = true ∧ Γ.free "range" = true ∧ ras.all nst = true ∧ (ras.length = 1 ∨ ras.length = 2) := by
  unfold rangeArgs at h
  split at h
  · rename_i y p ras' p2
    split at h
    · rename_i c
      cases h
      simp only [Bool.and_eq_true] at c
      obtain ⟨⟨⟨⟨c1, c2⟩, c3⟩, c4⟩, c5⟩ := c
      have e := of_decide_eq_true c1
      subst e
      exact ⟨p, p2, rfl, c2, c3, c4, of_decide_eq_true c5⟩
    · cases h
  · cases h
theorem zip_args {es zas : List Expr} (h : zipArgs Γ sc es = some zas) : ∃ a b p p2, es = [.Call (.Name "zip" p) [a, b] [] p2] ∧ zas = [a, b] ∧ isGlo sc "zip" = true ∧ Γ.free "zip" = true ∧ [a, b].all nst = true := by
  unfold zipArgs at h
  split at h
  · rename_i y p a b p2
    split at h
    · rename_i c
      cases h
      simp only [Bool.and_eq_true] at c
      obtain ⟨⟨⟨⟨c1, c2⟩, c3⟩, c4⟩, c5⟩ := c
      have e := of_decide_eq_true c1
      subst e
      exact ⟨a, b, p, p2, rfl, rfl, c2, c3, by rw [List.all_cons, c4, List.all_cons, c5]; rfl⟩
    · cases h
  · cases h
theorem EvOk.part (k : EvOk Γ N v) (o : Okx Γ N X g W sc) : ∀ (x : Option Expr), PO X x (tO g W (partF v sc x))
  | none => l_pnone
  | some e => l_psome (k.e o e)
theorem par1_of {a : Arguments} {x : Str} (h : par1 a = some x) : ∃ p, a = ⟨[], [⟨x, none, p⟩], none, [], [], none, []⟩ := by
  unfold par1 at h
  split at h
  · cases h; exact ⟨_, rfl⟩
  · cases h
theorem Okx.key (o : Okx Γ N X g W sc) {kv : Expr} {chk : Sr → Bool} (hl : Γ.free "len" = true) (h : keyChk Γ sc kv = some chk) : MkKey X g chk kv := by
  unfold keyChk at h
  split at h
  · rename_i y p
    split at h
    · rename_i c
      rw [Bool.and_eq_true] at c
      cases h
      obtain ⟨g1, g2, g3⟩ := o.glob c.1
      exact mk_def o.dp g1 g2 (o.free _ hl) (o.keyf _ c.2)
    · cases h
  · rename_i params body scope p
    split at h
    · rename_i i q x el ep
      split at h
      · rename_i c
        simp only [Bool.and_eq_true] at c
        obtain ⟨⟨⟨c0, c1⟩, c2⟩, c3⟩ := c
        cases h
        have e0 := of_decide_eq_true c0
        subst e0
        obtain ⟨h1, cc, h2, h3⟩ := o.lam _ _ el
        obtain ⟨pp, rfl⟩ := par1_of ep
        exact mk_lam h1 h3 h2 rfl c3 o.dp (fun qq cl pm cv ctv v => rfl) (of_decide_eq_true c1) c2 (o.free _ hl)
      · cases h
    · cases h
  · cases h
/-- new objects -/
theorem EvOk.stepN (k : EvOk Γ N v) (o : Okx Γ N X g W sc) (ex : Expr) : PE X ex (tN g W (stepN Γ N v sc ex)) := by
  have hu := o.hu
  unfold L3.stepN
  split
  · rename_i es p
    split
    · rename_i hst
      exact n_lst (k.as o hst)
    · exact n_bad
  · rename_i p
    split
    · exact n_dt
    · exact n_dk
  · rename_i ks xs p hne
    split
    · rename_i ps eps
      split
      · rename_i hz
        obtain ⟨h1, h2, h3⟩ := k.pps o (pos := p) eps
        have h4 : ks ≠ [] := fun e => by
          subst e
          cases xs with
          | nil => exact hne rfl rfl
          | cons _ _ => cases h3
        split
        · exact n_disp dkT_okD (by omega) h1 h2 h3 h4 hz
        · exact n_disp dkK_okD (by omega) h1 h2 h3 h4 hz
      · exact n_bad
    · exact n_bad
  · rename_i elt c scope p
    split
    · rename_i cl ecl
      obtain ⟨ha, hl, hv⟩ := k.clause o ecl
      obtain ⟨tg, it, ifs, as⟩ := c
      simp only at ha
      subst ha
      rw [hv]
      exact n_lc hl fun s H C cl fp => k.e (o.blk scope s H C cl fp) elt
    · exact n_bad
  · rename_i elt c c1 scope p
    split
    · rename_i cl cl1 ecl ecl1
      obtain ⟨ha, hl, hv⟩ := k.clause o ecl
      obtain ⟨ha1, hl1⟩ := k.clause2 o ecl1
      obtain ⟨tg, it, ifs, as⟩ := c
      obtain ⟨tg1, it1, ifs1, as1⟩ := c1
      simp only at ha ha1
      subst ha ha1
      rw [hv]
      exact n_lc2 hl hl1 fun s H C cl fp => k.e (o.blk scope s H C cl fp) elt
    · exact n_bad
  · rename_i kx vx c scope p
    split
    · rename_i cl ecl
      obtain ⟨ha, hl, hv⟩ := k.clause o ecl
      obtain ⟨tg, it, ifs, as⟩ := c
      simp only at ha
      subst ha
      rw [hv]
      split
      · exact n_dc dkT_ok (by omega) hl (fun s H C cl fp => k.e (o.blk scope s H C cl fp) kx) fun s H C cl fp => k.e (o.blk scope s H C cl fp) vx
      · exact n_dc dkK_ok (by omega) hl (fun s H C cl fp => k.e (o.blk scope s H C cl fp) kx) fun s H C cl fp => k.e (o.blk scope s H C cl fp) vx
    · exact n_bad
  · rename_i x px e es p
    split
    · rename_i c
      rw [Bool.and_eq_true, Bool.and_eq_true] at c
      obtain ⟨⟨c1, c2⟩, c3⟩ := c
      obtain ⟨g1, g2, g3⟩ := o.glob c1
      split
      · rename_i ras er
        split at er
        · rename_i ex
          subst ex
          obtain ⟨p1, p2, ee, r1, r2, r3, r4⟩ := range_args er
          rw [ee, as_asF]
          exact n_rgL o.hc g1 (o.free _ c2) (o.glob r1).1 (o.free _ r2) (k.pairs o) r3 r4
        · cases er
      · split
        · rename_i zas er
          split at er
          · rename_i ex
            subst ex
            obtain ⟨za, zb, p1, p2, ee, ez, r1, r2, r3⟩ := zip_args er
            rw [ee, ez]
            exact n_zipL o.hc g1 (o.free _ c2) (o.glob r1).1 (o.free _ r2) (k.as o r3) r3
          · cases er
        split
        · rename_i b eb
          exact n_bn o.hK o.hc o.hu eb g1 (o.free _ c2) g3 g2 (k.as o c3) c3
        · exact n_bad
    · exact n_bad
  · rename_i x px e kk kv kp p
    split
    · rename_i c
      simp only [Bool.and_eq_true] at c
      obtain ⟨⟨⟨⟨⟨c1, c2⟩, c3⟩, c4⟩, c5⟩, c6⟩ := c
      have e1 := of_decide_eq_true c1
      have e2 := of_decide_eq_true c2
      subst e1 e2
      split
      · rename_i chk ec
        exact n_sortK o.hK o.hu (o.glob c3).1 (o.free _ c4) (k.e o e) c6 (o.key c5 ec)
      · exact n_bad
    · exact n_bad
  · exact n_add (k.e o _) (k.e o _)
  · exact n_mul (k.e o _) (k.e o _)
  · exact n_slice o.hK (k.e o _) (k.part o _) (k.part o _)
  · exact n_bad
end
end L3

/-! L3ZF: the interpreter is sound: values -/
namespace L3
open PySem PySem.Spec PyProof.Rows L2
section
variable {Γ : Cf} {N : List Str} {v : Ev} {X : Cx} {g : G} {W : WX} {sc : Scope}
theorem EvOk.at (k : EvOk Γ N v) (o : Okx Γ N X g W sc) {b : Bool} {ex : Expr} : PE X ex (tI g W (if b then eNew (L3.stepN Γ N v sc ex) else L3.stepN Γ N v sc ex)) := by
  cases b with
  | true => exact l_newC (k.stepN o ex)
  | false => exact l_new (k.stepN o ex)
theorem Okx.ty (o : Okx Γ N X g W sc) {e : Expr} {t : Ty} (h : tyE Γ sc e = some t) : t ≠ .non ∧ PE X e (tC (.ty t.name)) ∧ (∃ x p, e = .Name x p) ∧ nst e = true := by
  unfold tyE at h
  split at h
  · rename_i x p
    split at h
    · rename_i c
      rw [Bool.and_eq_true] at c
      obtain ⟨g1, g2, g3⟩ := o.glob c.1
      have m := o.free _ c.2
      have key : ∀ {u : Value}, bootBuiltins x = some u → u = .type t.name → PE X (.Name x p) (tC (.ty t.name)) := fun hb hu => pe_bltn g1 m hb hu g3 g2
      refine ⟨?_, ?_, ⟨x, p, rfl⟩, rfl⟩
      · unfold tyNamed at h
        intro e
        subst e
        repeat' split at h
        all_goals cases h
      · unfold tyNamed at h
        split at h
        · rename_i e; subst e; cases h; exact key (u := .type "int") (by kernel_rfl) rfl
        · split at h
          · rename_i e; subst e; cases h; exact key (u := .type "bool") (by kernel_rfl) rfl
          · split at h
            · rename_i e; subst e; cases h; exact key (u := .type "tuple") (by kernel_rfl) rfl
            · split at h
              · rename_i e; subst e; cases h; exact key (u := .type "str") (by kernel_rfl) rfl
              · split at h
                · rename_i e; subst e; cases h; exact key (u := .type "list") (by kernel_rfl) rfl
                · split at h
                  · rename_i e; subst e; cases h; exact key (u := .type "dict") (by kernel_rfl) rfl
                  · cases h
    · cases h
  · cases h
theorem Okx.tys (o : Okx Γ N X g W sc) : ∀ {es : List Expr} {ts : List Ty}, tysE Γ sc es = some ts → (∀ t ∈ ts, t ≠ .non) ∧ Paired (fun e b => PE X e (tC (.ty b.name)) ∧ ∃ x p, e = .Name x p) es ts
  | [], _, h => by
    cases h
    refine ⟨fun t m => ?_, Paired.nil⟩
    cases m
  | e :: es, _, h => by
    unfold tysE at h
    obtain ⟨t, e1, e2⟩ := Option.bind_eq_some_iff.mp h
    obtain ⟨us, e3, e4⟩ := Option.bind_eq_some_iff.mp e2
    cases e4
    obtain ⟨h1, h2, h3, _⟩ := o.ty e1
    obtain ⟨q1, q2⟩ := o.tys e3
    exact ⟨fun u m => by rcases List.mem_cons.mp m with rfl | m; exact h1; exact q1 u m, .cons ⟨h2, h3⟩ q2⟩
theorem EvOk.callE (k : EvOk Γ N v) (o : Okx Γ N X g W sc) (x : Str) (es : List Expr) (px p : Pos) : PE X (.Call (.Name x px) es [] p) (tI g W (callE Γ N v sc (.Call (.Name x px) es [] p) x es p)) := by
  unfold L3.callE
  split
  · rename_i c
    rw [Bool.and_eq_true] at c
    obtain ⟨g1, g2, g3⟩ := o.glob c.1
    split
    · rename_i n f ec
      split
      · rename_i e es
        obtain ⟨a, fd, ps, kk, h1, h2, h3, h4, h5⟩ := o.calls _ _ _ ec
        have hs := c.2
        rw [List.all_cons, Bool.and_eq_true] at hs
        exact l_call o.tk h3 h4 g1 h1 h2 h5 (k.as o c.2) g2 (star_cons hs.1) (back_any hs.2)
      · exact e_bad
    · split
      · rename_i fr
        split
        · rename_i ras er
          split at er
          · rename_i exx
            subst exx
            obtain ⟨p1, p2, ee, r1, r2, r3, r4⟩ := range_args er
            subst ee
            rw [as_asF]
            exact l_rgT o.hc g1 (o.free _ fr) (o.glob r1).1 (o.free _ r2) (k.pairs o) r3 r4
          · cases er
        · split
          · split
            · rename_i b eb
              exact v_bv o.hK o.hc o.hu eb g1 (o.free _ fr) g3 g2 (k.as o c.2) c.2
            · exact k.at o
          · exact e_bad
      · exact e_bad
  · exact e_bad
theorem EvOk.meth (k : EvOk Γ N v) (o : Okx Γ N X g W sc) {q : Expr} {m : Str} {ap p : Pos} {es : List Expr} {f : Mt} (em : Mt.of m = some f) (hq : noSup q = true) (hl : (ap.endLine == p.line) = true) (hst : es.all nst = true) (hz : es.length < 29) : PE X (.Call (.Attribute q m ap) es [] p) (tI g W (eMeth isLst f.f (v.e sc q) (v.as sc es))) := by
  have hu := o.hu
  have key : ∀ {id : String}, Slot "list" m id → typeOf (.builtin id) = pure (.type "method_descriptor") → MtR X id (rM g f.f) → PE X (.Call (.Attribute q m ap) es [] p) (tI g W (eMeth isLst f.f (v.e sc q) (v.as sc es))) := by
    intro id sl ht hm
    cases es with
    | nil => exact l_meth0 (fun hs r e => ty_lst o.hK hs r e) PySem.F.plainAttrs_list sl ht hm (k.e o q) (base_no hq) hl
    | cons e es =>
      have hst' := hst
      rw [List.all_cons, Bool.and_eq_true] at hst'
      exact l_meth (fun hs r e => ty_lst o.hK hs r e) PySem.F.plainAttrs_list sl ht hm (k.e o q) (k.as o hst) (base_no hq) (few_of hst (by omega)) hl (star_cons hst'.1) (back_any hst'.2)
  unfold Mt.of at em
  split at em
  · rename_i e; subst e; cases em; exact key PySem.F.slot_list_append PySem.F.type_list_append m_append
  · split at em
    · rename_i e; subst e; cases em; exact key PySem.F.slot_list_extend PySem.F.type_list_extend m_extend
    · split at em
      · rename_i e; subst e; cases em; exact key PySem.F.slot_list_pop PySem.F.type_list_pop m_pop
      · split at em
        · rename_i e; subst e; cases em; exact key PySem.F.slot_list_insert PySem.F.type_list_insert m_insert
        · split at em
          · rename_i e; subst e; cases em; exact key PySem.F.slot_list_count PySem.F.type_list_count (m_count o.hK)
          · split at em
            · rename_i e; subst e; cases em; exact key PySem.F.slot_list_index PySem.F.type_list_index (m_index o.hK (by omega))
            · cases em
theorem neg_nox : ∀ x s, NoX (oNeg x s) := by
  intro x s c fs s' h
  unfold oNeg at h
  split at h <;> first | cases h | (split at h <;> cases h)
theorem last_no {op op' : CmpOp} {b c : Expr} (h : isSetE c = false) : lastMarks [op, op'] [b, c] = false := by
  show (behindInMarks op' c) = false
  exact mark_no h
theorem EvOk.stepE (k : EvOk Γ N v) (o : Okx Γ N X g W sc) (ex : Expr) : PE X ex (tI g W (stepE Γ N v sc ex)) := by
  have hu := o.hu
  unfold L3.stepE
  split
  · rename_i x p
    split
    · rename_i i ei
      obtain ⟨h1, h2, h3, h4⟩ := o.slot ei
      exact l_var (pe_var h1 h2 h3 h4)
    · split
      · rename_i c
        obtain ⟨g1, g2, g3⟩ := o.glob c
        split
        · rename_i d ed
          obtain ⟨w, u, h1, h2, h3⟩ := o.glo _ _ ed
          exact l_const (pe_glob g1 h1 h2 g2) h3
        · exact e_bad
      · exact e_bad
  · rename_i c i p
    cases c with
    | none => exact l_const pe_non fun _ _ => .non
    | bool b => exact l_const pe_bl fun _ _ => .bl b
    | int n => exact l_const pe_int fun _ _ => .int n
    | str x => exact l_const pe_str fun _ _ => .str x
    | _ => exact e_bad
  · rename_i es kk p
    split
    · rename_i h; exact l_tup (k.as o h)
    · exact e_bad
  · rename_i a op b p
    split
    · exact l_newC (k.stepN o _)
    · split
      · rename_i f ef; exact l_op (opB_nox ef) (o.opB ef) (k.e o a) (k.e o b)
      · exact e_bad
  · rename_i a p
    exact l_un neg_nox (o_neg o.hK) (k.e o a)
  · exact l_not (k.e o _)
  · exact l_one (k.e o _)
  · exact l_and (k.e o _) (k.e o _)
  · exact l_or (k.e o _) (k.e o _)
  · rename_i a op b p
    split
    · exact e_bad
    · rename_i hs
      split
      · rename_i f ef; exact l_cmp (opC_nox ef) (o.opC ef) (k.e o a) (k.e o b) (mark_no (by simpa using hs))
      · exact e_bad
  · rename_i a op op' b c p
    split
    · exact e_bad
    · rename_i hs
      have hs : isSetE c = false := by simpa using hs
      split
      · rename_i f f' ef ef'
        exact l_chain (opC_nox ef) (opC_nox ef') (o.opC ef) (o.opC ef') (k.e o a) (k.e o b) (k.e o c) (pe_chain (o.opC ef) (o.opC ef') (k.e o a) (k.e o b) (k.e o c) (last_no hs))
      · exact e_bad
  · exact l_if (k.t o _) (k.e o _) (k.e o _)
  · exact l_rev o.hK (k.e o _)
  · rename_i a lo hi p2 p hne
    split
    · exact l_newC (k.stepN o _)
    · exact l_slice o.hK (k.e o _) (k.part o _) (k.part o _)
  · rename_i a b p h1 h2
    split
    · exact e_bad
    · rename_i hs
      exact l_idx o.hK (by omega) (k.e o a) (k.e o b) (plain_ix (by simpa using hs))
  · rename_i x px a b p
    split
    · rename_i exx
      subst exx
      split
      · rename_i c
        rw [Bool.and_eq_true, Bool.and_eq_true] at c
        obtain ⟨⟨c1, c2⟩, c3⟩ := c
        obtain ⟨g1, g2, g3⟩ := o.glob c1
        split
        · rename_i y py
          split
          · rename_i t et
            obtain ⟨h1, h2, h3, h4⟩ := o.ty et
            exact l_is1 o.hK h1 g1 (o.free _ c2) (by kernel_rfl) g3 g2 (k.e o a) h2 (star_cons c3)
          · exact e_bad
        · rename_i es kk py
          split
          · rename_i ts et
            split
            · rename_i hz
              obtain ⟨h1, h2⟩ := o.tys et
              exact l_isT o.hK h1 (by have := of_decide_eq_true hz; rw [sizeLine_eq]; omega) g1 (o.free _ c2) (by kernel_rfl) g3 g2 (k.e o a) h2 (star_cons c3)
            · exact e_bad
          · exact e_bad
        · exact e_bad
      · exact e_bad
    · exact k.callE o x [a, b] px p
  · exact k.callE o _ _ _ _
  · rename_i q m ap es p
    split
    · rename_i c
      rw [Bool.and_eq_true, Bool.and_eq_true, Bool.and_eq_true] at c
      obtain ⟨⟨⟨c1, c2⟩, c3⟩, c4⟩ := c
      split
      · rename_i em
        subst em
        split
        · rename_i kk d
          exact l_get o.hK (by omega) (k.e o q) (k.e o kk) (k.e o d) c1 c3 c2
        · exact e_bad
      · split
        · rename_i f em
          exact k.meth o em c1 c2 c3 (of_decide_eq_true c4)
        · exact e_bad
    · exact e_bad
  · exact k.at o
end
end L3

/-! L3ZG: the interpreter is sound: tests, loops' sources -/
namespace L3
open PySem PySem.Spec PyProof.Rows L2
section
variable {Γ : Cf} {N : List Str} {v : Ev} {X : Cx} {g : G} {W : WX} {sc : Scope}
theorem EvOk.ands (k : EvOk Γ N v) (o : Okx Γ N X g W sc) {p : Pos} : ∀ (a : Expr) (r : List Expr), PW X (.BoolOp .And (a :: r) p) (tT g W (tAnds (v.t sc) a r))
  | a, [] => l_and1 (k.t o a)
  | a, b :: r => l_andT (k.t o a) (k.ands o b r)
theorem EvOk.ors (k : EvOk Γ N v) (o : Okx Γ N X g W sc) {p : Pos} : ∀ (a : Expr) (r : List Expr), PW X (.BoolOp .Or (a :: r) p) (tT g W (tOrs (v.t sc) a r))
  | a, [] => l_or1 (k.t o a)
  | a, b :: r => l_orT (k.t o a) (k.ors o b r)
theorem EvOk.stepT (k : EvOk Γ N v) (o : Okx Γ N X g W sc) (ex : Expr) : PT X ex (tT g W (stepT v sc ex)) := by
  have hu := o.hu
  unfold L3.stepT
  split
  · exact l_notT (k.t o _)
  · exact (k.ands o _ _).pt
  · exact (k.ors o _ _).pt
  · exact l_ifT (k.t o _) (k.t o _) (k.t o _)
  · split
    · exact t_bad
    · rename_i hs
      split
      · rename_i f ef; exact l_cmpT (opC_nox ef) (o.opC ef) (k.e o _) (k.e o _) (mark_no (by simpa using hs))
      · exact t_bad
  · split
    · exact t_bad
    · rename_i hs
      split
      · rename_i f f' ef ef'
        exact l_chainT (opC_nox ef) (opC_nox ef') (o.opC ef) (o.opC ef') (k.e o _) (k.e o _) (k.e o _) (last_no (by simpa using hs))
      · exact t_bad
  · split
    · rename_i hp
      exact l_val (k.e o _) (plainT_ok hp)
    · exact t_bad
theorem EvOk.stepI (k : EvOk Γ N v) (o : Okx Γ N X g W sc) (tg ex : Expr) : PI X tg ex (iI g W (stepI Γ v sc (isTup tg) ex)) := by
  unfold L3.stepI
  split
  · rename_i x px es p
    split
    · rename_i c
      rw [Bool.and_eq_true, Bool.and_eq_true] at c
      obtain ⟨⟨c1, c2⟩, c3⟩ := c
      obtain ⟨g1, g2, g3⟩ := o.glob c1
      have m := o.free _ c2
      split
      · rename_i exx
        subst exx
        split
        · rename_i a
          rw [List.all_cons, Bool.and_eq_true] at c3
          exact l_range1 g1 m (k.as o (by rw [List.all_cons, c3.1]; rfl)) (star_cons c3.1)
        · rename_i a b
          rw [List.all_cons, Bool.and_eq_true, List.all_cons, Bool.and_eq_true] at c3
          have e2 : starEach [b] X.env = [(false, eval b X.env)] := star_cons c3.2.1
          exact l_range2 g1 m (k.as o (by rw [List.all_cons, c3.1, List.all_cons, c3.2.1]; rfl)) (by rw [star_cons c3.1, e2]) e2 (back_any (by rw [List.all_cons, c3.2.1]; rfl))
        · rename_i a b c
          have c3' := c3
          rw [List.all_cons, Bool.and_eq_true] at c3
          exact l_range3 g1 m (k.as o c3') (star_cons c3.1) (back_any c3.2)
        · exact i_bad
      · split
        · rename_i exx
          subst exx
          split
          · rename_i a
            split
            · rename_i ht
              cases tg with
              | Tuple elts kk tp =>
                rw [List.all_cons, Bool.and_eq_true] at c3
                exact l_enum o.hK g1 m (k.as o (es := [a]) (by rw [List.all_cons, c3.1]; rfl)) (star_cons c3.1)
              | _ => cases ht
            · exact i_bad
          · exact i_bad
        · split
          · rename_i exx
            subst exx
            split
            · rename_i a b
              split
              · rename_i ht
                cases tg with
                | Tuple elts kk tp =>
                  have c3' := c3
                  rw [List.all_cons, Bool.and_eq_true] at c3
                  exact l_zip o.hK g1 m (k.as o c3') (star_cons c3.1) (back_any c3.2)
                | _ => cases ht
              · exact i_bad
            · exact i_bad
          · split
            · rename_i exx
              subst exx
              split
              · rename_i a
                rw [List.all_cons, Bool.and_eq_true] at c3
                exact l_revd o.hK g1 m (k.e o a) (star_cons c3.1)
              · exact i_bad
            · exact l_src o.hK (k.e o _)
    · exact l_src o.hK (k.e o _)
  · rename_i q m ap p
    split
    · rename_i em
      subst em
      split
      · rename_i c
        rw [Bool.and_eq_true, Bool.and_eq_true] at c
        obtain ⟨⟨c1, c2⟩, c3⟩ := c
        cases tg with
        | Tuple elts kk tp => exact l_items (k.e o q) (base_no c2) c3
        | _ => cases c1
      · exact i_bad
    · exact l_src o.hK (k.e o _)
  · exact l_src o.hK (k.e o _)
theorem EV_ok {Γ : Cf} {N : List Str} : ∀ n : Nat, EvOk Γ N (EV Γ N n)
  | 0 => .bad
  | n + 1 => ⟨fun o ex => (EV_ok n).stepE o ex, fun o ex => (EV_ok n).stepN o ex, fun o ex => (EV_ok n).stepT o ex, fun o tg ex => (EV_ok n).stepI o tg ex⟩
end
end L3

/-! L3ZH: the interpreter over the text: statements -/
namespace L3
open PySem PySem.Spec PyProof.Rows L2

def badS : FS := fun _ _ => .bad
def blk (r : Stmt → FS) : List Stmt → FS
  | [] => sSkip
  | s :: l => sThen (r s) (blk r l)
/-- a comprehension given to a name on its own line -/
def swB (sc : Scope) (y : Str) (py pos : Pos) (scope : Scope) : Bool :=
  decide (sc.names.lookup y = some .local) && (py.line == pos.line) && !(scope.names.any fun p => p.1 == y && (p.2 == .local || p.2 == .cell))
/-- the same line's names are not stored -/
def swN (sc : Scope) (y : Str) (py pos : Pos) (scope : Scope) : Bool := decide (sc.names.lookup y ≠ some .local) || (py.line != pos.line) || (scope.names.any fun p => p.1 == y && (p.2 == .local || p.2 == .cell))
/-- a pair's stores in sequence -/
def notLoc (sc : Scope) : Expr → Bool
  | .Name x _ => decide (sc.names.lookup x ≠ some .local)
  | _ => false
def noPar (sc : Scope) (ts vs : List Expr) : Bool := !(ts.length == 2 || ts.length == 3) || vs.length != ts.length || vs.all (foldedForSure 8) || ts.any (notLoc sc)
def locB (sc : Scope) (x : Str) : Bool := decide (sc.names.lookup x = some .local)
/-- a pair's, three things' stores at once: the slots -/
def parTg (N : List Str) (sc : Scope) (ts vs : List Expr) : Option Tg := match ts, vs with
  | [.Name x px, .Name y py], [a, b] => if locB sc x && locB sc y && (px.line == py.line) && decide (x ≠ y) && nst a && nst b && !([a, b].all (foldedForSure 8)) && !([a, b].all (constantsAlone 8)) then
      (match idx x N, idx y N with | some i, some j => if i ≠ j then some (.tup [.name i, .name j]) else none | _, _ => none) else none
  | [.Name x px, .Name y py, .Name z pz], [a, b, c] => if locB sc x && locB sc y && locB sc z && (px.line == py.line) && (px.line == pz.line) && decide (x ≠ y) && decide (x ≠ z) && decide (y ≠ z) && nst a && nst b && nst c && !([a, b, c].all (foldedForSure 8)) && !([a, b, c].all (constantsAlone 8)) then
      (match idx x N, idx y N, idx z N with | some i, some j, some l => if i ≠ j ∧ i ≠ l ∧ j ≠ l then some (.tup [.name i, .name j, .name l]) else none | _, _, _ => none) else none
  | _, _ => none
def asgS (Γ : Cf) (N : List Str) (v : Ev) (sc : Scope) (t e : Expr) : FS := match t with
  | .Subscript o i _ => if isSl i then badS else sSet (v.e sc e) (v.e sc o) (v.e sc i)
  | .Name y py => (match slotW N sc y with
    | none => badS
    | some i => (match e with
      | .ListComp elt [c] scope pos => if swB sc y py pos scope then (match clause N v sc scope c with
          | some k => if Γ.cell pos then sNew i (eLc k.src k.vs k.tg k.tst (v.e scope elt)) else sAsg (.name i) (eLc k.src k.vs k.tg k.tst (v.e scope elt))
          | none => badS) else if swN sc y py pos scope then sAsg (.name i) (v.e sc e) else badS
      | .ListComp elt [c, c1] scope pos => if swB sc y py pos scope then (match clause N v sc scope c, clause2 N v scope c1 with
          | some k, some k1 => if Γ.cell pos then badS else sAsg (.name i) (eLc2 k.src k.vs k.tg k.tst k1.src k1.vs k1.tg k1.tst (v.e scope elt))
          | _, _ => badS) else if swN sc y py pos scope then sAsg (.name i) (v.e sc e) else badS
      | .DictComp _ _ _ scope pos => if swN sc y py pos scope then sAsg (.name i) (v.e sc e) else badS
      | _ => if isComp e then badS else sAsg (.name i) (v.e sc e)))
  | .Tuple ts _ _ => (match e with
    | .Tuple vs _ _ => if noPar sc ts vs then (match tgE N sc t with | some tg => sAsg tg (v.e sc e) | none => badS)
        else (match parTg N sc ts vs with | some tg => sAsg tg (eTup (v.as sc vs)) | none => badS)
    | _ => if isComp e then badS else (match tgE N sc t with | some tg => sAsg tg (v.e sc e) | none => badS))
  | _ => badS
def stepS (Γ : Cf) (N : List Str) (v : Ev) (wf : Nat) (sc : Scope) (r : Stmt → FS) (st : Stmt) : FS := match st with
  | .Assign [t] e _ => asgS Γ N v sc t e
  | .Expr (.Constant (.str _) _ _) _ => sSkip
  | .Expr e _ => if isComp e then badS else sExpr (v.e sc e)
  | .Return (some e) _ => sRet (v.e sc e)
  | .Return none _ => sRetN
  | .If c a b _ => sIf (v.t sc c) (blk r a) (blk r b)
  | .For tg it body [] _ => if isSetE it then badS else (match tgE N sc tg with | some t => sFor (v.i sc (isTup tg) it) t (blk r body) | none => badS)
  | .While c body [] _ => whileF (v.t sc c) (blk r body) wf
  | .Pass _ => sSkip
  | .Break _ => sBrk
  | .Continue _ => sCt
  | _ => badS
def SV (Γ : Cf) (N : List Str) (v : Ev) (wf : Nat) (sc : Scope) : Nat → Stmt → FS
  | 0 => fun _ => badS
  | n + 1 => stepS Γ N v wf sc (SV Γ N v wf sc n)

structure Oks (Γ : Cf) (N : List Str) (X : Cx) (g : G) (W : WX) (sc : Scope) : Prop where
  x : Okx Γ N X g W sc
  es : X.env.scope = sc
  bk : X.env.blockKind = .function
  ps : PassesOwn (model X.prog X.w) X.A X.env X.xe
section
variable {Γ : Cf} {N : List Str} {v : Ev} {X : Cx} {g : G} {W : WX} {sc : Scope}
theorem blk_ok {r : Stmt → FS} (h : ∀ st, PS X st (sI g W (r st))) : ∀ l : List Stmt, PSs X l (sI g W (blk r l))
  | [] => l_ss_nil
  | s :: l => l_ss_cons (h s) (blk_ok h l)
theorem kind_eq (o : Oks Γ N X g W sc) (x : Str) : X.env.kindOf x = sc.names.lookup x := by
  show X.env.scope.names.lookup x = _
  rw [o.es]
def swV (env : Env) (y : Str) (py pos : Pos) (scope : Scope) : Bool := env.blockKind == ScopeKind.function && env.kindOf y == some .local && py.line == pos.line && !(scope.names.any fun (n, k) => n == y && (k == .local || k == .cell))
theorem sw_lc {elt : Expr} {gs : List Comprehension} {scope : Scope} {pos py : Pos} {y : Str} {l : Nat} {env : Env} : swapsWith (.ListComp elt gs scope pos) (some (.Name y py)) l env = pure (swV env y py pos scope) := rfl
theorem sw_dc {kx vx : Expr} {gs : List Comprehension} {scope : Scope} {pos py : Pos} {y : Str} {l : Nat} {env : Env} : swapsWith (.DictComp kx vx gs scope pos) (some (.Name y py)) l env = pure (swV env y py pos scope) := rfl
theorem sw_yes (o : Oks Γ N X g W sc) {y : Str} {py pos : Pos} {scope : Scope} (h : swB sc y py pos scope = true) : swV X.env y py pos scope = true := by
  unfold swB at h
  rw [Bool.and_eq_true, Bool.and_eq_true] at h
  obtain ⟨⟨h1, h2⟩, h3⟩ := h
  unfold swV
  rw [kind_eq o, o.bk, of_decide_eq_true h1, h2]
  exact h3
theorem sw_not (o : Oks Γ N X g W sc) {y : Str} {py pos : Pos} {scope : Scope} (h : swN sc y py pos scope = true) : swV X.env y py pos scope = false := by
  unfold swN at h
  unfold swV
  rw [kind_eq o]
  rw [Bool.or_eq_true, Bool.or_eq_true] at h
  rcases h with (h | h) | h
  · have : (sc.names.lookup y == some .local) = false := by simpa using of_decide_eq_true h
    rw [this, Bool.and_false]; rfl
  · have : (py.line == pos.line) = false := by simpa using h
    rw [this, Bool.and_false]; rfl
  · rw [show (scope.names.any fun (n, k) => n == y && (k == .local || k == .cell)) = true from h, Bool.not_true, Bool.and_false]
theorem fm_full {α β : Type} {f : α → Option β} : ∀ {l : List α}, (l.filterMap f).length = l.length → ∀ x ∈ l, (f x).isSome = true
  | [], _, _, m => by cases m
  | a :: l, h, x, m => by
    cases e : f a with
    | none =>
      rw [List.filterMap_cons_none e] at h
      have := List.length_filterMap_le f l
      rw [List.length_cons] at h
      omega
    | some b =>
      rw [List.filterMap_cons_some e, List.length_cons, List.length_cons] at h
      rcases List.mem_cons.mp m with rfl | m
      · rw [e]; rfl
      · exact fm_full (Nat.succ.inj h) x m
theorem no_par {ts vs : List Expr} {k k2 : Nat} {p p2 : Pos} {env : Env} (hk : ∀ x, env.kindOf x = sc.names.lookup x) (h : noPar sc ts vs = true) : swappedStores [.Tuple ts k p] (.Tuple vs k2 p2) env = pure none := by
  unfold noPar at h
  rw [Bool.or_eq_true, Bool.or_eq_true] at h
  unfold swappedStores
  simp only
  rcases h with (h | h) | h
  · rw [h, Bool.true_or]; rfl
  · split
    · rfl
    · split
      · rfl
      · split
        · rfl
        · first | rfl | (rw [h]; rfl)
  · split
    · rfl
    · split
      · rfl
      · split
        · rfl
        · rename_i hn
          exfalso
          apply hn
          rw [Bool.or_eq_true]
          left
          rw [bne_iff_ne]
          intro e
          obtain ⟨t, mt, ht⟩ := List.any_eq_true.mp h
          have q := fm_full e t mt
          cases t with
          | Name x px =>
            have z : sc.names.lookup x ≠ some .local := of_decide_eq_true ht
            simp only at q
            split at q
            · rename_i c
              rw [Bool.and_eq_true] at c
              have c1 := c.1
              rw [hk] at c1
              exact z (by simpa using c1)
            · cases q
          | _ => cases ht
theorem any_star : ∀ es : List Expr, es.all nst = true → (es.any fun | .Starred .. => true | _ => false) = false
  | [], _ => rfl
  | e :: es, h => by
    rw [List.all_cons, Bool.and_eq_true] at h
    rw [List.any_cons, any_star es h.2]
    cases e <;> first | rfl | cases h.1
theorem star_no {e : Expr} : (match e with | .Starred _ _ => true | _ => false) = true → nst e = true → False := by
  intro z h
  cases e <;> first | (cases z; done) | cases h
theorem par2_stores {x y : Str} {px py pt : Pos} {a b : Expr} {kt k2 : Nat} {pt2 : Pos} {env : Env} (bk : env.blockKind = .function) (hx : env.kindOf x = some .local) (hy : env.kindOf y = some .local) (hl : (px.line == py.line) = true) (hne : x ≠ y) (hst : [a, b].all nst = true) (hf : [a, b].all (foldedForSure 8) = false) (hc : [a, b].all (constantsAlone 8) = false) :
    swappedStores [.Tuple [.Name x px, .Name y py] kt pt] (.Tuple [a, b] k2 pt2) env = pure (some [x, y]) := by
  have e1 := any_star _ hst
  have e2 : px.line = py.line := by simpa using hl
  have e3 : (y == x) = false := by simpa using fun e : y = x => hne e.symm
  unfold swappedStores
  simp only [bk, e1, hf, hc]
  simp [hx, hy, Expr.pos, e2, e3, List.filterMap, List.eraseDups_cons]
  rw [List.all_cons, List.all_cons, Bool.and_eq_true, Bool.and_eq_true] at hst
  exact fun z => (z.elim (fun q => star_no q hst.1) fun q => star_no q hst.2.1).elim
theorem par3_stores {x y z : Str} {px py pz pt : Pos} {a b c : Expr} {kt k2 : Nat} {pt2 : Pos} {env : Env} (bk : env.blockKind = .function) (hx : env.kindOf x = some .local) (hy : env.kindOf y = some .local) (hz : env.kindOf z = some .local) (hl : (px.line == py.line) = true) (hl2 : (px.line == pz.line) = true) (hxy : x ≠ y) (hxz : x ≠ z) (hyz : y ≠ z) (hst : [a, b, c].all nst = true) (hf : [a, b, c].all (foldedForSure 8) = false) (hc : [a, b, c].all (constantsAlone 8) = false) :
    swappedStores [.Tuple [.Name x px, .Name y py, .Name z pz] kt pt] (.Tuple [a, b, c] k2 pt2) env = pure (some [x, y, z]) := by
  have e1 := any_star _ hst
  have e2 : px.line = py.line := by simpa using hl
  have e22 : px.line = pz.line := by simpa using hl2
  have e3 : (y == x) = false := by simpa using fun e : y = x => hxy e.symm
  have e4 : (z == x) = false := by simpa using fun e : z = x => hxz e.symm
  have e5 : (z == y) = false := by simpa using fun e : z = y => hyz e.symm
  unfold swappedStores
  simp only [bk, e1, hf, hc]
  simp [hx, hy, hz, Expr.pos, ← e2, ← e22, e3, e4, e5, List.filterMap, List.eraseDups_cons]
  rw [List.all_cons, List.all_cons, List.all_cons, Bool.and_eq_true, Bool.and_eq_true, Bool.and_eq_true] at hst
  exact fun z => (z.elim (fun q => star_no q hst.1) fun z => z.elim (fun q => star_no q hst.2.1) fun q => star_no q hst.2.2.1).elim
end
end L3

/-! L3ZI: the interpreter is sound: statements -/
namespace L3
open PySem PySem.Spec PyProof.Rows L2
section
variable {Γ : Cf} {N : List Str} {v : Ev} {X : Cx} {g : G} {W : WX} {sc : Scope}
theorem loc_b (o : Oks Γ N X g W sc) {x : Str} (h : locB sc x = true) : X.env.scope.names.lookup x = some .local := by
  rw [o.es]; exact of_decide_eq_true h
theorem set_name {env : Env'} {d : D} {i : Nat} : (Tg.name i).put d env = some (env.set i (some d)) := by unfold Tg.put; rfl
theorem sAsg_par {X : Cx} {g : G} {W : WX} {t : Tg} {fa : FA} {st : Stmt} {ta : TS} (h : PS X st ta) (k : ∀ E σ H ρ s env, Sto g ρ s H → Loc' g.K ρ H env σ → Post g (RVs g) ρ H (fun c d H' => W c d σ H') (fun vs H1 => ∃ ρ1 ds env' s1, Sto g ρ1 s1 H1 ∧ RelDs g.K ρ1 H1 ds vs ∧ Up ρ ρ1 H H1 ∧ (Tg.tup (match t with | .tup l => l | t => [t])).put (.tup ds) env = some env' ∧ ∀ σ', Loc' g.K ρ1 H1 env' σ' → E.nx σ' H1) (fa env s) → ta E σ H) (ht : ∃ l, t = .tup l) : PS X st (sI g W (sAsg t (eTup fa))) := by
  obtain ⟨l, rfl⟩ := ht
  refine h.imp fun E σ H ⟨ρ, s, env, hs, hl, hp⟩ => k E σ H ρ s env hs hl ?_
  unfold sAsg eTup at hp
  cases e : fa env s with
  | bad => rw [e] at hp; exact hp
  | exc c fs s' => rw [e] at hp; exact hp σ
  | ok ds s' =>
    rw [e] at hp
    intro ρ' H' vs u hs' r
    have hp : PostS g W ρ H E ((if ds.length ≤ sizeLine then R.ok (D.tup ds) s' else R.bad).bind fun d s => match (Tg.tup l).put d env with | some env => .ok (.nx env) s | none => .bad) := hp
    by_cases hz : ds.length ≤ sizeLine
    rotate_left
    · rw [if_neg hz] at hp; exact hp.elim
    rw [if_pos hz] at hp
    have hp : PostS g W ρ H E (match (Tg.tup l).put (.tup ds) env with | some env => .ok (.nx env) s' | none => .bad) := hp
    split at hp
    · rename_i env' ee
      exact ⟨ρ', ds, env', s', hs', r, u, ee, fun σ' hl' => hp ρ' H' σ' u hs' hl'⟩
    · exact hp.elim
theorem EvOk.par (k : EvOk Γ N v) (o : Oks Γ N X g W sc) {ts vs : List Expr} {kt k2 : Nat} {pt pt2 pos : Pos} {t : Tg} (h : parTg N sc ts vs = some t) : PS X (.Assign [.Tuple ts kt pt] (.Tuple vs k2 pt2) pos) (sI g W (sAsg t (eTup (v.as sc vs)))) := by
  unfold parTg at h
  split at h
  · rename_i x px y py a b
    split at h
    · rename_i c
      simp only [Bool.and_eq_true] at c
      obtain ⟨⟨⟨⟨⟨⟨⟨c1, c2⟩, c3⟩, c4⟩, c5⟩, c6⟩, c7⟩, c8⟩ := c
      split at h
      · rename_i i j ei ej
        split at h
        · rename_i hij
          cases h
          have hst : [a, b].all nst = true := by rw [List.all_cons, c5, List.all_cons, c6]; rfl
          refine sAsg_par (ps_par o.x.hc (by rw [o.x.hN]; exact o.x.nd) (by rw [o.x.hN]; exact idx_get ei) (by rw [o.x.hN]; exact idx_get ej) hij (loc_b o c1) (loc_b o c2) (k.as o.x hst)
            (par2_stores o.bk (loc_b o c1) (loc_b o c2) c3 (of_decide_eq_true c4) hst ((Bool.not_eq_true' _).mp c7) ((Bool.not_eq_true' _).mp c8))) (fun E σ H ρ s env hs hl hp => ⟨ρ, s, env, hs, hl, hp.imp fun vs H1 ⟨ρ1, ds, env', s1, hs1, r, u, ee, q⟩ => ?_⟩) ⟨_, rfl⟩
          cases r with
          | nil => simp [Tg.put, Tg.puts] at ee
          | cons r1 r =>
            cases r with
            | nil => simp [Tg.put, Tg.puts] at ee
            | cons r2 r =>
              cases r with
              | cons r3 r => simp [Tg.put, Tg.puts] at ee
              | nil =>
                simp [Tg.put, Tg.puts] at ee
                subst ee
                exact ⟨_, _, rfl, q _ (((hl.up u).set _ r1).set _ r2)⟩
        · cases h
      · cases h
    · cases h
  · rename_i x px y py z pz a b c'
    split at h
    · rename_i c
      simp only [Bool.and_eq_true] at c
      obtain ⟨⟨⟨⟨⟨⟨⟨⟨⟨⟨⟨⟨c1, c2⟩, c3⟩, c4⟩, c5⟩, c6⟩, c7⟩, c8⟩, c9⟩, d1⟩, d2⟩, d3⟩, d4⟩ := c
      split at h
      · rename_i i j l ei ej el
        split at h
        · rename_i hij
          cases h
          have hst : [a, b, c'].all nst = true := by rw [List.all_cons, c9, List.all_cons, d1, List.all_cons, d2]; rfl
          refine sAsg_par (ps_par3 o.x.hc (by rw [o.x.hN]; exact o.x.nd) (by rw [o.x.hN]; exact idx_get ei) (by rw [o.x.hN]; exact idx_get ej) (by rw [o.x.hN]; exact idx_get el) hij.1 hij.2.1 hij.2.2 (loc_b o c1) (loc_b o c2) (loc_b o c3) (k.as o.x hst)
            (par3_stores o.bk (loc_b o c1) (loc_b o c2) (loc_b o c3) c4 c5 (of_decide_eq_true c6) (of_decide_eq_true c7) (of_decide_eq_true c8) hst ((Bool.not_eq_true' _).mp d3) ((Bool.not_eq_true' _).mp d4))) (fun E σ H ρ s env hs hl hp => ⟨ρ, s, env, hs, hl, hp.imp fun vs H1 ⟨ρ1, ds, env', s1, hs1, r, u, ee, q⟩ => ?_⟩) ⟨_, rfl⟩
          cases r with
          | nil => simp [Tg.put, Tg.puts] at ee
          | cons r1 r =>
            cases r with
            | nil => simp [Tg.put, Tg.puts] at ee
            | cons r2 r =>
              cases r with
              | nil => simp [Tg.put, Tg.puts] at ee
              | cons r3 r =>
                cases r with
                | cons r4 r => simp [Tg.put, Tg.puts] at ee
                | nil =>
                  simp [Tg.put, Tg.puts] at ee
                  subst ee
                  exact ⟨_, _, _, rfl, q _ ((((hl.up u).set _ r1).set _ r2).set _ r3)⟩
        · cases h
      · cases h
    · cases h
  · cases h
theorem sole_no {t e : Expr} {l : Nat} {env : Env} (h : isComp e = false) : swapsWithSole [t] e l env = pure false := swaps_no (t := some t) (l := l) (env := env) h
theorem sole_lc {elt : Expr} {gs : List Comprehension} {scope : Scope} {pos py : Pos} {y : Str} {l : Nat} {env : Env} (h : swV env y py pos scope = false) : swapsWithSole [.Name y py] (.ListComp elt gs scope pos) l env = pure false := (sw_lc (elt := elt) (gs := gs) (l := l)).trans (congrArg pure h)
theorem sole_dc {kx vx : Expr} {gs : List Comprehension} {scope : Scope} {pos py : Pos} {y : Str} {l : Nat} {env : Env} (h : swV env y py pos scope = false) : swapsWithSole [.Name y py] (.DictComp kx vx gs scope pos) l env = pure false := (sw_dc (kx := kx) (vx := vx) (gs := gs) (l := l)).trans (congrArg pure h)
theorem s_bad {st : Stmt} : PS X st (sI g W badS) := l_never
theorem EvOk.asg (k : EvOk Γ N v) (o : Oks Γ N X g W sc) (t e : Expr) (pos : Pos) : PS X (.Assign [t] e pos) (sI g W (asgS Γ N v sc t e)) := by
  have hu := o.x.hu
  unfold asgS
  split
  · split
    · exact s_bad
    · rename_i hs
      exact l_setS (by omega) (k.e o.x _) (k.e o.x _) (k.e o.x _) (by simpa using hs)
  · rename_i y py
    split
    · exact s_bad
    · rename_i i ei
      obtain ⟨n1, n2, n3⟩ := o.x.slotW ei
      have hg : PG X (.Name y py) (tgI g.K (.name i)) := (o.x.tgt (show tgE N sc (.Name y py) = some (.name i) by unfold tgE; rw [ei]; rfl)).1
      split
      · rename_i elt c scope p
        split
        · rename_i hb
          have hsw := sw_yes o hb
          have hl : X.env.scope.names.lookup y = some .local := by
            unfold swB at hb
            rw [Bool.and_eq_true, Bool.and_eq_true] at hb
            rw [o.es]; exact of_decide_eq_true hb.1.1
          split
          · rename_i cl ecl
            obtain ⟨ha, hlc, hv⟩ := k.clause o.x ecl
            obtain ⟨tg, it, ifs, as⟩ := c
            simp only at ha
            subst ha
            rw [hv]
            split
            · exact l_setLcN hlc n1 hl (fun s H C cl fp => k.e (o.x.blk scope s H C cl fp) elt) (by rw [sw_lc, hsw])
            · exact l_setLc hlc n1 hl (fun s H C cl fp => k.e (o.x.blk scope s H C cl fp) elt) (by rw [sw_lc, hsw])
          · exact s_bad
        · split
          · rename_i hb
            exact l_asg (k.e o.x _) hg (sole_lc (sw_not o hb)) stores_name (asg_one rfl)
          · exact s_bad
      · rename_i elt c c1 scope p
        split
        · rename_i hb
          have hsw := sw_yes o hb
          have hl : X.env.scope.names.lookup y = some .local := by
            unfold swB at hb
            rw [Bool.and_eq_true, Bool.and_eq_true] at hb
            rw [o.es]; exact of_decide_eq_true hb.1.1
          split
          · rename_i cl cl1 ecl ecl1
            obtain ⟨ha, hlc, hv⟩ := k.clause o.x ecl
            obtain ⟨ha1, hl1⟩ := k.clause2 o.x ecl1
            obtain ⟨tg, it, ifs, as⟩ := c
            obtain ⟨tg1, it1, ifs1, as1⟩ := c1
            simp only at ha ha1
            subst ha ha1
            rw [hv]
            split
            · exact s_bad
            · exact l_setLc2 hlc hl1 n1 hl (fun s H C cl fp => k.e (o.x.blk scope s H C cl fp) elt) (by rw [sw_lc, hsw])
          · exact s_bad
        · split
          · rename_i hb
            exact l_asg (k.e o.x _) hg (sole_lc (sw_not o hb)) stores_name (asg_one rfl)
          · exact s_bad
      · rename_i kx vx gs scope p
        split
        · rename_i hb
          exact l_asg (k.e o.x _) hg (sole_dc (sw_not o hb)) stores_name (asg_one rfl)
        · exact s_bad
      · split
        · exact s_bad
        · rename_i hc
          exact l_asg (k.e o.x _) hg (sole_no (by simpa using hc)) stores_name (asg_one rfl)
  · rename_i ts kt pt
    split
    · rename_i vs k2 p2
      split
      · rename_i hn
        split
        · rename_i tg et
          exact l_asg (k.e o.x _) (o.x.tgt et).1 (sole_no rfl) (no_par (kind_eq o) hn) (asg_one rfl)
        · exact s_bad
      · split
        · rename_i tg et
          exact k.par o et
        · exact s_bad
    · rename_i hne
      split
      · exact s_bad
      · rename_i hc
        split
        · rename_i tg et
          refine l_asg (k.e o.x _) (o.x.tgt et).1 (sole_no (by simpa using hc)) (stores_val ?_) (asg_one rfl)
          cases e with
          | Tuple a b c => exact absurd rfl (hne a b c)
          | _ => rfl
        · exact s_bad
  · exact s_bad
theorem EvOk.stepS (k : EvOk Γ N v) (o : Oks Γ N X g W sc) {r : Stmt → FS} (h : ∀ st, PS X st (sI g W (r st))) (wf : Nat) (st : Stmt) : PS X st (sI g W (stepS Γ N v wf sc r st)) := by
  unfold L3.stepS
  split
  · exact k.asg o _ _ _
  · exact l_doc
  · split
    · exact s_bad
    · rename_i hc
      exact l_expr (k.e o.x _) (swaps_no (by simpa using hc))
  · exact l_ret (k.e o.x _)
  · exact l_retN
  · exact l_ifS (k.t o.x _) (blk_ok h _) (blk_ok h _)
  · split
    · exact s_bad
    · rename_i hs
      split
      · rename_i t et
        exact l_for o.ps o.x.hc (k.i o.x _ _) (o.x.tgt et).1 (blk_ok h _) (fold_no (by simpa using hs))
      · exact s_bad
  · exact l_while wf o.ps (k.t o.x _) (blk_ok h _)
  · exact l_pass
  · exact l_brk
  · exact l_ct
  · exact s_bad
theorem SV_ok (k : EvOk Γ N v) (o : Oks Γ N X g W sc) (wf : Nat) : ∀ (n : Nat) (st : Stmt), PS X st (sI g W (SV Γ N v wf sc n st))
  | 0, _ => s_bad
  | n + 1, st => k.stepS o (SV_ok k o wf n) wf st
end
end L3

/-! L3ZJ: the table of the defs -/
namespace L3
open PySem PySem.Spec PyProof.Rows L2

structure Df where
  name : Str
  args : Arguments
  body : List Stmt
  scope : Scope
  ps : List Str
  N : List Str
  /-- the new cells stay -/
  kf : Bool
  /-- the cell of the table of its code, its lambdas' name -/
  lam : Option (Nat × Str)
structure Pol where
  tab : Str → Option Df
  free : Str → Bool
  glo : Str → Option D
  cell : Pos → Bool
  tdict : Pos → Bool
  keyf : Str → Bool
def Pol.cf (p : Pol) (d : Df) (c : Str → Option (Nat × (List D → Sr → R D))) : Cf := ⟨c, p.free, p.glo, p.cell, p.tdict, p.keyf, d.lam⟩
/-- a def's body -/
def Df.fs (d : Df) (Γ : Cf) : FS := blk (SV Γ d.N (EV Γ d.N 60) 1000000000 d.scope 60) d.body
def Df.run (d : Df) (Γ : Cf) : List D → Sr → R D := runDef d.kf d.N.length (d.fs Γ)
def Pol.call (p : Pol) : Nat → Str → Option (Nat × (List D → Sr → R D))
  | 0 => fun _ => none
  | k + 1 => fun x => (p.tab x).map fun d => (d.ps.length, d.run (p.cf d (p.call k)))
/-- the def that the heap has under this name -/
def DefAt (g : G) (mg : Str → Option Value) (base : Heap) (x : Str) (d : Df) : Prop := ∃ f fd, mg x = some (.ref f) ∧ FunD g.K d.name d.name d.args d.body d.scope [] [] f fd ∧ Binds g.K fd d.ps [] ∧ FnScope d.N d.ps d.scope ∧ ∀ i q, d.lam = some (i, q) → d.name ++ ".<locals>." ++ "<lambda>" = q ∧ ∃ c, fd.code = .ref c ∧ LamX.TabB base mg c (g.tb q)
structure Pol.At (p : Pol) (g : G) (mg : Str → Option Value) (base : Heap) : Prop where
  defs : ∀ x d, p.tab x = some d → DefAt g mg base x d
  free : ∀ x, p.free x = true → mg x = none
  keyf : ∀ x, p.keyf x = true → KeyFn g.K mg x
  glo : ∀ x d, p.glo x = some d → ∃ v u, mg x = some u ∧ RelV v u ∧ ∀ ρ H, RelD g.K ρ H d v
theorem cx_scope {P : Program} {w : World} {K : PySem.W.Frag} {mg : Str → Option Value} {base : Heap} {N : List Str} {qual : Str} {scope : Scope} {f : Addr} {cd : Value} {A : Around} {outer : List Env} {s : Shared} {H : Hp} {E : XK} : (cxOf (L2.CX P w) P w K mg base N qual scope f cd A outer s H E).env.scope = scope := rfl
theorem Pol.call_ok {p : Pol} {g : G} {P : Program} {w : World} {mg : Str → Option Value} {base : Heap} (h : p.At g mg base) : ∀ (k : Nat) (x : Str) (n : Nat) (f : List D → Sr → R D), p.call k x = some (n, f) →
    ∃ a fd ps, mg x = some (.ref a) ∧ PySem.W.keepIn g.K (.ref a) = true ∧ FnOk P w g.K mg base (L2.CX P w) k a fd ps (spI g n f) ∧ Binds g.K fd ps []
  | 0, _, _, _, e => by cases e
  | k + 1, x, n, f, e => by
    obtain ⟨d, e1, e2⟩ := Option.map_eq_some_iff.mp (show (p.tab x).map (fun d => (d.ps.length, d.run (p.cf d (p.call k)))) = some (n, f) from e)
    cases e2
    obtain ⟨a, fd, hm, F, hb, S, hL⟩ := h.defs x d e1
    refine ⟨a, fd, d.ps, hm, F.kp, ?_, hb⟩
    obtain ⟨oc, od, dV, kV, doc, pm, an, cdv, ct, osl, rfl, lk, hcd, _, _⟩ := F.ex
    refine fn_ok lk hcd S fun A outer s H E hr => blk_ok (SV_ok (EV_ok 60) ?_ _ _) _
    refine ⟨⟨rfl, rfl, S.nd, fun y z e => .inl e, fun y e => rfl, rfl, by have := hr.un; show (A.deeper _).units + 67 < cLine; omega, hr.depth, takes_of rfl rfl rfl rfl, fun y m u e => ?_, h.free, h.keyf, fun i q e => ?_, h.glo⟩, rfl, ?_, passes_of rfl⟩
    · obtain ⟨b, fd2, ps2, q1, q2, q3, q4⟩ := Pol.call_ok h k y m u e
      exact ⟨b, fd2, ps2, k, q1, q2, q3, hr, q4⟩
    · obtain ⟨l1, c, l2, l3⟩ := hL i q e
      exact ⟨l1, c, l2, l3⟩
    · show (if d.scope.kind.isAnnotationScope then ScopeKind.function else d.scope.kind) = _
      rw [S.kind]; rfl
end L3

/-! what tables of defs share -/
namespace L3
open PySem PySem.Spec PyProof.Rows L2
def mkDf (st : Stmt) (ps ns : List Str) (kf : Bool) (lam : Option (Nat × Str)) : Df := match st with
  | .FunctionDef n a b _ _ _ sc _ _ _ => ⟨n, a, b, sc, ps, ns, kf, lam⟩
  | _ => ⟨"", ⟨[], [], none, [], [], none, []⟩, [], ⟨.function, [], false, false, []⟩, ps, ns, kf, lam⟩
def en (n : Str) (d : Df) : Str × Df := (n, d)
abbrev CT := Str → Option (Nat × (List D → Sr → R D))
theorem ov {c : CT} {x : Str} {v : Option (Nat × (List D → Sr → R D))} (h : c x = v) : c = fun y => if y = x then v else c y := by
  funext y
  by_cases e : y = x
  · rw [if_pos e, e, h]
  · rw [if_neg e]
theorem call_s {pol : Pol} {x : Str} {d : Df} (h : pol.tab x = some d) (k : Nat) : pol.call (k + 1) x = some (d.ps.length, d.run (pol.cf d (pol.call k))) := by
  show (pol.tab x).map _ = _
  rw [h]; rfl
theorem call_n {pol : Pol} (k : Nat) {x : Str} (h : pol.tab x = none) : pol.call k x = none := by
  cases k with
  | zero => rfl
  | succ k => show (pol.tab x).map _ = _; rw [h]; rfl
structure Cok (pol : Pol) (c : CT) : Prop where
  no : ∀ x, pol.tab x = none → c x = none
theorem call_k {pol : Pol} (k : Nat) : Cok pol (pol.call k) := ⟨fun _ h => call_n k h⟩
theorem Cok.eq {pol : Pol} {c : CT} (h : Cok pol c) : c = fun y => if (pol.tab y).isSome = true then c y else none := by
  funext y
  by_cases e : (pol.tab y).isSome = true
  · rw [if_pos e]
  · rw [if_neg e]
    exact h.no y (by simpa using e)
end L3

/-! the defs' bodies by combinators (printed by gen2.py) -/
namespace L3
open PySem PySem.Spec PyProof.Rows L2
def b_is_whole : FS := (sThen (sRet (eAnd (eIsi [.int] (eVar 0)) (eNot (eIsi [.bl] (eVar 0)))))
  sSkip)
def m_is_whole : List D → Sr → R D := runDef false 1 b_is_whole
def b_need_whole : FS := (sThen (sIf (bOr (bNot (eB (eCall 1 m_is_whole (eCons (eVar 0) eNil)))) (bOr (bAnd (eB (eBin (oIs true) (eVar 1) (eC .non))) (eB (eBin oLt (eVar 0) (eVar 1)))) (bAnd (eB (eBin (oIs true) (eVar 2) (eC .non))) (eB (eBin oGt (eVar 0) (eVar 2)))))) (sThen badS
  sSkip) sSkip)
  sSkip)
def m_need_whole : List D → Sr → R D := runDef false 4 b_need_whole
def b_is_below : FS := (sThen (sRet (eAnd (eCall 1 m_is_whole (eCons (eVar 0) eNil)) (eChain oLe oLt (eC (.int 0)) (eVar 0) (eVar 1))))
  sSkip)
def m_is_below : List D → Sr → R D := runDef false 2 b_is_below
def b_is_pair : FS := (sThen (sIf (bOr (bNot (eB (eIsi [.tup] (eVar 1)))) (bOr (eB (eBin oNe (eCallV vLen (eCons (eVar 1) eNil)) (eC (.int 2)))) (bNot (eB (eCallV vAll (eCons (eLc (iSrc (eVar 1)) [2] (.name 2) bYes (eCall 2 m_is_below (eCons (eVar 2) (eCons (eVar 0) eNil)))) eNil)))))) (sThen (sRet (eC (.bl false)))
  sSkip) sSkip)
  (sThen (sRet (eBin oLe (eBin oIdx (eVar 1) (eC (.int 0))) (eBin oIdx (eVar 1) (eC (.int 1)))))
  sSkip))
def m_is_pair : List D → Sr → R D := runDef false 3 b_is_pair
def b_is_web : FS := (sThen (sIf (bOr (bNot (eB (eIsi [.tup] (eVar 0)))) (bOr (eB (eBin oNe (eCallV vLen (eCons (eVar 0) eNil)) (eC (.int 3)))) (bOr (bNot (eB (eIsi [.str] (eBin oIdx (eVar 0) (eC (.int 0)))))) (eB (eBin oNe (eBin oIdx (eVar 0) (eC (.int 0))) (eC (.str "web"))))))) (sThen (sRet (eC (.bl false)))
  sSkip) sSkip)
  (sThen (sIf (bOr (bNot (eB (eCall 1 m_is_whole (eCons (eBin oIdx (eVar 0) (eC (.int 1))) eNil)))) (bOr (bNot (eB (eChain oLe oLe (eC (.int 1)) (eBin oIdx (eVar 0) (eC (.int 1))) (eC (.int 8))))) (bNot (eB (eIsi [.tup] (eBin oIdx (eVar 0) (eC (.int 2)))))))) (sThen (sRet (eC (.bl false)))
  sSkip) sSkip)
  (sThen (sRet (eAnd (eBin oLe (eCallV vLen (eCons (eBin oIdx (eVar 0) (eC (.int 2))) eNil)) (eC (.int 12))) (eCallV vAll (eCons (eLc (iSrc (eBin oIdx (eVar 0) (eC (.int 2)))) [1] (.name 1) bYes (eCall 2 m_is_pair (eCons (eBin oIdx (eVar 0) (eC (.int 1))) (eCons (eVar 1) eNil)))) eNil))))
  sSkip)))
def m_is_web : List D → Sr → R D := runDef false 2 b_is_web
def b_need_web : FS := (sThen (sIf (bNot (eB (eCall 1 m_is_web (eCons (eVar 0) eNil)))) (sThen badS
  sSkip) sSkip)
  sSkip)
def m_need_web : List D → Sr → R D := runDef false 1 b_need_web
def b_is_lot : FS := (sThen (sIf (bOr (bNot (eB (eIsi [.tup] (eVar 1)))) (bNot (eB (eCallV vAll (eCons (eLc (iSrc (eVar 1)) [2] (.name 2) bYes (eCall 2 m_is_below (eCons (eVar 2) (eCons (eCallV vLen (eCons (eBin oIdx (eVar 0) (eC (.int 2))) eNil)) eNil)))) eNil))))) (sThen (sRet (eC (.bl false)))
  sSkip) sSkip)
  (sThen (sRet (eCallV vAll (eCons (eLc (iArgs hZip (eCons (eVar 1) (eCons (eSlice (eVar 1) (pSome (eC (.int 1))) pNone) eNil))) [3, 4] (.tup [(.name 3), (.name 4)]) bYes (eBin oLt (eVar 3) (eVar 4))) eNil)))
  sSkip))
def m_is_lot : List D → Sr → R D := runDef false 5 b_is_lot
def b_need_lot : FS := (sThen (sIf (bNot (eB (eCall 2 m_is_lot (eCons (eVar 0) (eCons (eVar 1) eNil))))) (sThen badS
  sSkip) sSkip)
  sSkip)
def m_need_lot : List D → Sr → R D := runDef false 2 b_need_lot
def b_made : FS := (sThen (sRet (eTup (eCons (eC (.str "web")) (eCons (eVar 0) (eCons (eCallV vTuple (eCons (eLc (iSrc (eVar 1)) [2, 3] (.tup [(.name 2), (.name 3)]) bYes (eTup (eCons (eCallV vMin (eCons (eVar 2) (eCons (eVar 3) eNil))) (eCons (eCallV vMax (eCons (eVar 2) (eCons (eVar 3) eNil))) eNil)))) eNil)) eNil)))))
  sSkip)
def m_made : List D → Sr → R D := runDef false 4 b_made
def b_names_by_1 : FS := (sThen (sAsg (.tup [(.name 5), (.name 6)]) (eTup (eCons (eCallV vMin (eCons (eBin oIdx (eVar 2) (eVar 3)) (eCons (eBin oIdx (eVar 2) (eVar 4)) eNil))) (eCons (eCallV vMax (eCons (eBin oIdx (eVar 2) (eVar 3)) (eCons (eBin oIdx (eVar 2) (eVar 4)) eNil))) eNil))))
  (sThen (sAsg (.name 2) (eLc (iSrc (eVar 2)) [7] (.name 7) bYes (eIf (eB (eBin oEq (eVar 7) (eVar 6))) (eVar 5) (eVar 7))))
  sSkip))
def b_names_by : FS := (sThen (sAsg (.name 2) (eRgL 1 (eCons (eVar 0) eNil)))
  (sThen (sFor (iSrc (eVar 1)) (.tup [(.name 3), (.name 4)]) b_names_by_1)
  (sThen (sRet (eVar 2))
  sSkip)))
def m_names_by : List D → Sr → R D := runDef false 8 b_names_by
def b_pieces_by : FS := (sThen (sAsg (.name 2) (eCall 2 m_names_by (eCons (eVar 0) (eCons (eVar 1) eNil))))
  (sThen (sAsg (.name 3) (eFr vSorted (eCons (eDc dkK (iSrc (eVar 2)) [4] (.name 4) bYes (eVar 4) (eC (.bl true))) eNil)))
  (sThen (sRet (eCallV vTuple (eCons (eLc (iSrc (eVar 3)) [4] (.name 4) bYes (eCallV vTuple (eCons (eLc (iArgs hRange1 (eCons (eVar 0) eNil)) [5] (.name 5) (eB (eBin oEq (eBin oIdx (eVar 2) (eVar 5)) (eVar 4))) (eVar 5)) eNil))) eNil)))
  sSkip)))
def m_pieces_by : List D → Sr → R D := runDef false 6 b_pieces_by
def b_pieces_in : FS := (sThen (sRet (eCall 2 m_pieces_by (eCons (eBin oIdx (eVar 0) (eC (.int 1))) (eCons (eLc (iSrc (eVar 1)) [2] (.name 2) bYes (eBin oIdx (eBin oIdx (eVar 0) (eC (.int 2))) (eVar 2))) eNil))))
  sSkip)
def m_pieces_in : List D → Sr → R D := runDef false 3 b_pieces_in
def b_pieces : FS := (sThen (sExpr (eCall 1 m_need_web (eCons (eVar 0) eNil)))
  (sThen (sExpr (eCall 2 m_need_lot (eCons (eVar 0) (eCons (eVar 1) eNil))))
  (sThen (sRet (eCall 2 m_pieces_in (eCons (eVar 0) (eCons (eVar 1) eNil))))
  sSkip)))
def m_pieces : List D → Sr → R D := runDef false 2 b_pieces
def b_rank_in : FS := (sThen (sAsg (.name 2) (eCall 2 m_names_by (eCons (eBin oIdx (eVar 0) (eC (.int 1))) (eCons (eLc (iSrc (eVar 1)) [3] (.name 3) bYes (eBin oIdx (eBin oIdx (eVar 0) (eC (.int 2))) (eVar 3))) eNil))))
  (sThen (sRet (eBin oSub (eBin oIdx (eVar 0) (eC (.int 1))) (eCallV vLen (eCons (eDc dkK (iSrc (eVar 2)) [4] (.name 4) bYes (eVar 4) (eC (.bl true))) eNil))))
  sSkip))
def m_rank_in : List D → Sr → R D := runDef false 5 b_rank_in
def b_all_ties : FS := (sThen (sRet (eRgT 1 (eCons (eCallV vLen (eCons (eBin oIdx (eVar 0) (eC (.int 2))) eNil)) eNil)))
  sSkip)
def m_all_ties : List D → Sr → R D := runDef false 1 b_all_ties
def b_by_size : FS := (sThen (sRet (eTup (eCons (eCallV vLen (eCons (eVar 0) eNil)) (eCons (eVar 0) eNil))))
  sSkip)
def m_by_size : List D → Sr → R D := runDef false 1 b_by_size
def b_all_lots_1 : FS := (sThen (sAsg (.name 1) (eBin oAdd (eVar 1) (eLc (iSrc (eVar 1)) [3] (.name 3) bYes (eBin oAdd (eVar 3) (eTup (eCons (eVar 2) eNil))))))
  sSkip)
def b_all_lots : FS := (sThen (sAsg (.name 1) (eLst (eCons (eTup eNil) eNil)))
  (sThen (sFor (iArgs hRange1 (eCons (eCallV vLen (eCons (eBin oIdx (eVar 0) (eC (.int 2))) eNil)) eNil)) (.name 2) b_all_lots_1)
  (sThen (sRet (eSortK (fun _ => true) (eVar 1)))
  sSkip)))
def m_all_lots : List D → Sr → R D := runDef false 4 b_all_lots
def b_without : FS := (sThen (sRet (eCallV vTuple (eCons (eLc (iSrc (eCall 1 m_all_ties (eCons (eVar 0) eNil))) [2] (.name 2) (eB (eBin (oIn true) (eVar 2) (eVar 1))) (eVar 2)) eNil)))
  sSkip)
def m_without : List D → Sr → R D := runDef false 3 b_without
def b_is_loop : FS := (sThen (sRet (eBin oEq (eBin oIdx (eBin oIdx (eBin oIdx (eVar 0) (eC (.int 2))) (eVar 1)) (eC (.int 0))) (eBin oIdx (eBin oIdx (eBin oIdx (eVar 0) (eC (.int 2))) (eVar 1)) (eC (.int 1)))))
  sSkip)
def m_is_loop : List D → Sr → R D := runDef false 2 b_is_loop
def b_is_bridge : FS := (sThen (sRet (eBin oLt (eCall 2 m_rank_in (eCons (eVar 0) (eCons (eCall 2 m_without (eCons (eVar 0) (eCons (eTup (eCons (eVar 1) eNil)) eNil))) eNil))) (eCall 2 m_rank_in (eCons (eVar 0) (eCons (eCall 1 m_all_ties (eCons (eVar 0) eNil)) eNil)))))
  sSkip)
def m_is_bridge : List D → Sr → R D := runDef false 2 b_is_bridge
def b_web_away : FS := (sThen (sRet (eTup (eCons (eC (.str "web")) (eCons (eBin oIdx (eVar 0) (eC (.int 1))) (eCons (eBin oAdd (eSlice (eBin oIdx (eVar 0) (eC (.int 2))) pNone (pSome (eVar 1))) (eSlice (eBin oIdx (eVar 0) (eC (.int 2))) (pSome (eBin oAdd (eVar 1) (eC (.int 1)))) pNone)) eNil)))))
  sSkip)
def m_web_away : List D → Sr → R D := runDef false 2 b_web_away
def b_name_drawn : FS := (sThen (sIf (eB (eBin oEq (eVar 0) (eVar 2))) (sThen (sRet (eVar 1))
  sSkip) sSkip)
  (sThen (sRet (eIf (eB (eBin oGt (eVar 0) (eVar 2))) (eBin oSub (eVar 0) (eC (.int 1))) (eVar 0)))
  sSkip))
def m_name_drawn : List D → Sr → R D := runDef false 3 b_name_drawn
def b_web_drawn : FS := (sThen (sAsg (.tup [(.name 2), (.name 3)]) (eBin oIdx (eBin oIdx (eVar 0) (eC (.int 2))) (eVar 1)))
  (sThen (sAsg (.name 4) (eBin oAdd (eSlice (eBin oIdx (eVar 0) (eC (.int 2))) pNone (pSome (eVar 1))) (eSlice (eBin oIdx (eVar 0) (eC (.int 2))) (pSome (eBin oAdd (eVar 1) (eC (.int 1)))) pNone)))
  (sThen (sRet (eCall 2 m_made (eCons (eBin oSub (eBin oIdx (eVar 0) (eC (.int 1))) (eC (.int 1))) (eCons (eLc (iSrc (eVar 4)) [5, 6] (.tup [(.name 5), (.name 6)]) bYes (eTup (eCons (eCall 3 m_name_drawn (eCons (eVar 5) (eCons (eVar 2) (eCons (eVar 3) eNil)))) (eCons (eCall 3 m_name_drawn (eCons (eVar 6) (eCons (eVar 2) (eCons (eVar 3) eNil)))) eNil)))) eNil))))
  sSkip)))
def m_web_drawn : List D → Sr → R D := runDef false 7 b_web_drawn
def b_plus_1 : FS := (sThen (sSet (eBin oAdd (eGet (eVar 2) (eVar 3) (eC (.int 0))) (eVar 4)) (eVar 2) (eVar 3))
  sSkip)
def b_plus : FS := (sThen (sAsg (.name 2) (eNew (eFr vDict (eCons (eVar 0) eNil))))
  (sThen (sFor (iItems (eVar 1)) (.tup [(.name 3), (.name 4)]) b_plus_1)
  (sThen (sRet (eDc dkT (iSrc (eFr vSorted (eCons (eVar 2) eNil))) [3] (.name 3) (eB (eBin oNe (eBin oIdx (eVar 2) (eVar 3)) (eC (.int 0)))) (eVar 3) (eBin oIdx (eVar 2) (eVar 3))))
  sSkip)))
def m_plus : List D → Sr → R D := runDef false 5 b_plus
def b_times_2 : FS := (sThen (sAsg (.name 7) (eTup (eCons (eBin oAdd (eBin oIdx (eVar 3) (eC (.int 0))) (eBin oIdx (eVar 5) (eC (.int 0)))) (eCons (eBin oAdd (eBin oIdx (eVar 3) (eC (.int 1))) (eBin oIdx (eVar 5) (eC (.int 1)))) eNil))))
  (sThen (sSet (eBin oAdd (eGet (eVar 2) (eVar 7) (eC (.int 0))) (eBin oMul (eVar 4) (eVar 6))) (eVar 2) (eVar 7))
  sSkip))
def b_times_1 : FS := (sThen (sFor (iItems (eVar 1)) (.tup [(.name 5), (.name 6)]) b_times_2)
  sSkip)
def b_times : FS := (sThen (sAsg (.name 2) (eNew (eC (.dt []))))
  (sThen (sFor (iItems (eVar 0)) (.tup [(.name 3), (.name 4)]) b_times_1)
  (sThen (sRet (eDc dkT (iSrc (eFr vSorted (eCons (eVar 2) eNil))) [7] (.name 7) (eB (eBin oNe (eBin oIdx (eVar 2) (eVar 7)) (eC (.int 0)))) (eVar 7) (eBin oIdx (eVar 2) (eVar 7))))
  sSkip)))
def m_times : List D → Sr → R D := runDef false 8 b_times
def b_taken_so_often_1 : FS := (sThen (sAsg (.name 2) (eCall 2 m_times (eCons (eVar 2) (eCons (eVar 0) eNil))))
  sSkip)
def b_taken_so_often : FS := (sThen (sAsg (.name 2) (eDisp dkT [((eTup (eCons (eC (.int 0)) (eCons (eC (.int 0)) eNil))), (eC (.int 1)))]))
  (sThen (sFor (iArgs hRange1 (eCons (eVar 1) eNil)) (.name 3) b_taken_so_often_1)
  (sThen (sRet (eVar 2))
  sSkip)))
def m_taken_so_often : List D → Sr → R D := runDef false 4 b_taken_so_often
def b_table_of_1 : FS := (sThen (sAsg (.name 3) (eTup (eCons (eCall 2 m_rank_in (eCons (eVar 0) (eCons (eVar 2) eNil))) (eCons (eCallV vLen (eCons (eVar 2) eNil)) eNil))))
  (sThen (sSet (eBin oAdd (eGet (eVar 1) (eVar 3) (eC (.int 0))) (eC (.int 1))) (eVar 1) (eVar 3))
  sSkip))
def b_table_of : FS := (sThen (sAsg (.name 1) (eNew (eC (.dt []))))
  (sThen (sFor (iSrc (eCall 1 m_all_lots (eCons (eVar 0) eNil))) (.name 2) b_table_of_1)
  (sThen (sRet (eDc dkT (iSrc (eFr vSorted (eCons (eVar 1) eNil))) [3] (.name 3) bYes (eVar 3) (eBin oIdx (eVar 1) (eVar 3))))
  sSkip)))
def m_table_of : List D → Sr → R D := runDef false 4 b_table_of
def b_polynomial_of_1 : FS := (sThen (sAsg (.name 6) (eCall 2 m_taken_so_often (eCons (eDisp dkT [((eTup (eCons (eC (.int 0)) (eCons (eC (.int 0)) eNil))), (eUn oNeg (eC (.int 1)))), ((eTup (eCons (eC (.int 1)) (eCons (eC (.int 0)) eNil))), (eC (.int 1)))]) (eCons (eBin oSub (eVar 1) (eVar 3)) eNil))))
  (sThen (sAsg (.name 7) (eCall 2 m_taken_so_often (eCons (eDisp dkT [((eTup (eCons (eC (.int 0)) (eCons (eC (.int 0)) eNil))), (eUn oNeg (eC (.int 1)))), ((eTup (eCons (eC (.int 0)) (eCons (eC (.int 1)) eNil))), (eC (.int 1)))]) (eCons (eBin oSub (eVar 4) (eVar 3)) eNil))))
  (sThen (sAsg (.name 2) (eCall 2 m_plus (eCons (eVar 2) (eCons (eCall 2 m_times (eCons (eDisp dkT [((eTup (eCons (eC (.int 0)) (eCons (eC (.int 0)) eNil))), (eVar 5))]) (eCons (eCall 2 m_times (eCons (eVar 6) (eCons (eVar 7) eNil))) eNil))) eNil))))
  sSkip)))
def b_polynomial_of : FS := (sThen (sAsg (.tup [(.name 1), (.name 2)]) (eTup (eCons (eCall 2 m_rank_in (eCons (eVar 0) (eCons (eCall 1 m_all_ties (eCons (eVar 0) eNil)) eNil))) (eCons (eC (.dt [])) eNil))))
  (sThen (sFor (iItems (eCall 1 m_table_of (eCons (eVar 0) eNil))) (.tup [(.tup [(.name 3), (.name 4)]), (.name 5)]) b_polynomial_of_1)
  (sThen (sRet (eVar 2))
  sSkip)))
def m_polynomial_of : List D → Sr → R D := runDef false 8 b_polynomial_of
def b_two_letters : FS := (sThen (sExpr (eCall 1 m_need_web (eCons (eVar 0) eNil)))
  (sThen (sRet (eCall 1 m_polynomial_of (eCons (eVar 0) eNil)))
  sSkip))
def m_two_letters : List D → Sr → R D := runDef false 1 b_two_letters
def b_polynomial_by_ties (self : List D → Sr → R D) : FS := (sThen (sIf (eB (eBin oEq (eBin oIdx (eVar 0) (eC (.int 2))) (eTup eNil))) (sThen (sRet (eDisp dkT [((eTup (eCons (eC (.int 0)) (eCons (eC (.int 0)) eNil))), (eC (.int 1)))]))
  sSkip) sSkip)
  (sThen (sAsg (.name 1) (eBin oSub (eCallV vLen (eCons (eBin oIdx (eVar 0) (eC (.int 2))) eNil)) (eC (.int 1))))
  (sThen (sIf (eB (eCall 2 m_is_loop (eCons (eVar 0) (eCons (eVar 1) eNil)))) (sThen (sRet (eCall 2 m_times (eCons (eDisp dkT [((eTup (eCons (eC (.int 0)) (eCons (eC (.int 1)) eNil))), (eC (.int 1)))]) (eCons (eCall 1 self (eCons (eCall 2 m_web_away (eCons (eVar 0) (eCons (eVar 1) eNil))) eNil)) eNil))))
  sSkip) sSkip)
  (sThen (sIf (eB (eCall 2 m_is_bridge (eCons (eVar 0) (eCons (eVar 1) eNil)))) (sThen (sRet (eCall 2 m_times (eCons (eDisp dkT [((eTup (eCons (eC (.int 1)) (eCons (eC (.int 0)) eNil))), (eC (.int 1)))]) (eCons (eCall 1 self (eCons (eCall 2 m_web_drawn (eCons (eVar 0) (eCons (eVar 1) eNil))) eNil)) eNil))))
  sSkip) sSkip)
  (sThen (sRet (eCall 2 m_plus (eCons (eCall 1 self (eCons (eCall 2 m_web_away (eCons (eVar 0) (eCons (eVar 1) eNil))) eNil)) (eCons (eCall 1 self (eCons (eCall 2 m_web_drawn (eCons (eVar 0) (eCons (eVar 1) eNil))) eNil)) eNil))))
  sSkip)))))
def m_polynomial_by_ties (self : List D → Sr → R D) : List D → Sr → R D := runDef false 2 (b_polynomial_by_ties self)
def b_powered_1 : FS := (sThen (sAsg (.name 2) (eBin oMul (eVar 2) (eVar 0)))
  sSkip)
def b_powered : FS := (sThen (sAsg (.name 2) (eC (.int 1)))
  (sThen (sFor (iArgs hRange1 (eCons (eVar 1) eNil)) (.name 3) b_powered_1)
  (sThen (sRet (eVar 2))
  sSkip)))
def m_powered : List D → Sr → R D := runDef false 4 b_powered
def b_worth_of : FS := (sThen (sRet (eCallV vSum (eCons (eLc (iItems (eVar 0)) [4, 5, 3] (.tup [(.tup [(.name 4), (.name 5)]), (.name 3)]) bYes (eBin oMul (eBin oMul (eVar 3) (eCall 2 m_powered (eCons (eVar 1) (eCons (eVar 4) eNil)))) (eCall 2 m_powered (eCons (eVar 2) (eCons (eVar 5) eNil))))) eNil)))
  sSkip)
def m_worth_of : List D → Sr → R D := runDef false 6 b_worth_of
def b_worth (r_polynomial_by_ties : Nat → List D → Sr → R D) : FS := (sThen (sExpr (eCall 1 m_need_web (eCons (eVar 0) eNil)))
  (sThen (sExpr (eCall 4 m_need_whole (eCons (eVar 1) (eCons (eUn oNeg (eC (.int 999999999999))) (eCons (eC (.int 999999999999)) (eCons (eC (.str "x")) eNil))))))
  (sThen (sExpr (eCall 4 m_need_whole (eCons (eVar 2) (eCons (eUn oNeg (eC (.int 999999999999))) (eCons (eC (.int 999999999999)) (eCons (eC (.str "y")) eNil))))))
  (sThen (sRet (eCall 3 m_worth_of (eCons (eCall 1 (r_polynomial_by_ties 1) (eCons (eVar 0) eNil)) (eCons (eVar 1) (eCons (eVar 2) eNil)))))
  sSkip))))
def m_worth (r_polynomial_by_ties : Nat → List D → Sr → R D) : List D → Sr → R D := runDef false 3 (b_worth r_polynomial_by_ties)
def b_need_current : FS := (sThen (sExpr (eCall 1 m_need_web (eCons (eVar 0) eNil)))
  (sThen (sExpr (eCall 4 m_need_whole (eCons (eVar 1) (eCons (eC (.int 1)) (eCons (eC (.int 1000000)) (eCons (eC (.str "k")) eNil))))))
  sSkip))
def m_need_current : List D → Sr → R D := runDef false 2 b_need_current
def b_sums_at_1 : FS := (sThen (sSet (eBin oSub (eBin oIdx (eVar 2) (eVar 3)) (eVar 5)) (eVar 2) (eVar 3))
  (sThen (sSet (eBin oAdd (eBin oIdx (eVar 2) (eVar 4)) (eVar 5)) (eVar 2) (eVar 4))
  sSkip))
def b_sums_at : FS := (sThen (sAsg (.name 2) (eNew (eFr2 nMul (eLst (eCons (eC (.int 0)) eNil)) (eBin oIdx (eVar 0) (eC (.int 1))))))
  (sThen (sFor (iArgs hZip (eCons (eBin oIdx (eVar 0) (eC (.int 2))) (eCons (eVar 1) eNil))) (.tup [(.tup [(.name 3), (.name 4)]), (.name 5)]) b_sums_at_1)
  (sThen (sRet (eVar 2))
  sSkip)))
def m_sums_at : List D → Sr → R D := runDef false 6 b_sums_at
def b_are_wholes : FS := (sThen (sRet (eAnd (eIsi [.tup] (eVar 1)) (eAnd (eBin oEq (eCallV vLen (eCons (eVar 1) eNil)) (eCallV vLen (eCons (eBin oIdx (eVar 0) (eC (.int 2))) eNil))) (eCallV vAll (eCons (eLc (iSrc (eVar 1)) [2] (.name 2) bYes (eCall 1 m_is_whole (eCons (eVar 2) eNil))) eNil)))))
  sSkip)
def m_are_wholes : List D → Sr → R D := runDef false 3 b_are_wholes
def b_is_current : FS := (sThen (sExpr (eCall 2 m_need_current (eCons (eVar 0) (eCons (eVar 1) eNil))))
  (sThen (sIf (bOr (bNot (eB (eCall 2 m_are_wholes (eCons (eVar 0) (eCons (eVar 2) eNil))))) (bNot (eB (eCallV vAll (eCons (eLc (iSrc (eVar 2)) [3] (.name 3) bYes (eChain oLt oLt (eC (.int 0)) (eVar 3) (eVar 1))) eNil))))) (sThen (sRet (eC (.bl false)))
  sSkip) sSkip)
  (sThen (sRet (eCallV vAll (eCons (eLc (iSrc (eCall 2 m_sums_at (eCons (eVar 0) (eCons (eVar 2) eNil)))) [3] (.name 3) bYes (eBin oEq (eBin oMod (eVar 3) (eVar 1)) (eC (.int 0)))) eNil)))
  sSkip)))
def m_is_current : List D → Sr → R D := runDef false 4 b_is_current
def b_current_numbers_1 : FS := (sThen (sSet (eBin oAdd (eBin oIdx (eVar 2) (eBin oSub (eVar 4) (eVar 3))) (eIf (eB (eBin oEq (eBin oMod (eBin oSub (eVar 1) (eVar 4)) (eC (.int 2))) (eC (.int 0)))) (eVar 5) (eUn oNeg (eVar 5)))) (eVar 2) (eBin oSub (eVar 4) (eVar 3)))
  sSkip)
def b_current_numbers : FS := (sThen (sAsg (.name 1) (eCallV vLen (eCons (eBin oIdx (eVar 0) (eC (.int 2))) eNil)))
  (sThen (sAsg (.name 2) (eNew (eFr2 nMul (eLst (eCons (eC (.int 0)) eNil)) (eBin oAdd (eBin oSub (eVar 1) (eCall 2 m_rank_in (eCons (eVar 0) (eCons (eCall 1 m_all_ties (eCons (eVar 0) eNil)) eNil)))) (eC (.int 1))))))
  (sThen (sFor (iItems (eCall 1 m_table_of (eCons (eVar 0) eNil))) (.tup [(.tup [(.name 3), (.name 4)]), (.name 5)]) b_current_numbers_1)
  (sThen (sRet (eCallV vTuple (eCons (eVar 2) eNil)))
  sSkip))))
def m_current_numbers : List D → Sr → R D := runDef false 6 b_current_numbers
def b_power_sum_1 : FS := (sThen (sAsg (.name 2) (eBin oAdd (eBin oMul (eVar 2) (eVar 1)) (eVar 3)))
  sSkip)
def b_power_sum : FS := (sThen (sAsg (.name 2) (eC (.int 0)))
  (sThen (sFor (iRevd (eVar 0)) (.name 3) b_power_sum_1)
  (sThen (sRet (eVar 2))
  sSkip)))
def m_power_sum : List D → Sr → R D := runDef false 4 b_power_sum
def b_many_currents : FS := (sThen (sExpr (eCall 2 m_need_current (eCons (eVar 0) (eCons (eVar 1) eNil))))
  (sThen (sRet (eCall 2 m_power_sum (eCons (eCall 1 m_current_numbers (eCons (eVar 0) eNil)) (eCons (eVar 1) eNil))))
  sSkip))
def m_many_currents : List D → Sr → R D := runDef false 2 b_many_currents
def b_need_dyes : FS := (sThen (sExpr (eCall 1 m_need_web (eCons (eVar 0) eNil)))
  (sThen (sExpr (eCall 4 m_need_whole (eCons (eVar 1) (eCons (eC (.int 0)) (eCons (eC (.int 1000000)) (eCons (eC (.str "k")) eNil))))))
  sSkip))
def m_need_dyes : List D → Sr → R D := runDef false 2 b_need_dyes
def b_is_tied : FS := (sThen (sRet (eBin (oIn false) (eTup (eCons (eCallV vMin (eCons (eVar 1) (eCons (eVar 2) eNil))) (eCons (eCallV vMax (eCons (eVar 1) (eCons (eVar 2) eNil))) eNil))) (eBin oIdx (eVar 0) (eC (.int 2)))))
  sSkip)
def m_is_tied : List D → Sr → R D := runDef false 3 b_is_tied
def b_is_dyeing_in : FS := (sThen (sIf (bOr (bNot (eB (eIsi [.tup] (eVar 2)))) (bOr (eB (eBin oNe (eCallV vLen (eCons (eVar 2) eNil)) (eBin oIdx (eVar 0) (eC (.int 1))))) (bNot (eB (eCallV vAll (eCons (eLc (iSrc (eVar 2)) [3] (.name 3) bYes (eCall 2 m_is_below (eCons (eVar 3) (eCons (eVar 1) eNil)))) eNil)))))) (sThen (sRet (eC (.bl false)))
  sSkip) sSkip)
  (sThen (sRet (eCallV vAll (eCons (eLc (iSrc (eBin oIdx (eVar 0) (eC (.int 2)))) [4, 5] (.tup [(.name 4), (.name 5)]) bYes (eBin oNe (eBin oIdx (eVar 2) (eVar 4)) (eBin oIdx (eVar 2) (eVar 5)))) eNil)))
  sSkip))
def m_is_dyeing_in : List D → Sr → R D := runDef false 6 b_is_dyeing_in
def b_is_dyeing : FS := (sThen (sExpr (eCall 2 m_need_dyes (eCons (eVar 0) (eCons (eVar 1) eNil))))
  (sThen (sRet (eCall 3 m_is_dyeing_in (eCons (eVar 0) (eCons (eVar 1) (eCons (eVar 2) eNil)))))
  sSkip))
def m_is_dyeing : List D → Sr → R D := runDef false 3 b_is_dyeing
def b_with_place_1 : FS := (sThen (sIf (bNot (eB (eCallV vAny (eCons (eLc (iSrc (eVar 5)) [6] (.name 6) bYes (eCall 3 m_is_tied (eCons (eVar 0) (eCons (eVar 1) (eCons (eVar 6) eNil))))) eNil)))) (sThen (sExpr (eMeth isLst mAppend (eVar 3) (eCons (eBin oAdd (eBin oAdd (eSlice (eVar 2) pNone (pSome (eVar 4))) (eTup (eCons (eBin oAdd (eVar 5) (eTup (eCons (eVar 1) eNil))) eNil))) (eSlice (eVar 2) (pSome (eBin oAdd (eVar 4) (eC (.int 1)))) pNone)) eNil)))
  sSkip) sSkip)
  sSkip)
def b_with_place : FS := (sThen (sAsg (.name 3) (eNew (eLst (eCons (eBin oAdd (eVar 2) (eTup (eCons (eTup (eCons (eVar 1) eNil)) eNil))) eNil))))
  (sThen (sFor (iArgs hEnum (eCons (eVar 2) eNil)) (.tup [(.name 4), (.name 5)]) b_with_place_1)
  (sThen (sRet (eVar 3))
  sSkip)))
def m_with_place : List D → Sr → R D := runDef false 7 b_with_place
def b_counts_of_partings_1 : FS := (sThen (sSet (eBin oAdd (eBin oIdx (eVar 3) (eCallV vLen (eCons (eVar 4) eNil))) (eC (.int 1))) (eVar 3) (eCallV vLen (eCons (eVar 4) eNil)))
  sSkip)
def b_counts_of_partings_2 : FS := (sThen (sIf (eB (eCall 3 m_is_tied (eCons (eVar 0) (eCons (eVar 2) (eCons (eVar 2) eNil))))) (sThen (sAsg (.name 1) (eLst eNil))
  sSkip) sSkip)
  (sThen (sAsg (.name 1) (eLc2 (iSrc (eVar 1)) [4, 5] (.name 4) bYes (iSrc (eCall 3 m_with_place (eCons (eVar 0) (eCons (eVar 2) (eCons (eVar 4) eNil))))) [5] (.name 5) bYes (eVar 5)))
  sSkip))
def b_counts_of_partings : FS := (sThen (sAsg (.name 1) (eLst (eCons (eTup eNil) eNil)))
  (sThen (sFor (iArgs hRange1 (eCons (eBin oIdx (eVar 0) (eC (.int 1))) eNil)) (.name 2) b_counts_of_partings_2)
  (sThen (sAsg (.name 3) (eNew (eFr2 nMul (eLst (eCons (eC (.int 0)) eNil)) (eBin oAdd (eBin oIdx (eVar 0) (eC (.int 1))) (eC (.int 1))))))
  (sThen (sFor (iSrc (eVar 1)) (.name 4) b_counts_of_partings_1)
  (sThen (sRet (eCallV vTuple (eCons (eVar 3) eNil)))
  sSkip)))))
def m_counts_of_partings : List D → Sr → R D := runDef false 6 b_counts_of_partings
def b_falling_product_1 : FS := (sThen (sAsg (.name 2) (eBin oMul (eVar 2) (eBin oSub (eVar 0) (eVar 3))))
  sSkip)
def b_falling_product : FS := (sThen (sAsg (.name 2) (eC (.int 1)))
  (sThen (sFor (iArgs hRange1 (eCons (eVar 1) eNil)) (.name 3) b_falling_product_1)
  (sThen (sRet (eVar 2))
  sSkip)))
def m_falling_product : List D → Sr → R D := runDef false 4 b_falling_product
def b_many_dyeings : FS := (sThen (sExpr (eCall 2 m_need_dyes (eCons (eVar 0) (eCons (eVar 1) eNil))))
  (sThen (sRet (eCallV vSum (eCons (eLc (iArgs hEnum (eCons (eCall 1 m_counts_of_partings (eCons (eVar 0) eNil)) eNil)) [2, 3] (.tup [(.name 2), (.name 3)]) bYes (eBin oMul (eVar 3) (eCall 2 m_falling_product (eCons (eVar 1) (eCons (eVar 2) eNil))))) eNil)))
  sSkip))
def m_many_dyeings : List D → Sr → R D := runDef false 4 b_many_dyeings
def b_law_begun : FS := (sThen (sNew 1 (eLc (iSrc (eVar 0)) [2] (.name 2) (eB (eBin oGe (eCallV vAbs (eCons (eVar 2) eNil)) (eBin oPow (eC (.int 10)) (eC (.int 18))))) (eBin oSub (eCallV vAbs (eCons (eVar 2) eNil)) (eBin oPow (eC (.int 10)) (eC (.int 18))))))
  (sThen (sRet (eNew (eDisp dkK [((eC (.str "great")), (eVar 1)), ((eC (.str "cells")), (eLc (iSrc (eVar 0)) [2] (.name 2) bYes (eCallV vAbs (eCons (eVar 2) eNil)))), ((eC (.str "rest")), (eC (.int 0))), ((eC (.str "turn")), (eC (.int 0)))])))
  sSkip))
def m_law_begun : List D → Sr → R D := runDef true 3 b_law_begun
def b_law_blended_2 : FS := (sThen (sAsg (.name 4) (eBin oMod (eCallV vInt (eCons (eBin oAdd (eBin oAdd (eBin oMul (eVar 4) (eC (.int 69621))) (eVar 5)) (eVar 1)) eNil)) (eVar 3)))
  sSkip)
def b_law_blended_1 : FS := (sThen (sAsg (.name 4) (eBin oAdd (eBin oMul (eC (.int 48271)) (eVar 1)) (eBin oDiv (eVar 3) (eC (.int 53)))))
  (sThen (sFor (iSrc (eBin oIdx (eVar 0) (eC (.str "cells")))) (.name 5) b_law_blended_2)
  (sThen (sAsg (.name 2) (eBin oAdd (eBin oMul (eVar 2) (eC (.int 2147483647))) (eBin oMod (eCallV vInt (eCons (eBin oPow (eVar 4) (eC (.int 5))) eNil)) (eVar 3))))
  sSkip)))
def b_law_blended : FS := (sThen (sAsg (.tup [(.name 1), (.name 2)]) (eTup (eCons (eBin oAdd (eBin oIdx (eVar 0) (eC (.str "turn"))) (eC (.int 1))) (eCons (eC (.int 0)) eNil))))
  (sThen (sSet (eVar 1) (eVar 0) (eC (.str "turn")))
  (sThen (sFor (iSrc (eLst (eCons (eC (.int 2147483579)) (eCons (eC (.int 2147483629)) (eCons (eC (.int 2147483563)) eNil))))) (.name 3) b_law_blended_1)
  (sThen (sRet (eVar 2))
  sSkip))))
def m_law_blended : List D → Sr → R D := runDef false 6 b_law_blended
def b_law_draw : FS := (sThen (sIf (eB (eBin oEq (eBin oIdx (eVar 0) (eC (.str "rest"))) (eC (.int 0)))) (sThen (sSet (eIf (eB (eBin oNe (eBin oIdx (eVar 0) (eC (.str "great"))) (eLst eNil))) (eMeth isLst mPop (eBin oIdx (eVar 0) (eC (.str "great"))) (eCons (eC (.int 0)) eNil)) (eCall 1 m_law_blended (eCons (eVar 0) eNil))) (eVar 0) (eC (.str "rest")))
  sSkip) sSkip)
  (sThen (sAsg (.name 2) (eBin oMod (eCallV vInt (eCons (eBin oIdx (eVar 0) (eC (.str "rest"))) eNil)) (eVar 1)))
  (sThen (sSet (eBin oDiv (eBin oIdx (eVar 0) (eC (.str "rest"))) (eVar 1)) (eVar 0) (eC (.str "rest")))
  (sThen (sRet (eVar 2))
  sSkip))))
def m_law_draw : List D → Sr → R D := runDef false 3 b_law_draw
def b_law_is_truth : FS := (sThen (sRet (eIf (eB (eVar 1)) (eBin (oIs false) (eVar 0) (eC (.bl true))) (eBin (oIs false) (eVar 0) (eC (.bl false)))))
  sSkip)
def m_law_is_truth : List D → Sr → R D := runDef false 2 b_law_is_truth
def b_law_same_1 : FS := (sThen (sAsg (.tup [(.name 3), (.name 4)]) (eMeth isLst mPop (eVar 2) eNil))
  (sThen (sIf (bOr (eB (eBin (oIs false) (eVar 4) (eC .non))) (eB (eIsi [.bl] (eVar 4)))) (sThen (sIf (bIf (eB (eBin (oIs false) (eVar 4) (eC .non))) (eB (eBin (oIs true) (eVar 3) (eC .non))) (bNot (eB (eCall 2 m_law_is_truth (eCons (eVar 3) (eCons (eVar 4) eNil)))))) (sThen (sRet (eC (.bl false)))
  sSkip) sSkip)
  sSkip) (sThen (sIf (eB (eIsi [.int, .str] (eVar 4))) (sThen (sIf (bOr (eB (eIsi [.bl] (eVar 3))) (bOr (eB (eBin oNe (eIsi [.int] (eVar 3)) (eIsi [.int] (eVar 4)))) (eB (eBin oNe (eVar 3) (eVar 4))))) (sThen (sRet (eC (.bl false)))
  sSkip) sSkip)
  sSkip) (sThen (sIf (eB (eIsi [.dct] (eVar 4))) (sThen (sIf (bOr (bNot (eB (eIsi [.dct] (eVar 3)))) (eB (eBin oNe (eFr vList (eCons (eVar 3) eNil)) (eFr vList (eCons (eVar 4) eNil))))) (sThen (sRet (eC (.bl false)))
  sSkip) sSkip)
  (sThen (sExpr (eMeth isLst mExtend (eVar 2) (eCons (eZipL (eCons (eFr vList (eCons (eVar 3) eNil)) (eCons (eFr vList (eCons (eVar 4) eNil)) eNil))) eNil)))
  (sThen (sExpr (eMeth isLst mExtend (eVar 2) (eCons (eLc (iSrc (eVar 4)) [6] (.name 6) bYes (eTup (eCons (eBin oIdx (eVar 3) (eVar 6)) (eCons (eBin oIdx (eVar 4) (eVar 6)) eNil)))) eNil)))
  sSkip))) (sThen (sAsg (.name 5) (eLst (eCons (eAnd (eIsi [.tup] (eVar 3)) (eIsi [.tup] (eVar 4))) (eCons (eAnd (eIsi [.lst] (eVar 3)) (eIsi [.lst] (eVar 4))) eNil))))
  (sThen (sIf (bOr (eB (eBin (oIn true) (eC (.bl true)) (eVar 5))) (eB (eBin oNe (eCallV vLen (eCons (eVar 3) eNil)) (eCallV vLen (eCons (eVar 4) eNil))))) (sThen (sRet (eC (.bl false)))
  sSkip) sSkip)
  (sThen (sExpr (eMeth isLst mExtend (eVar 2) (eCons (eLc (iArgs hZip (eCons (eVar 3) (eCons (eVar 4) eNil))) [7, 8] (.tup [(.name 7), (.name 8)]) bYes (eTup (eCons (eVar 7) (eCons (eVar 8) eNil)))) eNil)))
  sSkip))))
  sSkip))
  sSkip))
  sSkip))
def b_law_same : FS := (sThen (sAsg (.name 2) (eNew (eLst (eCons (eTup (eCons (eVar 0) (eCons (eVar 1) eNil))) eNil))))
  (sThen (whileF (eB (eBin oNe (eVar 2) (eLst eNil))) b_law_same_1 1000000000)
  (sThen (sRet (eC (.bl true)))
  sSkip)))
def m_law_same : List D → Sr → R D := runDef false 9 b_law_same
def b_law_pieces_1 : FS := (sThen (sAsg (.tup [(.name 5), (.name 6)]) (eTup (eCons (eCallV vMin (eCons (eBin oIdx (eVar 2) (eVar 3)) (eCons (eBin oIdx (eVar 2) (eVar 4)) eNil))) (eCons (eCallV vMax (eCons (eBin oIdx (eVar 2) (eVar 3)) (eCons (eBin oIdx (eVar 2) (eVar 4)) eNil))) eNil))))
  (sThen (sAsg (.name 2) (eLc (iSrc (eVar 2)) [7] (.name 7) bYes (eIf (eB (eBin oEq (eVar 7) (eVar 6))) (eVar 5) (eVar 7))))
  sSkip))
def b_law_pieces : FS := (sThen (sAsg (.name 2) (eRgL 1 (eCons (eVar 0) eNil)))
  (sThen (sFor (iSrc (eVar 1)) (.tup [(.name 3), (.name 4)]) b_law_pieces_1)
  (sThen (sRet (eCallV vTuple (eCons (eLc (iSrc (eFr vSorted (eCons (eFr vDict (eCons (eLc (iSrc (eVar 2)) [8] (.name 8) bYes (eTup (eCons (eVar 8) (eCons (eC (.bl true)) eNil)))) eNil)) eNil))) [7] (.name 7) bYes (eCallV vTuple (eCons (eLc (iArgs hRange1 (eCons (eVar 0) eNil)) [9] (.name 9) (eB (eBin oEq (eBin oIdx (eVar 2) (eVar 9)) (eVar 7))) (eVar 9)) eNil))) eNil)))
  sSkip)))
def m_law_pieces : List D → Sr → R D := runDef false 10 b_law_pieces
def b_law_rank : FS := (sThen (sRet (eBin oSub (eBin oIdx (eVar 0) (eC (.int 1))) (eCallV vLen (eCons (eCall 2 m_law_pieces (eCons (eBin oIdx (eVar 0) (eC (.int 1))) (eCons (eLc (iSrc (eVar 1)) [2] (.name 2) bYes (eBin oIdx (eBin oIdx (eVar 0) (eC (.int 2))) (eVar 2))) eNil))) eNil))))
  sSkip)
def m_law_rank : List D → Sr → R D := runDef false 3 b_law_rank
def b_law_lots_1 : FS := (sThen (sAsg (.name 1) (eBin oAdd (eVar 1) (eLc (iSrc (eVar 1)) [3] (.name 3) bYes (eBin oAdd (eVar 3) (eTup (eCons (eVar 2) eNil))))))
  sSkip)
def b_law_lots : FS := (sThen (sAsg (.name 1) (eLst (eCons (eTup eNil) eNil)))
  (sThen (sFor (iArgs hRange1 (eCons (eVar 0) eNil)) (.name 2) b_law_lots_1)
  (sThen (sRet (eSortK (tabB 0 "_law_lots.<locals>.<lambda>") (eVar 1)))
  sSkip)))
def m_law_lots : List D → Sr → R D := runDef false 4 b_law_lots
def b_law_choose_1 : FS := (sThen (sAsg (.name 2) (eCallV vInt (eCons (eBin oDiv (eBin oMul (eVar 2) (eBin oSub (eVar 0) (eVar 3))) (eBin oAdd (eVar 3) (eC (.int 1)))) eNil)))
  sSkip)
def b_law_choose : FS := (sThen (sAsg (.name 2) (eC (.int 1)))
  (sThen (sFor (iArgs hRange1 (eCons (eVar 1) eNil)) (.name 3) b_law_choose_1)
  (sThen (sRet (eVar 2))
  sSkip)))
def m_law_choose : List D → Sr → R D := runDef false 4 b_law_choose
def b_law_by_lots_3 : FS := (sThen (sAsg (.name 9) (eIf (eB (eBin oEq (eBin oMod (eCallV vInt (eCons (eBin oSub (eBin oAdd (eBin oSub (eVar 5) (eVar 7)) (eVar 6)) (eVar 8)) eNil)) (eC (.int 2))) (eC (.int 0)))) (eC (.int 1)) (eUn oNeg (eC (.int 1)))))
  (sThen (sSet (eBin oAdd (eGet (eVar 1) (eTup (eCons (eVar 7) (eCons (eVar 8) eNil))) (eC (.int 0))) (eBin oMul (eBin oMul (eVar 9) (eCall 2 m_law_choose (eCons (eVar 5) (eCons (eVar 7) eNil)))) (eCall 2 m_law_choose (eCons (eVar 6) (eCons (eVar 8) eNil))))) (eVar 1) (eTup (eCons (eVar 7) (eCons (eVar 8) eNil))))
  sSkip))
def b_law_by_lots_2 : FS := (sThen (sFor (iArgs hRange1 (eCons (eBin oAdd (eVar 6) (eC (.int 1))) eNil)) (.name 8) b_law_by_lots_3)
  sSkip)
def b_law_by_lots_1 : FS := (sThen (sAsg (.name 4) (eCall 2 m_law_rank (eCons (eVar 0) (eCons (eVar 3) eNil))))
  (sThen (sAsg (.tup [(.name 5), (.name 6)]) (eTup (eCons (eBin oSub (eVar 2) (eVar 4)) (eCons (eBin oSub (eCallV vLen (eCons (eVar 3) eNil)) (eVar 4)) eNil))))
  (sThen (sFor (iArgs hRange1 (eCons (eBin oAdd (eVar 5) (eC (.int 1))) eNil)) (.name 7) b_law_by_lots_2)
  sSkip)))
def b_law_by_lots : FS := (sThen (sAsg (.tup [(.name 1), (.name 2)]) (eTup (eCons (eNew (eC (.dt []))) (eCons (eCall 2 m_law_rank (eCons (eVar 0) (eCons (eRgT 1 (eCons (eCallV vLen (eCons (eBin oIdx (eVar 0) (eC (.int 2))) eNil)) eNil)) eNil))) eNil))))
  (sThen (sFor (iSrc (eCall 1 m_law_lots (eCons (eCallV vLen (eCons (eBin oIdx (eVar 0) (eC (.int 2))) eNil)) eNil))) (.name 3) b_law_by_lots_1)
  (sThen (sRet (eFr vDict (eCons (eLc (iSrc (eFr vSorted (eCons (eVar 1) eNil))) [10] (.name 10) (eB (eBin oNe (eBin oIdx (eVar 1) (eVar 10)) (eC (.int 0)))) (eTup (eCons (eVar 10) (eCons (eBin oIdx (eVar 1) (eVar 10)) eNil)))) eNil)))
  sSkip)))
def m_law_by_lots : List D → Sr → R D := runDef false 11 b_law_by_lots
def b_law_power_1 : FS := (sThen (sAsg (.name 2) (eBin oMul (eVar 2) (eVar 0)))
  sSkip)
def b_law_power : FS := (sThen (sAsg (.name 2) (eC (.int 1)))
  (sThen (sFor (iArgs hRange1 (eCons (eVar 1) eNil)) (.name 3) b_law_power_1)
  (sThen (sRet (eVar 2))
  sSkip)))
def m_law_power : List D → Sr → R D := runDef false 4 b_law_power
def b_law_made : FS := (sThen (sRet (eTup (eCons (eC (.str "web")) (eCons (eVar 0) (eCons (eCallV vTuple (eCons (eLc (iSrc (eVar 1)) [2, 3] (.tup [(.name 2), (.name 3)]) bYes (eTup (eCons (eCallV vMin (eCons (eVar 2) (eCons (eVar 3) eNil))) (eCons (eCallV vMax (eCons (eVar 2) (eCons (eVar 3) eNil))) eNil)))) eNil)) eNil)))))
  sSkip)
def m_law_made : List D → Sr → R D := runDef false 4 b_law_made
def b_law_kp_all_2 : FS := (sThen (sAsg (.name 4) (eBin oAdd (eVar 4) (eLc (iSrc (eVar 2)) [6] (.name 6) bYes (eBin oAdd (eVar 6) (eTup (eCons (eVar 5) eNil))))))
  sSkip)
def b_law_kp_all_1 : FS := (sThen (sAsg (.name 4) (eLst eNil))
  (sThen (sFor (iArgs hRange1 (eCons (eVar 1) eNil)) (.name 5) b_law_kp_all_2)
  (sThen (sAsg (.name 2) (eVar 4))
  sSkip)))
def b_law_kp_all : FS := (sThen (sAsg (.name 2) (eLst (eCons (eTup eNil) eNil)))
  (sThen (sFor (iArgs hRange1 (eCons (eVar 0) eNil)) (.name 3) b_law_kp_all_1)
  (sThen (sRet (eVar 2))
  sSkip)))
def m_law_kp_all : List D → Sr → R D := runDef false 7 b_law_kp_all
def b_law_kp_dyes_right_1 (r_polynomial_by_ties : Nat → List D → Sr → R D) : FS := (sThen (sAsg (.name 6) (eCallV vLen (eCons (eLc (iSrc (eBin oIdx (eVar 0) (eC (.int 2)))) [9, 10] (.tup [(.name 9), (.name 10)]) (eB (eBin oEq (eBin oIdx (eVar 5) (eVar 9)) (eBin oIdx (eVar 5) (eVar 10)))) (eC (.int 1))) eNil)))
  (sThen (sAsg (.tup [(.name 2), (.name 3)]) (eTup (eCons (eBin oAdd (eVar 2) (eCall 2 m_law_power (eCons (eC (.int 2)) (eCons (eVar 6) eNil)))) (eCons (eBin oAdd (eVar 3) (eCall 2 m_law_power (eCons (eC (.int 3)) (eCons (eVar 6) eNil)))) eNil))))
  (sThen (sAsg (.name 4) (eBin oAdd (eVar 4) (eCallV vInt (eCons (eBin oEq (eVar 6) (eC (.int 0))) eNil))))
  (sThen (sIf (eB (eBin oNe (eCall 3 m_is_dyeing (eCons (eVar 0) (eCons (eVar 1) (eCons (eVar 5) eNil)))) (eBin oEq (eVar 6) (eC (.int 0))))) (sThen (sRet (eC (.bl false)))
  sSkip) sSkip)
  sSkip))))
def b_law_kp_dyes_right (r_polynomial_by_ties : Nat → List D → Sr → R D) : FS := (sThen (sAsg (.tup [(.name 2), (.name 3), (.name 4)]) (eTup (eCons (eC (.int 0)) (eCons (eC (.int 0)) (eCons (eC (.int 0)) eNil)))))
  (sThen (sFor (iSrc (eCall 2 m_law_kp_all (eCons (eBin oIdx (eVar 0) (eC (.int 1))) (eCons (eVar 1) eNil)))) (.name 5) (b_law_kp_dyes_right_1 r_polynomial_by_ties))
  (sThen (sAsg (.name 7) (eCall 2 m_law_power (eCons (eVar 1) (eCons (eCallV vLen (eCons (eCall 2 m_pieces (eCons (eVar 0) (eCons (eRgT 1 (eCons (eCallV vLen (eCons (eBin oIdx (eVar 0) (eC (.int 2))) eNil)) eNil)) eNil))) eNil)) eNil))))
  (sThen (sIf (bOr (eB (eBin oNe (eVar 2) (eBin oMul (eVar 7) (eCall 3 (m_worth (fun j => r_polynomial_by_ties (j + 1))) (eCons (eVar 0) (eCons (eBin oAdd (eC (.int 1)) (eVar 1)) (eCons (eC (.int 2)) eNil))))))) (eB (eBin oNe (eCall 2 m_many_dyeings (eCons (eVar 0) (eCons (eVar 1) eNil))) (eVar 4)))) (sThen (sRet (eC (.bl false)))
  sSkip) sSkip)
  (sThen (sAsg (.name 8) (eCall 2 m_law_rank (eCons (eVar 0) (eCons (eRgT 1 (eCons (eCallV vLen (eCons (eBin oIdx (eVar 0) (eC (.int 2))) eNil)) eNil)) eNil))))
  (sThen (sRet (eOr (eBin oEq (eBin oMod (eCallV vInt (eCons (eVar 1) eNil)) (eC (.int 2))) (eC (.int 1))) (eBin oEq (eVar 3) (eBin oMul (eBin oMul (eVar 7) (eCall 2 m_law_power (eCons (eC (.int 2)) (eCons (eVar 8) eNil)))) (eCall 3 (m_worth (fun j => r_polynomial_by_ties (j + 1))) (eCons (eVar 0) (eCons (eBin oAdd (eC (.int 1)) (eBin oDiv (eVar 1) (eC (.int 2)))) (eCons (eC (.int 3)) eNil))))))))
  sSkip))))))
def m_law_kp_dyes_right (r_polynomial_by_ties : Nat → List D → Sr → R D) : List D → Sr → R D := runDef false 11 (b_law_kp_dyes_right r_polynomial_by_ties)
def b_law_kp_flows_right_2 (r_polynomial_by_ties : Nat → List D → Sr → R D) : FS := (sThen (sSet (eBin oSub (eBin oIdx (eVar 5) (eVar 6)) (eVar 8)) (eVar 5) (eVar 6))
  (sThen (sSet (eBin oAdd (eBin oIdx (eVar 5) (eVar 7)) (eVar 8)) (eVar 5) (eVar 7))
  sSkip))
def b_law_kp_flows_right_1 (r_polynomial_by_ties : Nat → List D → Sr → R D) : FS := (sThen (sAsg (.name 5) (eNew (eFr2 nMul (eLst (eCons (eC (.int 0)) eNil)) (eBin oIdx (eVar 0) (eC (.int 1))))))
  (sThen (sFor (iArgs hZip (eCons (eBin oIdx (eVar 0) (eC (.int 2))) (eCons (eVar 4) eNil))) (.tup [(.tup [(.name 6), (.name 7)]), (.name 8)]) (b_law_kp_flows_right_2 r_polynomial_by_ties))
  (sThen (sIf (eB (eBin oEq (eLc (iSrc (eVar 5)) [8] (.name 8) (eB (eBin oNe (eBin oMod (eCallV vInt (eCons (eVar 8) eNil)) (eVar 1)) (eC (.int 0)))) (eC (.int 1))) (eLst eNil))) (sThen (sAsg (.name 9) (eCallV vLen (eCons (eLc (iSrc (eVar 4)) [8] (.name 8) (eB (eBin oEq (eVar 8) (eC (.int 0)))) (eC (.int 1))) eNil)))
  (sThen (sAsg (.tup [(.name 2), (.name 3)]) (eTup (eCons (eBin oAdd (eVar 2) (eCall 2 m_law_power (eCons (eC (.int 2)) (eCons (eVar 9) eNil)))) (eCons (eBin oAdd (eVar 3) (eCallV vInt (eCons (eBin oEq (eVar 9) (eC (.int 0))) eNil))) eNil))))
  (sThen (sIf (eB (eBin oNe (eCall 3 m_is_current (eCons (eVar 0) (eCons (eVar 1) (eCons (eVar 4) eNil)))) (eBin oEq (eVar 9) (eC (.int 0))))) (sThen (sRet (eC (.bl false)))
  sSkip) sSkip)
  sSkip))) sSkip)
  sSkip)))
def b_law_kp_flows_right (r_polynomial_by_ties : Nat → List D → Sr → R D) : FS := (sThen (sAsg (.tup [(.name 2), (.name 3)]) (eTup (eCons (eC (.int 0)) (eCons (eC (.int 0)) eNil))))
  (sThen (sFor (iSrc (eCall 2 m_law_kp_all (eCons (eCallV vLen (eCons (eBin oIdx (eVar 0) (eC (.int 2))) eNil)) (eCons (eVar 1) eNil)))) (.name 4) (b_law_kp_flows_right_1 r_polynomial_by_ties))
  (sThen (sRet (eAnd (eBin oEq (eVar 2) (eCall 3 (m_worth (fun j => r_polynomial_by_ties (j + 1))) (eCons (eVar 0) (eCons (eC (.int 2)) (eCons (eBin oAdd (eC (.int 1)) (eVar 1)) eNil))))) (eBin oEq (eCall 2 m_many_currents (eCons (eVar 0) (eCons (eVar 1) eNil))) (eVar 3))))
  sSkip)))
def m_law_kp_flows_right (r_polynomial_by_ties : Nat → List D → Sr → R D) : List D → Sr → R D := runDef false 10 (b_law_kp_flows_right r_polynomial_by_ties)
def b_law_2 (r_polynomial_by_ties : Nat → List D → Sr → R D) : FS := (sThen (sIf (bOr (bNot (eB (eCall 2 (m_law_kp_dyes_right (fun j => r_polynomial_by_ties (j + 1))) (eCons (eVar 4) (eCons (eVar 5) eNil))))) (bNot (eB (eCall 2 (m_law_kp_flows_right (fun j => r_polynomial_by_ties (j + 1))) (eCons (eVar 4) (eCons (eVar 5) eNil)))))) (sThen (sRet (eC (.bl false)))
  sSkip) sSkip)
  sSkip)
def b_law_1 (r_polynomial_by_ties : Nat → List D → Sr → R D) : FS := (sThen (sAsg (.name 3) (eBin oAdd (eC (.int 1)) (eCall 2 m_law_draw (eCons (eVar 1) (eCons (eC (.int 4)) eNil)))))
  (sThen (sAsg (.name 4) (eCall 2 m_law_made (eCons (eVar 3) (eCons (eLc (iArgs hRange1 (eCons (eCall 2 m_law_draw (eCons (eVar 1) (eCons (eC (.int 6)) eNil))) eNil)) [6] (.name 6) bYes (eTup (eCons (eCall 2 m_law_draw (eCons (eVar 1) (eCons (eVar 3) eNil))) (eCons (eCall 2 m_law_draw (eCons (eVar 1) (eCons (eVar 3) eNil))) eNil)))) eNil))))
  (sThen (sIf (bNot (eB (eCall 2 m_law_same (eCons (eCall 1 m_two_letters (eCons (eVar 4) eNil)) (eCons (eCall 1 m_law_by_lots (eCons (eVar 4) eNil)) eNil))))) (sThen (sRet (eC (.bl false)))
  sSkip) sSkip)
  (sThen (sFor (iSrc (eLst (eCons (eC (.int 1)) (eCons (eC (.int 2)) (eCons (eC (.int 3)) eNil))))) (.name 5) (b_law_2 r_polynomial_by_ties))
  sSkip))))
def b_law (r_polynomial_by_ties : Nat → List D → Sr → R D) : FS := (sThen (sAsg (.name 1) (eCall 1 m_law_begun (eCons (eVar 0) eNil)))
  (sThen (sFor (iArgs hRange1 (eCons (eBin oAdd (eC (.int 2)) (eCallV vMin (eCons (eCallV vLen (eCons (eVar 0) eNil)) (eCons (eC (.int 4)) eNil)))) eNil)) (.name 2) (b_law_1 r_polynomial_by_ties))
  (sThen (sRet (eC (.bl true)))
  sSkip)))
def m_law (r_polynomial_by_ties : Nat → List D → Sr → R D) : List D → Sr → R D := runDef false 7 (b_law r_polynomial_by_ties)
end L3

namespace L3.K11
open PySem PySem.Spec PyProof.Rows L2 L3
def top (i : Nat) : Stmt := PySem.Challenge.pw_ringsandcuts_k11_whole_sums_over_all_dye.main.body.getD i (.Pass ⟨0, 0, 0, 0⟩)
def d_is_whole : Df := mkDf (top 8) ["value"] ["value"] false none
def d_need_whole : Df := mkDf (top 9) ["value", "low", "high", "word"] ["value", "low", "high", "word"] false none
def d_is_below : Df := mkDf (top 10) ["value", "bound"] ["value", "bound"] false none
def d_is_pair : Df := mkDf (top 11) ["n", "value"] ["n", "value", "place"] false none
def d_is_web : Df := mkDf (top 12) ["value"] ["value", "tie"] false none
def d_need_web : Df := mkDf (top 13) ["web"] ["web"] false none
def d_is_lot : Df := mkDf (top 14) ["web", "value"] ["web", "value", "tie", "one", "other"] false none
def d_need_lot : Df := mkDf (top 15) ["web", "lot"] ["web", "lot"] false none
def d_made : Df := mkDf (top 16) ["n", "ties"] ["n", "ties", "a", "b"] false none
def d_names_by : Df := mkDf (top 17) ["n", "ties"] ["n", "ties", "names", "a", "b", "low", "high", "name"] false none
def d_pieces_by : Df := mkDf (top 18) ["n", "ties"] ["n", "ties", "names", "firsts", "name", "place"] false none
def d_pieces_in : Df := mkDf (top 19) ["web", "lot"] ["web", "lot", "tie"] false none
def d_pieces : Df := mkDf (top 20) ["web", "lot"] ["web", "lot"] false none
def d_rank_in : Df := mkDf (top 21) ["web", "lot"] ["web", "lot", "names", "tie", "name"] false none
def d_all_ties : Df := mkDf (top 22) ["web"] ["web"] false none
def d_by_size : Df := mkDf (top 23) ["lot"] ["lot"] false none
def d_all_lots : Df := mkDf (top 24) ["web"] ["web", "found", "tie", "lot"] false none
def d_without : Df := mkDf (top 25) ["web", "lot"] ["web", "lot", "tie"] false none
def d_is_loop : Df := mkDf (top 26) ["web", "tie"] ["web", "tie"] false none
def d_is_bridge : Df := mkDf (top 27) ["web", "tie"] ["web", "tie"] false none
def d_web_away : Df := mkDf (top 29) ["web", "tie"] ["web", "tie"] false none
def d_name_drawn : Df := mkDf (top 30) ["place", "low", "high"] ["place", "low", "high"] false none
def d_web_drawn : Df := mkDf (top 31) ["web", "tie"] ["web", "tie", "low", "high", "ties", "a", "b"] false none
def d_plus : Df := mkDf (top 34) ["one", "other"] ["one", "other", "found", "key", "many"] false none
def d_times : Df := mkDf (top 35) ["one", "other"] ["one", "other", "found", "left", "many", "right", "more", "key"] false none
def d_taken_so_often : Df := mkDf (top 36) ["polynomial", "many"] ["polynomial", "many", "found", "lap"] false none
def d_table_of : Df := mkDf (top 37) ["web"] ["web", "found", "lot", "key"] false none
def d_polynomial_of : Df := mkDf (top 38) ["web"] ["web", "whole", "found", "own", "size", "many", "left", "right"] false none
def d_two_letters : Df := mkDf (top 39) ["web"] ["web"] false none
def d_polynomial_by_ties : Df := mkDf (top 40) ["web"] ["web", "tie"] false none
def d_powered : Df := mkDf (top 41) ["base", "many"] ["base", "many", "found", "lap"] false none
def d_worth_of : Df := mkDf (top 42) ["polynomial", "x", "y"] ["polynomial", "x", "y", "many", "i", "j"] false none
def d_worth : Df := mkDf (top 43) ["web", "x", "y"] ["web", "x", "y"] false none
def d_need_current : Df := mkDf (top 46) ["web", "k"] ["web", "k"] false none
def d_sums_at : Df := mkDf (top 47) ["web", "values"] ["web", "values", "found", "a", "b", "own"] false none
def d_are_wholes : Df := mkDf (top 48) ["web", "value"] ["web", "value", "own"] false none
def d_is_current : Df := mkDf (top 49) ["web", "k", "value"] ["web", "k", "value", "own"] false none
def d_current_numbers : Df := mkDf (top 50) ["web"] ["web", "many_ties", "found", "own", "size", "many"] false none
def d_power_sum : Df := mkDf (top 51) ["numbers", "k"] ["numbers", "k", "found", "own"] false none
def d_many_currents : Df := mkDf (top 52) ["web", "k"] ["web", "k"] false none
def d_need_dyes : Df := mkDf (top 55) ["web", "k"] ["web", "k"] false none
def d_is_tied : Df := mkDf (top 56) ["web", "a", "b"] ["web", "a", "b"] false none
def d_is_dyeing_in : Df := mkDf (top 57) ["web", "k", "value"] ["web", "k", "value", "dye", "a", "b"] false none
def d_is_dyeing : Df := mkDf (top 58) ["web", "k", "value"] ["web", "k", "value"] false none
def d_with_place : Df := mkDf (top 59) ["web", "place", "parting"] ["web", "place", "parting", "found", "at", "own", "other"] false none
def d_counts_of_partings : Df := mkDf (top 60) ["web"] ["web", "level", "place", "found", "parting", "later"] false none
def d_falling_product : Df := mkDf (top 61) ["k", "many"] ["k", "many", "found", "lap"] false none
def d_many_dyeings : Df := mkDf (top 62) ["web", "k"] ["web", "k", "size", "many"] false none
def d_law_begun : Df := mkDf (top 64) ["script"] ["script", "great", "cell"] true none
def d_law_blended : Df := mkDf (top 65) ["state"] ["state", "turn", "found", "prime", "blend", "cell"] false none
def d_law_draw : Df := mkDf (top 66) ["state", "room"] ["state", "room", "found"] false none
def d_law_is_truth : Df := mkDf (top 67) ["found", "due"] ["found", "due"] false none
def d_law_same : Df := mkDf (top 68) ["found", "due"] ["found", "due", "unseen_here", "one", "other", "alike", "key", "left", "right"] false none
def d_law_pieces : Df := mkDf (top 69) ["n", "ties"] ["n", "ties", "names", "a", "b", "low", "high", "name", "own", "place"] false none
def d_law_rank : Df := mkDf (top 70) ["web", "lot"] ["web", "lot", "tie"] false none
def d_law_lots : Df := mkDf (top 71) ["many"] ["many", "found", "own", "lot"] false (some (0, "_law_lots.<locals>.<lambda>"))
def d_law_choose : Df := mkDf (top 72) ["many", "few"] ["many", "few", "found", "spot"] false none
def d_law_by_lots : Df := mkDf (top 73) ["web"] ["web", "found", "whole", "lot", "rank_here", "high", "wide", "i", "j", "sign", "key"] false none
def d_law_power : Df := mkDf (top 74) ["base", "many"] ["base", "many", "found", "lap"] false none
def d_law_made : Df := mkDf (top 75) ["n", "ties"] ["n", "ties", "a", "b"] false none
def d_law_kp_all : Df := mkDf (top 76) ["many", "k"] ["many", "k", "found", "lap", "later", "number", "own"] false none
def d_law_kp_dyes_right : Df := mkDf (top 77) ["web", "k"] ["web", "k", "twos", "threes", "none", "dyes", "same", "many", "rank", "one", "two"] false none
def d_law_kp_flows_right : Df := mkDf (top 78) ["web", "k"] ["web", "k", "twos", "none", "values", "sums", "one", "two", "own", "idle"] false none
def d_law : Df := mkDf (top 79) ["script"] ["script", "draws", "turn", "n", "web", "k", "lap"] false none
def cells : List Pos := [⟨93, 12, 93, 21⟩, ⟨98, 12, 98, 14⟩, ⟨110, 12, 110, 14⟩, ⟨152, 12, 152, 24⟩, ⟨166, 12, 166, 63⟩, ⟨193, 12, 193, 35⟩, ⟨204, 12, 204, 30⟩, ⟨218, 12, 218, 78⟩, ⟨219, 11, 219, 90⟩, ⟨238, 18, 238, 32⟩, ⟨277, 20, 277, 22⟩, ⟨317, 15, 317, 27⟩]
def tds : List Pos := [⟨96, 11, 96, 72⟩, ⟨98, 12, 98, 14⟩, ⟨103, 11, 103, 72⟩, ⟨105, 12, 105, 23⟩, ⟨110, 12, 110, 14⟩, ⟨114, 11, 114, 53⟩, ⟨116, 49, 116, 51⟩, ⟨118, 30, 118, 53⟩, ⟨119, 31, 119, 54⟩, ⟨120, 34, 120, 48⟩, ⟨127, 15, 127, 26⟩, ⟨130, 21, 130, 32⟩, ⟨132, 21, 132, 32⟩, ⟨277, 20, 277, 22⟩]
def dfs : List (Str × Df) := [en "is_whole" d_is_whole,
  en "need_whole" d_need_whole,
  en "is_below" d_is_below,
  en "is_pair" d_is_pair,
  en "is_web" d_is_web,
  en "need_web" d_need_web,
  en "is_lot" d_is_lot,
  en "need_lot" d_need_lot,
  en "made" d_made,
  en "names_by" d_names_by,
  en "pieces_by" d_pieces_by,
  en "pieces_in" d_pieces_in,
  en "pieces" d_pieces,
  en "rank_in" d_rank_in,
  en "all_ties" d_all_ties,
  en "by_size" d_by_size,
  en "all_lots" d_all_lots,
  en "without" d_without,
  en "is_loop" d_is_loop,
  en "is_bridge" d_is_bridge,
  en "web_away" d_web_away,
  en "name_drawn" d_name_drawn,
  en "web_drawn" d_web_drawn,
  en "plus" d_plus,
  en "times" d_times,
  en "taken_so_often" d_taken_so_often,
  en "table_of" d_table_of,
  en "polynomial_of" d_polynomial_of,
  en "two_letters" d_two_letters,
  en "polynomial_by_ties" d_polynomial_by_ties,
  en "powered" d_powered,
  en "worth_of" d_worth_of,
  en "worth" d_worth,
  en "need_current" d_need_current,
  en "sums_at" d_sums_at,
  en "are_wholes" d_are_wholes,
  en "is_current" d_is_current,
  en "current_numbers" d_current_numbers,
  en "power_sum" d_power_sum,
  en "many_currents" d_many_currents,
  en "need_dyes" d_need_dyes,
  en "is_tied" d_is_tied,
  en "is_dyeing_in" d_is_dyeing_in,
  en "is_dyeing" d_is_dyeing,
  en "with_place" d_with_place,
  en "counts_of_partings" d_counts_of_partings,
  en "falling_product" d_falling_product,
  en "many_dyeings" d_many_dyeings,
  en "_law_begun" d_law_begun,
  en "_law_blended" d_law_blended,
  en "_law_draw" d_law_draw,
  en "_law_is_truth" d_law_is_truth,
  en "_law_same" d_law_same,
  en "_law_pieces" d_law_pieces,
  en "_law_rank" d_law_rank,
  en "_law_lots" d_law_lots,
  en "_law_choose" d_law_choose,
  en "_law_by_lots" d_law_by_lots,
  en "_law_power" d_law_power,
  en "_law_made" d_law_made,
  en "_law_kp_all" d_law_kp_all,
  en "_law_kp_dyes_right" d_law_kp_dyes_right,
  en "_law_kp_flows_right" d_law_kp_flows_right,
  en "law" d_law]
def pol : Pol := {
  tab := fun x => dfs.lookup x
  free := fun x => (["isinstance", "int", "bool", "tuple", "str", "len", "all", "min", "max", "range", "list", "sorted", "dict", "sum", "zip", "reversed", "enumerate", "any", "abs"] : List Str).contains x
  glo := fun x => if x = "MOST_PLACES" then some (.int 8) else if x = "MOST_TIES" then some (.int 12) else if x = "MOST_WORTH" then some (.int 999999999999) else if x = "MOST_CURRENT" then some (.int 1000000) else if x = "MOST_DYES" then some (.int 1000000) else none
  cell := fun p => cells.contains p
  tdict := fun p => tds.contains p
  keyf := fun x => x == ("by_size" : Str) }
theorem t_is_whole : pol.tab "is_whole" = some d_is_whole := by kernel_rfl
theorem f_is_whole (c : CT) (h : Cok pol c) : d_is_whole.fs (pol.cf d_is_whole c) = b_is_whole := by
  rw [h.eq]; kernel_rfl
theorem c_is_whole (k : Nat) : pol.call (k + 1) "is_whole" = some (1, m_is_whole) := by
  rw [call_s t_is_whole]; unfold Df.run; rw [f_is_whole _ (call_k (k))]; rfl
theorem t_need_whole : pol.tab "need_whole" = some d_need_whole := by kernel_rfl
theorem f_need_whole (c : CT) (h : Cok pol c) (h0 : c "is_whole" = some (1, m_is_whole)) : d_need_whole.fs (pol.cf d_need_whole c) = b_need_whole := by
  rw [h.eq, ov h0]; kernel_rfl
theorem c_need_whole (k : Nat) : pol.call (k + 2) "need_whole" = some (4, m_need_whole) := by
  rw [call_s t_need_whole]; unfold Df.run; rw [f_need_whole _ (call_k (k + 1)) (c_is_whole (k + 0))]; rfl
theorem t_is_below : pol.tab "is_below" = some d_is_below := by kernel_rfl
theorem f_is_below (c : CT) (h : Cok pol c) (h0 : c "is_whole" = some (1, m_is_whole)) : d_is_below.fs (pol.cf d_is_below c) = b_is_below := by
  rw [h.eq, ov h0]; kernel_rfl
theorem c_is_below (k : Nat) : pol.call (k + 2) "is_below" = some (2, m_is_below) := by
  rw [call_s t_is_below]; unfold Df.run; rw [f_is_below _ (call_k (k + 1)) (c_is_whole (k + 0))]; rfl
theorem t_is_pair : pol.tab "is_pair" = some d_is_pair := by kernel_rfl
theorem f_is_pair (c : CT) (h : Cok pol c) (h0 : c "is_below" = some (2, m_is_below)) : d_is_pair.fs (pol.cf d_is_pair c) = b_is_pair := by
  rw [h.eq, ov h0]; kernel_rfl
theorem c_is_pair (k : Nat) : pol.call (k + 3) "is_pair" = some (2, m_is_pair) := by
  rw [call_s t_is_pair]; unfold Df.run; rw [f_is_pair _ (call_k (k + 2)) (c_is_below (k + 0))]; rfl
theorem t_is_web : pol.tab "is_web" = some d_is_web := by kernel_rfl
theorem f_is_web (c : CT) (h : Cok pol c) (h0 : c "is_whole" = some (1, m_is_whole)) (h1 : c "is_pair" = some (2, m_is_pair)) : d_is_web.fs (pol.cf d_is_web c) = b_is_web := by
  rw [h.eq, ov h0, ov h1]; kernel_rfl
theorem c_is_web (k : Nat) : pol.call (k + 4) "is_web" = some (1, m_is_web) := by
  rw [call_s t_is_web]; unfold Df.run; rw [f_is_web _ (call_k (k + 3)) (c_is_whole (k + 2)) (c_is_pair (k + 0))]; rfl
theorem t_need_web : pol.tab "need_web" = some d_need_web := by kernel_rfl
theorem f_need_web (c : CT) (h : Cok pol c) (h0 : c "is_web" = some (1, m_is_web)) : d_need_web.fs (pol.cf d_need_web c) = b_need_web := by
  rw [h.eq, ov h0]; kernel_rfl
theorem c_need_web (k : Nat) : pol.call (k + 5) "need_web" = some (1, m_need_web) := by
  rw [call_s t_need_web]; unfold Df.run; rw [f_need_web _ (call_k (k + 4)) (c_is_web (k + 0))]; rfl
theorem t_is_lot : pol.tab "is_lot" = some d_is_lot := by kernel_rfl
theorem f_is_lot (c : CT) (h : Cok pol c) (h0 : c "is_below" = some (2, m_is_below)) : d_is_lot.fs (pol.cf d_is_lot c) = b_is_lot := by
  rw [h.eq, ov h0]; kernel_rfl
theorem c_is_lot (k : Nat) : pol.call (k + 3) "is_lot" = some (2, m_is_lot) := by
  rw [call_s t_is_lot]; unfold Df.run; rw [f_is_lot _ (call_k (k + 2)) (c_is_below (k + 0))]; rfl
theorem t_need_lot : pol.tab "need_lot" = some d_need_lot := by kernel_rfl
theorem f_need_lot (c : CT) (h : Cok pol c) (h0 : c "is_lot" = some (2, m_is_lot)) : d_need_lot.fs (pol.cf d_need_lot c) = b_need_lot := by
  rw [h.eq, ov h0]; kernel_rfl
theorem c_need_lot (k : Nat) : pol.call (k + 4) "need_lot" = some (2, m_need_lot) := by
  rw [call_s t_need_lot]; unfold Df.run; rw [f_need_lot _ (call_k (k + 3)) (c_is_lot (k + 0))]; rfl
theorem t_made : pol.tab "made" = some d_made := by kernel_rfl
theorem f_made (c : CT) (h : Cok pol c) : d_made.fs (pol.cf d_made c) = b_made := by
  rw [h.eq]; kernel_rfl
theorem c_made (k : Nat) : pol.call (k + 1) "made" = some (2, m_made) := by
  rw [call_s t_made]; unfold Df.run; rw [f_made _ (call_k (k))]; rfl
theorem t_names_by : pol.tab "names_by" = some d_names_by := by kernel_rfl
theorem f_names_by (c : CT) (h : Cok pol c) : d_names_by.fs (pol.cf d_names_by c) = b_names_by := by
  rw [h.eq]; kernel_rfl
theorem c_names_by (k : Nat) : pol.call (k + 1) "names_by" = some (2, m_names_by) := by
  rw [call_s t_names_by]; unfold Df.run; rw [f_names_by _ (call_k (k))]; rfl
theorem t_pieces_by : pol.tab "pieces_by" = some d_pieces_by := by kernel_rfl
theorem f_pieces_by (c : CT) (h : Cok pol c) (h0 : c "names_by" = some (2, m_names_by)) : d_pieces_by.fs (pol.cf d_pieces_by c) = b_pieces_by := by
  rw [h.eq, ov h0]; kernel_rfl
theorem c_pieces_by (k : Nat) : pol.call (k + 2) "pieces_by" = some (2, m_pieces_by) := by
  rw [call_s t_pieces_by]; unfold Df.run; rw [f_pieces_by _ (call_k (k + 1)) (c_names_by (k + 0))]; rfl
theorem t_pieces_in : pol.tab "pieces_in" = some d_pieces_in := by kernel_rfl
theorem f_pieces_in (c : CT) (h : Cok pol c) (h0 : c "pieces_by" = some (2, m_pieces_by)) : d_pieces_in.fs (pol.cf d_pieces_in c) = b_pieces_in := by
  rw [h.eq, ov h0]; kernel_rfl
theorem c_pieces_in (k : Nat) : pol.call (k + 3) "pieces_in" = some (2, m_pieces_in) := by
  rw [call_s t_pieces_in]; unfold Df.run; rw [f_pieces_in _ (call_k (k + 2)) (c_pieces_by (k + 0))]; rfl
theorem t_pieces : pol.tab "pieces" = some d_pieces := by kernel_rfl
theorem f_pieces (c : CT) (h : Cok pol c) (h0 : c "need_web" = some (1, m_need_web)) (h1 : c "need_lot" = some (2, m_need_lot)) (h2 : c "pieces_in" = some (2, m_pieces_in)) : d_pieces.fs (pol.cf d_pieces c) = b_pieces := by
  rw [h.eq, ov h0, ov h1, ov h2]; kernel_rfl
theorem c_pieces (k : Nat) : pol.call (k + 6) "pieces" = some (2, m_pieces) := by
  rw [call_s t_pieces]; unfold Df.run; rw [f_pieces _ (call_k (k + 5)) (c_need_web (k + 0)) (c_need_lot (k + 1)) (c_pieces_in (k + 2))]; rfl
theorem t_rank_in : pol.tab "rank_in" = some d_rank_in := by kernel_rfl
theorem f_rank_in (c : CT) (h : Cok pol c) (h0 : c "names_by" = some (2, m_names_by)) : d_rank_in.fs (pol.cf d_rank_in c) = b_rank_in := by
  rw [h.eq, ov h0]; kernel_rfl
theorem c_rank_in (k : Nat) : pol.call (k + 2) "rank_in" = some (2, m_rank_in) := by
  rw [call_s t_rank_in]; unfold Df.run; rw [f_rank_in _ (call_k (k + 1)) (c_names_by (k + 0))]; rfl
theorem t_all_ties : pol.tab "all_ties" = some d_all_ties := by kernel_rfl
theorem f_all_ties (c : CT) (h : Cok pol c) : d_all_ties.fs (pol.cf d_all_ties c) = b_all_ties := by
  rw [h.eq]; kernel_rfl
theorem c_all_ties (k : Nat) : pol.call (k + 1) "all_ties" = some (1, m_all_ties) := by
  rw [call_s t_all_ties]; unfold Df.run; rw [f_all_ties _ (call_k (k))]; rfl
theorem t_by_size : pol.tab "by_size" = some d_by_size := by kernel_rfl
theorem f_by_size (c : CT) (h : Cok pol c) : d_by_size.fs (pol.cf d_by_size c) = b_by_size := by
  rw [h.eq]; kernel_rfl
theorem c_by_size (k : Nat) : pol.call (k + 1) "by_size" = some (1, m_by_size) := by
  rw [call_s t_by_size]; unfold Df.run; rw [f_by_size _ (call_k (k))]; rfl
theorem t_all_lots : pol.tab "all_lots" = some d_all_lots := by kernel_rfl
theorem f_all_lots (c : CT) (h : Cok pol c) : d_all_lots.fs (pol.cf d_all_lots c) = b_all_lots := by
  rw [h.eq]; kernel_rfl
theorem c_all_lots (k : Nat) : pol.call (k + 1) "all_lots" = some (1, m_all_lots) := by
  rw [call_s t_all_lots]; unfold Df.run; rw [f_all_lots _ (call_k (k))]; rfl
theorem t_without : pol.tab "without" = some d_without := by kernel_rfl
theorem f_without (c : CT) (h : Cok pol c) (h0 : c "all_ties" = some (1, m_all_ties)) : d_without.fs (pol.cf d_without c) = b_without := by
  rw [h.eq, ov h0]; kernel_rfl
theorem c_without (k : Nat) : pol.call (k + 2) "without" = some (2, m_without) := by
  rw [call_s t_without]; unfold Df.run; rw [f_without _ (call_k (k + 1)) (c_all_ties (k + 0))]; rfl
theorem t_is_loop : pol.tab "is_loop" = some d_is_loop := by kernel_rfl
theorem f_is_loop (c : CT) (h : Cok pol c) : d_is_loop.fs (pol.cf d_is_loop c) = b_is_loop := by
  rw [h.eq]; kernel_rfl
theorem c_is_loop (k : Nat) : pol.call (k + 1) "is_loop" = some (2, m_is_loop) := by
  rw [call_s t_is_loop]; unfold Df.run; rw [f_is_loop _ (call_k (k))]; rfl
theorem t_is_bridge : pol.tab "is_bridge" = some d_is_bridge := by kernel_rfl
theorem f_is_bridge (c : CT) (h : Cok pol c) (h0 : c "rank_in" = some (2, m_rank_in)) (h1 : c "without" = some (2, m_without)) (h2 : c "all_ties" = some (1, m_all_ties)) : d_is_bridge.fs (pol.cf d_is_bridge c) = b_is_bridge := by
  rw [h.eq, ov h0, ov h1, ov h2]; kernel_rfl
theorem c_is_bridge (k : Nat) : pol.call (k + 3) "is_bridge" = some (2, m_is_bridge) := by
  rw [call_s t_is_bridge]; unfold Df.run; rw [f_is_bridge _ (call_k (k + 2)) (c_rank_in (k + 0)) (c_without (k + 0)) (c_all_ties (k + 1))]; rfl
theorem t_web_away : pol.tab "web_away" = some d_web_away := by kernel_rfl
theorem f_web_away (c : CT) (h : Cok pol c) : d_web_away.fs (pol.cf d_web_away c) = b_web_away := by
  rw [h.eq]; kernel_rfl
theorem c_web_away (k : Nat) : pol.call (k + 1) "web_away" = some (2, m_web_away) := by
  rw [call_s t_web_away]; unfold Df.run; rw [f_web_away _ (call_k (k))]; rfl
theorem t_name_drawn : pol.tab "name_drawn" = some d_name_drawn := by kernel_rfl
theorem f_name_drawn (c : CT) (h : Cok pol c) : d_name_drawn.fs (pol.cf d_name_drawn c) = b_name_drawn := by
  rw [h.eq]; kernel_rfl
theorem c_name_drawn (k : Nat) : pol.call (k + 1) "name_drawn" = some (3, m_name_drawn) := by
  rw [call_s t_name_drawn]; unfold Df.run; rw [f_name_drawn _ (call_k (k))]; rfl
theorem t_web_drawn : pol.tab "web_drawn" = some d_web_drawn := by kernel_rfl
theorem f_web_drawn (c : CT) (h : Cok pol c) (h0 : c "made" = some (2, m_made)) (h1 : c "name_drawn" = some (3, m_name_drawn)) : d_web_drawn.fs (pol.cf d_web_drawn c) = b_web_drawn := by
  rw [h.eq, ov h0, ov h1]; kernel_rfl
theorem c_web_drawn (k : Nat) : pol.call (k + 2) "web_drawn" = some (2, m_web_drawn) := by
  rw [call_s t_web_drawn]; unfold Df.run; rw [f_web_drawn _ (call_k (k + 1)) (c_made (k + 0)) (c_name_drawn (k + 0))]; rfl
theorem t_plus : pol.tab "plus" = some d_plus := by kernel_rfl
theorem f_plus (c : CT) (h : Cok pol c) : d_plus.fs (pol.cf d_plus c) = b_plus := by
  rw [h.eq]; kernel_rfl
theorem c_plus (k : Nat) : pol.call (k + 1) "plus" = some (2, m_plus) := by
  rw [call_s t_plus]; unfold Df.run; rw [f_plus _ (call_k (k))]; rfl
theorem t_times : pol.tab "times" = some d_times := by kernel_rfl
theorem f_times (c : CT) (h : Cok pol c) : d_times.fs (pol.cf d_times c) = b_times := by
  rw [h.eq]; kernel_rfl
theorem c_times (k : Nat) : pol.call (k + 1) "times" = some (2, m_times) := by
  rw [call_s t_times]; unfold Df.run; rw [f_times _ (call_k (k))]; rfl
theorem t_taken_so_often : pol.tab "taken_so_often" = some d_taken_so_often := by kernel_rfl
theorem f_taken_so_often (c : CT) (h : Cok pol c) (h0 : c "times" = some (2, m_times)) : d_taken_so_often.fs (pol.cf d_taken_so_often c) = b_taken_so_often := by
  rw [h.eq, ov h0]; kernel_rfl
theorem c_taken_so_often (k : Nat) : pol.call (k + 2) "taken_so_often" = some (2, m_taken_so_often) := by
  rw [call_s t_taken_so_often]; unfold Df.run; rw [f_taken_so_often _ (call_k (k + 1)) (c_times (k + 0))]; rfl
theorem t_table_of : pol.tab "table_of" = some d_table_of := by kernel_rfl
theorem f_table_of (c : CT) (h : Cok pol c) (h0 : c "all_lots" = some (1, m_all_lots)) (h1 : c "rank_in" = some (2, m_rank_in)) : d_table_of.fs (pol.cf d_table_of c) = b_table_of := by
  rw [h.eq, ov h0, ov h1]; kernel_rfl
theorem c_table_of (k : Nat) : pol.call (k + 3) "table_of" = some (1, m_table_of) := by
  rw [call_s t_table_of]; unfold Df.run; rw [f_table_of _ (call_k (k + 2)) (c_all_lots (k + 1)) (c_rank_in (k + 0))]; rfl
theorem t_polynomial_of : pol.tab "polynomial_of" = some d_polynomial_of := by kernel_rfl
theorem f_polynomial_of (c : CT) (h : Cok pol c) (h0 : c "rank_in" = some (2, m_rank_in)) (h1 : c "taken_so_often" = some (2, m_taken_so_often)) (h2 : c "plus" = some (2, m_plus)) (h3 : c "all_ties" = some (1, m_all_ties)) (h4 : c "table_of" = some (1, m_table_of)) (h5 : c "times" = some (2, m_times)) : d_polynomial_of.fs (pol.cf d_polynomial_of c) = b_polynomial_of := by
  rw [h.eq, ov h0, ov h1, ov h2, ov h3, ov h4, ov h5]; kernel_rfl
theorem c_polynomial_of (k : Nat) : pol.call (k + 4) "polynomial_of" = some (1, m_polynomial_of) := by
  rw [call_s t_polynomial_of]; unfold Df.run; rw [f_polynomial_of _ (call_k (k + 3)) (c_rank_in (k + 1)) (c_taken_so_often (k + 1)) (c_plus (k + 2)) (c_all_ties (k + 2)) (c_table_of (k + 0)) (c_times (k + 2))]; rfl
theorem t_two_letters : pol.tab "two_letters" = some d_two_letters := by kernel_rfl
theorem f_two_letters (c : CT) (h : Cok pol c) (h0 : c "need_web" = some (1, m_need_web)) (h1 : c "polynomial_of" = some (1, m_polynomial_of)) : d_two_letters.fs (pol.cf d_two_letters c) = b_two_letters := by
  rw [h.eq, ov h0, ov h1]; kernel_rfl
theorem c_two_letters (k : Nat) : pol.call (k + 6) "two_letters" = some (1, m_two_letters) := by
  rw [call_s t_two_letters]; unfold Df.run; rw [f_two_letters _ (call_k (k + 5)) (c_need_web (k + 0)) (c_polynomial_of (k + 1))]; rfl
theorem t_polynomial_by_ties : pol.tab "polynomial_by_ties" = some d_polynomial_by_ties := by kernel_rfl
theorem f_polynomial_by_ties (self : List D → Sr → R D) (c : CT) (h : Cok pol c) (h0 : c "polynomial_by_ties" = some (1, self)) (h1 : c "is_loop" = some (2, m_is_loop)) (h2 : c "is_bridge" = some (2, m_is_bridge)) (h3 : c "plus" = some (2, m_plus)) (h4 : c "times" = some (2, m_times)) (h5 : c "web_away" = some (2, m_web_away)) (h6 : c "web_drawn" = some (2, m_web_drawn)) : d_polynomial_by_ties.fs (pol.cf d_polynomial_by_ties c) = b_polynomial_by_ties self := by
  rw [h.eq, ov h0, ov h1, ov h2, ov h3, ov h4, ov h5, ov h6]; kernel_rfl
theorem c_polynomial_by_ties (k : Nat) (self : List D → Sr → R D) (q : pol.call (k + 3) "polynomial_by_ties" = some (1, self)) : pol.call (k + 4) "polynomial_by_ties" = some (1, m_polynomial_by_ties self) := by
  rw [call_s t_polynomial_by_ties]; unfold Df.run; rw [f_polynomial_by_ties self _ (call_k (k + 3)) q (c_is_loop (k + 2)) (c_is_bridge (k + 0)) (c_plus (k + 2)) (c_times (k + 2)) (c_web_away (k + 2)) (c_web_drawn (k + 1))]; rfl
theorem t_powered : pol.tab "powered" = some d_powered := by kernel_rfl
theorem f_powered (c : CT) (h : Cok pol c) : d_powered.fs (pol.cf d_powered c) = b_powered := by
  rw [h.eq]; kernel_rfl
theorem c_powered (k : Nat) : pol.call (k + 1) "powered" = some (2, m_powered) := by
  rw [call_s t_powered]; unfold Df.run; rw [f_powered _ (call_k (k))]; rfl
theorem t_worth_of : pol.tab "worth_of" = some d_worth_of := by kernel_rfl
theorem f_worth_of (c : CT) (h : Cok pol c) (h0 : c "powered" = some (2, m_powered)) : d_worth_of.fs (pol.cf d_worth_of c) = b_worth_of := by
  rw [h.eq, ov h0]; kernel_rfl
theorem c_worth_of (k : Nat) : pol.call (k + 2) "worth_of" = some (3, m_worth_of) := by
  rw [call_s t_worth_of]; unfold Df.run; rw [f_worth_of _ (call_k (k + 1)) (c_powered (k + 0))]; rfl
theorem t_worth : pol.tab "worth" = some d_worth := by kernel_rfl
theorem f_worth (r_polynomial_by_ties : Nat → List D → Sr → R D) (c : CT) (h : Cok pol c) (h0 : c "need_web" = some (1, m_need_web)) (h1 : c "need_whole" = some (4, m_need_whole)) (h2 : c "worth_of" = some (3, m_worth_of)) (h3 : c "polynomial_by_ties" = some (1, (r_polynomial_by_ties 1))) : d_worth.fs (pol.cf d_worth c) = b_worth r_polynomial_by_ties := by
  rw [h.eq, ov h0, ov h1, ov h2, ov h3]; kernel_rfl
theorem c_worth (k : Nat) (r_polynomial_by_ties : Nat → List D → Sr → R D) (q0 : pol.call (k + 5) "polynomial_by_ties" = some (1, r_polynomial_by_ties 1)) : pol.call (k + 6) "worth" = some (3, m_worth r_polynomial_by_ties) := by
  rw [call_s t_worth]; unfold Df.run; rw [f_worth r_polynomial_by_ties _ (call_k (k + 5)) (c_need_web (k + 0)) (c_need_whole (k + 3)) (c_worth_of (k + 3)) q0]; rfl
theorem t_need_current : pol.tab "need_current" = some d_need_current := by kernel_rfl
theorem f_need_current (c : CT) (h : Cok pol c) (h0 : c "need_web" = some (1, m_need_web)) (h1 : c "need_whole" = some (4, m_need_whole)) : d_need_current.fs (pol.cf d_need_current c) = b_need_current := by
  rw [h.eq, ov h0, ov h1]; kernel_rfl
theorem c_need_current (k : Nat) : pol.call (k + 6) "need_current" = some (2, m_need_current) := by
  rw [call_s t_need_current]; unfold Df.run; rw [f_need_current _ (call_k (k + 5)) (c_need_web (k + 0)) (c_need_whole (k + 3))]; rfl
theorem t_sums_at : pol.tab "sums_at" = some d_sums_at := by kernel_rfl
theorem f_sums_at (c : CT) (h : Cok pol c) : d_sums_at.fs (pol.cf d_sums_at c) = b_sums_at := by
  rw [h.eq]; kernel_rfl
theorem c_sums_at (k : Nat) : pol.call (k + 1) "sums_at" = some (2, m_sums_at) := by
  rw [call_s t_sums_at]; unfold Df.run; rw [f_sums_at _ (call_k (k))]; rfl
theorem t_are_wholes : pol.tab "are_wholes" = some d_are_wholes := by kernel_rfl
theorem f_are_wholes (c : CT) (h : Cok pol c) (h0 : c "is_whole" = some (1, m_is_whole)) : d_are_wholes.fs (pol.cf d_are_wholes c) = b_are_wholes := by
  rw [h.eq, ov h0]; kernel_rfl
theorem c_are_wholes (k : Nat) : pol.call (k + 2) "are_wholes" = some (2, m_are_wholes) := by
  rw [call_s t_are_wholes]; unfold Df.run; rw [f_are_wholes _ (call_k (k + 1)) (c_is_whole (k + 0))]; rfl
theorem t_is_current : pol.tab "is_current" = some d_is_current := by kernel_rfl
theorem f_is_current (c : CT) (h : Cok pol c) (h0 : c "need_current" = some (2, m_need_current)) (h1 : c "are_wholes" = some (2, m_are_wholes)) (h2 : c "sums_at" = some (2, m_sums_at)) : d_is_current.fs (pol.cf d_is_current c) = b_is_current := by
  rw [h.eq, ov h0, ov h1, ov h2]; kernel_rfl
theorem c_is_current (k : Nat) : pol.call (k + 7) "is_current" = some (3, m_is_current) := by
  rw [call_s t_is_current]; unfold Df.run; rw [f_is_current _ (call_k (k + 6)) (c_need_current (k + 0)) (c_are_wholes (k + 4)) (c_sums_at (k + 5))]; rfl
theorem t_current_numbers : pol.tab "current_numbers" = some d_current_numbers := by kernel_rfl
theorem f_current_numbers (c : CT) (h : Cok pol c) (h0 : c "table_of" = some (1, m_table_of)) (h1 : c "rank_in" = some (2, m_rank_in)) (h2 : c "all_ties" = some (1, m_all_ties)) : d_current_numbers.fs (pol.cf d_current_numbers c) = b_current_numbers := by
  rw [h.eq, ov h0, ov h1, ov h2]; kernel_rfl
theorem c_current_numbers (k : Nat) : pol.call (k + 4) "current_numbers" = some (1, m_current_numbers) := by
  rw [call_s t_current_numbers]; unfold Df.run; rw [f_current_numbers _ (call_k (k + 3)) (c_table_of (k + 0)) (c_rank_in (k + 1)) (c_all_ties (k + 2))]; rfl
theorem t_power_sum : pol.tab "power_sum" = some d_power_sum := by kernel_rfl
theorem f_power_sum (c : CT) (h : Cok pol c) : d_power_sum.fs (pol.cf d_power_sum c) = b_power_sum := by
  rw [h.eq]; kernel_rfl
theorem c_power_sum (k : Nat) : pol.call (k + 1) "power_sum" = some (2, m_power_sum) := by
  rw [call_s t_power_sum]; unfold Df.run; rw [f_power_sum _ (call_k (k))]; rfl
theorem t_many_currents : pol.tab "many_currents" = some d_many_currents := by kernel_rfl
theorem f_many_currents (c : CT) (h : Cok pol c) (h0 : c "need_current" = some (2, m_need_current)) (h1 : c "power_sum" = some (2, m_power_sum)) (h2 : c "current_numbers" = some (1, m_current_numbers)) : d_many_currents.fs (pol.cf d_many_currents c) = b_many_currents := by
  rw [h.eq, ov h0, ov h1, ov h2]; kernel_rfl
theorem c_many_currents (k : Nat) : pol.call (k + 7) "many_currents" = some (2, m_many_currents) := by
  rw [call_s t_many_currents]; unfold Df.run; rw [f_many_currents _ (call_k (k + 6)) (c_need_current (k + 0)) (c_power_sum (k + 5)) (c_current_numbers (k + 2))]; rfl
theorem t_need_dyes : pol.tab "need_dyes" = some d_need_dyes := by kernel_rfl
theorem f_need_dyes (c : CT) (h : Cok pol c) (h0 : c "need_web" = some (1, m_need_web)) (h1 : c "need_whole" = some (4, m_need_whole)) : d_need_dyes.fs (pol.cf d_need_dyes c) = b_need_dyes := by
  rw [h.eq, ov h0, ov h1]; kernel_rfl
theorem c_need_dyes (k : Nat) : pol.call (k + 6) "need_dyes" = some (2, m_need_dyes) := by
  rw [call_s t_need_dyes]; unfold Df.run; rw [f_need_dyes _ (call_k (k + 5)) (c_need_web (k + 0)) (c_need_whole (k + 3))]; rfl
theorem t_is_tied : pol.tab "is_tied" = some d_is_tied := by kernel_rfl
theorem f_is_tied (c : CT) (h : Cok pol c) : d_is_tied.fs (pol.cf d_is_tied c) = b_is_tied := by
  rw [h.eq]; kernel_rfl
theorem c_is_tied (k : Nat) : pol.call (k + 1) "is_tied" = some (3, m_is_tied) := by
  rw [call_s t_is_tied]; unfold Df.run; rw [f_is_tied _ (call_k (k))]; rfl
theorem t_is_dyeing_in : pol.tab "is_dyeing_in" = some d_is_dyeing_in := by kernel_rfl
theorem f_is_dyeing_in (c : CT) (h : Cok pol c) (h0 : c "is_below" = some (2, m_is_below)) : d_is_dyeing_in.fs (pol.cf d_is_dyeing_in c) = b_is_dyeing_in := by
  rw [h.eq, ov h0]; kernel_rfl
theorem c_is_dyeing_in (k : Nat) : pol.call (k + 3) "is_dyeing_in" = some (3, m_is_dyeing_in) := by
  rw [call_s t_is_dyeing_in]; unfold Df.run; rw [f_is_dyeing_in _ (call_k (k + 2)) (c_is_below (k + 0))]; rfl
theorem t_is_dyeing : pol.tab "is_dyeing" = some d_is_dyeing := by kernel_rfl
theorem f_is_dyeing (c : CT) (h : Cok pol c) (h0 : c "need_dyes" = some (2, m_need_dyes)) (h1 : c "is_dyeing_in" = some (3, m_is_dyeing_in)) : d_is_dyeing.fs (pol.cf d_is_dyeing c) = b_is_dyeing := by
  rw [h.eq, ov h0, ov h1]; kernel_rfl
theorem c_is_dyeing (k : Nat) : pol.call (k + 7) "is_dyeing" = some (3, m_is_dyeing) := by
  rw [call_s t_is_dyeing]; unfold Df.run; rw [f_is_dyeing _ (call_k (k + 6)) (c_need_dyes (k + 0)) (c_is_dyeing_in (k + 3))]; rfl
theorem t_with_place : pol.tab "with_place" = some d_with_place := by kernel_rfl
theorem f_with_place (c : CT) (h : Cok pol c) (h0 : c "is_tied" = some (3, m_is_tied)) : d_with_place.fs (pol.cf d_with_place c) = b_with_place := by
  rw [h.eq, ov h0]; kernel_rfl
theorem c_with_place (k : Nat) : pol.call (k + 2) "with_place" = some (3, m_with_place) := by
  rw [call_s t_with_place]; unfold Df.run; rw [f_with_place _ (call_k (k + 1)) (c_is_tied (k + 0))]; rfl
theorem t_counts_of_partings : pol.tab "counts_of_partings" = some d_counts_of_partings := by kernel_rfl
theorem f_counts_of_partings (c : CT) (h : Cok pol c) (h0 : c "is_tied" = some (3, m_is_tied)) (h1 : c "with_place" = some (3, m_with_place)) : d_counts_of_partings.fs (pol.cf d_counts_of_partings c) = b_counts_of_partings := by
  rw [h.eq, ov h0, ov h1]; kernel_rfl
theorem c_counts_of_partings (k : Nat) : pol.call (k + 3) "counts_of_partings" = some (1, m_counts_of_partings) := by
  rw [call_s t_counts_of_partings]; unfold Df.run; rw [f_counts_of_partings _ (call_k (k + 2)) (c_is_tied (k + 1)) (c_with_place (k + 0))]; rfl
theorem t_falling_product : pol.tab "falling_product" = some d_falling_product := by kernel_rfl
theorem f_falling_product (c : CT) (h : Cok pol c) : d_falling_product.fs (pol.cf d_falling_product c) = b_falling_product := by
  rw [h.eq]; kernel_rfl
theorem c_falling_product (k : Nat) : pol.call (k + 1) "falling_product" = some (2, m_falling_product) := by
  rw [call_s t_falling_product]; unfold Df.run; rw [f_falling_product _ (call_k (k))]; rfl
theorem t_many_dyeings : pol.tab "many_dyeings" = some d_many_dyeings := by kernel_rfl
theorem f_many_dyeings (c : CT) (h : Cok pol c) (h0 : c "need_dyes" = some (2, m_need_dyes)) (h1 : c "falling_product" = some (2, m_falling_product)) (h2 : c "counts_of_partings" = some (1, m_counts_of_partings)) : d_many_dyeings.fs (pol.cf d_many_dyeings c) = b_many_dyeings := by
  rw [h.eq, ov h0, ov h1, ov h2]; kernel_rfl
theorem c_many_dyeings (k : Nat) : pol.call (k + 7) "many_dyeings" = some (2, m_many_dyeings) := by
  rw [call_s t_many_dyeings]; unfold Df.run; rw [f_many_dyeings _ (call_k (k + 6)) (c_need_dyes (k + 0)) (c_falling_product (k + 5)) (c_counts_of_partings (k + 3))]; rfl
theorem t_law_begun : pol.tab "_law_begun" = some d_law_begun := by kernel_rfl
theorem f_law_begun (c : CT) (h : Cok pol c) : d_law_begun.fs (pol.cf d_law_begun c) = b_law_begun := by
  rw [h.eq]; kernel_rfl
theorem c_law_begun (k : Nat) : pol.call (k + 1) "_law_begun" = some (1, m_law_begun) := by
  rw [call_s t_law_begun]; unfold Df.run; rw [f_law_begun _ (call_k (k))]; rfl
theorem t_law_blended : pol.tab "_law_blended" = some d_law_blended := by kernel_rfl
theorem f_law_blended (c : CT) (h : Cok pol c) : d_law_blended.fs (pol.cf d_law_blended c) = b_law_blended := by
  rw [h.eq]; kernel_rfl
theorem c_law_blended (k : Nat) : pol.call (k + 1) "_law_blended" = some (1, m_law_blended) := by
  rw [call_s t_law_blended]; unfold Df.run; rw [f_law_blended _ (call_k (k))]; rfl
theorem t_law_draw : pol.tab "_law_draw" = some d_law_draw := by kernel_rfl
theorem f_law_draw (c : CT) (h : Cok pol c) (h0 : c "_law_blended" = some (1, m_law_blended)) : d_law_draw.fs (pol.cf d_law_draw c) = b_law_draw := by
  rw [h.eq, ov h0]; kernel_rfl
theorem c_law_draw (k : Nat) : pol.call (k + 2) "_law_draw" = some (2, m_law_draw) := by
  rw [call_s t_law_draw]; unfold Df.run; rw [f_law_draw _ (call_k (k + 1)) (c_law_blended (k + 0))]; rfl
theorem t_law_is_truth : pol.tab "_law_is_truth" = some d_law_is_truth := by kernel_rfl
theorem f_law_is_truth (c : CT) (h : Cok pol c) : d_law_is_truth.fs (pol.cf d_law_is_truth c) = b_law_is_truth := by
  rw [h.eq]; kernel_rfl
theorem c_law_is_truth (k : Nat) : pol.call (k + 1) "_law_is_truth" = some (2, m_law_is_truth) := by
  rw [call_s t_law_is_truth]; unfold Df.run; rw [f_law_is_truth _ (call_k (k))]; rfl
theorem t_law_same : pol.tab "_law_same" = some d_law_same := by kernel_rfl
theorem f_law_same (c : CT) (h : Cok pol c) (h0 : c "_law_is_truth" = some (2, m_law_is_truth)) : d_law_same.fs (pol.cf d_law_same c) = b_law_same := by
  rw [h.eq, ov h0]; kernel_rfl
theorem c_law_same (k : Nat) : pol.call (k + 2) "_law_same" = some (2, m_law_same) := by
  rw [call_s t_law_same]; unfold Df.run; rw [f_law_same _ (call_k (k + 1)) (c_law_is_truth (k + 0))]; rfl
theorem t_law_pieces : pol.tab "_law_pieces" = some d_law_pieces := by kernel_rfl
theorem f_law_pieces (c : CT) (h : Cok pol c) : d_law_pieces.fs (pol.cf d_law_pieces c) = b_law_pieces := by
  rw [h.eq]; kernel_rfl
theorem c_law_pieces (k : Nat) : pol.call (k + 1) "_law_pieces" = some (2, m_law_pieces) := by
  rw [call_s t_law_pieces]; unfold Df.run; rw [f_law_pieces _ (call_k (k))]; rfl
theorem t_law_rank : pol.tab "_law_rank" = some d_law_rank := by kernel_rfl
theorem f_law_rank (c : CT) (h : Cok pol c) (h0 : c "_law_pieces" = some (2, m_law_pieces)) : d_law_rank.fs (pol.cf d_law_rank c) = b_law_rank := by
  rw [h.eq, ov h0]; kernel_rfl
theorem c_law_rank (k : Nat) : pol.call (k + 2) "_law_rank" = some (2, m_law_rank) := by
  rw [call_s t_law_rank]; unfold Df.run; rw [f_law_rank _ (call_k (k + 1)) (c_law_pieces (k + 0))]; rfl
theorem t_law_lots : pol.tab "_law_lots" = some d_law_lots := by kernel_rfl
theorem f_law_lots (c : CT) (h : Cok pol c) : d_law_lots.fs (pol.cf d_law_lots c) = b_law_lots := by
  rw [h.eq]; kernel_rfl
theorem c_law_lots (k : Nat) : pol.call (k + 1) "_law_lots" = some (1, m_law_lots) := by
  rw [call_s t_law_lots]; unfold Df.run; rw [f_law_lots _ (call_k (k))]; rfl
theorem t_law_choose : pol.tab "_law_choose" = some d_law_choose := by kernel_rfl
theorem f_law_choose (c : CT) (h : Cok pol c) : d_law_choose.fs (pol.cf d_law_choose c) = b_law_choose := by
  rw [h.eq]; kernel_rfl
theorem c_law_choose (k : Nat) : pol.call (k + 1) "_law_choose" = some (2, m_law_choose) := by
  rw [call_s t_law_choose]; unfold Df.run; rw [f_law_choose _ (call_k (k))]; rfl
theorem t_law_by_lots : pol.tab "_law_by_lots" = some d_law_by_lots := by kernel_rfl
theorem f_law_by_lots (c : CT) (h : Cok pol c) (h0 : c "_law_lots" = some (1, m_law_lots)) (h1 : c "_law_rank" = some (2, m_law_rank)) (h2 : c "_law_choose" = some (2, m_law_choose)) : d_law_by_lots.fs (pol.cf d_law_by_lots c) = b_law_by_lots := by
  rw [h.eq, ov h0, ov h1, ov h2]; kernel_rfl
theorem c_law_by_lots (k : Nat) : pol.call (k + 3) "_law_by_lots" = some (1, m_law_by_lots) := by
  rw [call_s t_law_by_lots]; unfold Df.run; rw [f_law_by_lots _ (call_k (k + 2)) (c_law_lots (k + 1)) (c_law_rank (k + 0)) (c_law_choose (k + 1))]; rfl
theorem t_law_power : pol.tab "_law_power" = some d_law_power := by kernel_rfl
theorem f_law_power (c : CT) (h : Cok pol c) : d_law_power.fs (pol.cf d_law_power c) = b_law_power := by
  rw [h.eq]; kernel_rfl
theorem c_law_power (k : Nat) : pol.call (k + 1) "_law_power" = some (2, m_law_power) := by
  rw [call_s t_law_power]; unfold Df.run; rw [f_law_power _ (call_k (k))]; rfl
theorem t_law_made : pol.tab "_law_made" = some d_law_made := by kernel_rfl
theorem f_law_made (c : CT) (h : Cok pol c) : d_law_made.fs (pol.cf d_law_made c) = b_law_made := by
  rw [h.eq]; kernel_rfl
theorem c_law_made (k : Nat) : pol.call (k + 1) "_law_made" = some (2, m_law_made) := by
  rw [call_s t_law_made]; unfold Df.run; rw [f_law_made _ (call_k (k))]; rfl
theorem t_law_kp_all : pol.tab "_law_kp_all" = some d_law_kp_all := by kernel_rfl
theorem f_law_kp_all (c : CT) (h : Cok pol c) : d_law_kp_all.fs (pol.cf d_law_kp_all c) = b_law_kp_all := by
  rw [h.eq]; kernel_rfl
theorem c_law_kp_all (k : Nat) : pol.call (k + 1) "_law_kp_all" = some (2, m_law_kp_all) := by
  rw [call_s t_law_kp_all]; unfold Df.run; rw [f_law_kp_all _ (call_k (k))]; rfl
theorem t_law_kp_dyes_right : pol.tab "_law_kp_dyes_right" = some d_law_kp_dyes_right := by kernel_rfl
theorem f_law_kp_dyes_right (r_polynomial_by_ties : Nat → List D → Sr → R D) (c : CT) (h : Cok pol c) (h0 : c "_law_kp_all" = some (2, m_law_kp_all)) (h1 : c "_law_power" = some (2, m_law_power)) (h2 : c "_law_rank" = some (2, m_law_rank)) (h3 : c "is_dyeing" = some (3, m_is_dyeing)) (h4 : c "pieces" = some (2, m_pieces)) (h5 : c "many_dyeings" = some (2, m_many_dyeings)) (h6 : c "worth" = some (3, (m_worth (fun j => r_polynomial_by_ties (j + 1))))) : d_law_kp_dyes_right.fs (pol.cf d_law_kp_dyes_right c) = b_law_kp_dyes_right r_polynomial_by_ties := by
  rw [h.eq, ov h0, ov h1, ov h2, ov h3, ov h4, ov h5, ov h6]; kernel_rfl
theorem c_law_kp_dyes_right (k : Nat) (r_polynomial_by_ties : Nat → List D → Sr → R D) (q0 : pol.call (k + 6) "polynomial_by_ties" = some (1, r_polynomial_by_ties 2)) : pol.call (k + 8) "_law_kp_dyes_right" = some (2, m_law_kp_dyes_right r_polynomial_by_ties) := by
  rw [call_s t_law_kp_dyes_right]; unfold Df.run; rw [f_law_kp_dyes_right r_polynomial_by_ties _ (call_k (k + 7)) (c_law_kp_all (k + 6)) (c_law_power (k + 6)) (c_law_rank (k + 5)) (c_is_dyeing (k + 0)) (c_pieces (k + 1)) (c_many_dyeings (k + 0)) (c_worth (k + 1) (fun j => r_polynomial_by_ties (j + 1)) q0)]; rfl
theorem t_law_kp_flows_right : pol.tab "_law_kp_flows_right" = some d_law_kp_flows_right := by kernel_rfl
theorem f_law_kp_flows_right (r_polynomial_by_ties : Nat → List D → Sr → R D) (c : CT) (h : Cok pol c) (h0 : c "_law_kp_all" = some (2, m_law_kp_all)) (h1 : c "worth" = some (3, (m_worth (fun j => r_polynomial_by_ties (j + 1))))) (h2 : c "many_currents" = some (2, m_many_currents)) (h3 : c "is_current" = some (3, m_is_current)) (h4 : c "_law_power" = some (2, m_law_power)) : d_law_kp_flows_right.fs (pol.cf d_law_kp_flows_right c) = b_law_kp_flows_right r_polynomial_by_ties := by
  rw [h.eq, ov h0, ov h1, ov h2, ov h3, ov h4]; kernel_rfl
theorem c_law_kp_flows_right (k : Nat) (r_polynomial_by_ties : Nat → List D → Sr → R D) (q0 : pol.call (k + 6) "polynomial_by_ties" = some (1, r_polynomial_by_ties 2)) : pol.call (k + 8) "_law_kp_flows_right" = some (2, m_law_kp_flows_right r_polynomial_by_ties) := by
  rw [call_s t_law_kp_flows_right]; unfold Df.run; rw [f_law_kp_flows_right r_polynomial_by_ties _ (call_k (k + 7)) (c_law_kp_all (k + 6)) (c_worth (k + 1) (fun j => r_polynomial_by_ties (j + 1)) q0) (c_many_currents (k + 0)) (c_is_current (k + 0)) (c_law_power (k + 6))]; rfl
theorem t_law : pol.tab "law" = some d_law := by kernel_rfl
theorem f_law (r_polynomial_by_ties : Nat → List D → Sr → R D) (c : CT) (h : Cok pol c) (h0 : c "_law_begun" = some (1, m_law_begun)) (h1 : c "_law_made" = some (2, m_law_made)) (h2 : c "_law_draw" = some (2, m_law_draw)) (h3 : c "_law_same" = some (2, m_law_same)) (h4 : c "two_letters" = some (1, m_two_letters)) (h5 : c "_law_by_lots" = some (1, m_law_by_lots)) (h6 : c "_law_kp_dyes_right" = some (2, (m_law_kp_dyes_right (fun j => r_polynomial_by_ties (j + 1))))) (h7 : c "_law_kp_flows_right" = some (2, (m_law_kp_flows_right (fun j => r_polynomial_by_ties (j + 1))))) : d_law.fs (pol.cf d_law c) = b_law r_polynomial_by_ties := by
  rw [h.eq, ov h0, ov h1, ov h2, ov h3, ov h4, ov h5, ov h6, ov h7]; kernel_rfl
theorem c_law (k : Nat) (r_polynomial_by_ties : Nat → List D → Sr → R D) (q0 : pol.call (k + 6) "polynomial_by_ties" = some (1, r_polynomial_by_ties 3)) : pol.call (k + 9) "law" = some (1, m_law r_polynomial_by_ties) := by
  rw [call_s t_law]; unfold Df.run; rw [f_law r_polynomial_by_ties _ (call_k (k + 8)) (c_law_begun (k + 7)) (c_law_made (k + 7)) (c_law_draw (k + 6)) (c_law_same (k + 6)) (c_two_letters (k + 2)) (c_law_by_lots (k + 5)) (c_law_kp_dyes_right (k + 0) (fun j => r_polynomial_by_ties (j + 1)) q0) (c_law_kp_flows_right (k + 0) (fun j => r_polynomial_by_ties (j + 1)) q0)]; rfl
end L3.K11

/-! M1: how the combinators run -/
namespace L3
open PySem PySem.Spec PyProof.Rows L2

def dN (n : Nat) : D := .int n
def dI (i : Int) : D := .int i
def dB (b : Bool) : D := .bl b
def dP (p : Nat × Nat) : D := .tup [.int p.1, .int p.2]
def dL (l : List Nat) : D := .tup (l.map dN)
def dW (n : Nat) (ts : List (Nat × Nat)) : D := .tup [.str "web", .int n, .tup (ts.map dP)]

@[simp] theorem eVar_zero (a : D) (l : Env') (s : Sr) : eVar 0 (some a :: l) s = .ok a s := (rfl)
@[simp] theorem eVar_succ (i : Nat) (x : Option D) (l : Env') (s : Sr) : eVar (i + 1) (x :: l) s = eVar i l s := (rfl)
@[simp] theorem eC_run (d : D) (env : Env') (s : Sr) : eC d env s = .ok d s := (rfl)
@[simp] theorem eNil_run (env : Env') (s : Sr) : eNil env s = .ok [] s := (rfl)
@[simp] theorem eCons_run (f : F) (r : FA) (env : Env') (s : Sr) : eCons f r env s = (f env s).bind fun d s => (r env s).bind fun ds s => .ok (d :: ds) s := (rfl)
@[simp] theorem eTup_run (f : FA) (env : Env') (s : Sr) : eTup f env s = (f env s).bind fun ds s => if ds.length ≤ sizeLine then .ok (.tup ds) s else .bad := (rfl)
@[simp] theorem eLst_run (f : FA) (env : Env') (s : Sr) : eLst f env s = (f env s).bind fun ds s => if ds.length ≤ sizeLine then .ok (.lst ds) s else .bad := (rfl)
@[simp] theorem eBin_run (op : D → D → Sr → R D) (a b : F) (env : Env') (s : Sr) : eBin op a b env s = (a env s).bind fun x s => (b env s).bind fun y s => op x y s := (rfl)
@[simp] theorem eUn_run (op : D → Sr → R D) (a : F) (env : Env') (s : Sr) : eUn op a env s = (a env s).bind fun x s => op x s := (rfl)
@[simp] theorem eB_run (a : F) (env : Env') (s : Sr) : eB a env s = (a env s).bind fun x s => asB x s := (rfl)
@[simp] theorem asB_run (b : Bool) (s : Sr) : asB (.bl b) s = .ok b s := (rfl)
@[simp] theorem eAnd_run (a b : F) (env : Env') (s : Sr) : eAnd a b env s = (a env s).bind fun x s => (asB x s).bind fun c s => if c then (b env s).bind fun y s => (asB y s).bind fun d s => .ok (.bl d) s else .ok (.bl false) s := (rfl)
@[simp] theorem eOr_run (a b : F) (env : Env') (s : Sr) : eOr a b env s = (a env s).bind fun x s => (asB x s).bind fun c s => if c then .ok (.bl true) s else (b env s).bind fun y s => (asB y s).bind fun d s => .ok (.bl d) s := (rfl)
@[simp] theorem eNot_run (a : F) (env : Env') (s : Sr) : eNot a env s = (a env s).bind fun x s => (asB x s).bind fun c s => .ok (.bl (!c)) s := (rfl)
@[simp] theorem bAnd_run (a b : FB) (env : Env') (s : Sr) : bAnd a b env s = (a env s).bind fun c s => if c then b env s else .ok false s := (rfl)
@[simp] theorem bOr_run (a b : FB) (env : Env') (s : Sr) : bOr a b env s = (a env s).bind fun c s => if c then .ok true s else b env s := (rfl)
@[simp] theorem bNot_run (a : FB) (env : Env') (s : Sr) : bNot a env s = (a env s).bind fun c s => .ok (!c) s := (rfl)
@[simp] theorem bIf_run (c a b : FB) (env : Env') (s : Sr) : bIf c a b env s = (c env s).bind fun c s => if c then a env s else b env s := (rfl)
@[simp] theorem bYes_run (env : Env') (s : Sr) : bYes env s = .ok true s := (rfl)
@[simp] theorem eIf_run (c : FB) (a b : F) (env : Env') (s : Sr) : eIf c a b env s = (c env s).bind fun c s => if c then a env s else b env s := (rfl)
@[simp] theorem eChain_run (op op' : D → D → Sr → R D) (a b c : F) (env : Env') (s : Sr) : eChain op op' a b c env s = (a env s).bind fun x s => (b env s).bind fun y s => (op x y s).bind fun z s => (asB z s).bind fun k s => if k then (c env s).bind fun w s => op' y w s else .ok (.bl false) s := (rfl)
@[simp] theorem eCall_run (n : Nat) (f : List D → Sr → R D) (fa : FA) (env : Env') (s : Sr) : eCall n f fa env s = (fa env s).bind fun ds s => if ds.length = n then f ds s else .bad := (rfl)
@[simp] theorem eCallV_run (f : List D → Sr → R D) (fa : FA) (env : Env') (s : Sr) : eCallV f fa env s = (fa env s).bind fun ds s => f ds s := (rfl)
@[simp] theorem eFr_run (f : List D → Sr → Option D) (fa : FA) (env : Env') (s : Sr) : eFr f fa env s = (fa env s).bind fun ds s => match f ds s with | some d => .ok d s | none => .bad := (rfl)
theorem eNew_run (f : F) (env : Env') (s : Sr) : eNew f env s = (f env s).bind fun d s => match toCell d with | some c => .ok (.ref s.length) (s ++ [c]) | none => .bad := (rfl)
@[simp] theorem eIsi_run (ts : List Ty) (f : F) (env : Env') (s : Sr) : eIsi ts f env s = (f env s).bind fun d s => match tyOf s d with | some t => .ok (.bl (isA ts t)) s | none => .bad := (rfl)
@[simp] theorem eSlice_run (fe : F) (fl fh : Env' → Sr → R (Option Int)) (env : Env') (s : Sr) : eSlice fe fl fh env s = (fe env s).bind fun x s => (fl env s).bind fun l s => (fh env s).bind fun h s => oSlice x l h s := (rfl)
@[simp] theorem pNone_run (env : Env') (s : Sr) : pNone env s = .ok none s := (rfl)
@[simp] theorem pSome_run (f : F) (env : Env') (s : Sr) : pSome f env s = (f env s).bind fun d s => match d with | .int i => .ok (some i) s | _ => .bad := (rfl)
@[simp] theorem eRgL_run (k : Nat) (fa : FA) (env : Env') (s : Sr) : eRgL k fa env s = (fa env s).bind fun ds s => match rgTup k ds with | some l => .ok (.lst l) s | none => .bad := (rfl)
@[simp] theorem eRgT_run (k : Nat) (fa : FA) (env : Env') (s : Sr) : eRgT k fa env s = (fa env s).bind fun ds s => match rgTup k ds with | some l => .ok (.tup l) s | none => .bad := (rfl)
@[simp] theorem eFr2_run (f : D → D → Sr → Option D) (a b : F) (env : Env') (s : Sr) : eFr2 f a b env s = (a env s).bind fun x s => (b env s).bind fun y s => match f x y s with | some d => .ok d s | none => .bad := (rfl)
theorem eGet_run (fo fk fd : F) (env : Env') (s : Sr) : eGet fo fk fd env s = (fo env s).bind fun o s => if (asDk s o).isSome || (asDt s o).isSome then (fk env s).bind fun k s => (fd env s).bind fun d s => match dget s o k with | some r => .ok (r.getD d) s | none => .bad else .bad := (rfl)
@[simp] theorem eMeth_run (ty : Sr → D → Bool) (f : D → List D → Sr → R D) (fo : F) (fa : FA) (env : Env') (s : Sr) : eMeth ty f fo fa env s = (fo env s).bind fun x s => if ty s x then (fa env s).bind fun ds s => (match f x ds s with | .ok d s => .ok d s | _ => .bad) else .bad := (rfl)
@[simp] theorem eSortK_run (chk : Sr → Bool) (fe : F) (env : Env') (s : Sr) : eSortK chk fe env s = (fe env s).bind fun d s => match asL s d with | some l => if keyOk l && chk s then .ok (.lst (vSortK l)) s else .bad | none => .bad := (rfl)
@[simp] theorem eZipL_run (fa : FA) (env : Env') (s : Sr) : eZipL fa env s = (fa env s).bind fun ds s => match ds with
  | [x, y] => (match asL s x, asL s y with | some l, some m => if l.length = m.length then .ok (.lst (zipL l m)) s else .bad | _, _ => .bad)
  | _ => .bad := (rfl)
@[simp] theorem iArgs_run (h : List D → Sr → Option Src) (fa : FA) (env : Env') (s : Sr) : iArgs h fa env s = (fa env s).bind fun ds s => match h ds s with | some c => .ok c s | none => .bad := (rfl)
@[simp] theorem iSrc_run (f : F) (env : Env') (s : Sr) : iSrc f env s = (f env s).bind fun d s => match srcD s d with | some c => .ok c s | none => .bad := (rfl)
@[simp] theorem iItems_run (f : F) (env : Env') (s : Sr) : iItems f env s = (f env s).bind fun d s => match d with
  | .dk l => .ok ⟨itemsK l, []⟩ s
  | .dt l => .ok ⟨itemsT l, []⟩ s
  | _ => .bad := (rfl)
@[simp] theorem iRevd_run (f : F) (env : Env') (s : Sr) : iRevd f env s = (f env s).bind fun d s => match hRev [d] s with | some c => .ok c s | none => .bad := (rfl)
theorem eLc_run (it : FI) (vs : List Nat) (t : Tg) (test : FB) (elt : F) (env : Env') (s : Sr) : eLc it vs t test elt env s = (it env s).bind fun c s => (lcL c.ok vs t test elt c.items [] env s).bind fun ds s => .ok (.lst ds) s := (rfl)
theorem eLc2_run (it : FI) (vs : List Nat) (t : Tg) (test : FB) (it1 : FI) (vs1 : List Nat) (t1 : Tg) (test1 : FB) (elt : F) (env : Env') (s : Sr) : eLc2 it vs t test it1 vs1 t1 test1 elt env s = (it env s).bind fun c s => (lcO c.ok vs t test (lcIn it1 vs1 t1 test1 elt) c.items [] env s).bind fun ds s => .ok (.lst ds) s := (rfl)
theorem eDc_run {κ : Type} [DecidableEq κ] (kd : Dk κ) (it : FI) (vs : List Nat) (t : Tg) (test : FB) (fk fv : F) (env : Env') (s : Sr) : eDc kd it vs t test fk fv env s = (it env s).bind fun c s => (dcL kd c.ok vs t test fk fv c.items [] env s).bind fun l s => .ok (kd.dat l) s := (rfl)
theorem eDisp_run {κ : Type} [DecidableEq κ] (kd : Dk κ) (ps : List (F × F)) (env : Env') (s : Sr) : eDisp kd ps env s = (evPs ps env s).bind fun l s => match keysP kd l with | some l => if l.length ≤ 15 then .ok (kd.dat (mergeD [] l)) s else .bad | none => .bad := (rfl)
/-! statements -/
@[simp] theorem sSkip_run (env : Env') (s : Sr) : sSkip env s = .ok (.nx env) s := (rfl)
/-- what comes behind a statement -/
def thenR (r : R Fl) (b : FS) : R Fl := match r with
  | .ok (.nx env) s => b env s
  | r => r
@[simp] theorem thenR_nx (env : Env') (s : Sr) (b : FS) : thenR (.ok (.nx env) s) b = b env s := (rfl)
@[simp] theorem thenR_rt (d : D) (s : Sr) (b : FS) : thenR (.ok (.rt d) s) b = .ok (.rt d) s := (rfl)
@[simp] theorem thenR_bk (env : Env') (s : Sr) (b : FS) : thenR (.ok (.bk env) s) b = .ok (.bk env) s := (rfl)
@[simp] theorem thenR_ct (env : Env') (s : Sr) (b : FS) : thenR (.ok (.ct env) s) b = .ok (.ct env) s := (rfl)
@[simp] theorem thenR_exc (c : Nat) (fs : List (Str × D)) (s : Sr) (b : FS) : thenR (.exc c fs s) b = .exc c fs s := (rfl)
@[simp] theorem thenR_bad (b : FS) : thenR .bad b = .bad := (rfl)
@[simp] theorem sThen_run (a b : FS) (env : Env') (s : Sr) : sThen a b env s = thenR (a env s) b := by
  unfold sThen thenR
  rfl
@[simp] theorem sExpr_run (f : F) (env : Env') (s : Sr) : sExpr f env s = (f env s).bind fun _ s => .ok (.nx env) s := (rfl)
@[simp] theorem sRet_run (f : F) (env : Env') (s : Sr) : sRet f env s = (f env s).bind fun d s => .ok (.rt d) s := (rfl)
@[simp] theorem sRetN_run (env : Env') (s : Sr) : sRetN env s = .ok (.rt .non) s := (rfl)
@[simp] theorem sBrk_run (env : Env') (s : Sr) : sBrk env s = .ok (.bk env) s := (rfl)
@[simp] theorem sCt_run (env : Env') (s : Sr) : sCt env s = .ok (.ct env) s := (rfl)
@[simp] theorem sIf_run (c : FB) (a b : FS) (env : Env') (s : Sr) : sIf c a b env s = (c env s).bind fun c s => if c then a env s else b env s := (rfl)
@[simp] theorem sAsg_run (t : Tg) (f : F) (env : Env') (s : Sr) : sAsg t f env s = (f env s).bind fun d s => match t.put d env with | some env => .ok (.nx env) s | none => .bad := (rfl)
@[simp] theorem sNew_run (i : Nat) (f : F) (env : Env') (s : Sr) : sNew i f env s = (f env s).bind fun d s => match toCell d with | some c => .ok (.nx (env.set i (some (.ref s.length)))) (s ++ [c]) | none => .bad := (rfl)
@[simp] theorem sSet_run (fe fo fi : F) (env : Env') (s : Sr) : sSet fe fo fi env s = (fe env s).bind fun v s => (fo env s).bind fun o s => (fi env s).bind fun i s => match setD s o i v with | some s => .ok (.nx env) s | none => .bad := (rfl)
theorem sFor_run (it : FI) (t : Tg) (body : FS) (env : Env') (s : Sr) : sFor it t body env s = (it env s).bind fun c s => forL c.ok t body c.items env s := (rfl)
@[simp] theorem put_name (i : Nat) (d : D) (env : Env') : (Tg.name i).put d env = some (env.set i (some d)) := by unfold Tg.put; rfl
@[simp] theorem put_tup (l : List Tg) (ds : List D) (env : Env') : (Tg.tup l).put (.tup ds) env = Tg.puts l ds env := by conv => lhs; unfold Tg.put
@[simp] theorem puts_nil (env : Env') : Tg.puts [] [] env = some env := by unfold Tg.puts; rfl
@[simp] theorem puts_cons (t : Tg) (ts : List Tg) (d : D) (ds : List D) (env : Env') : Tg.puts (t :: ts) (d :: ds) env = (t.put d env).bind fun env => Tg.puts ts ds env := by conv => lhs; unfold Tg.puts
@[simp] theorem wipe_nil (env : Env') : wipeE env [] = env := (rfl)
@[simp] theorem wipe_cons (env : Env') (v : Nat) (vs : List Nat) : wipeE env (v :: vs) = (wipeE env vs).set v none := (rfl)
@[simp] theorem src_ok_nil (l : List D) (s : Sr) : Src.ok ⟨l, []⟩ s = true := (rfl)
theorem src_ok_mk (l : List D) (g : List (Nat × List D)) (s : Sr) : Src.ok ⟨l, g⟩ s = g.all (guardOk s) := rfl

/-! loops -/
/-- a loop by what holds at each turn -/
theorem forL_rule {chk : Sr → Bool} {t : Tg} {body : FS} (P : List D → Env' → Sr → Prop) (Q : R Fl → Prop)
    (nil : ∀ env s, P [] env s → chk s = true ∧ Q (.ok (.nx env) s))
    (step : ∀ d rest env s, P (d :: rest) env s → chk s = true ∧ ∃ env1, t.put d env = some env1 ∧ match body env1 s with
      | .ok (.nx e) s' => P rest e s' | .ok (.ct e) s' => P rest e s' | .ok (.bk e) s' => Q (.ok (.nx e) s') | r => Q r) :
    ∀ (items : List D) (env : Env') (s : Sr), P items env s → Q (forL chk t body items env s)
  | [], env, s, h => by
    obtain ⟨h1, h2⟩ := nil env s h
    unfold forL
    rw [if_pos h1]; exact h2
  | d :: ds, env, s, h => by
    obtain ⟨h1, env1, h2, h3⟩ := step d ds env s h
    unfold forL
    rw [if_pos h1, h2]
    simp only
    revert h3
    cases body env1 s with
    | ok fl s' =>
      cases fl with
      | nx e => exact fun h3 => forL_rule P Q nil step ds e s' h3
      | ct e => exact fun h3 => forL_rule P Q nil step ds e s' h3
      | bk e => exact fun h3 => h3
      | rt d => exact fun h3 => h3
    | exc c fs s' => exact fun h3 => h3
    | bad => exact fun h3 => h3
/-- a loop over encoded things, by a state -/
theorem forL_st {chk : Sr → Bool} {t : Tg} {body : FS} {α β : Type} (enc : α → D) (f : β → α → β) (P : β → Env' → Sr → Prop) (ok : β → α → Prop)
    (hc : ∀ b env s, P b env s → chk s = true)
    (step : ∀ b a env s, P b env s → ok b a → ∃ env1, t.put (enc a) env = some env1 ∧ ∃ env2 s2, body env1 s = .ok (.nx env2) s2 ∧ P (f b a) env2 s2) :
    ∀ (l : List α) (b : β) (env : Env') (s : Sr), P b env s → (∀ (pre : List α) (a : α) (post : List α), l = pre ++ a :: post → ok (pre.foldl f b) a) → ∃ env' s', forL chk t body (l.map enc) env s = .ok (.nx env') s' ∧ P (l.foldl f b) env' s'
  | [], b, env, s, h, _ => ⟨env, s, by show forL chk t body [] env s = _; unfold forL; rw [if_pos (hc _ _ _ h)], h⟩
  | a :: l, b, env, s, h, ho => by
    obtain ⟨env1, e1, env2, s2, e2, h2⟩ := step b a env s h (ho [] a l rfl)
    obtain ⟨env', s', e3, h3⟩ := forL_st enc f P ok hc step l (f b a) env2 s2 h2 fun pre a' post e => ho (a :: pre) a' post (by rw [e]; rfl)
    refine ⟨env', s', ?_, h3⟩
    show forL chk t body (enc a :: l.map enc) env s = _
    unfold forL
    rw [if_pos (hc _ _ _ h), e1]
    simp only
    rw [e2]
    exact e3
/-- a comprehension -/
theorem lcL_fm {chk : Sr → Bool} {vs : List Nat} {t : Tg} {test : FB} {elt : F} {s : Sr} {α : Type} {env : Env'} (hc : chk s = true) (enc : α → D) (p : α → Bool) (f : α → D) :
    ∀ (l : List α) (acc : List D), (∀ a ∈ l, ∃ env1, t.put (enc a) (wipeE env vs) = some env1 ∧ test env1 s = .ok (p a) s ∧ (p a = true → elt env1 s = .ok (f a) s)) → acc.length + l.length ≤ sizeLine →
      lcL chk vs t test elt (l.map enc) acc env s = .ok (acc ++ (l.filter p).map f) s
  | [], acc, _, _ => by
    show lcL chk vs t test elt [] acc env s = _
    unfold lcL
    rw [if_pos hc]; simp
  | a :: l, acc, h, hz => by
    obtain ⟨env1, e1, e2, e3⟩ := h a (List.mem_cons_self ..)
    have hl : a :: l = [a] ++ l := rfl
    rw [List.length_cons] at hz
    show lcL chk vs t test elt (enc a :: l.map enc) acc env s = _
    unfold lcL
    rw [if_pos hc, e1]
    simp only
    rw [e2]
    simp only [nox_ok, bind_ok]
    cases hp : p a with
    | true =>
      rw [if_pos rfl, e3 hp]
      simp only [nox_ok, bind_ok]
      rw [if_pos (by omega), lcL_fm hc enc p f l (acc ++ [f a]) (fun b hb => h b (List.mem_cons_of_mem _ hb)) (by rw [List.length_append, List.length_singleton]; omega), List.filter_cons_of_pos hp, List.append_assoc]
      rfl
    | false =>
      rw [if_neg (by decide), lcL_fm hc enc p f l acc (fun b hb => h b (List.mem_cons_of_mem _ hb)) (by omega), List.filter_cons_of_neg (by rw [hp]; decide)]
theorem lcL_map {chk : Sr → Bool} {vs : List Nat} {t : Tg} {elt : F} {s : Sr} {α : Type} {env : Env'} (hc : chk s = true) (enc : α → D) (f : α → D) (l : List α) (acc : List D)
    (h : ∀ a ∈ l, ∃ env1, t.put (enc a) (wipeE env vs) = some env1 ∧ elt env1 s = .ok (f a) s) (hz : acc.length + l.length ≤ sizeLine) :
    lcL chk vs t bYes elt (l.map enc) acc env s = .ok (acc ++ l.map f) s := by
  rw [lcL_fm hc enc (fun _ => true) f l acc (fun a ha => ?_) hz]
  · rw [List.filter_eq_self.mpr fun _ _ => rfl]
  · obtain ⟨env1, e1, e2⟩ := h a ha
    exact ⟨env1, e1, rfl, fun _ => e2⟩
theorem eLc_fm {it : FI} {vs : List Nat} {t : Tg} {test : FB} {elt : F} {env : Env'} {s : Sr} {α : Type} (enc : α → D) (p : α → Bool) (f : α → D) (l : List α) {g : List (Nat × List D)}
    (hi : it env s = .ok ⟨l.map enc, g⟩ s) (hg : g.all (guardOk s) = true) (h : ∀ a ∈ l, ∃ env1, t.put (enc a) (wipeE env vs) = some env1 ∧ test env1 s = .ok (p a) s ∧ (p a = true → elt env1 s = .ok (f a) s)) (hz : l.length ≤ sizeLine) :
    eLc it vs t test elt env s = .ok (.lst ((l.filter p).map f)) s := by
  rw [eLc_run, hi]
  simp only [bind_ok]
  rw [lcL_fm (by rw [src_ok_mk]; exact hg) enc p f l [] h (by simpa using hz)]
  rfl
theorem eLc_map {it : FI} {vs : List Nat} {t : Tg} {elt : F} {env : Env'} {s : Sr} {α : Type} (enc : α → D) (f : α → D) (l : List α) {g : List (Nat × List D)}
    (hi : it env s = .ok ⟨l.map enc, g⟩ s) (hg : g.all (guardOk s) = true) (h : ∀ a ∈ l, ∃ env1, t.put (enc a) (wipeE env vs) = some env1 ∧ elt env1 s = .ok (f a) s) (hz : l.length ≤ sizeLine) :
    eLc it vs t bYes elt env s = .ok (.lst (l.map f)) s := by
  rw [eLc_run, hi]
  simp only [bind_ok]
  rw [lcL_map (by rw [src_ok_mk]; exact hg) enc f l [] h (by simpa using hz)]
  rfl
theorem sFor_st {it : FI} {t : Tg} {body : FS} {α β : Type} (enc : α → D) (f : β → α → β) (P : β → Env' → Sr → Prop) (ok : β → α → Prop) (l : List α) {g : List (Nat × List D)} {b : β} {env : Env'} {s s1 : Sr}
    (hi : it env s = .ok ⟨l.map enc, g⟩ s1) (hP : P b env s1)
    (hc : ∀ b env s, P b env s → g.all (guardOk s) = true)
    (step : ∀ b a env s, P b env s → ok b a → ∃ env1, t.put (enc a) env = some env1 ∧ ∃ env2 s2, body env1 s = .ok (.nx env2) s2 ∧ P (f b a) env2 s2)
    (ho : ∀ (pre : List α) (a : α) (post : List α), l = pre ++ a :: post → ok (pre.foldl f b) a) : ∃ env' s', sFor it t body env s = .ok (.nx env') s' ∧ P (l.foldl f b) env' s' := by
  rw [sFor_run, hi]
  simp only [bind_ok]
  exact forL_st enc f P ok (fun b env s h => by rw [src_ok_mk]; exact hc b env s h) step l b env s1 hP ho
/-- a while by a measure -/
theorem whileF_rule {c : FB} {body : FS} (P : Nat → Env' → Sr → Prop) (Q : R Fl → Prop)
    (step : ∀ m env s, P m env s → ∃ b s1, c env s = .ok b s1 ∧ if b = true then (match body env s1 with
      | .ok (.nx e) s' => ∃ m' < m, P m' e s' | .ok (.ct e) s' => ∃ m' < m, P m' e s' | .ok (.bk e) s' => Q (.ok (.nx e) s') | r => Q r) else Q (.ok (.nx env) s1)) :
    ∀ (n m : Nat) (env : Env') (s : Sr), m < n → P m env s → Q (whileF c body n env s)
  | 0, m, _, _, h, _ => absurd h (Nat.not_lt_zero m)
  | n + 1, m, env, s, hm, h => by
    obtain ⟨b, s1, e1, h3⟩ := step m env s h
    unfold whileF
    rw [e1]
    simp only [bind_ok]
    cases b with
    | false => rw [if_neg (by decide)]; rw [if_neg (by decide)] at h3; exact h3
    | true =>
      rw [if_pos rfl]; rw [if_pos rfl] at h3
      revert h3
      cases body env s1 with
      | ok fl s' =>
        cases fl with
        | nx e => exact fun ⟨m', hl, h3⟩ => whileF_rule P Q step n m' e s' (by omega) h3
        | ct e => exact fun ⟨m', hl, h3⟩ => whileF_rule P Q step n m' e s' (by omega) h3
        | bk e => exact fun h3 => h3
        | rt d => exact fun h3 => h3
      | exc c fs s' => exact fun h3 => h3
      | bad => exact fun h3 => h3
/-! defs -/
theorem run_def (k : Bool) (m : Nat) (fs : FS) (ds : List D) (s : Sr) : runDef k m fs ds s = match fs (ds.map some ++ List.replicate (m - ds.length) none) s with
  | .ok (.nx _) s' => fin k s .non s'
  | .ok (.rt d) s' => fin k s d s'
  | .exc c f s' => finX k s c f s'
  | _ => .bad := by unfold runDef; rfl
theorem fin_at {s : Sr} {d : D} (h : closedS s.length s = true) (hd : d.cl s.length = true) : fin false s d s = .ok d s := by
  unfold fin
  rw [if_neg (by decide), List.take_length, if_pos h]
  unfold frzD
  rw [if_pos hd]
abbrev Cld (s : Sr) : Prop := closedS s.length s = true
theorem fin_grown {s more : Sr} {d : D} (h : Cld s) : fin false s d (s ++ more) = match frzD s.length (s ++ more) d with | some d => .ok d s | none => .bad := by
  unfold fin
  rw [if_neg (by decide), List.take_left' rfl, if_pos h]
  all_goals rfl
theorem run_rt {m : Nat} {fs : FS} {ds : List D} {s : Sr} {d : D} (h : fs (ds.map some ++ List.replicate (m - ds.length) none) s = .ok (.rt d) s) (hs : Cld s) (hd : d.cl s.length = true) : runDef false m fs ds s = .ok d s := by
  rw [run_def, h]
  exact fin_at hs hd
theorem run_nx {m : Nat} {fs : FS} {ds : List D} {s : Sr} {env : Env'} (h : fs (ds.map some ++ List.replicate (m - ds.length) none) s = .ok (.nx env) s) (hs : Cld s) : runDef false m fs ds s = .ok .non s := by
  rw [run_def, h]
  exact fin_at hs (by unfold D.cl; rfl)
theorem frz_cl {n : Nat} {s : Sr} {d : D} (h : d.cl n = true) : frzD n s d = some d := by
  unfold frzD; rw [if_pos h]
theorem frz_lst {n k : Nat} {s : Sr} {l : List D} (hk : n ≤ k) (e : s[k]? = some (.lst l)) (h : D.cls n l = true) : frzD n s (.ref k) = some (.lst l) := by
  have hn : (D.ref k).cl n = false := by unfold D.cl; exact decide_eq_false (by omega)
  unfold frzD frz1
  rw [if_neg (by rw [hn]; decide)]
  simp only
  rw [if_neg (by rw [hn]; decide), e]
  simp only
  rw [if_pos h]
theorem frz_dk {n k : Nat} {s : Sr} {l : List (Key × D)} (hk : n ≤ k) (e : s[k]? = some (.dk l)) (h : D.clk n l = true) : frzD n s (.ref k) = some (.dk l) := by
  have hn : (D.ref k).cl n = false := by unfold D.cl; exact decide_eq_false (by omega)
  unfold frzD frz1
  rw [if_neg (by rw [hn]; decide)]
  simp only
  rw [if_neg (by rw [hn]; decide), e]
  simp only
  rw [if_pos h]
theorem frz_dt {n k : Nat} {s : Sr} {l : List (List Key × D)} (hk : n ≤ k) (e : s[k]? = some (.dt l)) (h : D.clt n l = true) : frzD n s (.ref k) = some (.dt l) := by
  have hn : (D.ref k).cl n = false := by unfold D.cl; exact decide_eq_false (by omega)
  unfold frzD frz1
  rw [if_neg (by rw [hn]; decide)]
  simp only
  rw [if_neg (by rw [hn]; decide), e]
  simp only
  rw [if_pos h]
/-! nothing of the store in data -/
@[simp] theorem cl_int (n : Nat) (i : Int) : (D.int i).cl n = true := by unfold D.cl; rfl
@[simp] theorem cl_bl (n : Nat) (i : Bool) : (D.bl i).cl n = true := by unfold D.cl; rfl
@[simp] theorem cl_str (n : Nat) (i : Str) : (D.str i).cl n = true := by unfold D.cl; rfl
@[simp] theorem cl_non (n : Nat) : D.non.cl n = true := by unfold D.cl; rfl
@[simp] theorem cl_tup (n : Nat) (l : List D) : (D.tup l).cl n = D.cls n l := by conv => lhs; unfold D.cl
@[simp] theorem cl_lst (n : Nat) (l : List D) : (D.lst l).cl n = D.cls n l := by conv => lhs; unfold D.cl
@[simp] theorem cl_dk (n : Nat) (l : List (Key × D)) : (D.dk l).cl n = D.clk n l := by conv => lhs; unfold D.cl
@[simp] theorem cl_dt (n : Nat) (l : List (List Key × D)) : (D.dt l).cl n = D.clt n l := by conv => lhs; unfold D.cl
@[simp] theorem cl_ref (n k : Nat) : (D.ref k).cl n = decide (k < n) := by unfold D.cl; rfl
@[simp] theorem cls_nil (n : Nat) : D.cls n [] = true := by unfold D.cls; rfl
@[simp] theorem cls_cons (n : Nat) (d : D) (l : List D) : D.cls n (d :: l) = (d.cl n && D.cls n l) := by conv => lhs; unfold D.cls
theorem cls_all {n : Nat} : ∀ {l : List D}, (∀ d ∈ l, d.cl n = true) → D.cls n l = true
  | [], _ => by simp
  | d :: l, h => by
    rw [cls_cons, h d (List.mem_cons_self ..), cls_all fun d hd => h d (List.mem_cons_of_mem _ hd)]; rfl
theorem cls_map {n : Nat} {α : Type} {f : α → D} (l : List α) (h : ∀ a, (f a).cl n = true) : D.cls n (l.map f) = true :=
  cls_all fun d hd => by
    obtain ⟨a, _, rfl⟩ := List.mem_map.mp hd
    exact h a
@[simp] theorem clk_nil (n : Nat) : D.clk n [] = true := by unfold D.clk; rfl
@[simp] theorem clt_nil (n : Nat) : D.clt n [] = true := by unfold D.clt; rfl
@[simp] theorem clk_cons (n : Nat) (k : Key) (d : D) (l : List (Key × D)) : D.clk n ((k, d) :: l) = (d.cl n && D.clk n l) := by conv => lhs; unfold D.clk
@[simp] theorem clt_cons (n : Nat) (k : List Key) (d : D) (l : List (List Key × D)) : D.clt n ((k, d) :: l) = (d.cl n && D.clt n l) := by conv => lhs; unfold D.clt
@[simp] theorem dN_cl (n k : Nat) : (dN k).cl n = true := cl_int ..
@[simp] theorem dI_cl (n : Nat) (k : Int) : (dI k).cl n = true := cl_int ..
@[simp] theorem dP_cl (n : Nat) (k : Nat × Nat) : (dP k).cl n = true := by unfold dP; simp
@[simp] theorem dL_cl (n : Nat) (l : List Nat) : (dL l).cl n = true := by unfold dL; rw [cl_tup]; exact cls_map l (dN_cl n)
@[simp] theorem dW_cl (n m : Nat) (l : List (Nat × Nat)) : (dW m l).cl n = true := by
  unfold dW
  rw [cl_tup, cls_cons, cls_cons, cls_cons, cl_tup, cls_map l (dP_cl n)]
  simp
mutual
theorem D.cl_mono {n m : Nat} (h : n ≤ m) : ∀ {d : D}, D.cl n d = true → D.cl m d = true
  | .non, _ => cl_non m
  | .bl b, _ => cl_bl m b
  | .int i, _ => cl_int m i
  | .str x, _ => cl_str m x
  | .tup l, k => by rw [cl_tup] at k ⊢; exact cls_mono h k
  | .lst l, k => by rw [cl_lst] at k ⊢; exact cls_mono h k
  | .lck l, k => by
    have e : ∀ n, (D.lck l).cl n = D.cls n l := fun n => by conv => lhs; unfold D.cl
    rw [e] at k ⊢; exact cls_mono h k
  | .ktp l, k => by
    have e : ∀ n, (D.ktp l).cl n = D.cls n l := fun n => by conv => lhs; unfold D.cl
    rw [e] at k ⊢; exact cls_mono h k
  | .dk l, k => by rw [cl_dk] at k ⊢; exact clk_mono h k
  | .dt l, k => by rw [cl_dt] at k ⊢; exact clt_mono h k
  | .ref j, k => by rw [cl_ref] at k ⊢; exact decide_eq_true (Nat.lt_of_lt_of_le (of_decide_eq_true k) h)
theorem cls_mono {n m : Nat} (h : n ≤ m) : ∀ {l : List D}, D.cls n l = true → D.cls m l = true
  | [], _ => cls_nil m
  | d :: l, k => by
    rw [cls_cons, Bool.and_eq_true] at k ⊢
    exact ⟨D.cl_mono h k.1, cls_mono h k.2⟩
theorem clk_mono {n m : Nat} (h : n ≤ m) : ∀ {l : List (Key × D)}, D.clk n l = true → D.clk m l = true
  | [], _ => clk_nil m
  | (_, d) :: l, k => by
    rw [clk_cons, Bool.and_eq_true] at k ⊢
    exact ⟨D.cl_mono h k.1, clk_mono h k.2⟩
theorem clt_mono {n m : Nat} (h : n ≤ m) : ∀ {l : List (List Key × D)}, D.clt n l = true → D.clt m l = true
  | [], _ => clt_nil m
  | (_, d) :: l, k => by
    rw [clt_cons, Bool.and_eq_true] at k ⊢
    exact ⟨D.cl_mono h k.1, clt_mono h k.2⟩
end
theorem clf_mono {n m : Nat} (h : n ≤ m) : ∀ {l : List (Str × D)}, clf n l = true → clf m l = true
  | [], _ => rfl
  | (_, d) :: l, k => by
    unfold clf at k ⊢
    rw [Bool.and_eq_true] at k ⊢
    exact ⟨D.cl_mono h k.1, clf_mono h k.2⟩
theorem cell_mono {n m : Nat} (h : n ≤ m) {c : Cell} (k : c.cl n = true) : c.cl m = true := by
  cases c with
  | lst l => exact cls_mono h k
  | dk l => exact clk_mono h k
  | dt l => exact clt_mono h k
  | ins c fs => exact clf_mono h k
  | tab q => rfl
/-! operators on data -/
theorem closed_snoc {n : Nat} {s : Sr} {c : Cell} (h : closedS n s = true) (hc : c.cl n = true) : closedS n (s ++ [c]) = true := by
  unfold closedS at h ⊢
  rw [List.all_append, h, List.all_cons, hc]; rfl
@[simp] theorem vMin_nat (a b : Nat) (s : Sr) : vMin [.int a, .int b] s = .ok (.int ((min a b : Nat) : Int)) s := by
  unfold vMin
  simp only
  congr 2
  split <;> omega
@[simp] theorem vMax_nat (a b : Nat) (s : Sr) : vMax [.int a, .int b] s = .ok (.int ((max a b : Nat) : Int)) s := by
  unfold vMax
  simp only
  congr 2
  split <;> omega
@[simp] theorem vLen_tup (l : List D) (s : Sr) : vLen [.tup l] s = .ok (.int l.length) s := (rfl)
@[simp] theorem vLen_lst (l : List D) (s : Sr) : vLen [.lst l] s = .ok (.int l.length) s := (rfl)
@[simp] theorem vLen_dk (l : List (Key × D)) (s : Sr) : vLen [.dk l] s = .ok (.int l.length) s := (rfl)
@[simp] theorem vLen_dt (l : List (List Key × D)) (s : Sr) : vLen [.dt l] s = .ok (.int l.length) s := (rfl)
@[simp] theorem vTuple_lst (l : List D) (s : Sr) : vTuple [.lst l] s = .ok (.tup l) s := (rfl)
@[simp] theorem vTuple_tup (l : List D) (s : Sr) : vTuple [.tup l] s = .ok (.tup l) s := (rfl)
@[simp] theorem vInt_int (i : Int) (s : Sr) : vInt [.int i] s = .ok (.int i) s := (rfl)
@[simp] theorem srcD_tup (l : List D) (s : Sr) : srcD s (.tup l) = some ⟨l, []⟩ := (rfl)
@[simp] theorem srcD_lst (l : List D) (s : Sr) : srcD s (.lst l) = some ⟨l, []⟩ := (rfl)
@[simp] theorem srcD_dk (l : List (Key × D)) (s : Sr) : srcD s (.dk l) = some ⟨l.map fun p => keyD p.1, []⟩ := (rfl)
@[simp] theorem srcD_dt (l : List (List Key × D)) (s : Sr) : srcD s (.dt l) = some ⟨l.map fun p => .tup (p.1.map keyD), []⟩ := (rfl)

@[simp] theorem szl : sizeLine = 16777216 := by decide +kernel
theorem oIdx_q {x : D} {l : List D} {i : Nat} {d : D} {s : Sr} (hq : asQ s x = some l) (h : l[i]? = some d) : oIdx x (.int i) s = .ok d s := by
  unfold oIdx
  rw [hq]
  have hl : i < l.length := (List.getElem?_eq_some_iff.mp h).1
  have : atI l (i : Int) = some d := by
    unfold atI ixN
    rw [if_pos (by omega), if_pos (by omega)]
    simpa using h
  simp only [this]
theorem oIdx_tup {l : List D} {i : Nat} {d : D} {s : Sr} (h : l[i]? = some d) : oIdx (.tup l) (.int i) s = .ok d s := oIdx_q rfl h
theorem oIdx_lst {l : List D} {i : Nat} {d : D} {s : Sr} (h : l[i]? = some d) : oIdx (.lst l) (.int i) s = .ok d s := oIdx_q rfl h
@[simp] theorem idxW0 (n : Nat) (ts : List (Nat × Nat)) (s : Sr) : oIdx (dW n ts) (.int 0) s = .ok (.str "web") s := oIdx_tup (i := 0) rfl
@[simp] theorem idxW1 (n : Nat) (ts : List (Nat × Nat)) (s : Sr) : oIdx (dW n ts) (.int 1) s = .ok (.int n) s := oIdx_tup (i := 1) rfl
@[simp] theorem idxW2 (n : Nat) (ts : List (Nat × Nat)) (s : Sr) : oIdx (dW n ts) (.int 2) s = .ok (.tup (ts.map dP)) s := oIdx_tup (i := 2) rfl
@[simp] theorem oAdd_int (i j : Int) (s : Sr) : oAdd (.int i) (.int j) s = .ok (.int (i + j)) s := by unfold oAdd; rfl
@[simp] theorem oSub_int (i j : Int) (s : Sr) : oSub (.int i) (.int j) s = .ok (.int (i - j)) s := by unfold oSub; rfl
@[simp] theorem oNeg_int (i : Int) (s : Sr) : oNeg (.int i) s = .ok (.int (-i)) s := by unfold oNeg; rfl
@[simp] theorem oLt_int (i j : Int) (s : Sr) : oInt (fun i j => decide (i < j)) (.int i) (.int j) s = .ok (.bl (decide (i < j))) s := (rfl)
@[simp] theorem oLe_int (i j : Int) (s : Sr) : oInt (fun i j => decide (i ≤ j)) (.int i) (.int j) s = .ok (.bl (decide (i ≤ j))) s := (rfl)
@[simp] theorem oGt_int (i j : Int) (s : Sr) : oInt (fun i j => decide (j < i)) (.int i) (.int j) s = .ok (.bl (decide (j < i))) s := (rfl)
@[simp] theorem oGe_int (i j : Int) (s : Sr) : oInt (fun i j => decide (j ≤ i)) (.int i) (.int j) s = .ok (.bl (decide (j ≤ i))) s := (rfl)
theorem oMul_int {i j : Int} {s : Sr} (h : smallI i = true ∨ smallI j = true) : oMul (.int i) (.int j) s = .ok (.int (i * j)) s := by
  unfold oMul
  simp only
  rw [if_pos (by rcases h with h | h <;> simp [h])]
theorem oMod_int {i j : Int} {s : Sr} (h : 0 < j) : oMod (.int i) (.int j) s = .ok (.int (i % j)) s := by
  unfold oMod
  simp only
  rw [if_pos h]
theorem oDiv_int {i j : Int} {s : Sr} (h : 0 < j) (h2 : j < 1073741824) : oDiv (.int i) (.int j) s = .ok (.int (i / j)) s := by
  unfold oDiv
  simp only
  rw [if_pos ⟨h, h2⟩]
end L3

/-! M2: encoded data, equality -/
namespace L3
open PySem PySem.Spec PyProof.Rows L2

/-- plain things as data -/
structure En (α : Type) [DecidableEq α] where
  en : α → D
  py : α → PyData
  dep : Nat
  isPy : ∀ a, D.py (en a) = some (py a)
  eqv : ∀ a b, PyData.eqv (py a) (py b) = decide (a = b)
  lay : ∀ a, (py a).canLay0 = true
  depth : ∀ a, (py a).depth ≤ dep
def enI : En Int where
  en := .int
  py := .int
  dep := 0
  isPy := fun a => by unfold D.py; rfl
  eqv := fun a b => by unfold PyData.eqv; rfl
  lay := fun a => by unfold PyData.canLay0; rfl
  depth := fun a => by simp [PyData.depth]
def enN : En Nat where
  en := dN
  py := fun n => .int n
  dep := 0
  isPy := fun a => by unfold dN D.py; rfl
  eqv := fun a b => by
    unfold PyData.eqv
    show decide ((a : Int) = b) = _
    by_cases h : a = b
    · subst h; simp
    · have : ¬ (a : Int) = b := by omega
      simp [h, this]
  lay := fun a => by unfold PyData.canLay0; rfl
  depth := fun a => by simp [PyData.depth]
def enB : En Bool where
  en := .bl
  py := .bool
  dep := 0
  isPy := fun a => by unfold D.py; rfl
  eqv := fun a b => by unfold PyData.eqv; cases a <;> cases b <;> rfl
  lay := fun a => by unfold PyData.canLay0; rfl
  depth := fun a => by simp [PyData.depth]
theorem pys_map {α : Type} [DecidableEq α] (e : En α) : ∀ l : List α, D.pys (l.map e.en) = some (l.map e.py)
  | [] => by show D.pys [] = _; unfold D.pys; rfl
  | a :: l => by
    show D.pys (e.en a :: l.map e.en) = _
    unfold D.pys
    rw [e.isPy, pys_map e l]; rfl
theorem eqvAll_map {α : Type} [DecidableEq α] (e : En α) : ∀ l m : List α, PyData.eqvAll (l.map e.py) (m.map e.py) = decide (l = m)
  | [], [] => by show PyData.eqvAll [] [] = _; unfold PyData.eqvAll; rfl
  | [], b :: m => by show PyData.eqvAll [] (_ :: _) = _; unfold PyData.eqvAll; simp
  | a :: l, [] => by show PyData.eqvAll (_ :: _) [] = _; unfold PyData.eqvAll; simp
  | a :: l, b :: m => by
    show PyData.eqvAll (e.py a :: l.map e.py) (e.py b :: m.map e.py) = _
    unfold PyData.eqvAll
    rw [e.eqv, eqvAll_map e l m]
    by_cases h : a = b <;> by_cases k : l = m <;> simp [h, k]
theorem layAll_map {α : Type} [DecidableEq α] (e : En α) : ∀ l : List α, PyData.canLayAll0 (l.map e.py) = true
  | [] => by show PyData.canLayAll0 [] = _; unfold PyData.canLayAll0; rfl
  | a :: l => by
    show PyData.canLayAll0 (e.py a :: l.map e.py) = _
    unfold PyData.canLayAll0
    rw [e.lay, layAll_map e l]; rfl
theorem depAll_map {α : Type} [DecidableEq α] (e : En α) : ∀ l : List α, PyData.depthAll (l.map e.py) ≤ e.dep
  | [] => by simp [PyData.depthAll]
  | a :: l => by
    have h1 := e.depth a
    have h2 := depAll_map e l
    simp only [List.map_cons, PyData.depthAll]
    omega
/-- tuples of things -/
def enT {α : Type} [DecidableEq α] (e : En α) : En (List α) where
  en := fun l => .tup (l.map e.en)
  py := fun l => .tuple (l.map e.py)
  dep := e.dep + 1
  isPy := fun a => by
    show D.py (.tup _) = _
    unfold D.py
    rw [pys_map]; rfl
  eqv := fun a b => by
    show PyData.eqv (.tuple _) (.tuple _) = _
    unfold PyData.eqv
    exact eqvAll_map e a b
  lay := fun a => by
    show PyData.canLay0 (.tuple _) = _
    unfold PyData.canLay0
    exact layAll_map e a
  depth := fun a => by
    have := depAll_map e a
    show PyData.depth (.tuple _) ≤ _
    simp only [PyData.depth]
    omega
/-- lists of things -/
def enLs {α : Type} [DecidableEq α] (e : En α) : En (List α) where
  en := fun l => .lst (l.map e.en)
  py := fun l => .list (l.map e.py)
  dep := e.dep + 1
  isPy := fun a => by
    show D.py (.lst _) = _
    unfold D.py
    rw [pys_map]; rfl
  eqv := fun a b => by
    show PyData.eqv (.list _) (.list _) = _
    unfold PyData.eqv
    exact eqvAll_map e a b
  lay := fun a => by
    show PyData.canLay0 (.list _) = _
    unfold PyData.canLay0
    exact layAll_map e a
  depth := fun a => by
    have := depAll_map e a
    show PyData.depth (.list _) ≤ _
    simp only [PyData.depth]
    omega
/-- pairs -/
def enPr {α β : Type} [DecidableEq α] [DecidableEq β] (e : En α) (f : En β) : En (α × β) where
  en := fun p => .tup [e.en p.1, f.en p.2]
  py := fun p => .tuple [e.py p.1, f.py p.2]
  dep := max e.dep f.dep + 1
  isPy := fun a => by
    show D.py (.tup _) = _
    unfold D.py D.pys D.pys D.pys
    rw [e.isPy, f.isPy]; rfl
  eqv := fun a b => by
    show PyData.eqv (.tuple _) (.tuple _) = _
    unfold PyData.eqv PyData.eqvAll PyData.eqvAll PyData.eqvAll
    rw [e.eqv, f.eqv]
    obtain ⟨a1, a2⟩ := a
    obtain ⟨b1, b2⟩ := b
    by_cases h : a1 = b1 <;> by_cases k : a2 = b2 <;> simp [h, k]
  lay := fun a => by
    show PyData.canLay0 (.tuple _) = _
    unfold PyData.canLay0 PyData.canLayAll0 PyData.canLayAll0 PyData.canLayAll0
    rw [e.lay, f.lay]; rfl
  depth := fun a => by
    have := e.depth a.1
    have := f.depth a.2
    show PyData.depth (.tuple _) ≤ _
    simp only [PyData.depth, PyData.depthAll]
    omega
def enP : En (Nat × Nat) := enPr enN enN
theorem enP_eq : enP.en = dP := rfl
theorem pyOf_py {s : Sr} {d : D} {p : PyData} (h : D.py d = some p) : pyOf s d = some p := by
  unfold pyOf
  cases d with
  | ref n => unfold D.py at h; cases h
  | _ => exact h
theorem en_shaped {α : Type} [DecidableEq α] (e : En α) (h : e.dep ≤ 64) (a : α) : SeqAt.shaped (e.py a) = true := by
  unfold SeqAt.shaped
  rw [e.lay a, Bool.true_and]
  exact decide_eq_true (Nat.le_trans (e.depth a) h)
theorem withPy_en {α : Type} [DecidableEq α] (e : En α) (a b : α) (s : Sr) (f : PyData → PyData → R D) (h : e.dep ≤ 64) : withPy s (e.en a) (e.en b) f = f (e.py a) (e.py b) := by
  unfold withPy
  rw [pyOf_py (e.isPy a), pyOf_py (e.isPy b)]
  simp only
  rw [en_shaped e h, en_shaped e h]
  rfl
/-- lists of unlike lengths are unlike -/
theorem lenNe_en {α : Type} [DecidableEq α] (e : En α) (a b : α) (s : Sr) (h : lenNe s (e.en a) (e.en b) = true) : a ≠ b := by
  intro z
  subst z
  unfold lenNe at h
  cases e1 : asL s (e.en a) with
  | none => rw [e1] at h; cases h
  | some l => rw [e1] at h; simp at h
theorem oEq_en {α : Type} [DecidableEq α] (e : En α) (a b : α) (s : Sr) (h : e.dep ≤ 64) : oEq (e.en a) (e.en b) s = .ok (.bl (decide (a = b))) s := by
  unfold oEq
  by_cases c : lenNe s (e.en a) (e.en b) = true
  · rw [if_pos c, decide_eq_false (lenNe_en e a b s c)]
  · rw [if_neg c, withPy_en e a b s _ h, e.eqv]
theorem oNe_en {α : Type} [DecidableEq α] (e : En α) (a b : α) (s : Sr) (h : e.dep ≤ 64) : oNe (e.en a) (e.en b) s = .ok (.bl (!decide (a = b))) s := by
  unfold oNe
  by_cases c : lenNe s (e.en a) (e.en b) = true
  · rw [if_pos c, decide_eq_false (lenNe_en e a b s c)]; rfl
  · rw [if_neg c, withPy_en e a b s _ h, e.eqv]
@[simp] theorem oEq_int (i j : Int) (s : Sr) : oEq (.int i) (.int j) s = .ok (.bl (decide (i = j))) s := oEq_en enI i j s (by decide)
@[simp] theorem oNe_int (i j : Int) (s : Sr) : oNe (.int i) (.int j) s = .ok (.bl (!decide (i = j))) s := oNe_en enI i j s (by decide)
@[simp] theorem oEq_bl (i j : Bool) (s : Sr) : oEq (.bl i) (.bl j) s = .ok (.bl (decide (i = j))) s := oEq_en enB i j s (by decide)
@[simp] theorem oNe_bl (i j : Bool) (s : Sr) : oNe (.bl i) (.bl j) s = .ok (.bl (!decide (i = j))) s := oNe_en enB i j s (by decide)
theorem oEq_dL (i j : List Nat) (s : Sr) : oEq (dL i) (dL j) s = .ok (.bl (decide (i = j))) s := oEq_en (enT enN) i j s (by decide)
theorem oNe_dL (i j : List Nat) (s : Sr) : oNe (dL i) (dL j) s = .ok (.bl (!decide (i = j))) s := oNe_en (enT enN) i j s (by decide)
theorem oIn_en {α : Type} [DecidableEq α] (e : En α) (a : α) (l : List α) (s : Sr) (n : Bool) (x : D) (hx : x = .tup (l.map e.en) ∨ x = .lst (l.map e.en)) (h : e.dep < 64) (hs : ∀ z, e.en a ≠ .str z) : oIn n (e.en a) x s = .ok (.bl ((decide (a ∈ l)) != n)) s := by
  have hq : asQ s x = some (l.map e.en) := by rcases hx with rfl | rfl <;> rfl
  have hany : ((l.map e.py).any fun z => PyData.eqv z (e.py a)) = decide (a ∈ l) := by
    rw [List.any_map]
    by_cases c : a ∈ l
    · rw [decide_eq_true c]
      exact List.any_eq_true.mpr ⟨a, c, by show PyData.eqv (e.py a) (e.py a) = true; rw [e.eqv]; simp⟩
    · rw [decide_eq_false c]
      refine List.any_eq_false.mpr fun b hb => ?_
      show ¬ PyData.eqv (e.py b) (e.py a) = true
      rw [e.eqv]
      intro z
      exact c (of_decide_eq_true z ▸ hb)
  have h2 : SeqAt.shaped (.list (l.map e.py)) = true := en_shaped (enLs e) (show e.dep + 1 ≤ 64 by omega) l
  have h1 : SeqAt.shaped (e.py a) = true := en_shaped e (by omega) a
  have main : (match asQ s x with
    | some l => (match D.py (e.en a), D.pys l with
      | some p, some ps => if SeqAt.shaped p && SeqAt.shaped (.list ps) then R.ok (D.bl ((ps.any fun z => PyData.eqv z p) != n)) s else .bad
      | _, _ => .bad)
    | none => match dget s x (e.en a) with
      | some o => R.ok (D.bl (o.isSome != n)) s
      | none => R.bad) = R.ok (D.bl ((decide (a ∈ l)) != n)) s := by
    rw [hq]
    simp only
    rw [e.isPy, pys_map]
    simp only
    rw [h1, h2, if_pos (by rfl), hany]
  unfold oIn
  split
  · exact absurd ‹e.en a = D.str _› (hs _)
  · exact main
end L3

/-! M3: names, ranks -/
namespace L3
open PySem PySem.Spec PyProof.Rows L2

theorem rangeL_eq : ∀ (n a : Nat), rangeL (a : Int) n = (List.range' a n).map dN
  | 0, _ => rfl
  | n + 1, a => by
    show D.int a :: rangeL ((a : Int) + 1) n = _
    rw [show ((a : Int) + 1) = ((a + 1 : Nat) : Int) by omega, rangeL_eq n (a + 1)]
    rfl
theorem rangeL_zero (n : Nat) : rangeL 0 n = (List.range n).map dN := by
  rw [List.range_eq_range']
  exact rangeL_eq n 0
theorem small_nat {n : Nat} (h : n ≤ 16777216) : small62 (n : Int) = true := by
  unfold small62
  rw [Bool.and_eq_true]
  exact ⟨decide_eq_true (by omega), decide_eq_true (by omega)⟩
theorem rgT1 {n : Nat} (h : n ≤ 16777216) : rgTup 1 [.int n] = some ((List.range n).map dN) := by
  unfold rgTup
  simp only
  rw [small_nat h, Bool.true_and, if_pos (decide_eq_true (by omega)), Int.toNat_natCast, rangeL_zero]
theorem hr1 {n : Nat} (h : n ≤ 16777216) (s : Sr) : hRange1 [.int n] s = some ⟨(List.range n).map dN, []⟩ := by
  unfold hRange1
  simp only
  rw [if_pos (small_nat h), Int.toNat_natCast, rangeL_zero]
/-- names of places led together along a tie -/
def gt (l : List Nat) (i : Nat) : Nat := l.getD i 0
theorem gt_map {l : List Nat} {i : Nat} (h : i < l.length) : (l.map dN)[i]? = some (.int (gt l i)) := by
  unfold gt; simp [List.getElem?_eq_getElem h, List.getD_eq_getElem?_getD, dN]
def relab (l : List Nat) (p : Nat × Nat) : List Nat := l.map fun m => if m = max (gt l p.1) (gt l p.2) then min (gt l p.1) (gt l p.2) else m
def namesOf (n : Nat) (ts : List (Nat × Nat)) : List Nat := ts.foldl relab (List.range n)
theorem relab_len (l : List Nat) (p : Nat × Nat) : (relab l p).length = l.length := by unfold relab; rw [List.length_map]
theorem foldl_relab_len : ∀ (ts : List (Nat × Nat)) (l : List Nat), (ts.foldl relab l).length = l.length
  | [], _ => rfl
  | t :: ts, l => (foldl_relab_len ts _).trans (relab_len l t)
theorem namesOf_len (n : Nat) (ts : List (Nat × Nat)) : (namesOf n ts).length = n := by unfold namesOf; rw [foldl_relab_len, List.length_range]
/-- a tuple or a list -/
def SeqD (x : D) (l : List D) : Prop := x = .tup l ∨ x = .lst l
theorem SeqD.src {x : D} {l : List D} (h : SeqD x l) (s : Sr) : srcD s x = some ⟨l, []⟩ := by rcases h with rfl | rfl <;> rfl
theorem SeqD.q {x : D} {l : List D} (h : SeqD x l) (s : Sr) : asQ s x = some l := by rcases h with rfl | rfl <;> rfl
theorem names_by_1 (n : D) (T : Option D) (l : List Nat) (j5 j6 j7 : Option D) (r : Env') (p : Nat × Nat) (s : Sr) (h1 : p.1 < l.length) (h2 : p.2 < l.length) (hz : l.length ≤ 16777216) :
    b_names_by_1 (some n :: T :: some (.lst (l.map dN)) :: some (.int p.1) :: some (.int p.2) :: j5 :: j6 :: j7 :: r) s =
      .ok (.nx (some n :: T :: some (.lst ((relab l p).map dN)) :: some (.int p.1) :: some (.int p.2) :: some (.int (min (gt l p.1) (gt l p.2) : Nat)) :: some (.int (max (gt l p.1) (gt l p.2) : Nat)) :: j7 :: r)) s := by
  have g1 := gt_map h1
  have g2 := gt_map h2
  simp [b_names_by_1, oIdx_lst g1, oIdx_lst g2]
  rw [eLc_map dN (fun m => dN (if m = max (gt l p.1) (gt l p.2) then min (gt l p.1) (gt l p.2) else m)) l (by simp; rfl) rfl (fun m hm => ⟨_, by simp [dN]; rfl, ?_⟩) (by simpa using hz)]
  · simp [relab]
  · by_cases c : m = max (gt l p.1) (gt l p.2)
    · simp [c, dN]
    · simp [c, dN]; omega
theorem names_loop (n : Nat) (ts : List (Nat × Nat)) (T x3 x4 x5 x6 x7 : Option D) (a : D) (r : Env') (it : FI) (env : Env') (s : Sr) (hn : n ≤ 1000) (ht : ∀ p ∈ ts, p.1 < n ∧ p.2 < n) (hi : it (some a :: T :: some (.lst ((List.range n).map dN)) :: x3 :: x4 :: x5 :: x6 :: x7 :: r) s = .ok ⟨ts.map dP, []⟩ s) :
    ∃ j3 j4 j5 j6, sFor it (.tup [.name 3, .name 4]) b_names_by_1 (some a :: T :: some (.lst ((List.range n).map dN)) :: x3 :: x4 :: x5 :: x6 :: x7 :: r) s = .ok (.nx (some a :: T :: some (.lst ((namesOf n ts).map dN)) :: j3 :: j4 :: j5 :: j6 :: x7 :: r)) s := by
  obtain ⟨env', s', e, j3, j4, j5, j6, h1, h2, h3⟩ := sFor_st dP relab (fun (l : List Nat) env s1 => ∃ j3 j4 j5 j6, env = some a :: T :: some (.lst (l.map dN)) :: j3 :: j4 :: j5 :: j6 :: x7 :: r ∧ s1 = s ∧ l.length = n) (fun l p => p.1 < n ∧ p.2 < n) ts (t := .tup [.name 3, .name 4]) (body := b_names_by_1) hi ⟨x3, x4, x5, x6, rfl, rfl, List.length_range⟩ (fun _ _ _ _ => rfl)
    (fun l p env s1 ⟨j3, j4, j5, j6, h1, h2, h3⟩ hp => by
      subst h1 h2
      refine ⟨_, by unfold dP; simp, _, _, names_by_1 a T l j5 j6 x7 r p s1 (by omega) (by omega) (by omega), ⟨_, _, _, _, rfl, rfl, by rw [relab_len]; exact h3⟩⟩)
    (fun pre p post e => ht p (by rw [e]; simp))
  subst h1 h2
  exact ⟨j3, j4, j5, j6, e⟩
theorem names_by_ok {n : Nat} {ts : List (Nat × Nat)} {T : D} {s : Sr} (hs : Cld s) (hn : n ≤ 1000) (ht : ∀ p ∈ ts, p.1 < n ∧ p.2 < n) (hT : SeqD T (ts.map dP)) :
    m_names_by [.int n, T] s = .ok (.lst ((namesOf n ts).map dN)) s := by
  refine run_rt ?_ hs (by rw [cl_lst]; exact cls_map _ (dN_cl _))
  simp [b_names_by, rgT1 (show n ≤ 16777216 by omega)]
  obtain ⟨j3, j4, j5, j6, e⟩ := names_loop n ts (some T) none none none none none (.int n) [] (iSrc (eVar 1)) [] s hn ht (by simp [hT.src])
  rw [e]
  simp
/-! unlike things -/
def dstS (acc : List Nat) (l : List Nat) : List Nat := l.foldl (fun acc x => if x ∈ acc then acc else acc ++ [x]) acc
def dst (l : List Nat) : List Nat := dstS [] l
theorem dstS_mem : ∀ (l acc : List Nat) (x : Nat), x ∈ dstS acc l ↔ x ∈ acc ∨ x ∈ l
  | [], acc, x => by simp [dstS]
  | a :: l, acc, x => by
    show x ∈ dstS (if a ∈ acc then acc else acc ++ [a]) l ↔ _
    rw [dstS_mem l]
    by_cases h : a ∈ acc
    · rw [if_pos h]
      constructor
      · rintro (h1 | h1)
        · exact .inl h1
        · exact .inr (List.mem_cons_of_mem _ h1)
      · rintro (h1 | h1)
        · exact .inl h1
        · rcases List.mem_cons.mp h1 with rfl | h1
          · exact .inl h
          · exact .inr h1
    · rw [if_neg h]
      simp only [List.mem_append, List.mem_cons, List.not_mem_nil, or_false]
      constructor
      · rintro ((h1 | h1) | h1)
        · exact .inl h1
        · exact .inr (.inl h1)
        · exact .inr (.inr h1)
      · rintro (h1 | h1 | h1)
        · exact .inl (.inl h1)
        · exact .inl (.inr h1)
        · exact .inr h1
theorem dstS_nodup : ∀ (l acc : List Nat), acc.Nodup → (dstS acc l).Nodup
  | [], acc, h => h
  | a :: l, acc, h => by
    show (dstS (if a ∈ acc then acc else acc ++ [a]) l).Nodup
    refine dstS_nodup l _ ?_
    by_cases k : a ∈ acc
    · rw [if_pos k]; exact h
    · rw [if_neg k]
      refine List.nodup_append.mpr ⟨h, by simp, fun x hx y hy => ?_⟩
      rw [List.mem_singleton] at hy
      subst hy
      exact fun z => k (z ▸ hx)
theorem dst_mem (l : List Nat) (x : Nat) : x ∈ dst l ↔ x ∈ l := by unfold dst; rw [dstS_mem]; simp
theorem dst_nodup (l : List Nat) : (dst l).Nodup := dstS_nodup l [] List.nodup_nil
theorem dstS_len : ∀ (l acc : List Nat), (dstS acc l).length ≤ acc.length + l.length
  | [], acc => by simp [dstS]
  | a :: l, acc => by
    show (dstS (if a ∈ acc then acc else acc ++ [a]) l).length ≤ _
    have := dstS_len l (if a ∈ acc then acc else acc ++ [a])
    refine Nat.le_trans this ?_
    by_cases k : a ∈ acc
    · rw [if_pos k]; simp only [List.length_cons]; omega
    · rw [if_neg k]; simp only [List.length_cons, List.length_append, List.length_nil]; omega
theorem dst_len (l : List Nat) : (dst l).length ≤ l.length := by
  have := dstS_len l []
  simpa [dst] using this
def dk1 (l : List Nat) : List (Key × D) := l.map fun (k : Nat) => ((.inl (k : Int) : Key), D.bl true)
theorem put_dk1 (l : List Nat) (a : Nat) : put (.inl (a : Int) : Key) (.bl true) (dk1 l) = dk1 (if a ∈ l then l else l ++ [a]) := by
  unfold put
  have h : ((dk1 l).any fun kv => decide (kv.1 = (.inl (a : Int) : Key))) = decide (a ∈ l) := by
    unfold dk1
    rw [List.any_map]
    by_cases c : a ∈ l
    · rw [decide_eq_true c]
      exact List.any_eq_true.mpr ⟨a, c, by simp⟩
    · rw [decide_eq_false c]
      refine List.any_eq_false.mpr fun b hb => ?_
      simp only [Function.comp, decide_eq_true_eq]
      intro z
      injection z with z
      have : b = a := by omega
      exact c (this ▸ hb)
  rw [h]
  by_cases c : a ∈ l
  · rw [if_pos (decide_eq_true c), if_pos c]
    unfold dk1
    rw [List.map_map]
    refine List.map_congr_left fun b hb => ?_
    simp only [Function.comp]
    split
    · rfl
    · rfl
  · rw [if_neg (by simp [c]), if_neg c]
    unfold dk1
    simp
theorem dcL_dst {chk : Sr → Bool} {vs : List Nat} {t : Tg} {fk : F} {s : Sr} {env : Env'} (hc : chk s = true) : ∀ (l acc : List Nat), (∀ a ∈ l, ∃ env1, t.put (dN a) (wipeE env vs) = some env1 ∧ fk env1 s = .ok (dN a) s) → acc.length + l.length ≤ sizeLine →
    dcL dkK chk vs t bYes fk (eC (.bl true)) (l.map dN) (dk1 acc) env s = .ok (dk1 (dstS acc l)) s
  | [], acc, _, _ => by
    show dcL dkK chk vs t bYes fk (eC (.bl true)) [] (dk1 acc) env s = _
    unfold dcL
    rw [if_pos hc]; rfl
  | a :: l, acc, h, hz => by
    obtain ⟨env1, e1, e2⟩ := h a (List.mem_cons_self ..)
    show dcL dkK chk vs t bYes fk (eC (.bl true)) (dN a :: l.map dN) (dk1 acc) env s = _
    unfold dcL
    rw [if_pos hc, e1]
    simp only [bYes_run, nox_ok, bind_ok, if_true, e2, eC_run]
    rw [show dkK.key (dN a) = some (.inl (a : Int)) from rfl]
    simp only
    rw [List.length_cons] at hz
    rw [if_pos (by unfold dk1; rw [List.length_map]; omega), put_dk1, dcL_dst hc l _ (fun b hb => h b (List.mem_cons_of_mem _ hb)) (by split <;> first | omega | (simp only [List.length_append, List.length_cons, List.length_nil]; omega))]
    rfl
theorem eDc_dst {it : FI} {vs : List Nat} {t : Tg} {fk : F} {s : Sr} {env : Env'} (l : List Nat) {g : List (Nat × List D)} (hi : it env s = .ok ⟨l.map dN, g⟩ s) (hg : g.all (guardOk s) = true) (h : ∀ a ∈ l, ∃ env1, t.put (dN a) (wipeE env vs) = some env1 ∧ fk env1 s = .ok (dN a) s) (hz : l.length ≤ sizeLine) :
    eDc dkK it vs t bYes fk (eC (.bl true)) env s = .ok (.dk (dk1 (dst l))) s := by
  rw [eDc_run, hi]
  simp only [bind_ok]
  rw [show ([] : List (Key × D)) = dk1 [] from rfl, dcL_dst (by rw [src_ok_mk]; exact hg) l [] h (by simpa using hz)]
  rfl
/-- ranks -/
def rkL (n : Nat) (ts : List (Nat × Nat)) : Nat := n - (dst (namesOf n ts)).length
def lotTs (ts : List (Nat × Nat)) (lot : List Nat) : List (Nat × Nat) := lot.map fun t => ts.getD t (0, 0)
structure WebOk (n : Nat) (ts : List (Nat × Nat)) : Prop where
  n1 : 1 ≤ n
  n8 : n ≤ 8
  t12 : ts.length ≤ 12
  pr : ∀ p ∈ ts, p.1 ≤ p.2 ∧ p.2 < n
theorem lotTs_mem {ts : List (Nat × Nat)} {lot : List Nat} (hl : ∀ t ∈ lot, t < ts.length) {p : Nat × Nat} (h : p ∈ lotTs ts lot) : p ∈ ts := by
  obtain ⟨t, ht, rfl⟩ := List.mem_map.mp h
  rw [List.getD_eq_getElem?_getD, List.getElem?_eq_getElem (hl t ht)]
  simp
theorem getD_dP {ts : List (Nat × Nat)} {t : Nat} (h : t < ts.length) : (ts.map dP)[t]? = some (dP (ts.getD t (0, 0))) := by
  simp [List.getElem?_eq_getElem h, List.getD_eq_getElem?_getD]
theorem rank_in_ok {n : Nat} {ts : List (Nat × Nat)} {lot : List Nat} {s : Sr} (hs : Cld s) (hn : n ≤ 1000) (ht : ∀ p ∈ ts, p.1 < n ∧ p.2 < n) (hl : ∀ t ∈ lot, t < ts.length) (hz : lot.length ≤ 1000) :
    m_rank_in [dW n ts, dL lot] s = .ok (.int (rkL n (lotTs ts lot))) s := by
  refine run_rt ?_ hs (by simp)
  simp [b_rank_in]
  rw [eLc_map dN (fun t => dP (ts.getD t (0, 0))) lot (by unfold dL; simp; rfl) rfl (fun t h => ⟨_, by simp [dN]; rfl, by simp [oIdx_tup (getD_dP (hl t h))]⟩) (by simp; omega)]
  simp
  have e : lot.map (fun t => dP (ts.getD t (0, 0))) = (lotTs ts lot).map dP := by unfold lotTs; rw [List.map_map]; rfl
  simp only [← List.getD_eq_getElem?_getD]
  rw [e, names_by_ok hs hn (fun p hp => ht p (lotTs_mem hl hp)) (.inr rfl)]
  simp
  rw [eDc_dst (namesOf n (lotTs ts lot)) (by simp; rfl) rfl (fun a h => ⟨_, by simp [dN]; rfl, by simp [dN]⟩) (by rw [namesOf_len]; simp; omega)]
  simp [dk1]
  have := dst_len (namesOf n (lotTs ts lot))
  rw [namesOf_len] at this
  unfold rkL
  omega
end L3

/-! M4: sorting -/
namespace L3
open PySem PySem.Spec PyProof.Rows L2

def insS {α : Type} (le : α → α → Bool) (x : α) : List α → List α
  | [] => [x]
  | y :: r => if le x y then x :: y :: r else y :: insS le x r
def isS {α : Type} (le : α → α → Bool) : List α → List α
  | [] => []
  | x :: r => insS le x (isS le r)
theorem insS_perm {α : Type} (le : α → α → Bool) (x : α) : ∀ l : List α, (insS le x l).Perm (x :: l)
  | [] => .refl _
  | y :: r => by
    unfold insS
    split
    · exact .refl _
    · exact ((insS_perm le x r).cons y).trans (.swap ..)
theorem isS_perm {α : Type} (le : α → α → Bool) : ∀ l : List α, (isS le l).Perm l
  | [] => .refl _
  | x :: r => (insS_perm le x _).trans ((isS_perm le r).cons x)
theorem insD_map {α : Type} {en : α → D} {leD' : D → D → Bool} {le : α → α → Bool} (h : ∀ a b, leD' (en a) (en b) = le a b) (x : α) : ∀ l : List α, insD leD' (en x) (l.map en) = (insS le x l).map en
  | [] => rfl
  | y :: r => by
    show insD leD' (en x) (en y :: r.map en) = _
    unfold insD insS
    rw [h, insD_map h x r]
    split <;> rfl
theorem isortD_map {α : Type} {en : α → D} {leD' : D → D → Bool} {le : α → α → Bool} (h : ∀ a b, leD' (en a) (en b) = le a b) : ∀ l : List α, isortD leD' (l.map en) = (isS le l).map en
  | [] => rfl
  | x :: r => by
    show isortD leD' (en x :: r.map en) = _
    unfold isortD isS
    rw [isortD_map h r, insD_map h]
/-- plain things in an order -/
structure EnO (α : Type) [DecidableEq α] extends En α where
  lt : α → α → Bool
  ltOk : ∀ a b, PySem.W.dataLt (py a) (py b) = lt a b
  alk : ∀ a b, PySem.W.alike (py a) (py b) = true
  flat : ∀ a, flatP (py a) = true
def oN : EnO Nat := { enN with
  lt := fun a b => decide (a < b)
  ltOk := fun a b => by
    show PySem.W.dataLt (.int a) (.int b) = _
    rw [PySem.W.dataLt_int]
    by_cases h : a < b
    · rw [decide_eq_true h, decide_eq_true (by omega)]
    · rw [decide_eq_false h, decide_eq_false (by omega)]
  alk := fun a b => by show PySem.W.alike (.int _) (.int _) = _; unfold PySem.W.alike; rfl
  flat := fun a => by show flatP (.int _) = _; unfold flatP; rfl }
def oI : EnO Int := { enI with
  lt := fun a b => decide (a < b)
  ltOk := fun a b => PySem.W.dataLt_int a b
  alk := fun a b => by show PySem.W.alike (.int _) (.int _) = _; unfold PySem.W.alike; rfl
  flat := fun a => by show flatP (.int _) = _; unfold flatP; rfl }
def lexS {α : Type} [DecidableEq α] (lt : α → α → Bool) : List α → List α → Bool
  | [], [] => false
  | [], _ :: _ => true
  | _ :: _, [] => false
  | a :: l, b :: m => if a = b then lexS lt l m else lt a b
theorem lexS_ok {α : Type} [DecidableEq α] (e : EnO α) : ∀ l m : List α, PyProof.Rows.lexLt PyProof.Rows.itemOrd (PySem.W.keyToksAll (l.map e.py)) (PySem.W.keyToksAll (m.map e.py)) = lexS e.lt l m
  | [], [] => PyProof.Rows.lex_irrefl _
  | [], b :: m => by
    show PyProof.Rows.lexLt PyProof.Rows.itemOrd (PySem.W.keyToksAll []) (PySem.W.keyToksAll (e.py b :: m.map e.py)) = true
    rw [PySem.W.toks_all_cons, PySem.W.keyToksAll, PyProof.Rows.lex_diff (O := PyProof.Rows.itemOrd) (by intro z; cases z)]
    rfl
  | a :: l, [] => by
    show PyProof.Rows.lexLt PyProof.Rows.itemOrd (PySem.W.keyToksAll (e.py a :: l.map e.py)) (PySem.W.keyToksAll []) = false
    rw [PySem.W.toks_all_cons, PySem.W.keyToksAll, PyProof.Rows.lex_diff (O := PyProof.Rows.itemOrd) (by intro z; cases z)]
    rfl
  | a :: l, b :: m => by
    show PyProof.Rows.lexLt PyProof.Rows.itemOrd (PySem.W.keyToksAll (e.py a :: l.map e.py)) (PySem.W.keyToksAll (e.py b :: m.map e.py)) = if a = b then lexS e.lt l m else e.lt a b
    by_cases h : a = b
    · rw [if_pos h, PySem.W.dataLt_all_yes (e.alk a b) (by rw [e.eqv]; exact decide_eq_true h), lexS_ok e l m]
    · rw [if_neg h, PySem.W.dataLt_all_no (e.alk a b) (by rw [e.eqv]; exact decide_eq_false h), e.ltOk]
theorem alkAll {α : Type} [DecidableEq α] (e : EnO α) : ∀ l m : List α, PySem.W.alikeAll (l.map e.py) (m.map e.py) = true
  | [], m => by show PySem.W.alikeAll [] _ = _; unfold PySem.W.alikeAll; rfl
  | a :: l, [] => by show PySem.W.alikeAll (_ :: _) [] = _; unfold PySem.W.alikeAll; rfl
  | a :: l, b :: m => by
    show PySem.W.alikeAll (e.py a :: l.map e.py) (e.py b :: m.map e.py) = _
    unfold PySem.W.alikeAll
    rw [e.alk, alkAll e l m]; rfl
theorem flatAll {α : Type} [DecidableEq α] (e : EnO α) : ∀ l : List α, flatPs (l.map e.py) = true
  | [] => by show flatPs [] = _; unfold flatPs; rfl
  | a :: l => by
    show flatPs (e.py a :: l.map e.py) = _
    unfold flatPs
    rw [e.flat, flatAll e l]; rfl
def oT {α : Type} [DecidableEq α] (e : EnO α) : EnO (List α) := { enT e.toEn with
  lt := lexS e.lt
  ltOk := fun a b => by
    show PySem.W.dataLt (.tuple (a.map e.py)) (.tuple (b.map e.py)) = _
    rw [PySem.W.dataLt_tuple, lexS_ok]
  alk := fun a b => by
    show PySem.W.alike (.tuple _) (.tuple _) = _
    unfold PySem.W.alike
    exact alkAll e a b
  flat := fun a => by
    show flatP (.tuple _) = _
    unfold flatP
    exact flatAll e a }
def oPr {α β : Type} [DecidableEq α] [DecidableEq β] (e : EnO α) (f : EnO β) : EnO (α × β) := { enPr e.toEn f.toEn with
  lt := fun p q => if p.1 = q.1 then (if p.2 = q.2 then false else f.lt p.2 q.2) else e.lt p.1 q.1
  ltOk := fun a b => by
    show PySem.W.dataLt (.tuple [e.py a.1, f.py a.2]) (.tuple [e.py b.1, f.py b.2]) = _
    rw [PySem.W.dataLt_tuple]
    by_cases h : a.1 = b.1
    · rw [if_pos h, PySem.W.dataLt_all_yes (e.alk _ _) (by rw [e.eqv]; exact decide_eq_true h)]
      by_cases k : a.2 = b.2
      · rw [if_pos k, PySem.W.dataLt_all_yes (f.alk _ _) (by rw [f.eqv]; exact decide_eq_true k)]
        exact PyProof.Rows.lex_irrefl _
      · rw [if_neg k, PySem.W.dataLt_all_no (f.alk _ _) (by rw [f.eqv]; exact decide_eq_false k), f.ltOk]
    · rw [if_neg h, PySem.W.dataLt_all_no (e.alk _ _) (by rw [e.eqv]; exact decide_eq_false h), e.ltOk]
  alk := fun a b => by
    show PySem.W.alike (.tuple [_, _]) (.tuple [_, _]) = _
    unfold PySem.W.alike PySem.W.alikeAll PySem.W.alikeAll PySem.W.alikeAll
    rw [e.alk, f.alk]; rfl
  flat := fun a => by
    show flatP (.tuple [_, _]) = _
    unfold flatP flatPs flatPs flatPs
    rw [e.flat, f.flat]; rfl }
theorem encD_en {α : Type} [DecidableEq α] (e : En α) (a : α) : encD (e.en a) = e.py a := by unfold encD; rw [e.isPy]; rfl
theorem leD_en {α : Type} [DecidableEq α] (e : EnO α) (a b : α) : leD (e.en a) (e.en b) = !e.lt b a := by
  unfold leD PySem.W.dataLe PySem.W.sortLe
  show (!PySem.W.dataLt (encD (e.en b)) (encD (e.en a))) = _
  rw [encD_en, encD_en, e.ltOk]
/-- what may be sorted: pairs, or no tuples at all -/
def Srt {α : Type} [DecidableEq α] (e : En α) : Prop := (∀ a, tup1 (e.py a) = true) ∨ ∀ a, ntup (e.py a) = true
theorem srtN : Srt enN := .inr fun a => rfl
theorem srtI : Srt enI := .inr fun a => rfl
theorem srtPr {α β : Type} [DecidableEq α] [DecidableEq β] (e : En α) (f : En β) : Srt (enPr e f) := .inl fun a => rfl
theorem pyB_en {α : Type} [DecidableEq α] (e : En α) (h : e.dep ≤ 64) (a : α) : pyB (e.en a) = true := by
  unfold pyB
  rw [encD_en, e.isPy, en_shaped e h a]; rfl
theorem sortOk_en {α : Type} [DecidableEq α] (e : EnO α) (h : e.dep ≤ 64) (hs : Srt e.toEn) (l : List α) (hl : l.length ≤ sizeLine) : sortOk (l.map e.en) = true := by
  have h1 : (l.map e.en).map encD = l.map e.py := by
    rw [List.map_map]
    exact List.map_congr_left fun a _ => encD_en e.toEn a
  unfold sortOk alikeB
  rw [h1, List.length_map]
  simp only [Bool.and_eq_true, Bool.or_eq_true, List.all_eq_true, List.mem_map, forall_exists_index, and_imp, forall_apply_eq_imp_iff₂, decide_eq_true_eq]
  refine ⟨⟨⟨fun a _ => pyB_en e.toEn h a, fun a _ b _ => e.alk a b⟩, ?_⟩, hl⟩
  rcases hs with hs | hs
  · exact .inl fun a _ => hs a
  · exact .inr fun a _ => hs a
theorem vSorted_en {α : Type} [DecidableEq α] (e : EnO α) (h : e.dep ≤ 64) (hs : Srt e.toEn) (l : List α) (hl : l.length ≤ sizeLine) (s : Sr) (x : D) (hx : asL s x = some (l.map e.en) ∨ asL s x = none ∧ keysD s x = some (l.map e.en)) :
    vSorted [x] s = some (.lst ((isS (fun a b => !e.lt b a) l).map e.en)) := by
  unfold vSorted
  simp only
  rcases hx with hx | ⟨hx, hy⟩
  · rw [hx]
    simp only
    rw [if_pos (sortOk_en e h hs l hl), isortD_map (leD_en e)]
  · rw [hx, hy]
    simp only
    rw [if_pos (sortOk_en e h hs l hl), isortD_map (leD_en e)]
/-- lots by size, then ascending -/
def szLe (a b : List Nat) : Bool := !(if b.length = a.length then (if b = a then false else lexS oN.lt b a) else decide (b.length < a.length))
theorem keyOk_lots (l : List (List Nat)) (hl : l.length ≤ sizeLine) : keyOk (l.map dL) = true := by
  unfold keyOk
  rw [Bool.and_eq_true, List.all_eq_true]
  constructor
  · intro d hd
    obtain ⟨a, _, rfl⟩ := List.mem_map.mp hd
    rw [Bool.and_eq_true, Bool.and_eq_true]
    refine ⟨⟨rfl, pyB_en (oT oN).toEn (by decide) a⟩, ?_⟩
    show flatP (encD ((oT oN).en a)) = true
    rw [encD_en]
    exact (oT oN).flat a
  · have e : (l.map dL).map keyL = (l.map fun a : List Nat => (a.length, a)).map (oPr oN (oT oN)).en := by
      rw [List.map_map, List.map_map]
      refine List.map_congr_left fun a _ => ?_
      simp only [Function.comp]
      show keyL (.tup (a.map dN)) = .tup [dN a.length, .tup (a.map dN)]
      unfold keyL
      simp only
      rw [List.length_map]; rfl
    rw [e]
    exact sortOk_en _ (by decide) (srtPr _ _) _ (by rw [List.length_map]; exact hl)
theorem vSortK_lots (l : List (List Nat)) : vSortK (l.map dL) = (isS szLe l).map dL := by
  unfold vSortK
  refine isortD_map (fun a b => ?_) l
  unfold leK
  have e : ∀ a : List Nat, keyL (dL a) = (oPr oN (oT oN)).en (a.length, a) := fun a => by
    show keyL (.tup (a.map dN)) = .tup [dN a.length, .tup (a.map dN)]
    unfold keyL
    simp only
    rw [List.length_map]; rfl
  rw [e, e, leD_en]
  rfl
/-! all lots -/
def lotsRaw : Nat → List (List Nat)
  | 0 => [[]]
  | m + 1 => lotsRaw m ++ (lotsRaw m).map (· ++ [m])
def lots (m : Nat) : List (List Nat) := isS szLe (lotsRaw m)
theorem lotsRaw_len : ∀ m, (lotsRaw m).length = 2 ^ m
  | 0 => rfl
  | m + 1 => by
    show (lotsRaw m ++ (lotsRaw m).map (· ++ [m])).length = _
    rw [List.length_append, List.length_map, lotsRaw_len m, Nat.pow_succ]; omega
theorem lotsRaw_mem : ∀ {m : Nat} {l : List Nat}, l ∈ lotsRaw m → l.length ≤ m ∧ (∀ t ∈ l, t < m) ∧ l.Pairwise (· < ·)
  | 0, l, h => by
    have : l = [] := List.mem_singleton.mp h
    subst this
    exact ⟨Nat.le_refl _, fun _ h => absurd h (List.not_mem_nil), .nil⟩
  | m + 1, l, h => by
    rcases List.mem_append.mp (show l ∈ lotsRaw m ++ (lotsRaw m).map (· ++ [m]) from h) with h | h
    · obtain ⟨h1, h2, h3⟩ := lotsRaw_mem h
      exact ⟨by omega, fun t ht => by have := h2 t ht; omega, h3⟩
    · obtain ⟨k, hk, rfl⟩ := List.mem_map.mp h
      obtain ⟨h1, h2, h3⟩ := lotsRaw_mem hk
      refine ⟨by simp; omega, fun t ht => ?_, ?_⟩
      · rcases List.mem_append.mp ht with ht | ht
        · have := h2 t ht; omega
        · rw [List.mem_singleton] at ht; omega
      · refine List.pairwise_append.mpr ⟨h3, by simp, fun a ha b hb => ?_⟩
        rw [List.mem_singleton] at hb
        have := h2 a ha
        omega
theorem lots_perm (m : Nat) : (lots m).Perm (lotsRaw m) := isS_perm _ _
theorem lots_mem {m : Nat} {l : List Nat} (h : l ∈ lots m) : l.length ≤ m ∧ (∀ t ∈ l, t < m) ∧ l.Pairwise (· < ·) := lotsRaw_mem ((lots_perm m).mem_iff.mp h)
theorem oAdd_tup {a b : List D} {s : Sr} (h : a.length + b.length ≤ 16777216) : oAdd (.tup a) (.tup b) s = .ok (.tup (a ++ b)) s := by
  unfold oAdd
  simp only [szl]
  rw [if_pos h]
theorem oAdd_lst {a b : List D} {s : Sr} (h : a.length + b.length ≤ 16777216) : oAdd (.lst a) (.lst b) s = .ok (.lst (a ++ b)) s := by
  unfold oAdd
  simp only [asL, szl]
  rw [if_pos h]
theorem lots_body (m : Nat) (a : D) (j3 : Option D) (r : Env') (s : Sr) (hm : m < 20) :
    b_all_lots_1 (some a :: some (.lst ((lotsRaw m).map dL)) :: some (.int m) :: j3 :: r) s = .ok (.nx (some a :: some (.lst ((lotsRaw (m + 1)).map dL)) :: some (.int m) :: j3 :: r)) s := by
  have h2 : 2 ^ m ≤ 2 ^ 19 := Nat.pow_le_pow_right (by decide) (by omega)
  simp [b_all_lots_1]
  rw [eLc_map dL (fun l => dL (l ++ [m])) (lotsRaw m) (by simp; rfl) rfl (fun l h => ⟨_, by simp; rfl, ?_⟩) (by rw [lotsRaw_len]; simp; omega)]
  · simp
    rw [oAdd_lst (by simp [lotsRaw_len]; omega)]
    simp [lotsRaw]
  · have := (lotsRaw_mem h).1
    simp [dL]
    rw [oAdd_tup (by simp; omega)]
    simp [dN]
theorem lots_loop (m : Nat) (a : D) (x2 x3 : Option D) (r : Env') (it : FI) (s : Sr) (hm : m ≤ 20) (hi : it (some a :: some (.lst [.tup []]) :: x2 :: x3 :: r) s = .ok ⟨(List.range m).map dN, []⟩ s) :
    ∃ j2, sFor it (.name 2) b_all_lots_1 (some a :: some (.lst [.tup []]) :: x2 :: x3 :: r) s = .ok (.nx (some a :: some (.lst ((lotsRaw m).map dL)) :: j2 :: x3 :: r)) s := by
  obtain ⟨env', s', e, j2, h1, h2⟩ := sFor_st dN (fun (k : Nat) _ => k + 1) (fun (k : Nat) env s1 => ∃ j2, env = some a :: some (.lst ((lotsRaw k).map dL)) :: j2 :: x3 :: r ∧ s1 = s) (fun k i => k = i ∧ i < 20) (List.range m) (t := .name 2) (body := b_all_lots_1) (b := 0) hi ⟨x2, rfl, rfl⟩ (fun _ _ _ _ => rfl)
    (fun k i env s1 ⟨j2, h1, h2⟩ hp => by
      obtain ⟨rfl, hp⟩ := hp
      subst h1 h2
      exact ⟨_, by simp [dN], _, _, lots_body k a x3 r s1 hp, ⟨_, rfl, rfl⟩⟩)
    (fun pre i post e => by
      have key : ∀ (l : List Nat) (k : Nat), l.foldl (fun (k : Nat) (_ : Nat) => k + 1) k = k + l.length := by
        intro l
        induction l with
        | nil => intro k; rfl
        | cons x l ih => intro k; rw [List.foldl_cons, ih, List.length_cons]; omega
      have hi : (List.range m)[pre.length]? = some i := by rw [e]; simp
      obtain ⟨hl, hg⟩ := List.getElem?_eq_some_iff.mp hi
      rw [List.getElem_range] at hg
      rw [List.length_range] at hl
      rw [key]
      omega)
  have key : ∀ (l : List Nat) (k : Nat), l.foldl (fun (k : Nat) (_ : Nat) => k + 1) k = k + l.length := by
    intro l
    induction l with
    | nil => intro k; rfl
    | cons x l ih => intro k; rw [List.foldl_cons, ih, List.length_cons]; omega
  rw [key, List.length_range, Nat.zero_add] at h1
  subst h1 h2
  exact ⟨j2, e⟩
theorem all_lots_ok {n : Nat} {ts : List (Nat × Nat)} {s : Sr} (hs : Cld s) (hm : ts.length ≤ 20) : m_all_lots [dW n ts] s = .ok (.lst ((lots ts.length).map dL)) s := by
  refine run_rt ?_ hs (by rw [cl_lst]; exact cls_map _ (dL_cl _))
  simp [b_all_lots]
  obtain ⟨j2, e⟩ := lots_loop ts.length (dW n ts) none none [] (iArgs hRange1 (eCons (eCallV vLen (eCons (eBin oIdx (eVar 0) (eC (.int 2))) eNil)) eNil)) s hm (by simp [hr1 (show ts.length ≤ 16777216 by omega)])
  rw [e]
  have h2 : 2 ^ ts.length ≤ 2 ^ 20 := Nat.pow_le_pow_right (by decide) (by omega)
  simp [asL, keyOk_lots (lotsRaw ts.length) (by rw [lotsRaw_len]; simp; omega), vSortK_lots]
  rfl
theorem law_lots_ok {m : Nat} {s : Sr} (hs : Cld s) (hm : m ≤ 20) (ht : tabB 0 "_law_lots.<locals>.<lambda>" s = true) : m_law_lots [.int m] s = .ok (.lst ((lots m).map dL)) s := by
  refine run_rt ?_ hs (by rw [cl_lst]; exact cls_map _ (dL_cl _))
  simp [b_law_lots]
  obtain ⟨j2, e⟩ := lots_loop m (.int m) none none [] (iArgs hRange1 (eCons (eVar 0) eNil)) s hm (by simp [hr1 (show m ≤ 16777216 by omega)])
  rw [show b_law_lots_1 = b_all_lots_1 from rfl, e]
  have h2 : 2 ^ m ≤ 2 ^ 20 := Nat.pow_le_pow_right (by decide) (by omega)
  simp [asL, keyOk_lots (lotsRaw m) (by rw [lotsRaw_len]; simp; omega), vSortK_lots, ht]
  rfl
end L3

/-! M5: webs, ties away and drawn, looks -/
namespace L3
open PySem PySem.Spec PyProof.Rows L2

theorem blsOf_map {α : Type} (p : α → Bool) : ∀ l : List α, blsOf (l.map fun a => D.bl (p a)) = some (l.map p)
  | [] => rfl
  | a :: l => by
    show (blsOf (l.map fun a => D.bl (p a))).map (p a :: ·) = _
    rw [blsOf_map p l]; rfl
theorem vAll_map {α : Type} (p : α → Bool) (l : List α) (s : Sr) : vAll [.lst (l.map fun a => D.bl (p a))] s = .ok (.bl (l.all p)) s := by
  unfold vAll
  simp only [asL, Option.bind_some, blsOf_map]
  rw [List.all_map]; rfl
theorem vAny_map {α : Type} (p : α → Bool) (l : List α) (s : Sr) : vAny [.lst (l.map fun a => D.bl (p a))] s = .ok (.bl (l.any p)) s := by
  unfold vAny
  simp only [asL, Option.bind_some, blsOf_map]
  rw [List.any_map]; rfl
@[simp] theorem tyOf_int (s : Sr) (i : Int) : tyOf s (.int i) = some .int := rfl
@[simp] theorem tyOf_bl (s : Sr) (i : Bool) : tyOf s (.bl i) = some .bl := rfl
@[simp] theorem tyOf_str (s : Sr) (i : Str) : tyOf s (.str i) = some .str := rfl
@[simp] theorem tyOf_tup (s : Sr) (i : List D) : tyOf s (.tup i) = some .tup := rfl
@[simp] theorem tyOf_lst (s : Sr) (i : List D) : tyOf s (.lst i) = some .lst := rfl
@[simp] theorem tyOf_non (s : Sr) : tyOf s .non = some .non := rfl
@[simp] theorem tyOf_dt (s : Sr) (l : List (List Key × D)) : tyOf s (.dt l) = some .dct := rfl
@[simp] theorem tyOf_dk (s : Sr) (l : List (Key × D)) : tyOf s (.dk l) = some .dct := rfl
@[simp] theorem tyOf_dW (s : Sr) (n : Nat) (ts : List (Nat × Nat)) : tyOf s (dW n ts) = some .tup := rfl
@[simp] theorem tyOf_dL (s : Sr) (l : List Nat) : tyOf s (dL l) = some .tup := rfl
@[simp] theorem tyOf_dP (s : Sr) (l : Nat × Nat) : tyOf s (dP l) = some .tup := rfl
@[simp] theorem tyOf_dN (s : Sr) (l : Nat) : tyOf s (dN l) = some .int := rfl
@[simp] theorem isA_ii : isA [.int] .int = true := by decide
@[simp] theorem isA_bi : isA [.bl] .int = false := by decide
@[simp] theorem isA_tt : isA [.tup] .tup = true := by decide
@[simp] theorem isA_ss : isA [.str] .str = true := by decide
@[simp] theorem vLen_dW (n : Nat) (ts : List (Nat × Nat)) (s : Sr) : vLen [dW n ts] s = .ok (.int 3) s := (rfl)
@[simp] theorem vLen_dL (l : List Nat) (s : Sr) : vLen [dL l] s = .ok (.int l.length) s := by unfold dL; simp
@[simp] theorem vLen_dP (p : Nat × Nat) (s : Sr) : vLen [dP p] s = .ok (.int 2) s := (rfl)
@[simp] theorem idxP0 (p : Nat × Nat) (s : Sr) : oIdx (dP p) (.int 0) s = .ok (.int p.1) s := oIdx_tup (i := 0) rfl
@[simp] theorem idxP1 (p : Nat × Nat) (s : Sr) : oIdx (dP p) (.int 1) s = .ok (.int p.2) s := oIdx_tup (i := 1) rfl
@[simp] theorem oIs_non_int (i : Int) (s : Sr) : oIs true (.int i) .non s = .ok (.bl true) s := (rfl)
@[simp] theorem oIs_non_non (s : Sr) : oIs true .non .non s = .ok (.bl false) s := (rfl)
@[simp] theorem is_whole_int {i : Int} {s : Sr} (hs : Cld s) : m_is_whole [.int i] s = .ok (.bl true) s := by
  refine run_rt ?_ hs (by simp)
  simp [b_is_whole]
theorem is_below_int {i j : Int} {s : Sr} (hs : Cld s) : m_is_below [.int i, .int j] s = .ok (.bl (decide (0 ≤ i) && decide (i < j))) s := by
  refine run_rt ?_ hs (by simp)
  simp [b_is_below, is_whole_int hs]
  by_cases h : 0 ≤ i <;> simp [h]
theorem is_pair_dP {n : Nat} {p : Nat × Nat} {s : Sr} (hs : Cld s) (h : p.1 < n ∧ p.2 < n) : m_is_pair [.int n, dP p] s = .ok (.bl (decide (p.1 ≤ p.2))) s := by
  refine run_rt ?_ hs (by simp)
  simp [b_is_pair]
  rw [eLc_map dN (fun m => D.bl (decide ((0 : Int) ≤ (m : Int)) && decide ((m : Int) < n))) [p.1, p.2] (g := []) (by unfold dP; simp [dN]) rfl (fun m hm => ⟨_, by simp [dN]; rfl, by simp [is_below_int hs]⟩) (by simp)]
  have e : ([p.1, p.2].all fun m => decide ((0 : Int) ≤ (m : Int)) && decide ((m : Int) < n)) = true := by
    simp only [List.all_cons, List.all_nil, Bool.and_true, Bool.and_eq_true, decide_eq_true_eq]
    omega
  simp only [bind_ok, vAll_map, e]
  simp
theorem str_web : oNe (.str "web") (.str "web") s = .ok (.bl false) s := by
  have e1 : pyOf s (.str "web") = some (.str "web") := by unfold pyOf D.py; rfl
  unfold oNe withPy
  rw [show lenNe s (.str "web") (.str "web") = false from rfl, if_neg (by decide), e1]
  simp only
  rw [show SeqAt.shaped (.str "web") = true by decide +kernel, if_pos (by rfl), show PyData.eqv (.str "web") (.str "web") = true by unfold PyData.eqv; decide +kernel]
  rfl
theorem is_web_ok {n : Nat} {ts : List (Nat × Nat)} {s : Sr} (hs : Cld s) (h : WebOk n ts) : m_is_web [dW n ts] s = .ok (.bl true) s := by
  have h1 := h.n1
  have h8 := h.n8
  have h12 := h.t12
  refine run_rt ?_ hs (by simp)
  have e : (ts.all fun p => decide (p.1 ≤ p.2)) = true := List.all_eq_true.mpr fun p hp => decide_eq_true (h.pr p hp).1
  simp [b_is_web, str_web, is_whole_int hs, show (1 : Int) ≤ n by omega, show (n : Int) ≤ 8 by omega, show (ts.length : Int) ≤ 12 by omega]
  rw [eLc_map dP (fun p => D.bl (decide (p.1 ≤ p.2))) ts (by simp; rfl) rfl (fun p hp => ⟨_, by simp; rfl, by
    have := h.pr p hp
    simp [is_pair_dP hs (show p.1 < n ∧ p.2 < n by omega)]⟩) (by simp; omega)]
  simp only [bind_ok, vAll_map, e]
  simp
theorem need_web_ok {n : Nat} {ts : List (Nat × Nat)} {s : Sr} (hs : Cld s) (h : WebOk n ts) : m_need_web [dW n ts] s = .ok .non s := by
  refine run_nx (env := [some (dW n ts)]) ?_ hs
  simp [b_need_web, is_web_ok hs h]
theorem need_whole_ok {i lo hi : Int} {w : D} {s : Sr} (hs : Cld s) (h1 : lo ≤ i) (h2 : i ≤ hi) : m_need_whole [.int i, .int lo, .int hi, w] s = .ok .non s := by
  refine run_nx (env := [some (.int i), some (.int lo), some (.int hi), some w]) ?_ hs
  simp [b_need_whole, is_whole_int hs, show ¬ i < lo by omega, show ¬ hi < i by omega, show oIs true (.int lo) .non s = .ok (.bl true) s from rfl]
theorem cut_from (l : List D) (k : Nat) (h : k ≤ l.length) : cutD l (some (k : Int)) none = l.drop k := by
  unfold cutD
  rw [HT.sIx_nat, HT.sIx_none, Nat.min_eq_left h, List.take_of_length_le]
  rw [List.length_drop]
  exact Nat.le_refl _
theorem cut_to (l : List D) (k : Nat) (h : k ≤ l.length) : cutD l none (some (k : Int)) = l.take k := by
  unfold cutD
  rw [HT.sIx_nat, HT.sIx_none, Nat.min_eq_left h, List.drop_zero, Nat.sub_zero]
theorem cut_one (l : List D) : cutD l (some 1) none = l.drop 1 := by
  cases l with
  | nil => rfl
  | cons a l => exact cut_from (a :: l) 1 (by simp)
theorem zipL_map {α β : Type} (f : α → D) (g : β → D) : ∀ (l : List α) (m : List β), zipL (l.map f) (m.map g) = (l.zip m).map fun p => .tup [f p.1, g p.2]
  | [], _ => rfl
  | _ :: _, [] => rfl
  | a :: l, b :: m => by
    show D.tup [f a, g b] :: zipL (l.map f) (m.map g) = _
    rw [zipL_map f g l m]; rfl
theorem asc_zip : ∀ {l : List Nat}, l.Pairwise (· < ·) → ∀ p ∈ l.zip (l.drop 1), p.1 < p.2
  | [], _, p, h => by simp at h
  | [a], _, p, h => by simp at h
  | a :: b :: l, hp, p, h => by
    rw [List.pairwise_cons] at hp
    rw [List.drop_succ_cons, List.drop_zero, List.zip_cons_cons, List.mem_cons] at h
    rcases h with rfl | h
    · exact hp.1 b (List.mem_cons_self ..)
    · exact asc_zip hp.2 p (by simpa using h)
theorem is_lot_ok {n : Nat} {ts : List (Nat × Nat)} {lot : List Nat} {s : Sr} (hs : Cld s) (hl : ∀ t ∈ lot, t < ts.length) (ha : lot.Pairwise (· < ·)) (hz : lot.length ≤ 1000) : m_is_lot [dW n ts, dL lot] s = .ok (.bl true) s := by
  refine run_rt ?_ hs (by simp)
  simp [b_is_lot]
  rw [eLc_map dN (fun m => D.bl (decide (m < ts.length))) lot (by unfold dL; simp; rfl) rfl (fun m hm => ⟨_, by simp [dN]; rfl, by simp [is_below_int hs]⟩) (by simp; omega)]
  have e : (lot.all fun m => decide (m < ts.length)) = true := List.all_eq_true.mpr fun t ht => decide_eq_true (hl t ht)
  simp only [bind_ok, vAll_map, e]
  simp
  have e0 : oSlice (dL lot) (some 1) none s = .ok (.tup (lot.map dN).tail) s := by
    show R.ok (D.tup (cutD (lot.map dN) (some 1) none)) s = _
    rw [cut_one, List.drop_one]
  have ez : hZip [dL lot, .tup (lot.map dN).tail] s = some ⟨(lot.zip lot.tail).map dP, []⟩ := by
    unfold hZip
    simp only [asT, dL]
    rw [← List.map_tail, zipL_map]; rfl
  rw [eLc_map dP (fun p => D.bl (decide (p.1 < p.2))) (lot.zip lot.tail) (g := []) (by simp [e0, ez]) rfl (fun p hp => ⟨_, by unfold dP; simp; rfl, by simp⟩) (by simp; omega)]
  have e2 : ((lot.zip lot.tail).all fun p => decide (p.1 < p.2)) = true := List.all_eq_true.mpr fun p hp => decide_eq_true (asc_zip ha p (by rw [List.drop_one]; exact hp))
  simp only [bind_ok, vAll_map, e2, thenR_rt]
theorem need_lot_ok {n : Nat} {ts : List (Nat × Nat)} {lot : List Nat} {s : Sr} (hs : Cld s) (hl : ∀ t ∈ lot, t < ts.length) (ha : lot.Pairwise (· < ·)) (hz : lot.length ≤ 1000) : m_need_lot [dW n ts, dL lot] s = .ok .non s := by
  refine run_nx (env := [some (dW n ts), some (dL lot)]) ?_ hs
  simp [b_need_lot, is_lot_ok hs hl ha hz]
theorem all_ties_ok {n : Nat} {ts : List (Nat × Nat)} {s : Sr} (hs : Cld s) (hz : ts.length ≤ 1000) : m_all_ties [dW n ts] s = .ok (dL (List.range ts.length)) s := by
  refine run_rt ?_ hs (by simp)
  simp [b_all_ties, rgT1 (show ts.length ≤ 16777216 by omega), dL]
theorem oIn_dL (x : Nat) (l : List Nat) (n : Bool) (s : Sr) : oIn n (.int x) (dL l) s = .ok (.bl (decide (x ∈ l) != n)) s :=
  oIn_en enN x l s n (dL l) (.inl rfl) (by decide) (fun z h => by cases h)
theorem without_ok {n : Nat} {ts : List (Nat × Nat)} {lot : List Nat} {s : Sr} (hs : Cld s) (hz : ts.length ≤ 1000) : m_without [dW n ts, dL lot] s = .ok (dL ((List.range ts.length).filter fun t => !decide (t ∈ lot))) s := by
  refine run_rt ?_ hs (by simp)
  simp [b_without]
  rw [eLc_fm dN (fun t => !decide (t ∈ lot)) dN (List.range ts.length) (by simp [all_ties_ok hs hz, dL]; rfl) rfl (fun t ht => ⟨_, by simp [dN]; rfl, by simp [oIn_dL], fun _ => by simp [dN]⟩) (by simp; omega)]
  simp [dL]
theorem is_loop_ok {n : Nat} {ts : List (Nat × Nat)} {t : Nat} {s : Sr} (hs : Cld s) (ht : t < ts.length) : m_is_loop [dW n ts, .int t] s = .ok (.bl (decide ((ts.getD t (0, 0)).1 = (ts.getD t (0, 0)).2))) s := by
  refine run_rt ?_ hs (by simp)
  simp [b_is_loop, oIdx_tup (getD_dP ht)]
  omega
def allT (ts : List (Nat × Nat)) : List Nat := List.range ts.length
def wo (ts : List (Nat × Nat)) (t : Nat) : List Nat := (List.range ts.length).filter fun u => !decide (u ∈ [t])
theorem is_bridge_ok {n : Nat} {ts : List (Nat × Nat)} {t : Nat} {s : Sr} (hs : Cld s) (hn : n ≤ 1000) (hp : ∀ p ∈ ts, p.1 < n ∧ p.2 < n) (hz : ts.length ≤ 1000) : m_is_bridge [dW n ts, .int t] s = .ok (.bl (decide (rkL n (lotTs ts (wo ts t)) < rkL n (lotTs ts (allT ts))))) s := by
  refine run_rt ?_ hs (by simp)
  have l1 : ∀ u ∈ wo ts t, u < ts.length := fun u hu => List.mem_range.mp (List.mem_filter.mp hu).1
  have l2 : ∀ u ∈ allT ts, u < ts.length := fun u hu => List.mem_range.mp hu
  have r1 := rank_in_ok hs hn hp l1 (Nat.le_trans (List.length_filter_le ..) (by rw [List.length_range]; exact hz))
  have r2 := rank_in_ok hs hn hp l2 (by unfold allT; rw [List.length_range]; exact hz)
  have w1 : m_without [dW n ts, .tup [.int t]] s = .ok (dL (wo ts t)) s := without_ok (lot := [t]) hs hz
  have w2 : m_all_ties [dW n ts] s = .ok (dL (allT ts)) s := all_ties_ok hs hz
  simp [b_is_bridge, w1, w2, r1, r2]
/-! ties away, drawn -/
def rest (ts : List (Nat × Nat)) (t : Nat) : List (Nat × Nat) := ts.take t ++ ts.drop (t + 1)
theorem rest_run {ts : List (Nat × Nat)} {t : Nat} {s : Sr} (ht : t < ts.length) (hz : ts.length ≤ 1000) (x : D) (hx : x = .tup (ts.map dP)) : (oSlice x none (some (t : Int)) s).bind (fun a s => (oSlice x (some ((t : Int) + 1)) none s).bind fun b s => oAdd a b s) = .ok (.tup ((rest ts t).map dP)) s := by
  subst hx
  show (R.ok (D.tup (cutD (ts.map dP) none (some (t : Int)))) s).bind (fun a s => (R.ok (D.tup (cutD (ts.map dP) (some ((t : Int) + 1)) none)) s).bind fun b s => oAdd a b s) = _
  rw [cut_to _ _ (by rw [List.length_map]; omega), show ((t : Int) + 1) = ((t + 1 : Nat) : Int) by omega, cut_from _ _ (by rw [List.length_map]; omega)]
  simp only [bind_ok]
  rw [oAdd_tup (by simp; omega)]
  unfold rest
  rw [List.map_append, List.map_take, List.map_drop]
theorem web_away_ok {n : Nat} {ts : List (Nat × Nat)} {t : Nat} {s : Sr} (hs : Cld s) (ht : t < ts.length) (hz : ts.length ≤ 1000) : m_web_away [dW n ts, .int t] s = .ok (dW n (rest ts t)) s := by
  refine run_rt ?_ hs (by simp)
  simp [b_web_away]
  rw [rest_run ht hz _ rfl]
  simp [dW]
def srt (p : Nat × Nat) : Nat × Nat := (min p.1 p.2, max p.1 p.2)
theorem made_ok {n : Nat} {ps : List (Nat × Nat)} {x : D} {s : Sr} (hs : Cld s) (hx : SeqD x (ps.map dP)) (hz : ps.length ≤ 1000) : m_made [.int n, x] s = .ok (dW n (ps.map srt)) s := by
  refine run_rt ?_ hs (by simp)
  simp [b_made]
  rw [eLc_map dP (fun p => dP (srt p)) ps (g := []) (by simp [hx.src]) rfl (fun p hp => ⟨_, by unfold dP; simp; rfl, by simp [dP, srt]⟩) (by simp; omega)]
  simp [dW]
theorem law_made_ok {n : Nat} {ps : List (Nat × Nat)} {x : D} {s : Sr} (hs : Cld s) (hx : SeqD x (ps.map dP)) (hz : ps.length ≤ 1000) : m_law_made [.int n, x] s = .ok (dW n (ps.map srt)) s := by
  rw [show m_law_made = m_made from rfl]
  exact made_ok hs hx hz
def nmD (low high p : Nat) : Nat := if p = high then low else if p > high then p - 1 else p
theorem name_drawn_ok {p low high : Nat} {s : Sr} (hs : Cld s) : m_name_drawn [.int p, .int low, .int high] s = .ok (.int (nmD low high p)) s := by
  refine run_rt ?_ hs (by simp)
  unfold nmD
  by_cases h : p = high
  · simp [b_name_drawn, h]
  · by_cases k : high < p
    · simp [b_name_drawn, h, k, show ¬ (p : Int) = high by omega, show (high : Int) < p by omega]; omega
    · simp [b_name_drawn, h, k, show ¬ (p : Int) = high by omega, show ¬ (high : Int) < p by omega]
def drawnP (q p : Nat × Nat) : Nat × Nat := (nmD q.1 q.2 p.1, nmD q.1 q.2 p.2)
def drawnT (ts : List (Nat × Nat)) (t : Nat) : List (Nat × Nat) := (rest ts t).map fun p => srt (drawnP (ts.getD t (0, 0)) p)
theorem web_drawn_ok {n : Nat} {ts : List (Nat × Nat)} {t : Nat} {s : Sr} (hs : Cld s) (hn : 1 ≤ n) (ht : t < ts.length) (hz : ts.length ≤ 1000) : m_web_drawn [dW n ts, .int t] s = .ok (dW (n - 1) (drawnT ts t)) s := by
  refine run_rt ?_ hs (by simp)
  have hr : (rest ts t).length ≤ 1000 := by unfold rest; simp; omega
  simp [b_web_drawn, oIdx_tup (getD_dP ht)]
  rw [show dP (ts[t]?.getD (0, 0)) = .tup [.int (ts.getD t (0, 0)).1, .int (ts.getD t (0, 0)).2] by rw [List.getD_eq_getElem?_getD]; rfl]
  simp
  rw [rest_run ht hz _ rfl]
  simp
  rw [eLc_map dP (fun p => dP (drawnP (ts.getD t (0, 0)) p)) (rest ts t) (by simp; rfl) rfl (fun p hp => ⟨_, by unfold dP; simp; rfl, by simp [name_drawn_ok hs, dP, drawnP]⟩) (by simp; omega)]
  simp
  rw [show ((n : Int) - 1) = ((n - 1 : Nat) : Int) by omega, show (rest ts t).map (fun p => dP (drawnP (ts[t]?.getD (0, 0)) p)) = ((rest ts t).map fun p => drawnP (ts.getD t (0, 0)) p).map dP by rw [List.map_map]; simp [List.getD_eq_getElem?_getD], made_ok hs (.inr rfl) (by simp; exact hr)]
  simp [drawnT, List.map_map]
  rfl
end L3

/-! M6: polynomials -/
namespace L3
open PySem PySem.Spec PyProof.Rows L2

abbrev Po := List ((Nat × Nat) × Int)
def getA (k : Nat × Nat) : Po → Option Int
  | [] => none
  | e :: r => if e.1 = k then some e.2 else getA k r
def putA (k : Nat × Nat) (v : Int) (l : Po) : Po := if l.any (fun e => decide (e.1 = k)) = true then l.map (fun e => if e.1 = k then (e.1, v) else e) else l ++ [(k, v)]
def addE (l : Po) (e : (Nat × Nat) × Int) : Po := putA e.1 ((getA e.1 l).getD 0 + e.2) l
def addAll (l L : Po) : Po := L.foldl addE l
def prods (a b : Po) : Po := a.flatMap fun e => b.map fun f => ((e.1.1 + f.1.1, e.1.2 + f.1.2), e.2 * f.2)
def leP (a b : Nat × Nat) : Bool := !(oPr oN oN).lt b a
def norm (l : Po) : Po := ((isS leP (l.map (·.1))).filter fun k => decide ((getA k l).getD 0 ≠ 0)).map fun k => (k, (getA k l).getD 0)
def normT (l : Po) : Po := (isS leP (l.map (·.1))).map fun k => (k, (getA k l).getD 0)
def plusP (a b : Po) : Po := norm (addAll a b)
def timesP (a b : Po) : Po := norm (addAll [] (prods a b))
def oftenP (p : Po) : Nat → Po
  | 0 => [((0, 0), 1)]
  | n + 1 => timesP (oftenP p n) p

def ek (k : Nat × Nat) : List Key := [.inl k.1, .inl k.2]
def eP (l : Po) : List (List Key × D) := l.map fun e => (ek e.1, .int e.2)
def dPo (l : Po) : D := .dt (eP l)
theorem ek_inj {a b : Nat × Nat} : ek a = ek b ↔ a = b := by
  constructor
  · intro h
    unfold ek at h
    injection h with h1 h2
    injection h2 with h2 _
    injection h1 with h1
    injection h2 with h2
    obtain ⟨a1, a2⟩ := a
    obtain ⟨b1, b2⟩ := b
    simp only at h1 h2
    rw [show a1 = b1 by omega, show a2 = b2 by omega]
  · rintro rfl; rfl
theorem keysOf_ek (k : Nat × Nat) : keysOf [.int k.1, .int k.2] = some (ek k) := rfl
theorem look_eP (k : Nat × Nat) : ∀ l : Po, look (ek k) (eP l) = (getA k l).map D.int
  | [] => rfl
  | e :: r => by
    show look (ek k) ((ek e.1, D.int e.2) :: eP r) = _
    unfold look getA
    by_cases h : e.1 = k
    · rw [if_pos (ek_inj.mpr h), if_pos h]; rfl
    · rw [if_neg (fun z => h (ek_inj.mp z)), if_neg h]
      exact look_eP k r
theorem put_eP (k : Nat × Nat) (v : Int) (l : Po) : put (ek k) (.int v) (eP l) = eP (putA k v l) := by
  unfold put putA eP
  rw [List.any_map]
  have e : (l.any ((fun kv : List Key × D => decide (kv.1 = ek k)) ∘ fun e => (ek e.1, D.int e.2))) = l.any fun e => decide (e.1 = k) := by
    congr 1
    funext e
    simp only [Function.comp]
    by_cases h : e.1 = k
    · rw [decide_eq_true h, decide_eq_true (ek_inj.mpr h)]
    · rw [decide_eq_false h, decide_eq_false (fun z => h (ek_inj.mp z))]
  rw [e]
  split
  · rw [List.map_map, List.map_map]
    refine List.map_congr_left fun e _ => ?_
    simp only [Function.comp]
    by_cases h : e.1 = k
    · rw [if_pos h, if_pos (ek_inj.mpr h)]
    · rw [if_neg h, if_neg (fun z => h (ek_inj.mp z))]
  · rw [List.map_append]; rfl
theorem snoc_get (s : Sr) (c : Cell) : (s ++ [c])[s.length]? = some c := by simp
theorem snoc_set (s : Sr) (c c' : Cell) : (s ++ [c]).set s.length c' = s ++ [c'] := by simp
theorem asDt_snoc (s : Sr) (l : List (List Key × D)) : asDt (s ++ [.dt l]) (.ref s.length) = some l := by unfold asDt; simp only [snoc_get]
theorem asDk_snoc (s : Sr) (l : List (List Key × D)) : asDk (s ++ [.dt l]) (.ref s.length) = none := by unfold asDk; simp only [snoc_get]
theorem asL_snoc (s : Sr) (l : List (List Key × D)) : asL (s ++ [.dt l]) (.ref s.length) = none := by unfold asL; simp only [snoc_get]
theorem dget_snoc (s : Sr) (l : Po) (k : Nat × Nat) : dget (s ++ [.dt (eP l)]) (.ref s.length) (dP k) = some ((getA k l).map D.int) := by
  unfold dget
  rw [asDk_snoc, asDt_snoc]
  unfold dP
  simp only [keysOf_ek, Option.map_some, look_eP]
theorem get_snoc (fo fk : F) (env : Env') (s : Sr) (l : Po) (k : Nat × Nat) (h1 : fo env (s ++ [.dt (eP l)]) = .ok (.ref s.length) (s ++ [.dt (eP l)])) (h2 : fk env (s ++ [.dt (eP l)]) = .ok (dP k) (s ++ [.dt (eP l)])) :
    eGet fo fk (eC (.int 0)) env (s ++ [.dt (eP l)]) = .ok (.int ((getA k l).getD 0)) (s ++ [.dt (eP l)]) := by
  rw [eGet_run, h1]
  simp only [bind_ok]
  rw [asDt_snoc, show (Option.isSome (some (eP l))) = true from rfl, Bool.or_true, if_pos rfl, h2]
  simp only [bind_ok, eC_run]
  rw [dget_snoc]
  simp only
  cases getA k l <;> rfl
theorem idx_snoc (s : Sr) (l : Po) (k : Nat × Nat) (v : Int) (h : getA k l = some v) : oIdx (.ref s.length) (dP k) (s ++ [.dt (eP l)]) = .ok (.int v) (s ++ [.dt (eP l)]) := by
  unfold oIdx
  have e : asQ (s ++ [.dt (eP l)]) (.ref s.length) = none := asL_snoc s (eP l)
  rw [e]
  simp only
  rw [dget_snoc, h]
  rfl
theorem set_snoc (s : Sr) (l : Po) (k : Nat × Nat) (v : Int) (h : l.length < 16777216) : setD (s ++ [.dt (eP l)]) (.ref s.length) (dP k) (.int v) = some (s ++ [.dt (eP (putA k v l))]) := by
  unfold setD
  simp only [snoc_get]
  rw [if_pos (by unfold eP; rw [List.length_map]; simp; exact h)]
  unfold dP
  simp only [keysOf_ek, Option.map_some, put_eP, snoc_set]
theorem putA_len (k : Nat × Nat) (v : Int) (l : Po) : (putA k v l).length ≤ l.length + 1 := by
  unfold putA
  split
  · rw [List.length_map]; omega
  · rw [List.length_append]; simp
theorem addE_len (l : Po) (e : (Nat × Nat) × Int) : (addE l e).length ≤ l.length + 1 := putA_len ..
theorem addAll_len : ∀ (L l : Po), (addAll l L).length ≤ l.length + L.length
  | [], l => by simp [addAll]
  | e :: L, l => by
    show (addAll (addE l e) L).length ≤ _
    have h1 := addAll_len L (addE l e)
    have h2 := addE_len l e
    rw [List.length_cons]
    omega
/-! unlike keys -/
def Nk (l : Po) : Prop := (l.map (·.1)).Nodup
theorem any_key (k : Nat × Nat) (l : Po) : l.any (fun e => decide (e.1 = k)) = true ↔ k ∈ l.map (·.1) := by
  rw [List.any_eq_true, List.mem_map]
  constructor
  · rintro ⟨e, h, h2⟩; exact ⟨e, h, of_decide_eq_true h2⟩
  · rintro ⟨e, h, h2⟩; exact ⟨e, h, decide_eq_true h2⟩
theorem putA_keys (k : Nat × Nat) (v : Int) (l : Po) : (putA k v l).map (·.1) = if k ∈ l.map (·.1) then l.map (·.1) else l.map (·.1) ++ [k] := by
  unfold putA
  by_cases h : k ∈ l.map (·.1)
  · rw [if_pos ((any_key k l).mpr h), if_pos h, List.map_map]
    refine List.map_congr_left fun e _ => ?_
    simp only [Function.comp]
    split <;> rfl
  · rw [if_neg (fun z => h ((any_key k l).mp z)), if_neg h, List.map_append]
    rfl
theorem putA_nk {k : Nat × Nat} {v : Int} {l : Po} (h : Nk l) : Nk (putA k v l) := by
  unfold Nk
  rw [putA_keys]
  split
  · exact h
  · rename_i hk
    refine List.nodup_append.mpr ⟨h, by simp, fun x hx y hy => ?_⟩
    rw [List.mem_singleton] at hy
    subst hy
    exact fun z => hk (z ▸ hx)
theorem addE_nk {l : Po} {e : (Nat × Nat) × Int} (h : Nk l) : Nk (addE l e) := putA_nk h
theorem addAll_nk : ∀ {L l : Po}, Nk l → Nk (addAll l L)
  | [], _, h => h
  | e :: L, l, h => addAll_nk (L := L) (l := addE l e) (addE_nk h)
theorem getA_mem {k : Nat × Nat} : ∀ {l : Po}, k ∈ l.map (·.1) → ∃ v, getA k l = some v
  | [], h => by simp at h
  | e :: r, h => by
    unfold getA
    by_cases c : e.1 = k
    · rw [if_pos c]; exact ⟨_, rfl⟩
    · rw [if_neg c]
      rw [List.map_cons, List.mem_cons] at h
      exact getA_mem (h.resolve_left fun z => c z.symm)
/-- keys sorted, a dict of them -/
theorem dcL_keys {chk : Sr → Bool} {vs : List Nat} {t : Tg} {test : FB} {fk fv : F} {s : Sr} {env : Env'} (hc : chk s = true) (p : Nat × Nat → Bool) (f : Nat × Nat → Int) : ∀ (ks : List (Nat × Nat)) (acc : Po),
    ks.Nodup → (∀ k ∈ ks, k ∉ acc.map (·.1)) → acc.length + ks.length ≤ 16777216 →
    (∀ k ∈ ks, ∃ env1, t.put (dP k) (wipeE env vs) = some env1 ∧ test env1 s = .ok (p k) s ∧ (p k = true → fk env1 s = .ok (dP k) s ∧ fv env1 s = .ok (.int (f k)) s)) →
    dcL dkT chk vs t test fk fv (ks.map dP) (eP acc) env s = .ok (eP (acc ++ (ks.filter p).map fun k => (k, f k))) s
  | [], acc, _, _, _, _ => by
    show dcL dkT chk vs t test fk fv [] (eP acc) env s = _
    unfold dcL
    rw [if_pos hc]; simp
  | k :: ks, acc, hn, ha, hz, h => by
    obtain ⟨env1, e1, e2, e3⟩ := h k (List.mem_cons_self ..)
    rw [List.nodup_cons] at hn
    rw [List.length_cons] at hz
    show dcL dkT chk vs t test fk fv (dP k :: ks.map dP) (eP acc) env s = _
    unfold dcL
    rw [if_pos hc, e1]
    simp only
    rw [e2]
    simp only [nox_ok, bind_ok]
    cases hp : p k with
    | false =>
      rw [if_neg (by decide), List.filter_cons_of_neg (by rw [hp]; decide)]
      exact dcL_keys hc p f ks acc hn.2 (fun k' h' => ha k' (List.mem_cons_of_mem _ h')) (by omega) fun k' h' => h k' (List.mem_cons_of_mem _ h')
    | true =>
      obtain ⟨e4, e5⟩ := e3 hp
      rw [if_pos rfl, e4]
      simp only [nox_ok, bind_ok]
      rw [e5]
      simp only [nox_ok, bind_ok]
      rw [show dkT.key (dP k) = some (ek k) from rfl]
      simp only
      rw [if_pos (by unfold eP; rw [List.length_map]; simp; omega), put_eP, show putA k (f k) acc = acc ++ [(k, f k)] by
        unfold putA
        rw [if_neg (fun z => ha k (List.mem_cons_self ..) ((any_key k acc).mp z))]]
      rw [dcL_keys hc p f ks (acc ++ [(k, f k)]) hn.2 (fun k' h' => ?_) (by rw [List.length_append]; simp; omega) (fun k' h' => h k' (List.mem_cons_of_mem _ h')), List.filter_cons_of_pos hp]
      · simp
      · rw [List.map_append, List.mem_append]
        rintro (z | z)
        · exact ha k' (List.mem_cons_of_mem _ h') z
        · simp at z; subst z; exact hn.1 h'
theorem sorted_keys (l : Po) (s : Sr) (hl : l.length ≤ 16777216) : vSorted [.ref s.length] (s ++ [.dt (eP l)]) = some (.lst ((isS leP (l.map (·.1))).map dP)) := by
  refine (vSorted_en (oPr oN oN) (by decide) (srtPr _ _) (l.map (·.1)) (by rw [List.length_map]; simp; exact hl) _ _ (.inr ⟨asL_snoc _ _, ?_⟩)).trans rfl
  unfold keysD
  rw [asDk_snoc, asDt_snoc]
  simp only [Option.map_some]
  unfold eP
  rw [List.map_map, List.map_map]
  rfl
theorem sorted_nodup {l : Po} (h : Nk l) : (isS leP (l.map (·.1))).Nodup := (isS_perm leP _).nodup_iff.mpr h
theorem sorted_mem {l : Po} {k : Nat × Nat} : k ∈ isS leP (l.map (·.1)) ↔ k ∈ l.map (·.1) := (isS_perm leP _).mem_iff
/-- {key: found[key] for key in sorted(found) if found[key] != 0} -/
theorem norm_run {fo : F} {vs : List Nat} {t : Tg} {test : FB} {fk fv : F} {s : Sr} {env : Env'} {l : Po} (hn : Nk l) (hz : l.length ≤ 16777216) (h1 : fo env (s ++ [.dt (eP l)]) = .ok (.ref s.length) (s ++ [.dt (eP l)]))
    (h : ∀ k v, getA k l = some v → ∃ env1, t.put (dP k) (wipeE env vs) = some env1 ∧ test env1 (s ++ [.dt (eP l)]) = .ok (decide (v ≠ 0)) (s ++ [.dt (eP l)]) ∧ fk env1 (s ++ [.dt (eP l)]) = .ok (dP k) (s ++ [.dt (eP l)]) ∧ fv env1 (s ++ [.dt (eP l)]) = .ok (.int v) (s ++ [.dt (eP l)])) :
    eDc dkT (iSrc (eFr vSorted (eCons fo eNil))) vs t test fk fv env (s ++ [.dt (eP l)]) = .ok (dPo (norm l)) (s ++ [.dt (eP l)]) := by
  rw [eDc_run]
  simp only [iSrc_run, eFr_run, eCons_run, eNil_run, h1, bind_ok, sorted_keys l s hz, srcD_lst]
  rw [show ([] : List (List Key × D)) = eP [] from rfl, dcL_keys (src_ok_nil _ _) (fun k => decide ((getA k l).getD 0 ≠ 0)) (fun k => (getA k l).getD 0) _ [] (sorted_nodup hn) (by simp) (by
      have := (isS_perm leP (l.map (·.1))).length_eq
      rw [List.length_map] at this
      simp only [List.length_nil]; omega) (fun k hk => by
      obtain ⟨v, hv⟩ := getA_mem (sorted_mem.mp hk)
      obtain ⟨env1, e1, e2, e3, e4⟩ := h k v hv
      rw [hv]
      exact ⟨env1, e1, e2, fun _ => ⟨e3, e4⟩⟩)]
  rfl
/-- the same without a test -/
theorem normT_run {fo : F} {vs : List Nat} {t : Tg} {fk fv : F} {s : Sr} {env : Env'} {l : Po} (hn : Nk l) (hz : l.length ≤ 16777216) (h1 : fo env (s ++ [.dt (eP l)]) = .ok (.ref s.length) (s ++ [.dt (eP l)]))
    (h : ∀ k v, getA k l = some v → ∃ env1, t.put (dP k) (wipeE env vs) = some env1 ∧ fk env1 (s ++ [.dt (eP l)]) = .ok (dP k) (s ++ [.dt (eP l)]) ∧ fv env1 (s ++ [.dt (eP l)]) = .ok (.int v) (s ++ [.dt (eP l)])) :
    eDc dkT (iSrc (eFr vSorted (eCons fo eNil))) vs t bYes fk fv env (s ++ [.dt (eP l)]) = .ok (dPo (normT l)) (s ++ [.dt (eP l)]) := by
  rw [eDc_run]
  simp only [iSrc_run, eFr_run, eCons_run, eNil_run, h1, bind_ok, sorted_keys l s hz, srcD_lst]
  rw [show ([] : List (List Key × D)) = eP [] from rfl, dcL_keys (src_ok_nil _ _) (fun k => true) (fun k => (getA k l).getD 0) _ [] (sorted_nodup hn) (by simp) (by
      have := (isS_perm leP (l.map (·.1))).length_eq
      rw [List.length_map] at this
      simp only [List.length_nil]; omega) (fun k hk => by
      obtain ⟨v, hv⟩ := getA_mem (sorted_mem.mp hk)
      obtain ⟨env1, e1, e3, e4⟩ := h k v hv
      rw [hv]
      exact ⟨env1, e1, rfl, fun _ => ⟨e3, e4⟩⟩)]
  rw [List.filter_eq_self.mpr fun _ _ => rfl]
  rfl
theorem dPo_cl (n : Nat) (l : Po) : (dPo l).cl n = true := by
  unfold dPo
  rw [cl_dt]
  induction l with
  | nil => rfl
  | cons e l ih =>
    show D.clt n ((ek e.1, D.int e.2) :: eP l) = true
    rw [clt_cons, ih]; simp
/-- a def's end with one cell -/
theorem run_snoc {m : Nat} {fs : FS} {ds : List D} {s : Sr} {d : D} {c : Cell} (h : fs (ds.map some ++ List.replicate (m - ds.length) none) s = .ok (.rt d) (s ++ [c])) (hs : Cld s) (hd : d.cl s.length = true) : runDef false m fs ds s = .ok d s := by
  rw [run_def, h]
  show fin false s d (s ++ [c]) = _
  rw [fin_grown hs, frz_cl hd]
theorem items_eP (l : Po) : itemsT (eP l) = l.map fun e => D.tup [dP e.1, .int e.2] := by
  unfold itemsT eP
  rw [List.map_map]
  rfl
def dE (e : (Nat × Nat) × Int) : D := .tup [dP e.1, .int e.2]
theorem items_run {f : F} {env : Env'} {s : Sr} {l : Po} (h : f env s = .ok (dPo l) s) : iItems f env s = .ok ⟨l.map dE, []⟩ s := by
  rw [iItems_run, h]
  simp only [bind_ok, dPo, items_eP]
  rfl
end L3

/-! M7: sums, products, tables -/
namespace L3
open PySem PySem.Spec PyProof.Rows L2

/-- hashes of small pairs -/
def smallK (k : Nat × Nat) : Bool := decide (k.1 ≤ 12) && decide (k.2 ≤ 12)
def allK : List (Nat × Nat) := (List.range 13).flatMap fun i => (List.range 13).map fun j => (i, j)
def hK (k : Nat × Nat) : Int := hashI [(k.1 : Int), (k.2 : Int)]
theorem hK_nodup : (allK.map hK).Nodup := by decide +kernel
theorem mem_allK {k : Nat × Nat} (h : smallK k = true) : k ∈ allK := by
  unfold smallK at h
  rw [Bool.and_eq_true] at h
  have h1 := of_decide_eq_true h.1
  have h2 := of_decide_eq_true h.2
  unfold allK
  rw [List.mem_flatMap]
  exact ⟨k.1, List.mem_range.mpr (by omega), List.mem_map.mpr ⟨k.2, List.mem_range.mpr (by omega), rfl⟩⟩
theorem nodup_inj {α β : Type} {f : α → β} : ∀ {l : List α}, (l.map f).Nodup → ∀ {a b : α}, a ∈ l → b ∈ l → f a = f b → a = b
  | [], _, _, _, h, _, _ => by cases h
  | c :: l, hn, a, b, ha, hb, h => by
    rw [List.map_cons, List.nodup_cons] at hn
    rcases List.mem_cons.mp ha with rfl | ha' <;> rcases List.mem_cons.mp hb with rfl | hb'
    · rfl
    · exact absurd (h ▸ List.mem_map_of_mem hb') hn.1
    · exact absurd (h ▸ List.mem_map_of_mem ha') hn.1
    · exact nodup_inj hn.2 ha' hb' h
theorem hK_inj {a b : Nat × Nat} (ha : smallK a = true) (hb : smallK b = true) (h : hK a = hK b) : a = b := nodup_inj hK_nodup (mem_allK ha) (mem_allK hb) h
theorem hashes_eP : ∀ l : Po, hashes (eP l) = some (l.map fun e => hK e.1)
  | [] => rfl
  | e :: l => by
    show hashes ((ek e.1, D.int e.2) :: eP l) = _
    unfold hashes
    rw [hashes_eP l]
    rfl
def SmK (l : Po) : Prop := ∀ e ∈ l, smallK e.1 = true
theorem hashNd_eP {l : Po} (hn : Nk l) (hk : SmK l) : hashNd (eP l) = true := by
  unfold hashNd
  rw [hashes_eP]
  simp only
  refine decide_eq_true ?_
  induction l with
  | nil => exact List.nodup_nil
  | cons e l ih =>
    unfold Nk at hn
    rw [List.map_cons, List.nodup_cons] at hn ⊢
    refine ⟨fun h => ?_, ih hn.2 fun e he => hk e (List.mem_cons_of_mem _ he)⟩
    obtain ⟨f, hf, e2⟩ := List.mem_map.mp h
    exact hn.1 (List.mem_map.mpr ⟨f, hf, hK_inj (hk f (List.mem_cons_of_mem _ hf)) (hk e (List.mem_cons_self ..)) e2⟩)
theorem dict_eP {l : Po} {s : Sr} (hn : Nk l) (hk : SmK l) : vDict [dPo l] s = some (dPo l) := by
  unfold vDict dPo
  simp only [asDk, asDt]
  rw [if_pos (hashNd_eP hn hk)]
/-! plus -/
theorem plus_body (l : Po) (a b j : Option D) (r : Env') (e : (Nat × Nat) × Int) (s : Sr) (h : l.length < 16777216) :
    b_plus_1 (a :: b :: some (.ref s.length) :: some (dP e.1) :: some (.int e.2) :: r) (s ++ [.dt (eP l)]) = .ok (.nx (a :: b :: some (.ref s.length) :: some (dP e.1) :: some (.int e.2) :: r)) (s ++ [.dt (eP (addE l e))]) := by
  unfold b_plus_1
  simp
  rw [get_snoc (s := s) (l := l) (k := e.1)]
  · simp [set_snoc s l e.1 _ h]
    rfl
  · simp
  · simp
theorem snoc_guard (g : List (Nat × List D)) (h : g = []) (s : Sr) : g.all (guardOk s) = true := by subst h; rfl
theorem plus_ok {a b : Po} {s : Sr} (hs : Cld s) (hn : Nk a) (hk : SmK a) (hz : a.length + b.length ≤ 1000000) : m_plus [dPo a, dPo b] s = .ok (dPo (plusP a b)) s := by
  refine run_snoc (c := .dt (eP (addAll a b))) ?_ hs (dPo_cl _ _)
  simp [b_plus, eNew_run, dict_eP hn hk, show toCell (dPo a) = some (.dt (eP a)) from rfl]
  obtain ⟨env', s', e, j3, j4, l, h1, h2, h3, h4⟩ := sFor_st dE addE (fun (l : Po) env s1 => ∃ j3 j4 l', env = [some (dPo a), some (dPo b), some (.ref s.length), j3, j4] ∧ s1 = s ++ [.dt (eP l)] ∧ l' = l ∧ Nk l) (fun l _ => l.length < 16777216) b (t := .tup [.name 3, .name 4]) (body := b_plus_1) (b := a) (env := [some (dPo a), some (dPo b), some (.ref s.length), none, none]) (s := s ++ [.dt (eP a)]) (it := iItems (eVar 1)) (g := [])
    (items_run (by simp)) ⟨none, none, a, rfl, rfl, rfl, hn⟩ (fun _ _ _ _ => rfl)
    (fun l e env s1 ⟨j3, j4, l', h1, h2, h3, h4⟩ hp => by
      subst h1 h2
      exact ⟨_, by unfold dE; simp <;> rfl, _, _, plus_body l (some (dPo a)) (some (dPo b)) none [] e s hp, ⟨_, _, _, rfl, rfl, rfl, addE_nk h4⟩⟩)
    (fun pre e post q => by
      have := addAll_len pre a
      have q2 : b.length = pre.length + (post.length + 1) := by rw [q]; simp
      show (addAll a pre).length < _
      omega)
  subst h1 h2
  rw [e]
  simp
  have hl := addAll_len b a
  rw [show b.foldl addE a = addAll a b from rfl] at h4 ⊢
  rw [norm_run h4 (by omega) (by simp) (fun k v hv => ⟨_, by simp; rfl, by simp [idx_snoc s _ k v hv], by simp, by simp [idx_snoc s _ k v hv]⟩)]
  simp [plusP]
/-! times -/
def smallP (l : Po) : Prop := ∀ e ∈ l, smallI e.2 = true
theorem times_body (l : Po) (e f : (Nat × Nat) × Int) (a b j : Option D) (r : Env') (s : Sr) (h : l.length < 16777216) (hm : smallI e.2 = true ∨ smallI f.2 = true) :
    b_times_2 (a :: b :: some (.ref s.length) :: some (dP e.1) :: some (.int e.2) :: some (dP f.1) :: some (.int f.2) :: j :: r) (s ++ [.dt (eP l)]) =
      .ok (.nx (a :: b :: some (.ref s.length) :: some (dP e.1) :: some (.int e.2) :: some (dP f.1) :: some (.int f.2) :: some (dP (e.1.1 + f.1.1, e.1.2 + f.1.2)) :: r)) (s ++ [.dt (eP (addE l ((e.1.1 + f.1.1, e.1.2 + f.1.2), e.2 * f.2)))]) := by
  simp [b_times_2]
  rw [show (D.tup [.int ((e.1.1 : Int) + f.1.1), .int ((e.1.2 : Int) + f.1.2)]) = dP (e.1.1 + f.1.1, e.1.2 + f.1.2) by unfold dP; simp]
  rw [get_snoc (s := s) (l := l) (k := (e.1.1 + f.1.1, e.1.2 + f.1.2))]
  · simp [oMul_int hm, set_snoc s l (e.1.1 + f.1.1, e.1.2 + f.1.2) _ h]
    rfl
  · simp
  · simp
theorem times_inner (l b' : Po) (e : (Nat × Nat) × Int) (a : D) (j5 j6 j7 : Option D) (s : Sr) (h : l.length + b'.length < 16777216) (hm : smallI e.2 = true ∨ smallP b') :
    ∃ k5 k6 k7, b_times_1 [some a, some (dPo b'), some (.ref s.length), some (dP e.1), some (.int e.2), j5, j6, j7] (s ++ [.dt (eP l)]) =
      .ok (.nx [some a, some (dPo b'), some (.ref s.length), some (dP e.1), some (.int e.2), k5, k6, k7]) (s ++ [.dt (eP (addAll l (b'.map fun f => ((e.1.1 + f.1.1, e.1.2 + f.1.2), e.2 * f.2))))]) := by
  obtain ⟨env', s', q, k5, k6, k7, h1, h2⟩ := sFor_st dE (fun l f => addE l ((e.1.1 + f.1.1, e.1.2 + f.1.2), e.2 * f.2)) (fun (l : Po) env s1 => ∃ j5 j6 j7, env = [some a, some (dPo b'), some (.ref s.length), some (dP e.1), some (.int e.2), j5, j6, j7] ∧ s1 = s ++ [.dt (eP l)]) (fun l f => l.length < 16777216 ∧ (smallI e.2 = true ∨ smallI f.2 = true)) b' (t := .tup [.name 5, .name 6]) (body := b_times_2) (b := l) (env := [some a, some (dPo b'), some (.ref s.length), some (dP e.1), some (.int e.2), j5, j6, j7]) (s := s ++ [.dt (eP l)]) (it := iItems (eVar 1)) (g := [])
    (items_run (by simp)) ⟨j5, j6, j7, rfl, rfl⟩ (fun _ _ _ _ => rfl)
    (fun l f env s1 ⟨j5, j6, j7, h1, h2⟩ hp => by
      subst h1 h2
      exact ⟨_, by unfold dE; simp <;> rfl, _, _, times_body l e f (some a) (some (dPo b')) j7 [] s hp.1 hp.2, ⟨_, _, _, rfl, rfl⟩⟩)
    (fun pre f post z => by
      have key : ∀ (L l : Po), (L.foldl (fun l f => addE l ((e.1.1 + f.1.1, e.1.2 + f.1.2), e.2 * f.2)) l).length ≤ l.length + L.length := by
        intro L
        induction L with
        | nil => intro l; simp
        | cons x L ih =>
          intro l
          rw [List.foldl_cons]
          have h1 := ih (addE l ((e.1.1 + x.1.1, e.1.2 + x.1.2), e.2 * x.2))
          have h2 := addE_len l ((e.1.1 + x.1.1, e.1.2 + x.1.2), e.2 * x.2)
          rw [List.length_cons]; omega
      have k1 := key pre l
      have k2 : b'.length = pre.length + (post.length + 1) := by rw [z]; simp
      refine ⟨by omega, ?_⟩
      rcases hm with hm | hm
      · exact .inl hm
      · exact .inr (hm f (by rw [z]; simp)))
  subst h1 h2
  refine ⟨k5, k6, k7, ?_⟩
  simp [b_times_1]
  rw [q]
  simp [addAll, List.foldl_map]
theorem prods_len (a b : Po) : (prods a b).length = a.length * b.length := by
  unfold prods
  induction a with
  | nil => simp
  | cons e a ih => rw [List.flatMap_cons, List.length_append, ih, List.length_map, List.length_cons, Nat.succ_mul]; omega
theorem times_ok {a b : Po} {s : Sr} (hs : Cld s) (hz : a.length * b.length + b.length < 1000000) (hm : smallP a ∨ smallP b) : m_times [dPo a, dPo b] s = .ok (dPo (timesP a b)) s := by
  refine run_snoc (c := .dt (eP (addAll [] (prods a b)))) ?_ hs (dPo_cl _ _)
  simp [b_times, eNew_run, toCell]
  obtain ⟨env', s', e, j3, j4, j5, j6, j7, h1, h2, h3⟩ := sFor_st dE (fun l e => addAll l (b.map fun f => ((e.1.1 + f.1.1, e.1.2 + f.1.2), e.2 * f.2))) (fun (l : Po) env s1 => ∃ j3 j4 j5 j6 j7, env = [some (dPo a), some (dPo b), some (.ref s.length), j3, j4, j5, j6, j7] ∧ s1 = s ++ [.dt (eP l)] ∧ Nk l) (fun l e => l.length + b.length < 16777216 ∧ (smallI e.2 = true ∨ smallP b)) a (t := .tup [.name 3, .name 4]) (body := b_times_1) (b := []) (env := [some (dPo a), some (dPo b), some (.ref s.length), none, none, none, none, none]) (s := s ++ [.dt (eP [])]) (it := iItems (eVar 0)) (g := [])
    (items_run (by simp)) ⟨none, none, none, none, none, rfl, rfl, List.nodup_nil⟩ (fun _ _ _ _ => rfl)
    (fun l e env s1 ⟨j3, j4, j5, j6, j7, h1, h2, h3⟩ hp => by
      subst h1 h2
      obtain ⟨k5, k6, k7, q⟩ := times_inner l b e (dPo a) j5 j6 j7 s hp.1 hp.2
      exact ⟨_, by unfold dE; simp <;> rfl, _, _, q, ⟨_, _, _, _, _, rfl, rfl, addAll_nk h3⟩⟩)
    (fun pre e post q => by
      have key : ∀ (L l : Po), (L.foldl (fun l e => addAll l (b.map fun f => ((e.1.1 + f.1.1, e.1.2 + f.1.2), e.2 * f.2))) l).length ≤ l.length + L.length * b.length := by
        intro L
        induction L with
        | nil => intro l; simp
        | cons x L ih =>
          intro l
          rw [List.foldl_cons]
          have h1 := ih (addAll l (b.map fun f => ((x.1.1 + f.1.1, x.1.2 + f.1.2), x.2 * f.2)))
          have h2 := addAll_len (b.map fun f => ((x.1.1 + f.1.1, x.1.2 + f.1.2), x.2 * f.2)) l
          rw [List.length_map] at h2
          rw [List.length_cons, Nat.succ_mul]; omega
      have k1 := key pre []
      have k2 : a.length = pre.length + (post.length + 1) := by rw [q]; simp
      have k3 : pre.length * b.length ≤ a.length * b.length := Nat.mul_le_mul_right _ (by omega)
      simp only [List.length_nil] at k1
      refine ⟨by omega, ?_⟩
      rcases hm with hm | hm
      · exact .inl (hm e (by rw [q]; simp))
      · exact .inr hm)
  have hfold : a.foldl (fun l e => addAll l (b.map fun f => ((e.1.1 + f.1.1, e.1.2 + f.1.2), e.2 * f.2))) [] = addAll [] (prods a b) := by
    have key : ∀ (a l : Po), a.foldl (fun l e => addAll l (b.map fun f => ((e.1.1 + f.1.1, e.1.2 + f.1.2), e.2 * f.2))) l = addAll l (prods a b) := by
      intro a
      induction a with
      | nil => intro l; rfl
      | cons x a ih =>
        intro l
        rw [List.foldl_cons, ih]
        unfold prods addAll
        rw [List.flatMap_cons, List.foldl_append]
    exact key a []
  rw [hfold] at h2 h3
  subst h1 h2
  rw [show eP [] = [] from rfl] at e
  rw [e]
  simp
  have hl := addAll_len (prods a b) []
  rw [prods_len] at hl
  simp only [List.length_nil] at hl
  rw [norm_run h3 (by omega) (by simp) (fun k v hv => ⟨_, by simp; rfl, by simp [idx_snoc s _ k v hv], by simp, by simp [idx_snoc s _ k v hv]⟩)]
  simp [timesP]
end L3

/-! M8: the polynomial, worths -/
namespace L3
open PySem PySem.Spec PyProof.Rows L2

/-! sizes of polynomials -/
def keysP' (l : Po) : List (Nat × Nat) := l.map (·.1)
theorem addE_keys {l : Po} {e : (Nat × Nat) × Int} {k : Nat × Nat} : k ∈ (addE l e).map (·.1) ↔ k ∈ l.map (·.1) ∨ k = e.1 := by
  unfold addE
  rw [putA_keys]
  split
  · rename_i h
    constructor
    · exact .inl
    · rintro (h1 | rfl)
      · exact h1
      · exact h
  · rw [List.mem_append, List.mem_singleton]
theorem addAll_keys : ∀ {L l : Po} {k : Nat × Nat}, k ∈ (addAll l L).map (·.1) ↔ k ∈ l.map (·.1) ∨ k ∈ L.map (·.1)
  | [], l, k => by simp [addAll]
  | e :: L, l, k => by
    show k ∈ (addAll (addE l e) L).map (·.1) ↔ _
    rw [addAll_keys, addE_keys, List.map_cons, List.mem_cons, or_assoc]
theorem norm_keys {l : Po} {e : (Nat × Nat) × Int} (h : e ∈ norm l) : e.1 ∈ l.map (·.1) := by
  unfold norm at h
  obtain ⟨k, hk, rfl⟩ := List.mem_map.mp h
  exact sorted_mem.mp (List.mem_filter.mp hk).1
theorem norm_nk {l : Po} (h : Nk l) : Nk (norm l) := by
  unfold Nk norm
  rw [List.map_map, show ((fun x : (Nat × Nat) × Int => x.1) ∘ fun k => (k, (getA k l).getD 0)) = id from rfl, List.map_id]
  exact (sorted_nodup h).filter _
theorem norm_len (l : Po) : (norm l).length ≤ l.length := by
  unfold norm
  rw [List.length_map]
  refine Nat.le_trans (List.length_filter_le ..) ?_
  rw [(isS_perm leP _).length_eq, List.length_map]
  exact Nat.le_refl _
theorem nodup_sub_len {α : Type} [DecidableEq α] : ∀ {l m : List α}, l.Nodup → (∀ x ∈ l, x ∈ m) → l.length ≤ m.length
  | [], _, _, _ => Nat.zero_le _
  | a :: l, m, hn, h => by
    rw [List.nodup_cons] at hn
    have ha := h a (List.mem_cons_self ..)
    have : l.length ≤ (m.erase a).length := nodup_sub_len hn.2 fun x hx => (List.mem_erase_of_ne (by intro z; subst z; exact hn.1 hx)).mpr (h x (List.mem_cons_of_mem _ hx))
    rw [List.length_erase_of_mem ha] at this
    have hp : 0 < m.length := List.length_pos_of_mem ha
    rw [List.length_cons]
    omega
def Deg (d : Nat) (l : Po) : Prop := ∀ k ∈ l.map (·.1), k.1 + k.2 ≤ d
theorem Deg.mono {d d' : Nat} {l : Po} (h : Deg d l) (hd : d ≤ d') : Deg d' l := fun k hk => Nat.le_trans (h k hk) hd
theorem Deg.norm {d : Nat} {l : Po} (h : Deg d l) : Deg d (norm l) := fun k hk => by
  obtain ⟨e, he, rfl⟩ := List.mem_map.mp hk
  exact h _ (norm_keys he)
theorem Deg.addAll {d : Nat} {l L : Po} (h : Deg d l) (h2 : Deg d L) : Deg d (addAll l L) := fun k hk => (addAll_keys.mp hk).elim (h k) (h2 k)
theorem Deg.prods {d e : Nat} {a b : Po} (h : Deg d a) (h2 : Deg e b) : Deg (d + e) (prods a b) := fun k hk => by
  obtain ⟨x, hx, rfl⟩ := List.mem_map.mp hk
  unfold L3.prods at hx
  obtain ⟨p, hp, hx⟩ := List.mem_flatMap.mp hx
  obtain ⟨q, hq, rfl⟩ := List.mem_map.mp hx
  have h3 := h p.1 (List.mem_map_of_mem hp)
  have h4 := h2 q.1 (List.mem_map_of_mem hq)
  simp only
  omega
theorem Deg.smK {d : Nat} {l : Po} (h : Deg d l) (hd : d ≤ 12) : SmK l := fun e he => by
  have := h e.1 (List.mem_map_of_mem he)
  unfold smallK
  rw [Bool.and_eq_true]
  exact ⟨decide_eq_true (by omega), decide_eq_true (by omega)⟩
theorem smK_len {l : Po} (hn : Nk l) (h : SmK l) : l.length ≤ 169 := by
  have := nodup_sub_len hn (m := allK) fun k hk => by
    obtain ⟨e, he, rfl⟩ := List.mem_map.mp hk
    exact mem_allK (h e he)
  rw [List.length_map] at this
  refine Nat.le_trans this ?_
  decide +kernel
/-- the sum of all numbers' sizes -/
def nrm : Po → Nat
  | [] => 0
  | e :: l => e.2.natAbs + nrm l
theorem nrm_app : ∀ a b : Po, nrm (a ++ b) = nrm a + nrm b
  | [], b => by simp [nrm]
  | e :: a, b => by
    show e.2.natAbs + nrm (a ++ b) = _
    rw [nrm_app a b]; simp only [nrm]; omega
theorem nrm_mem : ∀ {l : Po} {e : (Nat × Nat) × Int}, e ∈ l → e.2.natAbs ≤ nrm l
  | f :: l, e, h => by
    unfold nrm
    rcases List.mem_cons.mp h with rfl | h
    · omega
    · have := nrm_mem h; omega
theorem getA_eq {k : Nat × Nat} {v : Int} : ∀ {l : Po}, getA k l = some v → (k, v) ∈ l
  | e :: r, h => by
    unfold getA at h
    by_cases c : e.1 = k
    · rw [if_pos c] at h
      cases h
      subst c
      exact List.mem_cons_self ..
    · rw [if_neg c] at h
      exact List.mem_cons_of_mem _ (getA_eq h)
theorem getA_none {k : Nat × Nat} : ∀ {l : Po}, k ∉ l.map (·.1) → getA k l = none
  | [], _ => rfl
  | e :: r, h => by
    unfold getA
    rw [List.map_cons, List.mem_cons, not_or] at h
    rw [if_neg (fun z => h.1 z.symm)]
    exact getA_none h.2
theorem getA_of {k : Nat × Nat} {v : Int} : ∀ {l : Po}, Nk l → (k, v) ∈ l → getA k l = some v
  | e :: r, hn, h => by
    unfold Nk at hn
    rw [List.map_cons, List.nodup_cons] at hn
    unfold getA
    rcases List.mem_cons.mp h with rfl | h
    · rw [if_pos rfl]
    · rw [if_neg (by intro z; apply hn.1; rw [z]; exact List.mem_map_of_mem (f := fun x : (Nat × Nat) × Int => x.1) h)]
      exact getA_of hn.2 h
theorem nrm_put : ∀ (l : Po) (k : Nat × Nat) (v : Int), Nk l → nrm (putA k v l) + ((getA k l).getD 0).natAbs = nrm l + v.natAbs := by
  intro l k v hn
  unfold putA
  by_cases h : k ∈ l.map (·.1)
  · rw [if_pos ((any_key k l).mpr h)]
    induction l with
    | nil => simp at h
    | cons e r ih =>
      unfold Nk at hn
      rw [List.map_cons, List.nodup_cons] at hn
      rw [List.map_cons]
      by_cases c : e.1 = k
      · rw [if_pos c]
        have e1 : r.map (fun e => if e.1 = k then (e.1, v) else e) = r := by
          refine (List.map_congr_left fun f hf => ?_).trans (List.map_id r)
          rw [if_neg]
          · rfl
          · intro z
            exact hn.1 (by rw [c, ← z]; exact List.mem_map_of_mem hf)
        rw [e1]
        unfold getA
        rw [if_pos c]
        simp only [nrm, Option.getD_some]
        omega
      · rw [if_neg c]
        unfold getA
        rw [if_neg c]
        rw [List.map_cons, List.mem_cons] at h
        have := ih hn.2 (h.resolve_left fun z => c z.symm)
        simp only [nrm]
        omega
  · rw [if_neg (fun z => h ((any_key k l).mp z)), nrm_app, getA_none h]
    simp [nrm]
theorem nrm_addE (l : Po) (e : (Nat × Nat) × Int) (hn : Nk l) : nrm (addE l e) ≤ nrm l + e.2.natAbs := by
  have := nrm_put l e.1 ((getA e.1 l).getD 0 + e.2) hn
  unfold addE
  omega
theorem nrm_addAll : ∀ (L l : Po), Nk l → nrm (addAll l L) ≤ nrm l + nrm L
  | [], l, _ => by simp [addAll, nrm]
  | e :: L, l, hn => by
    show nrm (addAll (addE l e) L) ≤ _
    have h1 := nrm_addAll L (addE l e) (addE_nk hn)
    have h2 := nrm_addE l e hn
    simp only [nrm]
    omega
theorem nrm_perm {a b : Po} (h : a.Perm b) : nrm a = nrm b := by
  induction h with
  | nil => rfl
  | cons x _ ih => simp only [nrm, ih]
  | swap x y l => simp only [nrm]; omega
  | trans _ _ h1 h2 => exact h1.trans h2
theorem nrm_filter (p : (Nat × Nat) × Int → Bool) : ∀ l : Po, nrm (l.filter p) ≤ nrm l
  | [] => Nat.le_refl _
  | e :: l => by
    have := nrm_filter p l
    cases hp : p e with
    | true => rw [List.filter_cons_of_pos hp]; simp only [nrm]; omega
    | false => rw [List.filter_cons_of_neg (by rw [hp]; decide)]; simp only [nrm]; omega
/-- the items of a dict by its keys -/
theorem items_keys {l : Po} (hn : Nk l) : (l.map (·.1)).map (fun k => (k, (getA k l).getD 0)) = l := by
  rw [List.map_map]
  refine (List.map_congr_left fun e he => ?_).trans (List.map_id l)
  show (e.1, (getA e.1 l).getD 0) = e
  rw [getA_of (v := e.2) hn he]
  rfl
theorem normT_perm {l : Po} (hn : Nk l) : (normT l).Perm l := by
  unfold normT
  have := (isS_perm leP (l.map (·.1))).map (fun k => (k, (getA k l).getD 0))
  rw [items_keys hn] at this
  exact this
theorem norm_eq (l : Po) : norm l = (normT l).filter fun e => decide (e.2 ≠ 0) := by
  unfold norm normT
  rw [List.filter_map]
  rfl
theorem nrm_norm {l : Po} (hn : Nk l) : nrm (norm l) ≤ nrm l := by
  rw [norm_eq]
  exact Nat.le_trans (nrm_filter _ _) (Nat.le_of_eq (nrm_perm (normT_perm hn)))
theorem nrm_scale (c : Int) (f : (Nat × Nat) × Int → Nat × Nat) : ∀ b : Po, nrm (b.map fun x => (f x, c * x.2)) = c.natAbs * nrm b
  | [] => by simp [nrm]
  | x :: b => by
    rw [List.map_cons]
    simp only [nrm]
    rw [nrm_scale c f b, Int.natAbs_mul, Nat.mul_add]
theorem nrm_prods : ∀ a b : Po, nrm (prods a b) = nrm a * nrm b
  | [], b => by simp [prods, nrm]
  | e :: a, b => by
    unfold prods
    rw [List.flatMap_cons, nrm_app, nrm_scale]
    have := nrm_prods a b
    unfold prods at this
    rw [this]
    simp only [nrm, Nat.add_mul]
theorem small_of {v : Int} {n : Nat} (h : v.natAbs ≤ n) (hn : n < 2 ^ 64) : smallI v = true := by
  unfold smallI
  rw [Bool.and_eq_true]
  exact ⟨decide_eq_true (by omega), decide_eq_true (by omega)⟩
theorem smallP_of {l : Po} (h : nrm l < 2 ^ 64) : smallP l := fun e he => small_of (nrm_mem he) h
structure Good (d : Nat) (l : Po) : Prop where
  nk : Nk l
  deg : Deg d l
theorem plus_good {d : Nat} {a b : Po} (ha : Good d a) (hb : Good d b) : Good d (plusP a b) ∧ nrm (plusP a b) ≤ nrm a + nrm b :=
  ⟨⟨norm_nk (addAll_nk ha.nk), (ha.deg.addAll hb.deg).norm⟩, Nat.le_trans (nrm_norm (addAll_nk ha.nk)) (nrm_addAll b a ha.nk)⟩
theorem times_good {d e : Nat} {a b : Po} (ha : Good d a) (hb : Good e b) : Good (d + e) (timesP a b) ∧ nrm (timesP a b) ≤ nrm a * nrm b :=
  ⟨⟨norm_nk (addAll_nk List.nodup_nil), (Deg.addAll (fun k hk => by simp at hk) (ha.deg.prods hb.deg)).norm⟩, by
    refine Nat.le_trans (nrm_norm (addAll_nk List.nodup_nil)) (Nat.le_trans (nrm_addAll _ [] List.nodup_nil) ?_)
    rw [nrm_prods]; simp [nrm]⟩
theorem Good.len {d : Nat} {l : Po} (h : Good d l) (hd : d ≤ 12) : l.length ≤ 169 := smK_len h.nk (h.deg.smK hd)
theorem often_good {d : Nat} {p : Po} (hp : Good d p) : ∀ n : Nat, Good (n * d) (oftenP p n) ∧ nrm (oftenP p n) ≤ nrm p ^ n
  | 0 => ⟨⟨by unfold oftenP Nk; simp, fun k hk => by simp [oftenP] at hk; subst hk; simp⟩, by simp [oftenP, nrm]⟩
  | n + 1 => by
    obtain ⟨h1, h2⟩ := often_good hp n
    obtain ⟨h3, h4⟩ := times_good h1 hp
    refine ⟨by rw [Nat.succ_mul]; exact h3, Nat.le_trans h4 ?_⟩
    rw [Nat.pow_succ]
    exact Nat.mul_le_mul_right _ h2
/-! taken so often -/
theorem dispK (env : Env') (s : Sr) (l : List ((Nat × Nat) × Int)) (ps : List (F × F)) (h : evPs ps env s = .ok (l.map fun e => (dP e.1, D.int e.2)) s) (hl : l.length ≤ 15) (hn : Nk l) : eDisp dkT ps env s = .ok (dPo l) s := by
  rw [eDisp_run, h]
  simp only [bind_ok]
  have h1 : ∀ l : Po, keysP dkT (l.map fun e => (dP e.1, D.int e.2)) = some (eP l) := by
    intro l
    induction l with
    | nil => rfl
    | cons e l ih =>
      show keysP dkT ((dP e.1, D.int e.2) :: l.map fun e => (dP e.1, D.int e.2)) = _
      unfold keysP
      rw [ih]; rfl
  have h2 : ∀ (l acc : Po), Nk (acc ++ l) → mergeD (eP acc) (eP l) = eP (acc ++ l) := by
    intro l
    induction l with
    | nil => intro acc _; simp [mergeD, eP]
    | cons e l ih =>
      intro acc hn
      show mergeD (put (ek e.1) (.int e.2) (eP acc)) (eP l) = _
      rw [put_eP]
      have hk : e.1 ∉ acc.map (·.1) := by
        unfold Nk at hn
        rw [List.map_append, List.nodup_append] at hn
        intro z
        exact hn.2.2 _ z _ (by rw [List.map_cons]; exact List.mem_cons_self ..) rfl
      rw [show putA e.1 e.2 acc = acc ++ [e] by unfold putA; rw [if_neg (fun z => hk ((any_key _ _).mp z))], ih _ (by simpa using hn)]
      simp
  rw [h1]
  simp only
  rw [if_pos (by unfold eP; rw [List.length_map]; exact hl)]
  rw [show ([] : List (List Key × D)) = eP [] from rfl]
  show R.ok (dkT.dat (mergeD (eP []) (eP l))) s = _
  rw [h2 l [] hn]
  rfl
theorem disp_one (env : Env') (s : Sr) (a b c : F) (i j : Nat) (v : Int) (ha : a env s = .ok (.int i) s) (hb : b env s = .ok (.int j) s) (hc : c env s = .ok (.int v) s) : eDisp dkT [((eTup (eCons a (eCons b eNil))), c)] env s = .ok (dPo [((i, j), v)]) s := by
  refine dispK env s [((i, j), v)] _ ?_ (by simp) (by unfold Nk; simp)
  simp [evPs, ha, hb, hc]
  rfl
theorem disp_two (env : Env') (s : Sr) (a b c a' b' c' : F) (i j i' j' : Nat) (v v' : Int) (ha : a env s = .ok (.int i) s) (hb : b env s = .ok (.int j) s) (hc : c env s = .ok (.int v) s) (ha' : a' env s = .ok (.int i') s) (hb' : b' env s = .ok (.int j') s) (hc' : c' env s = .ok (.int v') s) (hne : (i, j) ≠ (i', j')) :
    eDisp dkT [((eTup (eCons a (eCons b eNil))), c), ((eTup (eCons a' (eCons b' eNil))), c')] env s = .ok (dPo [((i, j), v), ((i', j'), v')]) s := by
  refine dispK env s [((i, j), v), ((i', j'), v')] _ ?_ (by simp) (by unfold Nk; simpa using hne)
  simp [evPs, ha, hb, hc, ha', hb', hc']
  exact ⟨rfl, rfl⟩
theorem hr1i {i : Int} (h : i ≤ 1000) (h2 : -1000 ≤ i) (s : Sr) : hRange1 [.int i] s = some ⟨(List.range i.toNat).map dN, []⟩ := by
  unfold hRange1
  simp only
  rw [if_pos (by unfold small62; rw [Bool.and_eq_true]; exact ⟨decide_eq_true (by omega), decide_eq_true (by omega)⟩), rangeL_zero]
theorem foldl_succ {α : Type} : ∀ (l : List α) (k : Nat), l.foldl (fun (k : Nat) (_ : α) => k + 1) k = k + l.length
  | [], _ => rfl
  | x :: l, k => by rw [List.foldl_cons, foldl_succ l (k + 1), List.length_cons]; omega
theorem range_at {m : Nat} {pre post : List Nat} {i : Nat} (e : List.range m = pre ++ i :: post) : pre.length = i ∧ i < m := by
  have hi : (List.range m)[pre.length]? = some i := by rw [e]; simp
  obtain ⟨hl, hg⟩ := List.getElem?_eq_some_iff.mp hi
  rw [List.getElem_range] at hg
  rw [List.length_range] at hl
  omega
theorem often_ok {p : Po} {d : Nat} {n : Int} {s : Sr} (hs : Cld s) (hp : Good d p) (hn : n.toNat * d ≤ 12) (hd : d ≤ 12) (h1 : n ≤ 12) (h0 : -1000 ≤ n) (hm : nrm p < 2 ^ 64) : m_taken_so_often [dPo p, .int n] s = .ok (dPo (oftenP p n.toNat)) s := by
  refine run_rt ?_ hs (dPo_cl _ _)
  simp [b_taken_so_often]
  rw [disp_one _ s _ _ _ 0 0 1 (by simp) (by simp) (by simp)]
  simp
  obtain ⟨env', s', e, j3, h1, h2⟩ := sFor_st dN (fun (k : Nat) (_ : Nat) => k + 1) (fun (k : Nat) env s1 => ∃ j3, env = [some (dPo p), some (.int n), some (dPo (oftenP p k)), j3] ∧ s1 = s) (fun k _ => k < n.toNat) (List.range n.toNat) (t := .name 3) (body := b_taken_so_often_1) (b := 0) (env := [some (dPo p), some (.int n), some (dPo [((0, 0), 1)]), none]) (s := s) (it := iArgs hRange1 (eCons (eVar 1) eNil)) (g := [])
    (by simp [hr1i (show n ≤ 1000 by omega) h0]) ⟨none, rfl, rfl⟩ (fun _ _ _ _ => rfl)
    (fun k i env s1 ⟨j3, h1, h2⟩ hk => by
      subst h1 h2
      refine ⟨_, by simp <;> rfl, _, _, ?_, ⟨some (dN i), rfl, rfl⟩⟩
      · have g := often_good hp k
        have hkd : k * d ≤ n.toNat * d := Nat.mul_le_mul_right _ (by omega)
        have l1 := Good.len g.1 (by omega)
        have l2 := Good.len hp (by omega)
        have := Nat.mul_le_mul l1 l2
        simp [b_taken_so_often_1, times_ok hs (show (oftenP p k).length * p.length + p.length < 1000000 by omega) (.inr (smallP_of hm))]
        try rfl)
    (fun pre i post q => by
      have := range_at q
      rw [foldl_succ]; omega)
  rw [foldl_succ, List.length_range, Nat.zero_add] at h1
  subst h1 h2
  rw [e]
  simp
end L3

/-! M9: tables, two letters, by ties, worths -/
namespace L3
open PySem PySem.Spec PyProof.Rows L2

theorem nk_nil : Nk ([] : Po) := List.nodup_nil
theorem addAll_app (l A B : Po) : addAll l (A ++ B) = addAll (addAll l A) B := by unfold addAll; rw [List.foldl_append]
/-! tables -/
def tabRaw (n : Nat) (ts : List (Nat × Nat)) : Po := (lots ts.length).map fun lot => ((rkL n (lotTs ts lot), lot.length), 1)
def tabP (n : Nat) (ts : List (Nat × Nat)) : Po := normT (addAll [] (tabRaw n ts))
theorem lots_bound {ts : List (Nat × Nat)} {lot : List Nat} (h : lot ∈ lots ts.length) : ∀ t ∈ lot, t < ts.length := (lots_mem h).2.1
theorem table_ok {n : Nat} {ts : List (Nat × Nat)} {s : Sr} (hs : Cld s) (hn : n ≤ 1000) (hp : ∀ p ∈ ts, p.1 < n ∧ p.2 < n) (hz : ts.length ≤ 12) : m_table_of [dW n ts] s = .ok (dPo (tabP n ts)) s := by
  refine run_snoc (c := .dt (eP (addAll [] (tabRaw n ts)))) ?_ hs (dPo_cl _ _)
  simp [b_table_of, eNew_run, toCell]
  have hcl : ∀ l : Po, Cld s → closedS s.length (s ++ [.dt (eP l)]) = true := fun l h => closed_snoc h (by
    have := dPo_cl s.length l
    unfold dPo at this
    rw [cl_dt] at this
    exact this)
  obtain ⟨env', s', e, j2, j3, h1, h2, h3⟩ := sFor_st dL (fun l lot => addE l ((rkL n (lotTs ts lot), lot.length), 1)) (fun (l : Po) env s1 => ∃ j2 j3, env = [some (dW n ts), some (.ref s.length), j2, j3] ∧ s1 = s ++ [.dt (eP l)] ∧ Nk l) (fun l lot => l.length < 16777216 ∧ lot ∈ lots ts.length) (lots ts.length) (t := .name 2) (body := b_table_of_1) (b := []) (env := [some (dW n ts), some (.ref s.length), none, none]) (s := s ++ [.dt (eP [])]) (it := iSrc (eCall 1 m_all_lots (eCons (eVar 0) eNil))) (g := [])
    (by
      have hc : Cld (s ++ [.dt (eP [])]) := by
        unfold Cld closedS
        rw [List.all_append, Bool.and_eq_true]
        refine ⟨List.all_eq_true.mpr fun c hc => ?_, by simp [Cell.cl, eP]⟩
        have := List.all_eq_true.mp hs c hc
        exact cell_mono (by simp) this
      simp [all_lots_ok hc (show ts.length ≤ 20 by omega)]) ⟨none, none, rfl, rfl, List.nodup_nil⟩ (fun _ _ _ _ => rfl)
    (fun l lot env s1 ⟨j2, j3, h1, h2, h3⟩ hl => by
      subst h1 h2
      have hc : Cld (s ++ [.dt (eP l)]) := by
        have := hcl l hs
        unfold Cld closedS at this ⊢
        exact List.all_eq_true.mpr fun c hc => cell_mono (by simp) (List.all_eq_true.mp this c hc)
      refine ⟨_, by simp <;> rfl, [some (dW n ts), some (.ref s.length), some (dL lot), some (dP (rkL n (lotTs ts lot), lot.length))], _, ?_, ⟨_, _, rfl, rfl, addE_nk h3⟩⟩
      have hb := lots_mem hl.2
      simp [b_table_of_1, rank_in_ok hc hn hp hb.2.1 (show lot.length ≤ 1000 by omega)]
      rw [show (D.tup [.int (rkL n (lotTs ts lot) : Nat), .int (lot.length : Nat)]) = dP (rkL n (lotTs ts lot), lot.length) from rfl]
      rw [get_snoc (s := s) (l := l) (k := (rkL n (lotTs ts lot), lot.length))]
      · simp [set_snoc s l (rkL n (lotTs ts lot), lot.length) _ hl.1]
        rfl
      · simp
      · simp)
    (fun pre lot post q => by
      have key : ∀ (L : List (List Nat)) (l : Po), (L.foldl (fun l lot => addE l ((rkL n (lotTs ts lot), lot.length), 1)) l).length ≤ l.length + L.length := by
        intro L
        induction L with
        | nil => intro l; simp
        | cons x L ih =>
          intro l
          rw [List.foldl_cons]
          have h1 := ih (addE l ((rkL n (lotTs ts x), x.length), 1))
          have h2 := addE_len l ((rkL n (lotTs ts x), x.length), 1)
          rw [List.length_cons]; omega
      have k1 := key pre []
      have k2 : (lots ts.length).length = pre.length + (post.length + 1) := by rw [q]; simp
      rw [(lots_perm _).length_eq, lotsRaw_len] at k2
      have k3 : 2 ^ ts.length ≤ 2 ^ 12 := Nat.pow_le_pow_right (by decide) hz
      simp only [List.length_nil] at k1
      exact ⟨by omega, by rw [q]; simp⟩)
  have hfold : (lots ts.length).foldl (fun l lot => addE l ((rkL n (lotTs ts lot), lot.length), 1)) [] = addAll [] (tabRaw n ts) := by
    unfold addAll tabRaw
    rw [List.foldl_map]
  rw [hfold] at h2 h3
  subst h1 h2
  rw [show eP [] = [] from rfl] at e
  rw [e]
  simp
  have hl := addAll_len (tabRaw n ts) []
  have hl2 : (tabRaw n ts).length = 2 ^ ts.length := by unfold tabRaw; rw [List.length_map, (lots_perm _).length_eq, lotsRaw_len]
  have k3 : 2 ^ ts.length ≤ 2 ^ 12 := Nat.pow_le_pow_right (by decide) hz
  simp only [List.length_nil] at hl
  rw [normT_run h3 (by omega) (by simp) (fun k v hv => ⟨_, by simp; rfl, by simp, by simp [idx_snoc s _ k v hv]⟩)]
  simp [tabP]
theorem tab_nk (n : Nat) (ts : List (Nat × Nat)) : Nk (tabP n ts) := by
  have h : Nk (addAll [] (tabRaw n ts)) := addAll_nk List.nodup_nil
  unfold Nk
  exact ((normT_perm h).map _).nodup_iff.mpr h
theorem tab_mem {n : Nat} {ts : List (Nat × Nat)} {e : (Nat × Nat) × Int} (h : e ∈ tabP n ts) : ∃ lot ∈ lots ts.length, e.1 = (rkL n (lotTs ts lot), lot.length) := by
  have h1 : e ∈ addAll [] (tabRaw n ts) := (normT_perm (addAll_nk (L := tabRaw n ts) nk_nil)).mem_iff.mp h
  have h2 := addAll_keys.mp (List.mem_map_of_mem (f := fun x : (Nat × Nat) × Int => x.1) h1)
  rcases h2 with h2 | h2
  · simp at h2
  · obtain ⟨f, hf, e2⟩ := List.mem_map.mp h2
    unfold tabRaw at hf
    obtain ⟨lot, hl, rfl⟩ := List.mem_map.mp hf
    exact ⟨lot, hl, e2.symm⟩
theorem nrm_ones {α : Type} (f : α → Nat × Nat) : ∀ l : List α, nrm (l.map fun a => (f a, 1)) = l.length
  | [] => rfl
  | a :: l => by
    rw [List.map_cons]
    simp only [nrm]
    rw [nrm_ones f l, List.length_cons]
    show 1 + l.length = _
    omega
theorem tab_nrm (n : Nat) (ts : List (Nat × Nat)) : nrm (tabP n ts) ≤ 2 ^ ts.length := by
  have h : Nk (addAll [] (tabRaw n ts)) := addAll_nk List.nodup_nil
  unfold tabP
  rw [nrm_perm (normT_perm h)]
  refine Nat.le_trans (nrm_addAll _ [] List.nodup_nil) ?_
  unfold tabRaw
  rw [nrm_ones, (lots_perm _).length_eq, lotsRaw_len]
  simp [nrm]
/-! the polynomial by lots -/
def pX : Po := [((0, 0), -1), ((1, 0), 1)]
def pY : Po := [((0, 0), -1), ((0, 1), 1)]
def termP (whole : Nat) (e : (Nat × Nat) × Int) : Po := timesP [((0, 0), e.2)] (timesP (oftenP pX (whole - e.1.1)) (oftenP pY (e.1.2 - e.1.1)))
def polyL (n : Nat) (ts : List (Nat × Nat)) : Po := (tabP n ts).foldl (fun l e => plusP l (termP (rkL n (lotTs ts (allT ts))) e)) []
theorem pX_good : Good 1 pX := ⟨by unfold pX Nk; decide, fun k hk => by
  simp [pX] at hk
  rcases hk with rfl | rfl <;> decide⟩
theorem pY_good : Good 1 pY := ⟨by unfold pY Nk; decide, fun k hk => by
  simp [pY] at hk
  rcases hk with rfl | rfl <;> decide⟩
theorem rkL_le (n : Nat) (ts : List (Nat × Nat)) : rkL n ts ≤ n := Nat.sub_le ..
theorem one_good (v : Int) : Good 0 [((0, 0), v)] := ⟨by unfold Nk; simp, fun k hk => by simp at hk; subst hk; simp⟩
theorem nil_good (d : Nat) : Good d [] := ⟨nk_nil, fun k hk => by simp at hk⟩
/-- what is needed of a table's item -/
structure ItemOk (n m whole : Nat) (e : (Nat × Nat) × Int) : Prop where
  a : whole + e.1.2 ≤ e.1.1 + m
  b : e.1.2 ≤ m
  c : e.2.natAbs ≤ 2 ^ m
  d : e.1.1 ≤ e.1.2
theorem term_good {n m whole : Nat} {e : (Nat × Nat) × Int} (h : ItemOk n m whole e) (hw : whole ≤ m) (hm : m ≤ 12) : Good m (termP whole e) := by
  have h1 := (often_good pX_good (whole - e.1.1)).1
  have h2 := (often_good pY_good (e.1.2 - e.1.1)).1
  have h3 := (times_good h1 h2).1
  have h4 := (times_good (one_good e.2) h3).1
  have ha := h.a
  have hb := h.b
  have hd := h.d
  exact ⟨h4.nk, h4.deg.mono (by omega)⟩
theorem body_poly {n m : Nat} {ts : List (Nat × Nat)} {e : (Nat × Nat) × Int} {l : Po} {whole : Nat} {s : Sr} (j6 j7 : Option D) (hs : Cld s) (h : ItemOk n m whole e) (hw : whole ≤ m) (hm : m ≤ 12) (hl : Good m l) :
    b_polynomial_of_1 [some (dW n ts), some (.int whole), some (dPo l), some (.int e.1.1), some (.int e.1.2), some (.int e.2), j6, j7] s = .ok (.nx [some (dW n ts), some (.int whole), some (dPo (plusP l (termP whole e))), some (.int e.1.1), some (.int e.1.2), some (.int e.2), some (dPo (oftenP pX (whole - e.1.1))), some (dPo (oftenP pY (e.1.2 - e.1.1)))]) s := by
  have ha := h.a
  have hb := h.b
  have hd := h.d
  have hc := h.c
  have g1 := often_good pX_good (whole - e.1.1)
  have g2 := often_good pY_good (e.1.2 - e.1.1)
  have g3 := times_good g1.1 g2.1
  have l1 := g1.1.len (by omega)
  have l2 := g2.1.len (by omega)
  have l3 := g3.1.len (by omega)
  have l4 := hl.len hm
  have gt := term_good h hw hm
  have l5 := gt.len hm
  have p12 : 2 ^ m ≤ 2 ^ 12 := Nat.pow_le_pow_right (by decide) hm
  have n1 : nrm (oftenP pX (whole - e.1.1)) < 2 ^ 64 := by
    refine Nat.lt_of_le_of_lt g1.2 ?_
    have : nrm pX = 2 := by decide
    rw [this]
    have : 2 ^ (whole - e.1.1) ≤ 2 ^ 12 := Nat.pow_le_pow_right (by decide) (by omega)
    omega
  have o1 : m_taken_so_often [dPo pX, .int ((whole : Int) - e.1.1)] s = .ok (dPo (oftenP pX (whole - e.1.1))) s := by
    have := often_ok (n := (whole : Int) - e.1.1) hs pX_good (by omega) (by decide) (by omega) (by omega) (by decide)
    rwa [Int.toNat_sub] at this
  have o2 : m_taken_so_often [dPo pY, .int ((e.1.2 : Int) - e.1.1)] s = .ok (dPo (oftenP pY (e.1.2 - e.1.1))) s := by
    have := often_ok (n := (e.1.2 : Int) - e.1.1) hs pY_good (by omega) (by decide) (by omega) (by omega) (by decide)
    rwa [Int.toNat_sub] at this
  have m12 := Nat.mul_le_mul l1 l2
  have t1 := times_ok hs (show (oftenP pX (whole - e.1.1)).length * (oftenP pY (e.1.2 - e.1.1)).length + (oftenP pY (e.1.2 - e.1.1)).length < 1000000 by omega) (.inl (smallP_of n1))
  have t2 := times_ok (a := [((0, 0), e.2)]) hs (show [((0, 0), e.2)].length * (timesP (oftenP pX (whole - e.1.1)) (oftenP pY (e.1.2 - e.1.1))).length + (timesP (oftenP pX (whole - e.1.1)) (oftenP pY (e.1.2 - e.1.1))).length < 1000000 by simp only [List.length_cons, List.length_nil]; omega) (.inl (smallP_of (by simp only [nrm]; omega)))
  have t3 := plus_ok (a := l) (b := termP whole e) hs hl.nk (hl.deg.smK hm) (by omega)
  simp [b_polynomial_of_1]
  rw [disp_two _ s _ _ _ _ _ _ 0 0 1 0 (-1) 1 (by simp) (by simp) (by simp) (by simp) (by simp) (by simp) (by decide)]
  simp
  rw [show dPo [((0, 0), -1), ((1, 0), 1)] = dPo pX from rfl, o1]
  simp
  rw [disp_two _ s _ _ _ _ _ _ 0 0 0 1 (-1) 1 (by simp) (by simp) (by simp) (by simp) (by simp) (by simp) (by decide)]
  simp
  rw [show dPo [((0, 0), -1), ((0, 1), 1)] = dPo pY from rfl, o2]
  simp
  rw [disp_one _ s _ _ _ 0 0 e.2 (by simp) (by simp) (by simp)]
  simp
  rw [t1]
  simp
  rw [t2]
  simp
  rw [show timesP [((0, 0), e.2)] (timesP (oftenP pX (whole - e.1.1)) (oftenP pY (e.1.2 - e.1.1))) = termP whole e from rfl, t3]
  simp
/-! ranks of lots -/
theorem poly_ok {n : Nat} {ts : List (Nat × Nat)} {s : Sr} (hs : Cld s) (hn : n ≤ 1000) (hp : ∀ p ∈ ts, p.1 < n ∧ p.2 < n) (hz : ts.length ≤ 12) (hr : ∀ lot ∈ lots ts.length, rkL n (lotTs ts lot) ≤ lot.length ∧ rkL n (lotTs ts (allT ts)) + lot.length ≤ rkL n (lotTs ts lot) + ts.length) (hw : rkL n (lotTs ts (allT ts)) ≤ ts.length) : m_polynomial_of [dW n ts] s = .ok (dPo (polyL n ts)) s := by
  refine run_rt ?_ hs (dPo_cl _ _)
  have l2 : ∀ u ∈ allT ts, u < ts.length := fun u hu => List.mem_range.mp hu
  have r2 := rank_in_ok hs hn hp l2 (show (allT ts).length ≤ 1000 by unfold allT; rw [List.length_range]; omega)
  have w2 : m_all_ties [dW n ts] s = .ok (dL (allT ts)) s := all_ties_ok hs (by omega)
  simp [b_polynomial_of, w2, r2]
  have it : iItems (eCall 1 m_table_of (eCons (eVar 0) eNil)) [some (dW n ts), some (.int (rkL n (lotTs ts (allT ts)) : Nat)), some (dPo []), none, none, none, none, none] s = .ok ⟨(tabP n ts).map dE, []⟩ s := items_run (by simp [table_ok hs hn hp hz])
  obtain ⟨env', s', e, j3, j4, j5, j6, j7, h1, h2, h3⟩ := sFor_st dE (fun l e => plusP l (termP (rkL n (lotTs ts (allT ts))) e)) (fun (l : Po) env s1 => ∃ j3 j4 j5 j6 j7, env = [some (dW n ts), some (.int (rkL n (lotTs ts (allT ts)) : Nat)), some (dPo l), j3, j4, j5, j6, j7] ∧ s1 = s ∧ Good ts.length l) (fun l e => ItemOk n ts.length (rkL n (lotTs ts (allT ts))) e) (tabP n ts) (t := .tup [.tup [.name 3, .name 4], .name 5]) (body := b_polynomial_of_1) (b := []) it ⟨none, none, none, none, none, rfl, rfl, nil_good _⟩ (fun _ _ _ _ => rfl)
    (fun l e env s1 ⟨j3, j4, j5, j6, j7, h1, h2, h3⟩ he => by
      subst h1 h2
      have q := body_poly (ts := ts) j6 j7 hs he hw hz h3
      refine ⟨[some (dW n ts), some (.int (rkL n (lotTs ts (allT ts)) : Nat)), some (dPo l), some (.int e.1.1), some (.int e.1.2), some (.int e.2), j6, j7], by unfold dE dP; simp, _, _, q, ⟨_, _, _, _, _, rfl, rfl, ?_⟩⟩
      · exact (plus_good h3 (term_good he hw hz)).1)
    (fun pre e post q => by
      have he : e ∈ tabP n ts := by rw [q]; simp
      obtain ⟨lot, hl, e1⟩ := tab_mem he
      have hb := lots_mem hl
      have hr2 := hr lot hl
      have hnm := nrm_mem he
      have := tab_nrm n ts
      exact ⟨by rw [e1]; exact hr2.2, by rw [e1]; exact hb.1, by omega, by rw [e1]; exact hr2.1⟩)
  subst h1 h2
  rw [show (D.dt [] : D) = dPo [] from rfl, e]
  simp
  rfl
end L3

/-! M10: by ties, worths -/
namespace L3
open PySem PySem.Spec PyProof.Rows L2

/-- what is asked of ranks -/
structure RkOk (n : Nat) (ts : List (Nat × Nat)) : Prop where
  le : ∀ lot ∈ lots ts.length, rkL n (lotTs ts lot) ≤ lot.length
  up : ∀ lot ∈ lots ts.length, rkL n (lotTs ts (allT ts)) + lot.length ≤ rkL n (lotTs ts lot) + ts.length
  all : rkL n (lotTs ts (allT ts)) ≤ ts.length
theorem two_letters_ok {n : Nat} {ts : List (Nat × Nat)} {s : Sr} (hs : Cld s) (h : WebOk n ts) (hr : RkOk n ts) : m_two_letters [dW n ts] s = .ok (dPo (polyL n ts)) s := by
  have h8 := h.n8
  refine run_rt ?_ hs (dPo_cl _ _)
  simp [b_two_letters, need_web_ok hs h, poly_ok hs (show n ≤ 1000 by omega) (fun p hp => by have := h.pr p hp; omega) h.t12 (fun lot hl => ⟨hr.le lot hl, hr.up lot hl⟩) hr.all]
theorem powered_ok {b : Int} {k : Nat} {s : Sr} (hs : Cld s) (hb : smallI b = true) (hk : k ≤ 1000) : m_powered [.int b, .int k] s = .ok (.int (b ^ k)) s := by
  refine run_rt ?_ hs (by simp)
  simp [b_powered]
  obtain ⟨env', s', e, j3, h1, h2⟩ := sFor_st dN (fun (k : Nat) (_ : Nat) => k + 1) (fun (i : Nat) env s1 => ∃ j3, env = [some (.int b), some (.int k), some (.int (b ^ i)), j3] ∧ s1 = s) (fun _ _ => True) (List.range k) (t := .name 3) (body := b_powered_1) (b := 0) (env := [some (.int b), some (.int k), some (.int 1), none]) (s := s) (it := iArgs hRange1 (eCons (eVar 1) eNil)) (g := [])
    (by simp [hr1 (show k ≤ 16777216 by omega)]) ⟨none, by simp, rfl⟩ (fun _ _ _ _ => rfl)
    (fun i a env s1 ⟨j3, h1, h2⟩ hk => by
      subst h1 h2
      refine ⟨_, by simp <;> rfl, _, _, ?_, ⟨some (dN a), rfl, rfl⟩⟩
      simp [b_powered_1, oMul_int (.inr hb), Int.pow_succ])
    (fun pre i post q => trivial)
  rw [foldl_succ, List.length_range, Nat.zero_add] at h1
  subst h1 h2
  rw [e]
  simp
/-- what a polynomial comes to -/
def evP (l : Po) (x y : Int) : Int := (l.map fun e => e.2 * x ^ e.1.1 * y ^ e.1.2).sum
theorem intsOf_map {α : Type} (f : α → Int) : ∀ l : List α, intsOf (l.map fun a => D.int (f a)) = some (l.map f)
  | [] => rfl
  | a :: l => by
    show (intsOf (l.map fun a => D.int (f a))).map (f a :: ·) = _
    rw [intsOf_map f l]; rfl
theorem vSum_map {α : Type} (f : α → Int) (l : List α) (s : Sr) : vSum [.lst (l.map fun a => D.int (f a))] s = .ok (.int (l.map f).sum) s := by
  unfold vSum
  simp only [asL, Option.bind_some, intsOf_map]
theorem pow40 {y : Int} {k : Nat} (hy : y.natAbs ≤ 40) (hk : k ≤ 12) : smallI (y ^ k) = true := by
  refine small_of (n := 40 ^ 12) ?_ (by decide)
  rw [Int.natAbs_pow]
  exact Nat.le_trans (Nat.pow_le_pow_left hy k) (Nat.pow_le_pow_right (by decide) hk)
theorem worth_of_ok {l : Po} {x y : Int} {s : Sr} (hs : Cld s) (hd : Good 12 l) (hm : nrm l < 2 ^ 64) (hx : smallI x = true) (hy : y.natAbs ≤ 40) : m_worth_of [dPo l, .int x, .int y] s = .ok (.int (evP l x y)) s := by
  refine run_rt ?_ hs (by simp)
  have hz := hd.len (Nat.le_refl _)
  simp [b_worth_of]
  rw [eLc_map dE (fun e => D.int (e.2 * x ^ e.1.1 * y ^ e.1.2)) l (items_run (by simp)) rfl (fun e he => by
    have hk := hd.deg e.1 (List.mem_map_of_mem he)
    have hsm : smallI e.2 = true := small_of (nrm_mem he) hm
    refine ⟨[some (dPo l), some (.int x), some (.int y), some (.int e.2), some (.int e.1.1), some (.int e.1.2)], by unfold dE dP; simp, ?_⟩
    simp [powered_ok hs hx (show e.1.1 ≤ 1000 by omega)]
    rw [oMul_int (.inl hsm)]
    simp [powered_ok hs (small_of hy (by decide)) (show e.1.2 ≤ 1000 by omega)]
    rw [oMul_int (.inr (pow40 hy (by omega)))]) (by simp; omega)]
  simp [vSum_map]
  rfl
/-! by ties -/
def loopB (ts : List (Nat × Nat)) (t : Nat) : Bool := decide ((ts.getD t (0, 0)).1 = (ts.getD t (0, 0)).2)
def bridgeB (n : Nat) (ts : List (Nat × Nat)) (t : Nat) : Bool := decide (rkL n (lotTs ts (wo ts t)) < rkL n (lotTs ts (allT ts)))
def btP : Nat → Nat → List (Nat × Nat) → Po
  | 0, _, _ => [((0, 0), 1)]
  | f + 1, n, ts => if ts = [] then [((0, 0), 1)] else
    if loopB ts (ts.length - 1) then timesP [((0, 1), 1)] (btP f n (rest ts (ts.length - 1)))
    else if bridgeB n ts (ts.length - 1) then timesP [((1, 0), 1)] (btP f (n - 1) (drawnT ts (ts.length - 1)))
    else plusP (btP f n (rest ts (ts.length - 1))) (btP f (n - 1) (drawnT ts (ts.length - 1)))
theorem rest_len {ts : List (Nat × Nat)} (h : ts ≠ []) : (rest ts (ts.length - 1)).length = ts.length - 1 := by
  have := List.length_pos_iff.mpr h
  unfold rest
  rw [List.length_append, List.length_take, List.length_drop]
  omega
theorem drawn_len {ts : List (Nat × Nat)} (h : ts ≠ []) : (drawnT ts (ts.length - 1)).length = ts.length - 1 := by
  unfold drawnT
  rw [List.length_map, rest_len h]
theorem unit_good (i j : Nat) : Good (i + j) [((i, j), 1)] := ⟨by unfold Nk; simp, fun k hk => by simp at hk; subst hk; simp⟩
theorem bt_good : ∀ (f n : Nat) (ts : List (Nat × Nat)), ts.length ≤ f → Good ts.length (btP f n ts) ∧ nrm (btP f n ts) ≤ 2 ^ ts.length
  | 0, n, ts, h => by
    have : ts.length = 0 := by omega
    rw [this]
    exact ⟨(unit_good 0 0), by simp [btP, nrm]⟩
  | f + 1, n, ts, h => by
    unfold btP
    by_cases e : ts = []
    · rw [if_pos e]; subst e; exact ⟨(unit_good 0 0), by simp [nrm]⟩
    · have hp := List.length_pos_iff.mpr e
      have e1 := rest_len e
      have e2 := drawn_len e
      obtain ⟨g1, g2⟩ := bt_good f n (rest ts (ts.length - 1)) (by omega)
      obtain ⟨k1, k2⟩ := bt_good f (n - 1) (drawnT ts (ts.length - 1)) (by omega)
      rw [e1] at g1 g2
      rw [e2] at k1 k2
      have hpow : 2 ^ ts.length = 2 ^ (ts.length - 1) + 2 ^ (ts.length - 1) := by
        have : ts.length = (ts.length - 1) + 1 := by omega
        conv => lhs; rw [this, Nat.pow_succ]
        omega
      rw [if_neg e]
      split
      · obtain ⟨t1, t2⟩ := times_good (unit_good 0 1) g1
        refine ⟨⟨t1.nk, t1.deg.mono (by omega)⟩, ?_⟩
        simp only [nrm] at t2
        simp at t2
        omega
      · split
        · obtain ⟨t1, t2⟩ := times_good (unit_good 1 0) k1
          refine ⟨⟨t1.nk, t1.deg.mono (by omega)⟩, ?_⟩
          simp only [nrm] at t2
          simp at t2
          omega
        · obtain ⟨t1, t2⟩ := plus_good g1 k1
          exact ⟨⟨t1.nk, t1.deg.mono (by omega)⟩, by omega⟩
/-- what the recursion keeps: pairs of places -/
structure PrOk (n : Nat) (ts : List (Nat × Nat)) : Prop where
  n1 : 1 ≤ n
  pr : ∀ p ∈ ts, p.1 ≤ p.2 ∧ p.2 < n
theorem PrOk.rest {n : Nat} {ts : List (Nat × Nat)} (h : PrOk n ts) (t : Nat) : PrOk n (rest ts t) := ⟨h.n1, fun p hp => by
  unfold L3.rest at hp
  rcases List.mem_append.mp hp with hp | hp
  · exact h.pr p (List.mem_of_mem_take hp)
  · exact h.pr p (List.mem_of_mem_drop hp)⟩
theorem nmD_lt {n low high p : Nat} (h1 : low < high) (h2 : high < n) (h3 : p < n) : nmD low high p < n - 1 := by
  unfold nmD
  split
  · omega
  · split <;> omega
theorem PrOk.drawn {n : Nat} {ts : List (Nat × Nat)} (h : PrOk n ts) {t : Nat} (ht : t < ts.length) (hl : loopB ts t = false) : PrOk (n - 1) (drawnT ts t) := by
  have hm : ts.getD t (0, 0) ∈ ts := by
    rw [List.getD_eq_getElem?_getD, List.getElem?_eq_getElem ht]
    simp
  have hq := h.pr _ hm
  have hne : (ts.getD t (0, 0)).1 ≠ (ts.getD t (0, 0)).2 := of_decide_eq_false hl
  refine ⟨by omega, fun p hp => ?_⟩
  unfold drawnT at hp
  obtain ⟨q, hq2, rfl⟩ := List.mem_map.mp hp
  have hr := (h.rest t).pr q hq2
  have a1 := nmD_lt (p := q.1) (show (ts.getD t (0, 0)).1 < (ts.getD t (0, 0)).2 by omega) hq.2 (by omega)
  have a2 := nmD_lt (p := q.2) (show (ts.getD t (0, 0)).1 < (ts.getD t (0, 0)).2 by omega) hq.2 (by omega)
  simp only [srt, drawnP]
  omega
def PbtOk (f : Nat) (self : List D → Sr → R D) : Prop := ∀ (n : Nat) (ts : List (Nat × Nat)) (s : Sr), Cld s → n ≤ 100 → PrOk n ts → ts.length ≤ f → self [dW n ts] s = .ok (dPo (btP ts.length n ts)) s
theorem bt_nil {n : Nat} {self : List D → Sr → R D} {s : Sr} (hs : Cld s) : m_polynomial_by_ties self [dW n []] s = .ok (dPo (btP ([] : List (Nat × Nat)).length n [])) s := by
  refine run_rt ?_ hs (dPo_cl _ _)
  have he : oEq (.tup (([] : List (Nat × Nat)).map dP)) (.tup []) s = .ok (.bl (decide (([] : List (Nat × Nat)) = []))) s := oEq_en (enT enP) [] [] s (by decide)
  simp at he
  simp [b_polynomial_by_ties, he]
  rw [disp_one _ s _ _ _ 0 0 1 (by simp) (by simp) (by simp)]
  rfl
theorem bt_step {f : Nat} {self : List D → Sr → R D} (hf : f + 1 ≤ 12) (h : PbtOk f self) : PbtOk (f + 1) (m_polynomial_by_ties self) := by
  intro n ts s hs hn hp hz
  refine run_rt ?_ hs (dPo_cl _ _)
  have he : oEq (.tup (ts.map dP)) (.tup []) s = .ok (.bl (decide (ts = []))) s := oEq_en (enT enP) ts [] s (by decide)
  by_cases e : ts = []
  · subst e
    simp at he
    simp [b_polynomial_by_ties, he]
    rw [disp_one _ s _ _ _ 0 0 1 (by simp) (by simp) (by simp)]
    rfl
  · have hlen := List.length_pos_iff.mpr e
    have e1 := rest_len e
    have e2 := drawn_len e
    have ht : ts.length - 1 < ts.length := by omega
    have hpp : ∀ p ∈ ts, p.1 < n ∧ p.2 < n := fun p hq => by have := hp.pr p hq; omega
    have hcast : ((ts.length : Int) - 1) = ((ts.length - 1 : Nat) : Int) := by omega
    have wa := web_away_ok (n := n) hs ht (by omega)
    have sa := h n (rest ts (ts.length - 1)) s hs hn (hp.rest _) (by omega)
    have hbt : btP ts.length n ts = btP ((ts.length - 1) + 1) n ts := by rw [show ts.length - 1 + 1 = ts.length by omega]
    have il : m_is_loop [dW n ts, .int ((ts.length - 1 : Nat) : Int)] s = .ok (.bl (loopB ts (ts.length - 1))) s := is_loop_ok hs ht
    have ib : m_is_bridge [dW n ts, .int ((ts.length - 1 : Nat) : Int)] s = .ok (.bl (bridgeB n ts (ts.length - 1))) s := is_bridge_ok hs (by omega) hpp (by omega)
    rw [e1] at sa
    rw [hbt]
    unfold btP
    rw [if_neg e]
    simp [b_polynomial_by_ties, he, e, hcast, il, ib]
    by_cases c1 : loopB ts (ts.length - 1) = true
    · have g := bt_good (ts.length - 1) n (rest ts (ts.length - 1)) (by omega)
      rw [e1] at g
      have gl := g.1.len (by omega)
      simp [c1, wa, sa]
      rw [disp_one _ s _ _ _ 0 1 1 (by simp) (by simp) (by simp)]
      simp [wa, sa, times_ok (a := [((0, 1), 1)]) hs (show ([((0, 1), 1)] : Po).length * (btP (ts.length - 1) n (rest ts (ts.length - 1))).length + (btP (ts.length - 1) n (rest ts (ts.length - 1))).length < 1000000 by simp only [List.length_cons, List.length_nil]; omega) (.inl (smallP_of (by decide)))]
    · have c1' : loopB ts (ts.length - 1) = false := by simpa using c1
      have wd := web_drawn_ok (n := n) hs hp.n1 ht (by omega)
      have sd := h (n - 1) (drawnT ts (ts.length - 1)) s hs (by omega) (hp.drawn ht c1') (by omega)
      rw [e2] at sd
      have g := bt_good (ts.length - 1) n (rest ts (ts.length - 1)) (by omega)
      rw [e1] at g
      have gl := g.1.len (by omega)
      have k := bt_good (ts.length - 1) (n - 1) (drawnT ts (ts.length - 1)) (by omega)
      rw [e2] at k
      have kl := k.1.len (by omega)
      by_cases c2 : bridgeB n ts (ts.length - 1) = true
      · simp [c1', c2, ib, wd, sd]
        rw [disp_one _ s _ _ _ 1 0 1 (by simp) (by simp) (by simp)]
        simp [wd, sd, times_ok (a := [((1, 0), 1)]) hs (show ([((1, 0), 1)] : Po).length * (btP (ts.length - 1) (n - 1) (drawnT ts (ts.length - 1))).length + (btP (ts.length - 1) (n - 1) (drawnT ts (ts.length - 1))).length < 1000000 by simp only [List.length_cons, List.length_nil]; omega) (.inl (smallP_of (by decide)))]
      · have c2' : bridgeB n ts (ts.length - 1) = false := by simpa using c2
        simp [c1', c2', ib, wa, sa, wd, sd, plus_ok hs g.1.nk (g.1.deg.smK (by omega)) (show (btP (ts.length - 1) n (rest ts (ts.length - 1))).length + (btP (ts.length - 1) (n - 1) (drawnT ts (ts.length - 1))).length ≤ 1000000 by omega)]
theorem worth_ok {r : Nat → List D → Sr → R D} {n : Nat} {ts : List (Nat × Nat)} {x y : Int} {s : Sr} (hr : PbtOk 12 (r 1)) (hs : Cld s) (h : WebOk n ts) (hx : x.natAbs ≤ 1000) (hy : y.natAbs ≤ 40) : m_worth r [dW n ts, .int x, .int y] s = .ok (.int (evP (btP ts.length n ts) x y)) s := by
  have h8 := h.n8
  have g := bt_good ts.length n ts (Nat.le_refl _)
  have h12 := h.t12
  have p12 : 2 ^ ts.length ≤ 2 ^ 12 := Nat.pow_le_pow_right (by decide) h12
  refine run_rt ?_ hs (by simp)
  have hb := hr n ts s hs (by omega) ⟨h.n1, h.pr⟩ h.t12
  simp [b_worth, need_web_ok hs h]
  rw [need_whole_ok hs (by omega) (by omega)]
  simp
  rw [need_whole_ok hs (by omega) (by omega)]
  simp [hb, worth_of_ok hs ⟨g.1.nk, g.1.deg.mono h12⟩ (by omega) (small_of hx (by decide)) hy]
end L3

/-! M11: currents, dyeings -/
namespace L3
open PySem PySem.Spec PyProof.Rows L2

/-! lists in the store's last cell -/
theorem asL_sn (s : Sr) (l : List D) : asL (s ++ [.lst l]) (.ref s.length) = some l := by unfold asL; simp only [snoc_get]
def gI (l : List Int) (i : Nat) : Int := l.getD i 0
theorem gI_map {l : List Int} {i : Nat} (h : i < l.length) : (l.map D.int)[i]? = some (.int (gI l i)) := by
  unfold gI; simp [List.getElem?_eq_getElem h, List.getD_eq_getElem?_getD]
theorem idx_sn {s : Sr} {l : List Int} {i : Nat} (h : i < l.length) : oIdx (.ref s.length) (.int i) (s ++ [.lst (l.map D.int)]) = .ok (.int (gI l i)) (s ++ [.lst (l.map D.int)]) :=
  oIdx_q (show asQ _ (.ref s.length) = _ from asL_sn s _) (gI_map h)
theorem set_sn {s : Sr} {l : List Int} {i : Nat} {v : Int} (h : i < l.length) : setD (s ++ [.lst (l.map D.int)]) (.ref s.length) (.int i) (.int v) = some (s ++ [.lst ((l.set i v).map D.int)]) := by
  unfold setD
  simp only [snoc_get]
  have e : ixN (l.map D.int).length (i : Int) = some i := by
    unfold ixN
    rw [List.length_map, if_pos (by omega), if_pos (by omega)]
    simp
  rw [e]
  simp only [Option.map_some, snoc_set, List.map_set]
theorem frz_sn {s : Sr} {l : List Int} : frzD s.length (s ++ [.lst (l.map D.int)]) (.ref s.length) = some (.lst (l.map D.int)) :=
  frz_lst (Nat.le_refl _) (snoc_get ..) (cls_map _ fun _ => cl_int ..)
theorem nMul_zero {n : Nat} {s : Sr} (h : n ≤ 1000) : nMul (.lst [.int 0]) (.int n) s = some (.lst ((List.replicate n (0 : Int)).map D.int)) := by
  unfold nMul
  simp only [asL, List.length_singleton]
  rw [if_pos ⟨by omega, by omega, by simp; omega⟩, List.map_replicate, Int.toNat_natCast]
  congr 2
  clear h
  induction n with
  | zero => rfl
  | succ n ih => rw [List.replicate_succ, List.flatten_cons, ih, List.replicate_succ]; rfl
theorem run_cell {m : Nat} {fs : FS} {ds : List D} {s : Sr} {d d' : D} {c : Cell} (h : fs (ds.map some ++ List.replicate (m - ds.length) none) s = .ok (.rt d) (s ++ [c])) (hs : Cld s) (hf : frzD s.length (s ++ [c]) d = some d') : runDef false m fs ds s = .ok d' s := by
  rw [run_def, h]
  show fin false s d (s ++ [c]) = _
  rw [fin_grown hs, hf]
/-! sums of flows -/
def kStep (l : List Int) (q : (Nat × Nat) × Int) : List Int := (l.set q.1.1 (gI l q.1.1 - q.2)).set q.1.2 (gI (l.set q.1.1 (gI l q.1.1 - q.2)) q.1.2 + q.2)
def sumsOf (n : Nat) (ts : List (Nat × Nat)) (vs : List Int) : List Int := (ts.zip vs).foldl kStep (List.replicate n 0)
theorem kStep_len (l : List Int) (q : (Nat × Nat) × Int) : (kStep l q).length = l.length := by unfold kStep; simp
theorem foldl_kStep_len : ∀ (L : List ((Nat × Nat) × Int)) (l : List Int), (L.foldl kStep l).length = l.length
  | [], _ => rfl
  | q :: L, l => (foldl_kStep_len L _).trans (kStep_len l q)
theorem sumsOf_len (n : Nat) (ts : List (Nat × Nat)) (vs : List Int) : (sumsOf n ts vs).length = n := by unfold sumsOf; rw [foldl_kStep_len, List.length_replicate]
def dQ (q : (Nat × Nat) × Int) : D := .tup [dP q.1, .int q.2]
theorem zip_flow (ts : List (Nat × Nat)) (vs : List Int) (s : Sr) : hZip [.tup (ts.map dP), .tup (vs.map D.int)] s = some ⟨(ts.zip vs).map dQ, []⟩ := by
  unfold hZip
  simp only [asT]
  rw [zipL_map]; rfl
theorem sums_body {l : List Int} {q : (Nat × Nat) × Int} {a b : Option D} {r : Env'} {s : Sr} (h1 : q.1.1 < l.length) (h2 : q.1.2 < l.length) :
    b_sums_at_1 (a :: b :: some (.ref s.length) :: some (.int q.1.1) :: some (.int q.1.2) :: some (.int q.2) :: r) (s ++ [.lst (l.map D.int)]) = .ok (.nx (a :: b :: some (.ref s.length) :: some (.int q.1.1) :: some (.int q.1.2) :: some (.int q.2) :: r)) (s ++ [.lst ((kStep l q).map D.int)]) := by
  unfold b_sums_at_1
  simp only [sThen_run, sSet_run, eBin_run, eVar_succ, eVar_zero, bind_ok, idx_sn h1, oSub_int, set_sn h1, thenR_nx, sSkip_run]
  rw [idx_sn (l := l.set q.1.1 (gI l q.1.1 - q.2)) (by simpa using h2)]
  simp only [bind_ok, oAdd_int]
  rw [set_sn (l := l.set q.1.1 (gI l q.1.1 - q.2)) (by simpa using h2)]
  rfl
theorem sums_at_ok {n : Nat} {ts : List (Nat × Nat)} {vs : List Int} {s : Sr} (hs : Cld s) (hn : n ≤ 1000) (hp : ∀ p ∈ ts, p.1 < n ∧ p.2 < n) : m_sums_at [dW n ts, .tup (vs.map D.int)] s = .ok (.lst ((sumsOf n ts vs).map D.int)) s := by
  refine run_cell (d := .ref s.length) (c := .lst ((sumsOf n ts vs).map D.int)) ?_ hs frz_sn
  simp [b_sums_at, eNew_run, nMul_zero hn, toCell]
  obtain ⟨env', s', e, j3, j4, j5, h1, h2, h3⟩ := sFor_st dQ kStep (fun (l : List Int) env s1 => ∃ j3 j4 j5, env = [some (dW n ts), some (.tup (vs.map D.int)), some (.ref s.length), j3, j4, j5] ∧ s1 = s ++ [.lst (l.map D.int)] ∧ l.length = n) (fun l q => q.1.1 < n ∧ q.1.2 < n) (ts.zip vs) (t := .tup [.tup [.name 3, .name 4], .name 5]) (body := b_sums_at_1) (b := List.replicate n 0) (env := [some (dW n ts), some (.tup (vs.map D.int)), some (.ref s.length), none, none, none]) (s := s ++ [.lst ((List.replicate n (0 : Int)).map D.int)]) (it := iArgs hZip (eCons (eBin oIdx (eVar 0) (eC (.int 2))) (eCons (eVar 1) eNil))) (g := [])
    (by simp [zip_flow]) ⟨none, none, none, rfl, rfl, List.length_replicate ..⟩ (fun _ _ _ _ => rfl)
    (fun l q env s1 ⟨j3, j4, j5, h1, h2, h3⟩ hq => by
      subst h1 h2
      exact ⟨_, by unfold dQ dP; simp <;> rfl, _, _, sums_body (by omega) (by omega), ⟨_, _, _, rfl, rfl, by rw [kStep_len]; exact h3⟩⟩)
    (fun pre q post z => by
      have : q ∈ ts.zip vs := by rw [z]; simp
      exact hp q.1 (List.of_mem_zip this).1)
  subst h1 h2
  simp at e
  rw [e]
  simp
  rfl
theorem need_current_ok {n : Nat} {ts : List (Nat × Nat)} {k : Nat} {s : Sr} (hs : Cld s) (h : WebOk n ts) (h1 : 1 ≤ k) (h2 : k ≤ 1000000) : m_need_current [dW n ts, .int k] s = .ok .non s := by
  refine run_nx (env := [some (dW n ts), some (.int k)]) ?_ hs
  simp [b_need_current, need_web_ok hs h]
  rw [need_whole_ok hs (by omega) (by omega)]
  simp
theorem need_dyes_ok {n : Nat} {ts : List (Nat × Nat)} {k : Nat} {s : Sr} (hs : Cld s) (h : WebOk n ts) (h2 : k ≤ 1000000) : m_need_dyes [dW n ts, .int k] s = .ok .non s := by
  refine run_nx (env := [some (dW n ts), some (.int k)]) ?_ hs
  simp [b_need_dyes, need_web_ok hs h]
  rw [need_whole_ok hs (by omega) (by omega)]
  simp
theorem are_wholes_ok {n : Nat} {ts : List (Nat × Nat)} {vs : List Int} {s : Sr} (hs : Cld s) (hl : vs.length = ts.length) (hz : ts.length ≤ 1000) : m_are_wholes [dW n ts, .tup (vs.map D.int)] s = .ok (.bl true) s := by
  refine run_rt ?_ hs (by simp)
  simp [b_are_wholes, hl]
  rw [eLc_map D.int (fun _ => D.bl true) vs (by simp <;> rfl) rfl (fun v hv => ⟨_, by simp <;> rfl, by simp [is_whole_int hs]⟩) (by simp; omega)]
  simp only [bind_ok]
  rw [vAll_map (fun _ => true)]
  simp
def isCur (n : Nat) (ts : List (Nat × Nat)) (k : Nat) (vs : List Int) : Bool := (vs.all fun v => decide (0 < v) && decide (v < k)) && (sumsOf n ts vs).all fun v => decide (v % k = 0)
theorem is_current_ok {n : Nat} {ts : List (Nat × Nat)} {k : Nat} {vs : List Int} {s : Sr} (hs : Cld s) (h : WebOk n ts) (h1 : 1 ≤ k) (h2 : k ≤ 1000000) (hl : vs.length = ts.length) : m_is_current [dW n ts, .int k, .tup (vs.map D.int)] s = .ok (.bl (isCur n ts k vs)) s := by
  have h8 := h.n8
  have h12 := h.t12
  refine run_rt ?_ hs (by simp)
  simp [b_is_current, need_current_ok hs h h1 h2, are_wholes_ok hs hl (show ts.length ≤ 1000 by omega)]
  rw [eLc_map D.int (fun v => D.bl (decide (0 < v) && decide (v < k))) vs (by simp <;> rfl) rfl (fun v hv => ⟨_, by simp <;> rfl, by
    by_cases c : 0 < v <;> simp [c]⟩) (by simp; omega)]
  simp only [bind_ok, vAll_map, asB_run]
  unfold isCur
  cases hc : vs.all fun v => decide (0 < v) && decide (v < k) with
  | false => simp
  | true =>
    simp
    rw [eLc_map D.int (fun v => D.bl (decide (v % k = 0))) (sumsOf n ts vs) (by simp [sums_at_ok hs (show n ≤ 1000 by omega) (fun p hp => by have := h.pr p hp; omega)] <;> rfl) rfl (fun v hv => ⟨_, by simp <;> rfl, by simp [oMod_int (show (0 : Int) < k by omega)]⟩) (by rw [sumsOf_len]; simp; omega)]
    simp only [bind_ok, vAll_map, thenR_rt]
end L3

/-! M12: numbers of currents, dyeings -/
namespace L3
open PySem PySem.Spec PyProof.Rows L2

/-- the numbers of powers of k -/
def cStep (m : Nat) (l : List Int) (e : (Nat × Nat) × Int) : List Int := l.set (e.1.2 - e.1.1) (gI l (e.1.2 - e.1.1) + (if (m - e.1.2) % 2 = 0 then e.2 else -e.2))
def curNum (n : Nat) (ts : List (Nat × Nat)) : List Int := (tabP n ts).foldl (cStep ts.length) (List.replicate (ts.length - rkL n (lotTs ts (allT ts)) + 1) 0)
theorem cStep_len (m : Nat) (l : List Int) (e : (Nat × Nat) × Int) : (cStep m l e).length = l.length := by unfold cStep; simp
theorem foldl_cStep_len (m : Nat) : ∀ (L : Po) (l : List Int), (L.foldl (cStep m) l).length = l.length
  | [], _ => rfl
  | q :: L, l => (foldl_cStep_len m L _).trans (cStep_len m l q)
theorem cur_body {ts : List (Nat × Nat)} {l : List Int} {e : (Nat × Nat) × Int} {a : Option D} {s : Sr} (h1 : e.1.1 ≤ e.1.2) (h2 : e.1.2 ≤ ts.length) (h3 : e.1.2 - e.1.1 < l.length) :
    b_current_numbers_1 [a, some (.int ts.length), some (.ref s.length), some (.int e.1.1), some (.int e.1.2), some (.int e.2)] (s ++ [.lst (l.map D.int)]) = .ok (.nx [a, some (.int ts.length), some (.ref s.length), some (.int e.1.1), some (.int e.1.2), some (.int e.2)]) (s ++ [.lst ((cStep ts.length l e).map D.int)]) := by
  unfold b_current_numbers_1
  have c1 : ((e.1.2 : Int) - e.1.1) = ((e.1.2 - e.1.1 : Nat) : Int) := by omega
  have c2 : (((ts.length : Int) - e.1.2) % 2 = 0) ↔ (ts.length - e.1.2) % 2 = 0 := by omega
  simp [c1, idx_sn h3, oMod_int (show (0 : Int) < 2 by decide)]
  unfold cStep
  by_cases c : (ts.length - e.1.2) % 2 = 0
  · simp [c2.mpr c, c, set_sn h3]
  · simp [show ¬ ((ts.length : Int) - e.1.2) % 2 = 0 from fun z => c (c2.mp z), c, set_sn h3]
theorem frzT_sn {s : Sr} {l : List Int} : vTuple [.ref s.length] (s ++ [.lst (l.map D.int)]) = .ok (.tup (l.map D.int)) (s ++ [.lst (l.map D.int)]) := by
  unfold vTuple
  simp only [asL_sn]
theorem cld_snoc {s : Sr} {c : Cell} (h : Cld s) (hc : c.cl s.length = true) : Cld (s ++ [c]) := by
  have := closed_snoc h hc
  unfold Cld closedS at this ⊢
  exact List.all_eq_true.mpr fun x hx => cell_mono (by simp) (List.all_eq_true.mp this x hx)
theorem cld_lst {s : Sr} {l : List Int} (h : Cld s) : Cld (s ++ [.lst (l.map D.int)]) := cld_snoc h (cls_map _ fun _ => cl_int ..)
theorem current_numbers_ok {n : Nat} {ts : List (Nat × Nat)} {s : Sr} (hs : Cld s) (hn : n ≤ 1000) (hp : ∀ p ∈ ts, p.1 < n ∧ p.2 < n) (hz : ts.length ≤ 12) (hr : RkOk n ts) : m_current_numbers [dW n ts] s = .ok (.tup ((curNum n ts).map D.int)) s := by
  refine run_snoc (c := .lst ((curNum n ts).map D.int)) ?_ hs (by rw [cl_tup]; exact cls_map _ fun _ => cl_int ..)
  have l2 : ∀ u ∈ allT ts, u < ts.length := fun u hu => List.mem_range.mp hu
  have r2 := rank_in_ok hs hn hp l2 (show (allT ts).length ≤ 1000 by unfold allT; rw [List.length_range]; omega)
  have w2 : m_all_ties [dW n ts] s = .ok (dL (allT ts)) s := all_ties_ok hs (by omega)
  have ha := hr.all
  have c1 : ((ts.length : Int) - (rkL n (lotTs ts (allT ts)) : Nat) + 1) = ((ts.length - rkL n (lotTs ts (allT ts)) + 1 : Nat) : Int) := by omega
  simp [b_current_numbers, w2, r2, eNew_run]
  rw [c1, nMul_zero (by omega)]
  simp [toCell]
  have hc : Cld (s ++ [.lst ((List.replicate (ts.length - rkL n (lotTs ts (allT ts)) + 1) (0 : Int)).map D.int)]) := cld_lst hs
  have it : iItems (eCall 1 m_table_of (eCons (eVar 0) eNil)) [some (dW n ts), some (.int ts.length), some (.ref s.length), none, none, none] (s ++ [.lst ((List.replicate (ts.length - rkL n (lotTs ts (allT ts)) + 1) (0 : Int)).map D.int)]) = .ok ⟨(tabP n ts).map dE, []⟩ (s ++ [.lst ((List.replicate (ts.length - rkL n (lotTs ts (allT ts)) + 1) (0 : Int)).map D.int)]) := items_run (by simp only [eCall_run, eCons_run, eVar_zero, eNil_run, bind_ok, table_ok hc hn hp hz]; rfl)
  obtain ⟨env', s', e, j3, j4, j5, h1, h2, h3⟩ := sFor_st dE (cStep ts.length) (fun (l : List Int) env s1 => ∃ j3 j4 j5, env = [some (dW n ts), some (.int ts.length), some (.ref s.length), j3, j4, j5] ∧ s1 = s ++ [.lst (l.map D.int)] ∧ l.length = ts.length - rkL n (lotTs ts (allT ts)) + 1) (fun l e => e.1.1 ≤ e.1.2 ∧ e.1.2 ≤ ts.length ∧ e.1.2 - e.1.1 < ts.length - rkL n (lotTs ts (allT ts)) + 1) (tabP n ts) (t := .tup [.tup [.name 3, .name 4], .name 5]) (body := b_current_numbers_1) (b := List.replicate (ts.length - rkL n (lotTs ts (allT ts)) + 1) 0) (g := []) it
    ⟨none, none, none, rfl, rfl, List.length_replicate ..⟩ (fun _ _ _ _ => rfl)
    (fun l q env s1 ⟨j3, j4, j5, h1, h2, h3⟩ hq => by
      subst h1 h2
      exact ⟨_, by unfold dE dP; simp <;> rfl, _, _, cur_body hq.1 hq.2.1 (by omega), ⟨_, _, _, rfl, rfl, by rw [cStep_len]; exact h3⟩⟩)
    (fun pre q post z => by
      have he : q ∈ tabP n ts := by rw [z]; simp
      obtain ⟨lot, hl, e1⟩ := tab_mem he
      have hb := lots_mem hl
      have h1 := hr.le lot hl
      have h2 := hr.up lot hl
      rw [e1]
      exact ⟨h1, hb.1, by simp only; omega⟩)
  subst h1 h2
  rw [List.map_replicate] at e
  rw [e]
  simp [frzT_sn, curNum]
/-! power sums -/
def pSum (l : List Int) (k : Int) : Int := l.reverse.foldl (fun f v => f * k + v) 0
theorem power_sum_ok {l : List Int} {k : Int} {s : Sr} (hs : Cld s) (hk : smallI k = true) : m_power_sum [.tup (l.map D.int), .int k] s = .ok (.int (pSum l k)) s := by
  refine run_rt ?_ hs (by simp)
  simp [b_power_sum]
  obtain ⟨env', s', e, j3, h1, h2⟩ := sFor_st D.int (fun (f v : Int) => f * k + v) (fun (f : Int) env s1 => ∃ j3, env = [some (.tup (l.map D.int)), some (.int k), some (.int f), j3] ∧ s1 = s) (fun _ _ => True) l.reverse (t := .name 3) (body := b_power_sum_1) (b := 0) (env := [some (.tup (l.map D.int)), some (.int k), some (.int 0), none]) (s := s) (it := iRevd (eVar 0)) (g := [])
    (by simp [hRev, asT]) ⟨none, rfl, rfl⟩ (fun _ _ _ _ => rfl)
    (fun f v env s1 ⟨j3, h1, h2⟩ _ => by
      subst h1 h2
      refine ⟨_, by simp <;> rfl, _, _, ?_, ⟨some (.int v), rfl, rfl⟩⟩
      simp [b_power_sum_1, oMul_int (.inr hk)])
    (fun pre i post q => trivial)
  subst h1 h2
  rw [e]
  simp [pSum]
theorem many_currents_ok {n : Nat} {ts : List (Nat × Nat)} {k : Nat} {s : Sr} (hs : Cld s) (h : WebOk n ts) (hr : RkOk n ts) (h1 : 1 ≤ k) (h2 : k ≤ 1000000) : m_many_currents [dW n ts, .int k] s = .ok (.int (pSum (curNum n ts) k)) s := by
  have h8 := h.n8
  refine run_rt ?_ hs (by simp)
  simp [b_many_currents, need_current_ok hs h h1 h2, current_numbers_ok hs (show n ≤ 1000 by omega) (fun p hp => by have := h.pr p hp; omega) h.t12 hr, power_sum_ok hs (small_of (n := 1000000) (show (k : Int).natAbs ≤ 1000000 by omega) (by decide))]
/-! dyeings -/
theorem is_tied_ok {n : Nat} {ts : List (Nat × Nat)} {a b : Nat} {s : Sr} (hs : Cld s) : m_is_tied [dW n ts, .int a, .int b] s = .ok (.bl (decide (srt (a, b) ∈ ts))) s := by
  refine run_rt ?_ hs (by simp)
  have e : oIn false (.tup [.int (min a b : Nat), .int (max a b : Nat)]) (.tup (ts.map dP)) s = .ok (.bl ((decide (srt (a, b) ∈ ts)) != false)) s := (oIn_en enP (srt (a, b)) ts s false (.tup (ts.map dP)) (.inl rfl) (by decide) (fun z h => by cases h)).trans (by congr)
  simp [b_is_tied, e]
def isDye (n : Nat) (ts : List (Nat × Nat)) (k : Nat) (vs : List Nat) : Bool := (vs.all fun v => decide (v < k)) && ts.all fun p => !decide (gt vs p.1 = gt vs p.2)
theorem is_dyeing_ok {n : Nat} {ts : List (Nat × Nat)} {k : Nat} {vs : List Nat} {s : Sr} (hs : Cld s) (h : WebOk n ts) (h2 : k ≤ 1000000) (hl : vs.length = n) : m_is_dyeing [dW n ts, .int k, dL vs] s = .ok (.bl (isDye n ts k vs)) s := by
  have h8 := h.n8
  have h12 := h.t12
  refine run_rt ?_ hs (by simp)
  have main : m_is_dyeing_in [dW n ts, .int k, dL vs] s = .ok (.bl (isDye n ts k vs)) s := by
    refine run_rt ?_ hs (by simp)
    simp [b_is_dyeing_in, hl]
    rw [eLc_map dN (fun v => D.bl (decide (v < k))) vs (by unfold dL; simp <;> rfl) rfl (fun v hv => ⟨_, by simp [dN] <;> rfl, by simp [is_below_int hs]⟩) (by simp; omega)]
    simp only [bind_ok, vAll_map, asB_run]
    unfold isDye
    cases hc : vs.all fun v => decide (v < k) with
    | false => simp
    | true =>
      simp
      rw [eLc_map dP (fun p => D.bl (!decide (gt vs p.1 = gt vs p.2))) ts (by simp <;> rfl) rfl (fun p hp => ⟨_, by unfold dP; simp <;> rfl, by
        have := h.pr p hp
        simp [dL, oIdx_tup (gt_map (show p.1 < vs.length by omega)), oIdx_tup (gt_map (show p.2 < vs.length by omega))]
        by_cases c : gt vs p.1 = gt vs p.2
        · simp [c]
        · simp [c]; omega⟩) (by simp; omega)]
      simp only [bind_ok, vAll_map, thenR_rt]
  simp [b_is_dyeing, need_dyes_ok hs h h2, main]
end L3

/-! M13: partings -/
namespace L3
open PySem PySem.Spec PyProof.Rows L2

theorem enumL_map {α : Type} (f : α → D) : ∀ (l : List α) (i : Nat), enumL i (l.map f) = (l.zipIdx i).map fun q => D.tup [.int q.2, f q.1]
  | [], _ => rfl
  | a :: l, i => by
    show D.tup [.int i, f a] :: enumL (i + 1) (l.map f) = _
    rw [enumL_map f l (i + 1)]; rfl
theorem lcO_map {chk : Sr → Bool} {vs : List Nat} {t : Tg} {inner : Env' → List D → Sr → R (List D)} {s : Sr} {α : Type} {env : Env'} (hc : chk s = true) (enc : α → D) (g : α → List D) : ∀ (l : List α) (acc : List D),
    (∀ a ∈ l, ∃ env1, t.put (enc a) (wipeE env vs) = some env1 ∧ ∀ acc, acc.length + (g a).length ≤ sizeLine → inner env1 acc s = .ok (acc ++ g a) s) → acc.length + (l.flatMap g).length ≤ sizeLine →
    lcO chk vs t bYes inner (l.map enc) acc env s = .ok (acc ++ l.flatMap g) s
  | [], acc, _, _ => by
    show lcO chk vs t bYes inner [] acc env s = _
    unfold lcO
    rw [if_pos hc]; simp
  | a :: l, acc, h, hz => by
    obtain ⟨env1, e1, e2⟩ := h a (List.mem_cons_self ..)
    rw [List.flatMap_cons, List.length_append] at hz
    show lcO chk vs t bYes inner (enc a :: l.map enc) acc env s = _
    unfold lcO
    rw [if_pos hc, e1]
    simp only [bYes_run, nox_ok, bind_ok, if_true]
    rw [e2 acc (by omega)]
    simp only [bind_ok]
    rw [lcO_map hc enc g l _ (fun b hb => h b (List.mem_cons_of_mem _ hb)) (by rw [List.length_append]; omega), List.flatMap_cons, List.append_assoc]
/-! partings -/
abbrev Part := List (List Nat)
def dG (p : Part) : D := .tup (p.map dL)
@[simp] theorem dG_cl (n : Nat) (p : Part) : (dG p).cl n = true := by unfold dG; rw [cl_tup]; exact cls_map _ (dL_cl n)
def tiedAny (ts : List (Nat × Nat)) (p : Nat) (own : List Nat) : Bool := own.any fun o => decide (srt (p, o) ∈ ts)
def putIn (p : Nat) (parting : Part) (q : List Nat × Nat) : Part := parting.take q.2 ++ [q.1 ++ [p]] ++ parting.drop (q.2 + 1)
def wStep (ts : List (Nat × Nat)) (p : Nat) (parting : Part) (acc : List Part) (q : List Nat × Nat) : List Part := if tiedAny ts p q.1 then acc else acc ++ [putIn p parting q]
def withPl (ts : List (Nat × Nat)) (p : Nat) (parting : Part) : List Part := (parting.zipIdx).foldl (wStep ts p parting) [parting ++ [[p]]]
theorem wStep_len (ts : List (Nat × Nat)) (p : Nat) (parting : Part) (acc : List Part) (q : List Nat × Nat) : (wStep ts p parting acc q).length ≤ acc.length + 1 := by
  unfold wStep
  split
  · omega
  · rw [List.length_append]; simp
theorem foldl_wStep_len (ts : List (Nat × Nat)) (p : Nat) (parting : Part) : ∀ (L : List (List Nat × Nat)) (acc : List Part), (L.foldl (wStep ts p parting) acc).length ≤ acc.length + L.length
  | [], acc => by simp
  | q :: L, acc => by
    rw [List.foldl_cons]
    have h1 := foldl_wStep_len ts p parting L (wStep ts p parting acc q)
    have h2 := wStep_len ts p parting acc q
    rw [List.length_cons]; omega
theorem withPl_len (ts : List (Nat × Nat)) (p : Nat) (parting : Part) : (withPl ts p parting).length ≤ parting.length + 1 := by
  have := foldl_wStep_len ts p parting parting.zipIdx [parting ++ [[p]]]
  unfold withPl
  simp at this
  omega
/-- the sizes of a parting -/
structure PtOk (p : Nat) (parting : Part) : Prop where
  len : parting.length ≤ p
  own : ∀ own ∈ parting, own.length ≤ p
theorem putIn_ok {p : Nat} {parting : Part} {q : List Nat × Nat} (h : PtOk p parting) (hq : q ∈ parting.zipIdx) : PtOk (p + 1) (putIn p parting q) := by
  have hm : q.1 ∈ parting := by
    obtain ⟨x, i⟩ := q
    exact (List.mem_zipIdx hq).2.2 ▸ List.getElem_mem ..
  have hi : q.2 < parting.length := by
    obtain ⟨x, i⟩ := q
    have := (List.mem_zipIdx hq).2.1
    simpa using this
  have h1 := h.len
  refine ⟨?_, fun own ho => ?_⟩
  · unfold putIn
    simp only [List.length_append, List.length_take, List.length_drop, List.length_singleton]
    omega
  · unfold putIn at ho
    rcases List.mem_append.mp ho with ho | ho
    · rcases List.mem_append.mp ho with ho | ho
      · have := h.own own (List.mem_of_mem_take ho); omega
      · rw [List.mem_singleton] at ho
        subst ho
        have := h.own q.1 hm
        rw [List.length_append]; simp; omega
    · have := h.own own (List.mem_of_mem_drop ho); omega
theorem withPl_ok {ts : List (Nat × Nat)} {p : Nat} {parting : Part} (h : PtOk p parting) : ∀ π ∈ withPl ts p parting, PtOk (p + 1) π := by
  have key : ∀ (L : List (List Nat × Nat)) (acc : List Part), (∀ q ∈ L, q ∈ parting.zipIdx) → (∀ π ∈ acc, PtOk (p + 1) π) → ∀ π ∈ L.foldl (wStep ts p parting) acc, PtOk (p + 1) π := by
    intro L
    induction L with
    | nil => intro acc _ ha; exact ha
    | cons q L ih =>
      intro acc hL ha
      rw [List.foldl_cons]
      refine ih _ (fun q' h' => hL q' (List.mem_cons_of_mem _ h')) fun π hπ => ?_
      unfold wStep at hπ
      split at hπ
      · exact ha π hπ
      · rcases List.mem_append.mp hπ with hπ | hπ
        · exact ha π hπ
        · rw [List.mem_singleton] at hπ
          subst hπ
          exact putIn_ok h (hL q (List.mem_cons_self ..))
  refine key _ _ (fun q hq => hq) fun π hπ => ?_
  rw [List.mem_singleton] at hπ
  subst hπ
  have h1 := h.len
  refine ⟨by rw [List.length_append]; simp; omega, fun own ho => ?_⟩
  rcases List.mem_append.mp ho with ho | ho
  · have := h.own own ho; omega
  · rw [List.mem_singleton] at ho
    subst ho; simp
theorem take_run {p : Part} {i : Nat} {s : Sr} (h : i ≤ p.length) : oSlice (dG p) none (some (i : Int)) s = .ok (.tup ((p.take i).map dL)) s := by
  show R.ok (D.tup (cutD (p.map dL) none (some (i : Int)))) s = _
  rw [cut_to _ _ (by rw [List.length_map]; exact h), List.map_take]
theorem drop_run {p : Part} {i : Nat} {s : Sr} (h : i < p.length) : oSlice (dG p) (some ((i : Int) + 1)) none s = .ok (.tup ((p.drop (i + 1)).map dL)) s := by
  show R.ok (D.tup (cutD (p.map dL) (some ((i : Int) + 1)) none)) s = _
  rw [show ((i : Int) + 1) = ((i + 1 : Nat) : Int) by omega, cut_from _ _ (by rw [List.length_map]; omega), List.map_drop]
theorem cellL_sn (s : Sr) (l : List D) : cellL (s ++ [.lst l]) (.ref s.length) = some (s.length, l) := by unfold cellL; simp only [snoc_get]
theorem append_sn {s : Sr} {l : List D} {d : D} (h : l.length < 16777216) : mAppend (.ref s.length) [d] (s ++ [.lst l]) = .ok .non (s ++ [.lst (l ++ [d])]) := by
  unfold mAppend
  rw [cellL_sn]
  simp only [snoc_set]
  rw [if_pos (by simp; exact h)]
theorem with_body {ts : List (Nat × Nat)} {n p : Nat} {parting : Part} {acc : List Part} {q : List Nat × Nat} {j6 : Option D} {s : Sr} (hs : Cld s) (h : PtOk p parting) (hp : p ≤ 100) (hq : q ∈ parting.zipIdx) (ha : acc.length < 10000) :
    b_with_place_1 [some (dW n ts), some (.int p), some (dG parting), some (.ref s.length), some (.int q.2), some (dL q.1), j6] (s ++ [.lst (acc.map dG)]) =
      .ok (.nx [some (dW n ts), some (.int p), some (dG parting), some (.ref s.length), some (.int q.2), some (dL q.1), j6]) (s ++ [.lst ((wStep ts p parting acc q).map dG)]) := by
  have hm : q.1 ∈ parting := by
    obtain ⟨x, i⟩ := q
    exact (List.mem_zipIdx hq).2.2 ▸ List.getElem_mem ..
  have hi : q.2 < parting.length := by
    obtain ⟨x, i⟩ := q
    have := (List.mem_zipIdx hq).2.1
    simpa using this
  have h1 := h.len
  have h2 := h.own q.1 hm
  have hc : Cld (s ++ [.lst (acc.map dG)]) := cld_snoc hs (cls_map _ (dG_cl _))
  unfold b_with_place_1
  simp
  rw [eLc_map dN (fun o => D.bl (decide (srt (p, o) ∈ ts))) q.1 (g := []) (by unfold dL; simp) rfl (fun o ho => ⟨_, by simp [dN] <;> rfl, by simp [is_tied_ok hc]⟩) (by simp; omega)]
  simp only [bind_ok, vAny_map, asB_run]
  unfold wStep tiedAny
  cases ht : q.1.any fun o => decide (srt (p, o) ∈ ts) with
  | true => simp
  | false =>
    simp [isLst, asL_sn, take_run (p := parting) (i := q.2) (by omega), drop_run (p := parting) (i := q.2) hi]
    rw [show oAdd (dL q.1) (.tup [.int p]) (s ++ [.lst (acc.map dG)]) = .ok (dL (q.1 ++ [p])) (s ++ [.lst (acc.map dG)]) by
      unfold dL
      rw [oAdd_tup (by simp; omega)]
      simp [dN]]
    simp
    rw [oAdd_tup (by simp; omega)]
    simp
    rw [oAdd_tup (by simp; omega)]
    simp
    rw [append_sn (by simp; omega)]
    simp [putIn, dG]
theorem with_place_ok {ts : List (Nat × Nat)} {n p : Nat} {parting : Part} {s : Sr} (hs : Cld s) (h : PtOk p parting) (hp : p ≤ 100) : m_with_place [dW n ts, .int p, dG parting] s = .ok (.lst ((withPl ts p parting).map dG)) s := by
  have h1 := h.len
  refine run_cell (d := .ref s.length) (c := .lst ((withPl ts p parting).map dG)) ?_ hs (frz_lst (Nat.le_refl _) (snoc_get ..) (cls_map _ (dG_cl _)))
  have e0 : oAdd (dG parting) (.tup [.tup [.int p]]) s = .ok (dG (parting ++ [[p]])) s := by
    unfold dG
    rw [oAdd_tup (by simp; omega)]
    simp [dL, dN]
  simp [b_with_place, eNew_run, toCell, e0]
  obtain ⟨env', s', e, j4, j5, h1', h2, h3⟩ := sFor_st (fun q : List Nat × Nat => D.tup [.int q.2, dL q.1]) (wStep ts p parting) (fun (acc : List Part) env s1 => ∃ j4 j5, env = [some (dW n ts), some (.int p), some (dG parting), some (.ref s.length), j4, j5, none] ∧ s1 = s ++ [.lst (acc.map dG)] ∧ True) (fun acc q => acc.length < 10000 ∧ q ∈ parting.zipIdx) parting.zipIdx (t := .tup [.name 4, .name 5]) (body := b_with_place_1) (b := [parting ++ [[p]]]) (env := [some (dW n ts), some (.int p), some (dG parting), some (.ref s.length), none, none, none]) (s := s ++ [.lst ([parting ++ [[p]]].map dG)]) (it := iArgs hEnum (eCons (eVar 2) eNil)) (g := [])
    (by
      simp [hEnum, dG, asT]
      exact enumL_map dL parting 0) ⟨none, none, rfl, rfl, trivial⟩ (fun _ _ _ _ => rfl)
    (fun acc q env s1 ⟨j4, j5, h1', h2, h3⟩ hq => by
      subst h1' h2
      exact ⟨_, by simp <;> rfl, _, _, with_body hs h hp hq.2 hq.1, ⟨_, _, rfl, rfl, trivial⟩⟩)
    (fun pre q post z => by
      have k1 := foldl_wStep_len ts p parting pre [parting ++ [[p]]]
      have k2 : parting.zipIdx.length = pre.length + (post.length + 1) := by rw [z]; simp
      rw [List.length_zipIdx] at k2
      simp at k1
      exact ⟨by omega, by rw [z]; simp⟩)
  subst h1' h2
  simp at e
  rw [e]
  simp [withPl]
/-! levels -/
def levelP (ts : List (Nat × Nat)) : Nat → List Part
  | 0 => [[]]
  | p + 1 => (if srt (p, p) ∈ ts then [] else levelP ts p).flatMap (withPl ts p)
theorem flatMap_len_le {α β : Type} (f : α → List β) (c : Nat) : ∀ l : List α, (∀ a ∈ l, (f a).length ≤ c) → (l.flatMap f).length ≤ l.length * c
  | [], _ => by simp
  | a :: l, h => by
    have h1 := h a (List.mem_cons_self ..)
    have h2 := flatMap_len_le f c l fun b hb => h b (List.mem_cons_of_mem _ hb)
    rw [List.flatMap_cons, List.length_append, List.length_cons, Nat.succ_mul]; omega
theorem level_pt (ts : List (Nat × Nat)) : ∀ p, ∀ π ∈ levelP ts p, PtOk p π
  | 0, π, h => by
    rw [show levelP ts 0 = [[]] from rfl, List.mem_singleton] at h
    subst h
    exact ⟨Nat.le_refl _, fun own h => by simp at h⟩
  | p + 1, π, h => by
    unfold levelP at h
    obtain ⟨π', h1, h2⟩ := List.mem_flatMap.mp h
    split at h1
    · simp at h1
    · exact withPl_ok (level_pt ts p π' h1) π h2
def fac : Nat → Nat
  | 0 => 1
  | n + 1 => fac n * (n + 1)
theorem level_len (ts : List (Nat × Nat)) : ∀ p, (levelP ts p).length ≤ fac p
  | 0 => Nat.le_refl _
  | p + 1 => by
    unfold levelP fac
    have h0 := level_len ts p
    refine Nat.le_trans (flatMap_len_le _ (p + 1) _ fun π hπ => ?_) (Nat.mul_le_mul_right _ ?_)
    · split at hπ
      · simp at hπ
      · have := withPl_len ts p π
        have := (level_pt ts p π hπ).len
        omega
    · split
      · exact Nat.zero_le _
      · exact h0
theorem fac_mono {a b : Nat} (h : a ≤ b) : fac a ≤ fac b := by
  induction h with
  | refl => exact Nat.le_refl _
  | step _ ih => exact Nat.le_trans ih (show fac _ ≤ fac _ * (_ + 1) from Nat.le_mul_of_pos_right _ (Nat.succ_pos _))
theorem level_body {ts : List (Nat × Nat)} {n p : Nat} {j4 j5 : Option D} {s : Sr} (hs : Cld s) (hp : p < 8) :
    b_counts_of_partings_2 [some (dW n ts), some (.lst ((levelP ts p).map dG)), some (.int p), none, j4, j5] s = .ok (.nx [some (dW n ts), some (.lst ((levelP ts (p + 1)).map dG)), some (.int p), none, j4, j5]) s := by
  have hf := level_len ts p
  have hm := fac_mono (show p ≤ 8 by omega)
  have h8 : fac 8 = 40320 := by decide
  have main : ∀ L : List Part, (∀ π ∈ L, PtOk p π) → L.length ≤ 40320 →
      eLc2 (iSrc (eVar 1)) [4, 5] (.name 4) bYes (iSrc (eCall 3 m_with_place (eCons (eVar 0) (eCons (eVar 2) (eCons (eVar 4) eNil))))) [5] (.name 5) bYes (eVar 5) [some (dW n ts), some (.lst (L.map dG)), some (.int p), none, j4, j5] s = .ok (.lst ((L.flatMap (withPl ts p)).map dG)) s := by
    intro L hL hz
    have hw : (L.flatMap fun π => (withPl ts p π).map dG).length ≤ L.length * 9 := flatMap_len_le _ 9 L fun π hπ => by
      have := withPl_len ts p π
      have := (hL π hπ).len
      rw [List.length_map]; omega
    rw [eLc2_run]
    simp
    rw [lcO_map (src_ok_nil _ _) dG (fun π => (withPl ts p π).map dG) L [] (fun π hπ => ⟨[some (dW n ts), some (.lst (L.map dG)), some (.int p), none, some (dG π), none], by simp, fun acc ha => by
      unfold lcIn
      simp [with_place_ok hs (hL π hπ) (show p ≤ 100 by omega)]
      rw [lcL_map (src_ok_nil _ _) dG dG (withPl ts p π) acc (fun x hx => ⟨_, by simp <;> rfl, by simp⟩) (by rw [List.length_map] at ha; exact ha)]⟩) (by simp only [List.length_nil, szl]; omega)]
    simp [List.map_flatMap]
  unfold b_counts_of_partings_2
  simp [is_tied_ok hs]
  by_cases c : srt (p, p) ∈ ts
  · simp [c]
    rw [show ([] : List D) = ([] : List Part).map dG from rfl, main [] (fun _ h => by simp at h) (by simp)]
    simp [levelP, c]
  · simp [c]
    rw [main (levelP ts p) (level_pt ts p) (by omega)]
    simp [levelP, c]
def cntStep (l : List Int) (π : Part) : List Int := l.set π.length (gI l π.length + 1)
def cntP (n : Nat) (ts : List (Nat × Nat)) : List Int := (levelP ts n).foldl cntStep (List.replicate (n + 1) 0)
theorem cntStep_len (l : List Int) (π : Part) : (cntStep l π).length = l.length := by unfold cntStep; simp
theorem foldl_cnt_len : ∀ (L : List Part) (l : List Int), (L.foldl cntStep l).length = l.length
  | [], _ => rfl
  | π :: L, l => (foldl_cnt_len L _).trans (cntStep_len l π)
theorem cntP_len (n : Nat) (ts : List (Nat × Nat)) : (cntP n ts).length = n + 1 := by unfold cntP; rw [foldl_cnt_len, List.length_replicate]
theorem cnt_bound : ∀ (L : List Part) (l : List Int) (c : Nat), (∀ v ∈ l, v.natAbs ≤ c) → ∀ v ∈ L.foldl cntStep l, v.natAbs ≤ c + L.length
  | [], l, c, h, v, hv => h v hv
  | π :: L, l, c, h, v, hv => by
    have := cnt_bound L (cntStep l π) (c + 1) (fun w hw => by
      unfold cntStep at hw
      rcases List.mem_or_eq_of_mem_set hw with hw | rfl
      · have := h w hw; omega
      · unfold gI
        by_cases hk : π.length < l.length
        · rw [List.getD_eq_getElem?_getD, List.getElem?_eq_getElem hk]
          have := h _ (List.getElem_mem hk)
          simp only [Option.getD_some]; omega
        · rw [List.getD_eq_getElem?_getD, List.getElem?_eq_none (by omega)]
          simp <;> omega) v hv
    rw [List.length_cons]; omega
theorem counts_ok {ts : List (Nat × Nat)} {n : Nat} {s : Sr} (hs : Cld s) (hn : n ≤ 8) : m_counts_of_partings [dW n ts] s = .ok (.tup ((cntP n ts).map D.int)) s := by
  refine run_snoc (c := .lst ((cntP n ts).map D.int)) ?_ hs (by rw [cl_tup]; exact cls_map _ fun _ => cl_int ..)
  simp [b_counts_of_partings]
  obtain ⟨env', s', e, j2, j4, j5, h1, h2⟩ := sFor_st dN (fun (p : Nat) (_ : Nat) => p + 1) (fun (p : Nat) env s1 => ∃ j2 j4 j5, env = [some (dW n ts), some (.lst ((levelP ts p).map dG)), j2, none, j4, j5] ∧ s1 = s) (fun p i => p = i ∧ i < 8) (List.range n) (t := .name 2) (body := b_counts_of_partings_2) (b := 0) (env := [some (dW n ts), some (.lst [.tup []]), none, none, none, none]) (s := s) (it := iArgs hRange1 (eCons (eBin oIdx (eVar 0) (eC (.int 1))) eNil)) (g := [])
    (by simp [hr1 (show n ≤ 16777216 by omega)]) ⟨none, none, none, rfl, rfl⟩ (fun _ _ _ _ => rfl)
    (fun p i env s1 ⟨j2, j4, j5, h1, h2⟩ hq => by
      obtain ⟨rfl, hq⟩ := hq
      subst h1 h2
      exact ⟨[some (dW n ts), some (.lst ((levelP ts p).map dG)), some (.int p), none, j4, j5], by simp [dN], _, _, level_body hs hq, ⟨_, _, _, rfl, rfl⟩⟩)
    (fun pre i post q => by
      have := range_at q
      rw [foldl_succ]; omega)
  rw [foldl_succ, List.length_range, Nat.zero_add] at h1
  subst h1 h2
  rw [e]
  simp [eNew_run]
  rw [show ((n : Int) + 1) = ((n + 1 : Nat) : Int) by omega, nMul_zero (by omega)]
  simp [toCell]
  obtain ⟨env', s2, e2, k4, h1, h2, h3⟩ := sFor_st dG cntStep (fun (l : List Int) env s2 => ∃ k4, env = [some (dW n ts), some (.lst ((levelP ts n).map dG)), j2, some (.ref s'.length), k4, j5] ∧ s2 = s' ++ [.lst (l.map D.int)] ∧ l.length = n + 1) (fun l π => π.length ≤ n) (levelP ts n) (t := .name 4) (body := b_counts_of_partings_1) (b := List.replicate (n + 1) 0) (env := [some (dW n ts), some (.lst ((levelP ts n).map dG)), j2, some (.ref s'.length), j4, j5]) (s := s' ++ [.lst ((List.replicate (n + 1) (0 : Int)).map D.int)]) (it := iSrc (eVar 1)) (g := [])
    (by simp) ⟨j4, rfl, rfl, List.length_replicate ..⟩ (fun _ _ _ _ => rfl)
    (fun l π env s2 ⟨k4, h1, h2, h3⟩ hq => by
      subst h1 h2
      refine ⟨_, by simp <;> rfl, _, _, ?_, ⟨some (dG π), rfl, rfl, by rw [cntStep_len]; exact h3⟩⟩
      have hb : π.length < l.length := by omega
      have e1 : vLen [dG π] (s' ++ [.lst (l.map D.int)]) = .ok (.int π.length) (s' ++ [.lst (l.map D.int)]) := by unfold dG; simp
      simp [b_counts_of_partings_1, e1, idx_sn hb, set_sn hb, cntStep])
    (fun pre π post z => (level_pt ts n π (by rw [z]; simp)).len)
  subst h1 h2
  rw [List.map_replicate] at e2
  rw [e2]
  simp [frzT_sn, cntP]
def fallI (k : Int) : Nat → Int
  | 0 => 1
  | n + 1 => fallI k n * (k - n)
theorem falling_ok {k : Nat} {m : Nat} {s : Sr} (hs : Cld s) (hk : k ≤ 1000000) (hm : m ≤ 1000) : m_falling_product [.int k, .int m] s = .ok (.int (fallI k m)) s := by
  refine run_rt ?_ hs (by simp)
  simp [b_falling_product]
  obtain ⟨env', s', e, j3, h1, h2⟩ := sFor_st dN (fun (i : Nat) (_ : Nat) => i + 1) (fun (i : Nat) env s1 => ∃ j3, env = [some (.int k), some (.int m), some (.int (fallI k i)), j3] ∧ s1 = s) (fun i a => i = a ∧ a < 1000) (List.range m) (t := .name 3) (body := b_falling_product_1) (b := 0) (env := [some (.int k), some (.int m), some (.int 1), none]) (s := s) (it := iArgs hRange1 (eCons (eVar 1) eNil)) (g := [])
    (by simp [hr1 (show m ≤ 16777216 by omega)]) ⟨none, rfl, rfl⟩ (fun _ _ _ _ => rfl)
    (fun i a env s1 ⟨j3, h1, h2⟩ hq => by
      obtain ⟨rfl, hq⟩ := hq
      subst h1 h2
      refine ⟨_, by simp <;> rfl, _, _, ?_, ⟨some (dN i), rfl, rfl⟩⟩
      simp [b_falling_product_1, dN]
      rw [oMul_int (.inr (small_of (n := 2000000) (by omega) (by decide)))]
      simp [fallI])
    (fun pre i post q => by
      have := range_at q
      rw [foldl_succ]; omega)
  rw [foldl_succ, List.length_range, Nat.zero_add] at h1
  subst h1 h2
  rw [e]
  simp
def mdye (n : Nat) (ts : List (Nat × Nat)) (k : Nat) : Int := ((cntP n ts).zipIdx.map fun q => q.1 * fallI k q.2).sum
theorem many_dyeings_ok {n : Nat} {ts : List (Nat × Nat)} {k : Nat} {s : Sr} (hs : Cld s) (h : WebOk n ts) (h2 : k ≤ 1000000) : m_many_dyeings [dW n ts, .int k] s = .ok (.int (mdye n ts k)) s := by
  have h8 := h.n8
  refine run_rt ?_ hs (by simp)
  simp [b_many_dyeings, need_dyes_ok hs h h2]
  rw [eLc_map (fun q : Int × Nat => D.tup [.int q.2, .int q.1]) (fun q => D.int (q.1 * fallI k q.2)) (cntP n ts).zipIdx (g := []) (by
      simp [counts_ok hs h8, hEnum, asT]
      exact enumL_map D.int (cntP n ts) 0) rfl (fun q hq => by
      have hi : q.2 < n + 1 := by
        obtain ⟨x, i⟩ := q
        have := (List.mem_zipIdx hq).2.1
        rw [cntP_len] at this
        simpa using this
      have hm : q.1 ∈ cntP n ts := by
        obtain ⟨x, i⟩ := q
        exact (List.mem_zipIdx hq).2.2 ▸ List.getElem_mem ..
      have hb := cnt_bound (levelP ts n) (List.replicate (n + 1) 0) 0 (fun v hv => by rw [(List.mem_replicate.mp hv).2]; decide) q.1 hm
      have hl := level_len ts n
      have hf := fac_mono h8
      have h8 : fac 8 = 40320 := by decide
      refine ⟨_, by simp <;> rfl, ?_⟩
      simp [falling_ok hs h2 (show q.2 ≤ 1000 by omega)]
      rw [oMul_int (.inl (small_of (n := 40320) (by omega) (by decide)))]) (by rw [List.length_zipIdx, cntP_len]; simp; omega)]
  simp [vSum_map, mdye]
end L3

/-! M14: the law's own pieces, numbers, polynomial -/
namespace L3
open PySem PySem.Spec PyProof.Rows L2

def leN (a b : Nat) : Bool := !oN.lt b a
def piecesP (n : Nat) (ts : List (Nat × Nat)) : List (List Nat) := (isS leN (dst (namesOf n ts))).map fun nm => (List.range n).filter fun p => decide (gt (namesOf n ts) p = nm)
theorem piecesP_len (n : Nat) (ts : List (Nat × Nat)) : (piecesP n ts).length = (dst (namesOf n ts)).length := by
  unfold piecesP
  rw [List.length_map, (isS_perm leN _).length_eq]
theorem rkL_pieces (n : Nat) (ts : List (Nat × Nat)) : ((n : Int) - (piecesP n ts).length) = (rkL n ts : Nat) := by
  rw [piecesP_len]
  unfold rkL
  have := dst_len (namesOf n ts)
  rw [namesOf_len] at this
  omega
theorem merge_dk1 : ∀ (l acc : List Nat), mergeD (dk1 acc) (dk1 l) = dk1 (dstS acc l)
  | [], acc => rfl
  | a :: l, acc => by
    show mergeD (put (.inl (a : Int) : Key) (.bl true) (dk1 acc)) (dk1 l) = _
    rw [put_dk1, merge_dk1 l]
    rfl
theorem sorted_dk1 (l : List Nat) (s : Sr) (hl : l.length ≤ 16777216) : vSorted [.dk (dk1 l)] s = some (.lst ((isS leN l).map dN)) := by
  refine (vSorted_en oN (by decide) srtN l (by simp; exact hl) _ _ (.inr ⟨rfl, ?_⟩)).trans rfl
  unfold keysD dk1
  simp only [asDk]
  rw [List.map_map]
  rfl
theorem pick_run {n : Nat} {names : List Nat} {nm i j : Nat} {env : Env'} {vs : List Nat} {s : Sr} (it : FI) (hn : n ≤ 1000) (hl : names.length = n) (hi : it env s = .ok ⟨(List.range n).map dN, []⟩ s) (t : Tg) (test : FB) (elt : F)
    (h : ∀ p, p < n → ∃ env1, t.put (dN p) (wipeE env vs) = some env1 ∧ test env1 s = .ok (decide (gt names p = nm)) s ∧ elt env1 s = .ok (dN p) s) :
    eLc it vs t test elt env s = .ok (.lst (((List.range n).filter fun p => decide (gt names p = nm)).map dN)) s :=
  eLc_fm dN (fun p => decide (gt names p = nm)) dN (List.range n) hi rfl (fun p hp => by
    obtain ⟨e1, q1, q2, q3⟩ := h p (List.mem_range.mp hp)
    exact ⟨e1, q1, q2, fun _ => q3⟩) (by rw [List.length_range]; simp; omega)
theorem law_pieces_ok {n : Nat} {ts : List (Nat × Nat)} {T : D} {s : Sr} (hs : Cld s) (hn : n ≤ 1000) (ht : ∀ p ∈ ts, p.1 < n ∧ p.2 < n) (hT : SeqD T (ts.map dP)) : m_law_pieces [.int n, T] s = .ok (dG (piecesP n ts)) s := by
  refine run_rt ?_ hs (by simp)
  have hl := namesOf_len n ts
  have hd := dst_len (namesOf n ts)
  simp [b_law_pieces, rgT1 (show n ≤ 16777216 by omega)]
  obtain ⟨j3, j4, j5, j6, e⟩ := names_loop n ts (some T) none none none none none (.int n) [none, none] (iSrc (eVar 1)) [] s hn ht (by simp [hT.src])
  rw [show b_law_pieces_1 = b_names_by_1 from rfl, e]
  simp
  have hin : eLc (iSrc (eVar 2)) [8] (.name 8) bYes (eTup (eCons (eVar 8) (eCons (eC (.bl true)) eNil))) [some (.int n), some T, some (.lst ((namesOf n ts).map dN)), j3, j4, j5, j6, none, none, none] s = .ok (.lst ((namesOf n ts).map fun m : Nat => D.tup [.int m, .bl true])) s := eLc_map dN (fun m => D.tup [.int m, .bl true]) (namesOf n ts) (g := []) (by simp) rfl (fun m hm => ⟨_, by simp [dN] <;> rfl, by simp⟩) (by simp; omega)
  have e1 : vDict [.lst ((namesOf n ts).map fun m : Nat => D.tup [.int m, .bl true])] s = some (.dk (dk1 (dst (namesOf n ts)))) := by
    unfold vDict
    simp only [asDk, asDt, asL]
    have : ∀ l : List Nat, pairsD keyOf (l.map fun m : Nat => D.tup [.int m, .bl true]) = some (dk1 l) := by
      intro l
      induction l with
      | nil => rfl
      | cons a l ih =>
        show pairsD keyOf (D.tup [.int a, .bl true] :: l.map fun m : Nat => D.tup [.int m, .bl true]) = _
        unfold pairsD
        rw [ih]; rfl
    rw [this]
    simp only
    rw [show ([] : List (Key × D)) = dk1 [] from rfl, merge_dk1]
    rfl
  rw [eLc_map dN (fun nm => dL ((List.range n).filter fun p => decide (gt (namesOf n ts) p = nm))) (isS leN (dst (namesOf n ts))) (g := []) (by simp [hin, e1, sorted_dk1 (dst (namesOf n ts)) s (by omega)]) rfl (fun nm hm => ⟨[some (.int n), some T, some (.lst ((namesOf n ts).map dN)), j3, j4, j5, j6, some (dN nm), none, none], by simp, by
    simp
    rw [pick_run (nm := nm) (i := 0) (j := 0) _ hn hl (by simp [hr1 (show n ≤ 16777216 by omega)]) _ _ _ (fun p hp => ⟨_, by simp [dN] <;> rfl, by
      simp [oIdx_lst (gt_map (show p < (namesOf n ts).length by omega))]
      omega, by simp [dN]⟩)]
    simp [dL]⟩) (by rw [(isS_perm leN _).length_eq]; simp; omega)]
  simp [dG, piecesP]
theorem law_rank_ok {n : Nat} {ts : List (Nat × Nat)} {lot : List Nat} {s : Sr} (hs : Cld s) (hn : n ≤ 1000) (ht : ∀ p ∈ ts, p.1 < n ∧ p.2 < n) (hl : ∀ t ∈ lot, t < ts.length) (hz : lot.length ≤ 1000) : m_law_rank [dW n ts, dL lot] s = .ok (.int (rkL n (lotTs ts lot))) s := by
  refine run_rt ?_ hs (by simp)
  simp [b_law_rank]
  rw [eLc_map dN (fun t => dP (ts.getD t (0, 0))) lot (g := []) (by unfold dL; simp) rfl (fun t h => ⟨_, by simp [dN]; rfl, by simp [oIdx_tup (getD_dP (hl t h))]⟩) (by simp; omega)]
  simp
  have e : lot.map (fun t => dP (ts.getD t (0, 0))) = (lotTs ts lot).map dP := by unfold lotTs; rw [List.map_map]; rfl
  simp only [← List.getD_eq_getElem?_getD]
  rw [e, law_pieces_ok hs hn (fun p hp => ht p (lotTs_mem hl hp)) (.inr rfl)]
  have e2 : vLen [dG (piecesP n (lotTs ts lot))] s = .ok (.int (piecesP n (lotTs ts lot)).length) s := by unfold dG; simp
  simp [e2]
  exact rkL_pieces n (lotTs ts lot)
theorem pieces_ok {n : Nat} {ts : List (Nat × Nat)} {lot : List Nat} {s : Sr} (hs : Cld s) (h : WebOk n ts) (hl : ∀ t ∈ lot, t < ts.length) (ha : lot.Pairwise (· < ·)) (hz : lot.length ≤ 1000) : m_pieces [dW n ts, dL lot] s = .ok (dG (piecesP n (lotTs ts lot))) s := by
  have h8 := h.n8
  have ht : ∀ p ∈ ts, p.1 < n ∧ p.2 < n := fun p hp => by have := h.pr p hp; omega
  have hby : m_pieces_by [.int n, .lst ((lotTs ts lot).map dP)] s = .ok (dG (piecesP n (lotTs ts lot))) s := by
    refine run_rt ?_ hs (by simp)
    have hl2 := namesOf_len n (lotTs ts lot)
    have hd := dst_len (namesOf n (lotTs ts lot))
    simp [b_pieces_by, names_by_ok hs (show n ≤ 1000 by omega) (fun p hp => ht p (lotTs_mem hl hp)) (.inr rfl)]
    rw [eDc_dst (namesOf n (lotTs ts lot)) (by simp; rfl) rfl (fun a h => ⟨_, by simp [dN]; rfl, by simp [dN]⟩) (by simp; omega)]
    simp [sorted_dk1 (dst (namesOf n (lotTs ts lot))) s (by omega)]
    rw [eLc_map dN (fun nm => dL ((List.range n).filter fun p => decide (gt (namesOf n (lotTs ts lot)) p = nm))) (isS leN (dst (namesOf n (lotTs ts lot)))) (g := []) (by simp) rfl (fun nm hm => ⟨[some (.int n), some (.lst ((lotTs ts lot).map dP)), some (.lst ((namesOf n (lotTs ts lot)).map dN)), some (.lst ((isS leN (dst (namesOf n (lotTs ts lot)))).map dN)), some (dN nm), none], by simp, by
      simp
      rw [pick_run (nm := nm) (i := 0) (j := 0) _ (show n ≤ 1000 by omega) hl2 (by simp [hr1 (show n ≤ 16777216 by omega)]) _ _ _ (fun p hp => ⟨_, by simp [dN] <;> rfl, by
        simp [oIdx_lst (gt_map (show p < (namesOf n (lotTs ts lot)).length by omega))]
        omega, by simp [dN]⟩)]
      simp [dL]⟩) (by rw [(isS_perm leN _).length_eq]; simp; omega)]
    simp [dG, piecesP]
  refine run_rt ?_ hs (by simp)
  have hin : m_pieces_in [dW n ts, dL lot] s = .ok (dG (piecesP n (lotTs ts lot))) s := by
    refine run_rt ?_ hs (by simp)
    simp [b_pieces_in]
    rw [eLc_map dN (fun t => dP (ts.getD t (0, 0))) lot (g := []) (by unfold dL; simp) rfl (fun t h => ⟨_, by simp [dN]; rfl, by simp [oIdx_tup (getD_dP (hl t h))]⟩) (by simp; omega)]
    simp
    have e : lot.map (fun t => dP (ts.getD t (0, 0))) = (lotTs ts lot).map dP := by unfold lotTs; rw [List.map_map]; rfl
    simp only [← List.getD_eq_getElem?_getD]
    rw [e, hby]
    simp
  simp [b_pieces, need_web_ok hs h, need_lot_ok hs hl ha hz, hin]
/-! numbers chosen -/
def chI (m : Nat) : Nat → Int
  | 0 => 1
  | k + 1 => chI m k * ((m : Int) - k) / ((k : Int) + 1)
theorem choose_ok {m k : Nat} {s : Sr} (hs : Cld s) (hm : m ≤ 1000000) (hk : k ≤ 1000) : m_law_choose [.int m, .int k] s = .ok (.int (chI m k)) s := by
  refine run_rt ?_ hs (by simp)
  simp [b_law_choose]
  obtain ⟨env', s', e, j3, h1, h2⟩ := sFor_st dN (fun (i : Nat) (_ : Nat) => i + 1) (fun (i : Nat) env s1 => ∃ j3, env = [some (.int m), some (.int k), some (.int (chI m i)), j3] ∧ s1 = s) (fun i a => i = a ∧ a < 1000) (List.range k) (t := .name 3) (body := b_law_choose_1) (b := 0) (env := [some (.int m), some (.int k), some (.int 1), none]) (s := s) (it := iArgs hRange1 (eCons (eVar 1) eNil)) (g := [])
    (by simp [hr1 (show k ≤ 16777216 by omega)]) ⟨none, rfl, rfl⟩ (fun _ _ _ _ => rfl)
    (fun i a env s1 ⟨j3, h1, h2⟩ hq => by
      obtain ⟨rfl, hq⟩ := hq
      subst h1 h2
      refine ⟨_, by simp <;> rfl, _, _, ?_, ⟨some (dN i), rfl, rfl⟩⟩
      simp [b_law_choose_1, dN]
      rw [oMul_int (.inr (small_of (n := 2000000) (by omega) (by decide)))]
      simp
      rw [oDiv_int (by omega) (by omega)]
      simp [chI])
    (fun pre i post q => by
      have := range_at q
      rw [foldl_succ]; omega)
  rw [foldl_succ, List.length_range, Nat.zero_add] at h1
  subst h1 h2
  rw [e]
  simp
theorem law_power_ok {b : Int} {k : Nat} {s : Sr} (hs : Cld s) (hb : smallI b = true) (hk : k ≤ 1000) : m_law_power [.int b, .int k] s = .ok (.int (b ^ k)) s := by
  rw [show m_law_power = m_powered from rfl]
  exact powered_ok hs hb hk
end L3

/-! M15: the law's polynomial by lots -/
namespace L3
open PySem PySem.Spec PyProof.Rows L2

theorem hr1s {n : Nat} (h : n < 16777216) (s : Sr) : hRange1 [.int ((n : Int) + 1)] s = some ⟨(List.range (n + 1)).map dN, []⟩ := by
  have := hr1 (n := n + 1) (by omega) s
  rwa [show ((n + 1 : Nat) : Int) = (n : Int) + 1 by omega] at this
theorem ch_small {m k : Nat} (hm : m ≤ 12) (hk : k ≤ 12) : smallI (chI m k) = true := by
  have h : ∀ m < 13, ∀ k < 13, smallI (chI m k) = true := by decide +kernel
  exact h m (by omega) k (by omega)
def sgn (k : Nat) : Int := if k % 2 = 0 then 1 else -1
def termE (high wide i j : Nat) : (Nat × Nat) × Int := ((i, j), sgn (high - i + (wide - j)) * chI high i * chI wide j)
def rowE (high wide i : Nat) : Po := (List.range (wide + 1)).map fun j => termE high wide i j
def lotE (high wide : Nat) : Po := (List.range (high + 1)).flatMap fun i => rowE high wide i
def byRaw (n : Nat) (ts : List (Nat × Nat)) : Po := (lots ts.length).flatMap fun lot => lotE (rkL n (lotTs ts (allT ts)) - rkL n (lotTs ts lot)) (lot.length - rkL n (lotTs ts lot))
def byLots (n : Nat) (ts : List (Nat × Nat)) : Po := norm (addAll [] (byRaw n ts))
theorem cld_dt {s : Sr} {l : Po} (h : Cld s) : Cld (s ++ [.dt (eP l)]) := cld_snoc h (by
  have := dPo_cl s.length l
  unfold dPo at this
  rw [cl_dt] at this
  exact this)
theorem by_body3 {high wide i j : Nat} {l : Po} {a c d e : Option D} {r : Env'} {s : Sr} (hs : Cld s) (h1 : high ≤ 12) (h2 : wide ≤ 12) (hi : i ≤ high) (hj : j ≤ wide) (hz : l.length < 16777216) (x9 : Option D) :
    b_law_by_lots_3 (a :: some (.ref s.length) :: c :: d :: e :: some (.int high) :: some (.int wide) :: some (.int i) :: some (.int j) :: x9 :: r) (s ++ [.dt (eP l)]) =
      .ok (.nx (a :: some (.ref s.length) :: c :: d :: e :: some (.int high) :: some (.int wide) :: some (.int i) :: some (.int j) :: some (.int (sgn (high - i + (wide - j)))) :: r)) (s ++ [.dt (eP (addE l (termE high wide i j)))]) := by
  have hc : Cld (s ++ [.dt (eP l)]) := cld_dt hs
  have e1 : ((high : Int) - i + wide - j) = ((high - i + (wide - j) : Nat) : Int) := by omega
  have e2 : (((high - i + (wide - j) : Nat) : Int) % 2 = 0) ↔ (high - i + (wide - j)) % 2 = 0 := by omega
  have hsg : smallI (sgn (high - i + (wide - j))) = true := by unfold sgn; split <;> decide
  unfold b_law_by_lots_3
  have main : ∀ sg : Int, smallI sg = true → sg = sgn (high - i + (wide - j)) → (sThen (sSet (eBin oAdd (eGet (eVar 1) (eTup (eCons (eVar 7) (eCons (eVar 8) eNil))) (eC (.int 0))) (eBin oMul (eBin oMul (eVar 9) (eCall 2 m_law_choose (eCons (eVar 5) (eCons (eVar 7) eNil)))) (eCall 2 m_law_choose (eCons (eVar 6) (eCons (eVar 8) eNil))))) (eVar 1) (eTup (eCons (eVar 7) (eCons (eVar 8) eNil)))) sSkip)
      (a :: some (.ref s.length) :: c :: d :: e :: some (.int high) :: some (.int wide) :: some (.int i) :: some (.int j) :: some (.int sg) :: r) (s ++ [.dt (eP l)]) = .ok (.nx (a :: some (.ref s.length) :: c :: d :: e :: some (.int high) :: some (.int wide) :: some (.int i) :: some (.int j) :: some (.int sg) :: r)) (s ++ [.dt (eP (addE l (termE high wide i j)))]) := by
    intro sg h9 h10
    simp
    rw [get_snoc (s := s) (l := l) (k := (i, j))]
    · simp [choose_ok hc (show high ≤ 1000000 by omega) (show i ≤ 1000 by omega)]
      rw [oMul_int (.inl h9)]
      simp [choose_ok hc (show wide ≤ 1000000 by omega) (show j ≤ 1000 by omega)]
      rw [oMul_int (.inr (ch_small h2 (by omega)))]
      simp
      rw [show (D.tup [.int (i : Nat), .int (j : Nat)]) = dP (i, j) from rfl, set_snoc s l (i, j) _ hz]
      simp [addE, termE, h10]
    · simp
    · simp; rfl
  by_cases c1 : (high - i + (wide - j)) % 2 = 0
  · have hsg : sgn (high - i + (wide - j)) = 1 := by unfold sgn; rw [if_pos c1]
    rw [sThen_run]
    simp only [sAsg_run, eIf_run, eB_run, eBin_run, eCallV_run, eCons_run, eVar_succ, eVar_zero, eNil_run, eC_run, bind_ok, oSub_int, oAdd_int, vInt_int, oMod_int (show (0 : Int) < 2 by decide), oEq_int, asB_run, e1, e2.mpr c1, decide_true, if_true, put_name, List.set_cons_succ, List.set_cons_zero, thenR_nx]
    rw [hsg]
    exact main 1 (by decide) hsg.symm
  · have hsg : sgn (high - i + (wide - j)) = -1 := by unfold sgn; rw [if_neg c1]
    rw [sThen_run]
    simp only [sAsg_run, eIf_run, eB_run, eBin_run, eUn_run, oNeg_int, eCallV_run, eCons_run, eVar_succ, eVar_zero, eNil_run, eC_run, bind_ok, oSub_int, oAdd_int, vInt_int, oMod_int (show (0 : Int) < 2 by decide), oEq_int, asB_run, e1, decide_eq_false (fun z => c1 (e2.mp z)), Bool.false_eq_true, if_false, put_name, List.set_cons_succ, List.set_cons_zero, thenR_nx]
    rw [hsg]
    exact main (-1) (by decide) hsg.symm
theorem foldl_addE_len {α : Type} (f : α → (Nat × Nat) × Int) : ∀ (L : List α) (l : Po), (L.foldl (fun l a => addE l (f a)) l).length ≤ l.length + L.length
  | [], l => by simp
  | x :: L, l => by
    rw [List.foldl_cons]
    have h1 := foldl_addE_len f L (addE l (f x))
    have h2 := addE_len l (f x)
    rw [List.length_cons]; omega
theorem by_body2 {high wide i : Nat} {l : Po} {a c d e : Option D} {x8 x9 x10 : Option D} {s : Sr} (hs : Cld s) (h1 : high ≤ 12) (h2 : wide ≤ 12) (hi : i ≤ high) (hz : l.length < 16000000) :
    ∃ y8 y9, b_law_by_lots_2 [a, some (.ref s.length), c, d, e, some (.int high), some (.int wide), some (.int i), x8, x9, x10] (s ++ [.dt (eP l)]) =
      .ok (.nx [a, some (.ref s.length), c, d, e, some (.int high), some (.int wide), some (.int i), y8, y9, x10]) (s ++ [.dt (eP (addAll l (rowE high wide i)))]) := by
  obtain ⟨env', s', q, y8, y9, e1, e2⟩ := sFor_st dN (fun l j => addE l (termE high wide i j)) (fun (l : Po) env s1 => ∃ y8 y9, env = [a, some (.ref s.length), c, d, e, some (.int high), some (.int wide), some (.int i), y8, y9, x10] ∧ s1 = s ++ [.dt (eP l)]) (fun l j => l.length < 16777216 ∧ j ≤ wide) (List.range (wide + 1)) (t := .name 8) (body := b_law_by_lots_3) (b := l) (env := [a, some (.ref s.length), c, d, e, some (.int high), some (.int wide), some (.int i), x8, x9, x10]) (s := s ++ [.dt (eP l)]) (it := iArgs hRange1 (eCons (eBin oAdd (eVar 6) (eC (.int 1))) eNil)) (g := [])
    (by simp [hr1s (show wide < 16777216 by omega)]) ⟨x8, x9, rfl, rfl⟩ (fun _ _ _ _ => rfl)
    (fun l j env s1 ⟨y8, y9, e1, e2⟩ hq => by
      subst e1 e2
      exact ⟨_, by simp [dN] <;> rfl, _, _, by_body3 hs h1 h2 hi hq.2 hq.1 y9, ⟨_, _, rfl, rfl⟩⟩)
    (fun pre j post z => by
      have k1 := foldl_addE_len (fun j => termE high wide i j) pre l
      have k2 := range_at z
      exact ⟨by omega, by omega⟩)
  subst e1 e2
  refine ⟨y8, y9, ?_⟩
  simp only [b_law_by_lots_2, sThen_run]
  rw [q]
  simp [addAll, rowE, List.foldl_map]
theorem rowE_len (high wide i : Nat) : (rowE high wide i).length = wide + 1 := by unfold rowE; simp
theorem lotE_len (high wide : Nat) : (lotE high wide).length ≤ (high + 1) * (wide + 1) := by
  have := flatMap_len_le (fun i => rowE high wide i) (wide + 1) (List.range (high + 1)) fun i _ => Nat.le_of_eq (rowE_len ..)
  rw [List.length_range] at this
  exact this
theorem foldl_addAll_len {α : Type} (f : α → Po) (c : Nat) : ∀ (L : List α) (l : Po), (∀ a ∈ L, (f a).length ≤ c) → (L.foldl (fun l a => addAll l (f a)) l).length ≤ l.length + L.length * c
  | [], l, _ => by simp
  | x :: L, l, h => by
    rw [List.foldl_cons]
    have h1 := foldl_addAll_len f c L (addAll l (f x)) fun a ha => h a (List.mem_cons_of_mem _ ha)
    have h2 := addAll_len (f x) l
    have h3 := h x (List.mem_cons_self ..)
    rw [List.length_cons, Nat.succ_mul]; omega
theorem foldl_addAll {α : Type} (f : α → Po) : ∀ (L : List α) (l : Po), L.foldl (fun l a => addAll l (f a)) l = addAll l (L.flatMap f)
  | [], l => rfl
  | x :: L, l => by rw [List.foldl_cons, foldl_addAll f L, List.flatMap_cons, addAll_app]
theorem by_body1 {n : Nat} {ts : List (Nat × Nat)} {lot : List Nat} {whole : Nat} {l : Po} {x4 x5 x6 x7 x8 x9 x10 : Option D} {s : Sr} (hs : Cld s) (hn : n ≤ 12) (hp : ∀ p ∈ ts, p.1 < n ∧ p.2 < n) (hb : ∀ t ∈ lot, t < ts.length) (hl : lot.length ≤ 12) (hw : whole ≤ 12) (hr : rkL n (lotTs ts lot) ≤ lot.length) (hr2 : rkL n (lotTs ts lot) ≤ whole) (hz : l.length < 10000000) :
    ∃ y4 y5 y6 y7 y8 y9, b_law_by_lots_1 [some (dW n ts), some (.ref s.length), some (.int whole), some (dL lot), x4, x5, x6, x7, x8, x9, x10] (s ++ [.dt (eP l)]) =
      .ok (.nx [some (dW n ts), some (.ref s.length), some (.int whole), some (dL lot), y4, y5, y6, y7, y8, y9, x10]) (s ++ [.dt (eP (addAll l (lotE (whole - rkL n (lotTs ts lot)) (lot.length - rkL n (lotTs ts lot)))))]) := by
  have hc : Cld (s ++ [.dt (eP l)]) := cld_dt hs
  have rk := law_rank_ok hc (show n ≤ 1000 by omega) hp hb (show lot.length ≤ 1000 by omega)
  have c1 : ((whole : Int) - (rkL n (lotTs ts lot) : Nat)) = ((whole - rkL n (lotTs ts lot) : Nat) : Int) := by omega
  have c2 : ((lot.length : Int) - (rkL n (lotTs ts lot) : Nat)) = ((lot.length - rkL n (lotTs ts lot) : Nat) : Int) := by omega
  generalize hh : whole - rkL n (lotTs ts lot) = high at *
  generalize hwd : lot.length - rkL n (lotTs ts lot) = wide at *
  generalize rkL n (lotTs ts lot) = rr at *
  obtain ⟨env', s', q, y7, y8, y9, e1, e2⟩ := sFor_st dN (fun l i => addAll l (rowE high wide i)) (fun (l : Po) env s1 => ∃ y7 y8 y9, env = [some (dW n ts), some (.ref s.length), some (.int whole), some (dL lot), some (.int rr), some (.int high), some (.int wide), y7, y8, y9, x10] ∧ s1 = s ++ [.dt (eP l)]) (fun l i => l.length < 16000000 ∧ i ≤ high) (List.range (high + 1)) (t := .name 7) (body := b_law_by_lots_2) (b := l) (env := [some (dW n ts), some (.ref s.length), some (.int whole), some (dL lot), some (.int rr), some (.int high), some (.int wide), x7, x8, x9, x10]) (s := s ++ [.dt (eP l)]) (it := iArgs hRange1 (eCons (eBin oAdd (eVar 5) (eC (.int 1))) eNil)) (g := [])
    (by simp [hr1s (show high < 16777216 by omega)]) ⟨x7, x8, x9, rfl, rfl⟩ (fun _ _ _ _ => rfl)
    (fun l i env s1 ⟨y7, y8, y9, e1, e2⟩ hq => by
      subst e1 e2
      obtain ⟨z8, z9, z⟩ := by_body2 (a := some (dW n ts)) (c := some (.int whole)) (d := some (dL lot)) (e := some (.int rr)) (x8 := y8) (x9 := y9) (x10 := x10) hs (show high ≤ 12 by omega) (show wide ≤ 12 by omega) hq.2 hq.1
      exact ⟨_, by simp [dN] <;> rfl, _, _, z, ⟨_, _, _, rfl, rfl⟩⟩)
    (fun pre i post z => by
      have k1 := foldl_addAll_len (fun i => rowE high wide i) 13 pre l fun i _ => by rw [rowE_len]; omega
      have k2 := range_at z
      exact ⟨by omega, by omega⟩)
  subst e1 e2
  refine ⟨some (.int rr), some (.int high), some (.int wide), y7, y8, y9, ?_⟩
  unfold b_law_by_lots_1
  simp [rk, c1, c2]
  rw [q]
  simp
  rw [foldl_addAll]
  rfl
theorem tabB_app {s : Sr} {q : Str} {more : Sr} (h : tabB 0 q s = true) : tabB 0 q (s ++ more) = true := by
  cases s with
  | nil => cases h
  | cons c s => exact h
theorem by_lots_ok {n : Nat} {ts : List (Nat × Nat)} {s : Sr} (hs : Cld s) (hn : n ≤ 12) (hp : ∀ p ∈ ts, p.1 < n ∧ p.2 < n) (hz : ts.length ≤ 12) (hr : RkOk n ts) (hmono : ∀ lot ∈ lots ts.length, rkL n (lotTs ts lot) ≤ rkL n (lotTs ts (allT ts))) (htab : tabB 0 "_law_lots.<locals>.<lambda>" s = true) (hne : byLots n ts ≠ []) : m_law_by_lots [dW n ts] s = .ok (dPo (byLots n ts)) s := by
  refine run_snoc (c := .dt (eP (addAll [] (byRaw n ts)))) ?_ hs (dPo_cl _ _)
  have hc : Cld (s ++ [.dt (eP [])]) := cld_dt hs
  have l2 : ∀ u ∈ allT ts, u < ts.length := fun u hu => List.mem_range.mp hu
  have r2 := law_rank_ok hc (show n ≤ 1000 by omega) hp l2 (show (allT ts).length ≤ 1000 by unfold allT; rw [List.length_range]; omega)
  have ha := hr.all
  rw [show eP [] = [] from rfl] at r2 hc
  rw [show dL (allT ts) = .tup ((List.range ts.length).map dN) from rfl] at r2
  have hlots := law_lots_ok (m := ts.length) hc (by omega) (tabB_app htab)
  have hLL : (lots ts.length).length ≤ 4096 := by
    rw [(lots_perm _).length_eq, lotsRaw_len]
    exact Nat.pow_le_pow_right (n := 2) (by decide) hz
  have hlotlen : ∀ lot ∈ lots ts.length, (lotE (rkL n (lotTs ts (allT ts)) - rkL n (lotTs ts lot)) (lot.length - rkL n (lotTs ts lot))).length ≤ 169 := fun lot hl => by
    have hb := lots_mem hl
    exact Nat.le_trans (lotE_len _ _) (Nat.le_trans (Nat.mul_le_mul (show _ ≤ 13 by omega) (show _ ≤ 13 by omega)) (by decide))
  simp [b_law_by_lots, eNew_run, toCell, rgT1 (show ts.length ≤ 16777216 by omega), r2]
  obtain ⟨env', s', q, j3, j4, j5, j6, j7, j8, j9, e1, e2⟩ := sFor_st dL (fun l lot => addAll l (lotE (rkL n (lotTs ts (allT ts)) - rkL n (lotTs ts lot)) (lot.length - rkL n (lotTs ts lot)))) (fun (l : Po) env s1 => ∃ j3 j4 j5 j6 j7 j8 j9, env = [some (dW n ts), some (.ref s.length), some (.int (rkL n (lotTs ts (allT ts)) : Nat)), j3, j4, j5, j6, j7, j8, j9, none] ∧ s1 = s ++ [.dt (eP l)]) (fun l lot => l.length < 10000000 ∧ lot ∈ lots ts.length) (lots ts.length) (t := .name 3) (body := b_law_by_lots_1) (b := []) (env := [some (dW n ts), some (.ref s.length), some (.int (rkL n (lotTs ts (allT ts)) : Nat)), none, none, none, none, none, none, none, none]) (s := s ++ [.dt []]) (it := iSrc (eCall 1 m_law_lots (eCons (eCallV vLen (eCons (eBin oIdx (eVar 0) (eC (.int 2))) eNil)) eNil))) (g := [])
    (by simp [hlots] <;> rfl) ⟨none, none, none, none, none, none, none, rfl, rfl⟩ (fun _ _ _ _ => rfl)
    (fun l lot env s1 ⟨j3, j4, j5, j6, j7, j8, j9, e1, e2⟩ hq => by
      subst e1 e2
      have hb := lots_mem hq.2
      obtain ⟨y4, y5, y6, y7, y8, y9, z⟩ := by_body1 (x4 := j4) (x5 := j5) (x6 := j6) (x7 := j7) (x8 := j8) (x9 := j9) (x10 := none) hs hn hp hb.2.1 (show lot.length ≤ 12 by omega) (show rkL n (lotTs ts (allT ts)) ≤ 12 by omega) (hr.le lot hq.2) (hmono lot hq.2) hq.1
      exact ⟨_, by simp <;> rfl, _, _, z, ⟨_, _, _, _, _, _, _, rfl, rfl⟩⟩)
    (fun pre lot post z => by
      have hpre : ∀ x ∈ pre, x ∈ lots ts.length := fun x hx => by rw [z]; simp [hx]
      have k1 := foldl_addAll_len (fun lot => lotE (rkL n (lotTs ts (allT ts)) - rkL n (lotTs ts lot)) (lot.length - rkL n (lotTs ts lot))) 169 pre [] fun x hx => hlotlen x (hpre x hx)
      have k2 : (lots ts.length).length = pre.length + (post.length + 1) := by rw [z]; simp
      simp only [List.length_nil] at k1
      exact ⟨by omega, by rw [z]; simp⟩)
  rw [foldl_addAll] at e2
  rw [show (lots ts.length).flatMap (fun lot => lotE (rkL n (lotTs ts (allT ts)) - rkL n (lotTs ts lot)) (lot.length - rkL n (lotTs ts lot))) = byRaw n ts from rfl] at e2
  subst e1 e2
  rw [q]
  simp
  have hN : Nk (addAll [] (byRaw n ts)) := addAll_nk nk_nil
  have hl1 := addAll_len (byRaw n ts) []
  have hl2 := flatMap_len_le (fun lot => lotE (rkL n (lotTs ts (allT ts)) - rkL n (lotTs ts lot)) (lot.length - rkL n (lotTs ts lot))) 169 (lots ts.length) hlotlen
  have hbr : (byRaw n ts).length ≤ 4096 * 169 := Nat.le_trans hl2 (Nat.mul_le_mul_right _ hLL)
  simp only [List.length_nil] at hl1
  have hlen : (isS leP ((addAll [] (byRaw n ts)).map (·.1))).length ≤ 4096 * 169 := by
    rw [(isS_perm leP _).length_eq, List.length_map]; omega
  rw [eLc_fm dP (fun k => decide ((getA k (addAll [] (byRaw n ts))).getD 0 ≠ 0)) (fun k => D.tup [dP k, .int ((getA k (addAll [] (byRaw n ts))).getD 0)]) (isS leP ((addAll [] (byRaw n ts)).map (·.1))) (g := []) (by simp [sorted_keys (addAll [] (byRaw n ts)) s (by omega)]) rfl (fun k hk => by
      obtain ⟨v, hv⟩ := getA_mem (sorted_mem.mp hk)
      exact ⟨_, by simp <;> rfl, by simp [idx_snoc s _ k v hv, hv], fun _ => by simp [idx_snoc s _ k v hv, hv]⟩) (by simp only [szl]; omega)]
  simp
  have hd : ∀ l : Po, l ≠ [] → Nk l → vDict [.lst (l.map dE)] (s ++ [.dt (eP (addAll [] (byRaw n ts)))]) = some (dPo l) := by
    intro l hl hn
    cases l with
    | nil => exact absurd rfl hl
    | cons e l =>
      unfold vDict
      simp only [asDk, asDt, asL]
      have h1 : pairsD keyOf ((e :: l).map dE) = none := rfl
      have h2 : ∀ l : Po, pairsD keyT (l.map dE) = some (eP l) := by
        intro l
        induction l with
        | nil => rfl
        | cons e l ih =>
          show pairsD keyT (D.tup [dP e.1, .int e.2] :: l.map dE) = _
          unfold pairsD
          rw [ih]; rfl
      rw [h1, h2]
      simp only [Option.map_some]
      have h3 : ∀ (l acc : Po), Nk (acc ++ l) → mergeD (eP acc) (eP l) = eP (acc ++ l) := by
        intro l
        induction l with
        | nil => intro acc _; simp [mergeD, eP]
        | cons e l ih =>
          intro acc hn
          show mergeD (put (ek e.1) (.int e.2) (eP acc)) (eP l) = _
          rw [put_eP]
          have hk : e.1 ∉ acc.map (·.1) := by
            unfold Nk at hn
            rw [List.map_append, List.nodup_append] at hn
            intro z
            exact hn.2.2 _ z _ (by rw [List.map_cons]; exact List.mem_cons_self ..) rfl
          rw [show putA e.1 e.2 acc = acc ++ [e] by unfold putA; rw [if_neg (fun z => hk ((any_key _ _).mp z))], ih _ (by simpa using hn)]
          simp
      rw [show ([] : List (List Key × D)) = eP [] from rfl, h3 (e :: l) [] hn]
      rfl
  have hx : ((isS leP ((addAll [] (byRaw n ts)).map (·.1))).filter (fun k => decide ((getA k (addAll [] (byRaw n ts))).getD 0 ≠ 0))).map (fun k => D.tup [dP k, .int ((getA k (addAll [] (byRaw n ts))).getD 0)]) = (byLots n ts).map dE := by
    unfold byLots norm
    rw [List.map_map]
    rfl
  have hx2 := hd (byLots n ts) hne (norm_nk hN)
  rw [← hx] at hx2
  simp at hx2
  rw [hx2]
  simp
end L3

/-! M16: alike values are told alike -/
namespace L3
open PySem PySem.Spec PyProof.Rows L2

mutual
inductive Sm : D → Nat → Prop
  | int (i : Int) : Sm (.int i) 1
  | bl (b : Bool) : Sm (.bl b) 1
  | non : Sm .non 1
  | str (x : Str) : SeqAt.shaped (.str x) = true → Sm (.str x) 1
  | tup {l : List D} {n : Nat} : Sms l n → Sm (.tup l) (n + 1)
  | lst {l : List D} {n : Nat} : Sms l n → Sm (.lst l) (n + 1)
  | dt {l : List (List Key × D)} {ks : List (List Int)} {n m : Nat} : l.map (·.1) = ks.map (·.map .inl) → ks.Nodup → Sms (l.map fun p => D.tup (p.1.map keyD)) m → Sms (l.map (·.2)) n → Sm (.dt l) (n + m + 1)
inductive Sms : List D → Nat → Prop
  | nil : Sms [] 0
  | cons {d : D} {l : List D} {n m : Nat} : Sm d n → Sms l m → Sms (d :: l) (n + m)
end
theorem Sm.pos {d : D} {n : Nat} (h : Sm d n) : 1 ≤ n := by
  cases h <;> omega
theorem Sms.len : ∀ {l : List D} {n : Nat}, Sms l n → l.length ≤ n
  | _, _, .nil => Nat.le_refl _
  | _, _, .cons h t => by
    have h1 := h.pos
    have h2 := Sms.len t
    rw [List.length_cons]; omega
theorem Sms.app : ∀ {l m : List D} {a b : Nat}, Sms l a → Sms m b → Sms (l ++ m) (a + b)
  | _, _, _, _, .nil, k => by rw [Nat.zero_add]; exact k
  | _, _, _, _, .cons h t, k => by
    rw [List.cons_append, Nat.add_assoc]
    exact .cons h (Sms.app t k)
theorem Sms.last : ∀ {l : List D} {n : Nat}, Sms l n → l ≠ [] → ∃ k d a b, l = k ++ [d] ∧ Sms k a ∧ Sm d b ∧ n = a + b
  | _, _, .cons (l := []) h .nil, _ => ⟨[], _, 0, _, rfl, .nil, h, by omega⟩
  | _, _, .cons (l := x :: l) h t, _ => by
    obtain ⟨k, d, a, b, e, h1, h2, h3⟩ := Sms.last t (by simp)
    exact ⟨_ :: k, d, _, b, by rw [e]; rfl, .cons h h1, h2, by omega⟩
def dup (d : D) : D := .tup [d, d]
theorem zip_dup (l : List D) : zipL l l = l.map dup := by
  induction l with
  | nil => rfl
  | cons a l ih =>
    show D.tup [a, a] :: zipL l l = _
    rw [ih]; rfl
theorem isLst_sn (s : Sr) (l : List D) : isLst (s ++ [.lst l]) (.ref s.length) = true := by
  unfold isLst
  rw [asL_sn]; rfl
theorem pop_sn {s : Sr} {l : List D} {d : D} : mPop (.ref s.length) [] (s ++ [.lst (l ++ [d])]) = .ok d (s ++ [.lst l]) := by
  unfold mPop
  rw [cellL_sn]
  simp only [snoc_set]
  simp
theorem extend_sn {s : Sr} {l m : List D} (h : l.length + m.length ≤ 16777216) : mExtend (.ref s.length) [.lst m] (s ++ [.lst l]) = .ok .non (s ++ [.lst (l ++ m)]) := by
  unfold mExtend
  rw [cellL_sn]
  simp only [asL, snoc_set, szl]
  rw [if_pos h]
theorem oNe_str {x : Str} {s : Sr} (h : SeqAt.shaped (.str x) = true) : oNe (.str x) (.str x) s = .ok (.bl false) s := by
  have e1 : pyOf s (.str x) = some (.str x) := by unfold pyOf D.py; rfl
  unfold oNe withPy
  rw [show lenNe s (.str x) (.str x) = false from rfl, if_neg (by decide), e1]
  simp only
  rw [h, if_pos (by rfl), show PyData.eqv (.str x) (.str x) = true by unfold PyData.eqv; simp]
  rfl
theorem is_truth_ok {b : Bool} {s : Sr} (hs : Cld s) : m_law_is_truth [.bl b, .bl b] s = .ok (.bl true) s := by
  refine run_rt ?_ hs (by simp)
  cases b
  · simp [b_law_is_truth, show oIs false (.bl false) (.bl false) s = .ok (.bl true) s from rfl]
  · simp [b_law_is_truth, show oIs false (.bl true) (.bl true) s = .ok (.bl true) s from rfl]
theorem cld_of_stack {s : Sr} {l : List D} (h : Cld s) (hl : D.cls s.length l = true) : Cld (s ++ [.lst l]) := cld_snoc h hl
theorem dup_cls {n : Nat} {l : List D} (h : D.cls n l = true) : D.cls n (l.map dup) = true := by
  induction l with
  | nil => rfl
  | cons a l ih =>
    rw [cls_cons, Bool.and_eq_true] at h
    rw [List.map_cons, cls_cons, ih h.2]
    unfold dup
    simp [h.1]
theorem truths (s : Sr) (a b : Bool) : oIn true (.bl true) (.lst [.bl a, .bl b]) s = .ok (.bl (!(a || b))) s := by
  have := oIn_en enB true [a, b] s true (.lst [.bl a, .bl b]) (.inr rfl) (by decide) (fun z h => by cases h)
  rw [show oIn true (.bl true) (.lst [.bl a, .bl b]) s = oIn true (enB.en true) (.lst [.bl a, .bl b]) s from rfl, this]
  cases a <;> cases b <;> rfl
theorem look_at {l : List (List Key × D)} (hn : (l.map (·.1)).Nodup) {p : List Key × D} (hp : p ∈ l) : look p.1 l = some p.2 := by
  induction l with
  | nil => cases hp
  | cons q l ih =>
    rw [List.map_cons, List.nodup_cons] at hn
    obtain ⟨qk, qd⟩ := q
    unfold look
    rcases List.mem_cons.mp hp with rfl | hp
    · rw [if_pos rfl]
    · rw [if_neg (fun z => hn.1 (by show qk ∈ _; rw [z]; exact List.mem_map_of_mem hp))]
      exact ih hn.2 hp
theorem keysOf_keyD : ∀ k : List Key, keysOf (k.map keyD) = some k
  | [] => rfl
  | .inl i :: k => by
    show (keyOf (.int i)).bind _ = _
    simp only [keyOf, Option.bind_some]
    rw [show keysOf (List.map keyD k) = some k from keysOf_keyD k]
    rfl
  | .inr x :: k => by
    show (keyOf (.str x)).bind _ = _
    simp only [keyOf, Option.bind_some]
    rw [show keysOf (List.map keyD k) = some k from keysOf_keyD k]
    rfl
theorem keyD_ints {l : List (List Key × D)} {ks : List (List Int)} (h : l.map (·.1) = ks.map (·.map .inl)) : (l.map fun p => D.tup (p.1.map keyD)) = ks.map (enT enI).en := by
  have e : (l.map fun p => D.tup (p.1.map keyD)) = (l.map (·.1)).map fun k => D.tup (k.map keyD) := by rw [List.map_map]; rfl
  rw [e, h, List.map_map]
  refine List.map_congr_left fun k _ => ?_
  simp only [Function.comp, List.map_map]
  rfl
/-- one turn -/
theorem same_turn {s : Sr} {x1 x2 j3 j4 j5 : Option D} {L : List D} {d : D} {n : Nat} (hs : Cld s) (hd : Sm d n) (hz : L.length + n ≤ 10000000) (hcl : D.cls s.length (L ++ [d]) = true) :
    ∃ k3 k4 k5 kids m, b_law_same_1 [x1, x2, some (.ref s.length), j3, j4, j5, none, none, none] (s ++ [.lst ((L ++ [d]).map dup)]) = .ok (.nx [x1, x2, some (.ref s.length), k3, k4, k5, none, none, none]) (s ++ [.lst ((L ++ kids).map dup)]) ∧ Sms kids m ∧ m < n ∧ D.cls s.length kids = true := by
  have hcl2 : D.cls s.length L = true ∧ d.cl s.length = true := by
    clear hz
    induction L with
    | nil => rw [List.nil_append, cls_cons, Bool.and_eq_true] at hcl; exact ⟨rfl, hcl.1⟩
    | cons a L ih =>
      rw [List.cons_append, cls_cons, Bool.and_eq_true] at hcl
      obtain ⟨h1, h2⟩ := ih hcl.2
      exact ⟨by rw [cls_cons, hcl.1, h1]; rfl, h2⟩
  have hc : Cld (s ++ [.lst (L.map dup)]) := cld_snoc hs (dup_cls hcl2.1)
  have hpop : mPop (.ref s.length) [] (s ++ [.lst ((L ++ [d]).map dup)]) = .ok (dup d) (s ++ [.lst (L.map dup)]) := by
    rw [List.map_append]; exact pop_sn
  have hn := hd.pos
  cases hd with
  | int i =>
    refine ⟨some (.int i), some (.int i), j5, [], 0, ?_, .nil, by omega, rfl⟩
    simp [b_law_same_1, isLst, asL_sn, -List.map_append, hpop]
    simp [dup, show ∀ t, oIs false (.int i) .non t = .ok (.bl false) t from fun _ => rfl, show isA [.int, .str] .int = true by decide]
  | bl b =>
    refine ⟨some (.bl b), some (.bl b), j5, [], 0, ?_, .nil, by omega, rfl⟩
    simp [b_law_same_1, isLst, asL_sn, -List.map_append, hpop]
    simp [dup, show ∀ t, oIs false (.bl b) .non t = .ok (.bl false) t from fun _ => rfl, show isA [.bl] .bl = true by decide, is_truth_ok hc]
  | non =>
    refine ⟨some .non, some .non, j5, [], 0, ?_, .nil, by omega, rfl⟩
    simp [b_law_same_1, isLst, asL_sn, -List.map_append, hpop]
    simp [dup, show ∀ t, oIs false .non .non t = .ok (.bl true) t from fun _ => rfl]
  | str x hx =>
    refine ⟨some (.str x), some (.str x), j5, [], 0, ?_, .nil, by omega, rfl⟩
    simp [b_law_same_1, isLst, asL_sn, -List.map_append, hpop]
    simp [dup, show ∀ t, oIs false (.str x) .non t = .ok (.bl false) t from fun _ => rfl, show isA [.int, .str] .str = true by decide, show isA [.bl] .str = false by decide, show isA [.int] .str = false by decide, oNe_str hx]
  | tup h =>
    rename_i l n
    refine ⟨some (.tup l), some (.tup l), some (.lst [.bl true, .bl false]), l, n, ?_, h, by omega, by rw [cl_tup] at hcl2; exact hcl2.2⟩
    have hl := h.len
    simp [b_law_same_1, isLst, asL_sn, -List.map_append, hpop]
    simp [dup, show ∀ t, oIs false (.tup l) .non t = .ok (.bl false) t from fun _ => rfl, show isA [.bl] .tup = false by decide, show isA [.int, .str] .tup = false by decide, show isA [.dct] .tup = false by decide, show isA [.lst] .tup = false by decide, truths]
    rw [eLc_map dup dup l (g := []) (by simp [hZip, asT, zip_dup]) rfl (fun a ha => ⟨_, by unfold dup; simp <;> rfl, by simp [dup]⟩) (by simp; omega)]
    simp
    rw [extend_sn (by simp; omega)]
    simp [dup, isLst_sn]
  | lst h =>
    rename_i l n
    refine ⟨some (.lst l), some (.lst l), some (.lst [.bl false, .bl true]), l, n, ?_, h, by omega, by rw [cl_lst] at hcl2; exact hcl2.2⟩
    have hl := h.len
    simp [b_law_same_1, isLst, asL_sn, -List.map_append, hpop]
    simp [dup, show ∀ t, oIs false (.lst l) .non t = .ok (.bl false) t from fun _ => rfl, show isA [.bl] .lst = false by decide, show isA [.int, .str] .lst = false by decide, show isA [.dct] .lst = false by decide, show isA [.lst] .lst = true by decide, show isA [.tup] .lst = false by decide, truths]
    rw [eLc_map dup dup l (g := []) (by simp [hZip, asT, asL, gdOf, zip_dup]) rfl (fun a ha => ⟨_, by unfold dup; simp <;> rfl, by simp [dup]⟩) (by simp; omega)]
    simp
    rw [extend_sn (by simp; omega)]
    simp [dup, isLst_sn]
  | dt h1 h2 h3 h4 =>
    rename_i l ks n m
    have hl3 := h3.len
    have hl4 := h4.len
    rw [List.length_map] at hl3 hl4
    have hkeys : ∀ t, vList [.dt l] t = some (.lst (l.map fun p => D.tup (p.1.map keyD))) := fun t => rfl
    have hne : ∀ t, oNe (.lst (l.map fun p => D.tup (p.1.map keyD))) (.lst (l.map fun p => D.tup (p.1.map keyD))) t = .ok (.bl false) t := fun t => by
      rw [keyD_ints h1]
      refine (oNe_en (enLs (enT enI)) ks ks t (by decide)).trans ?_
      simp
    have hnd : (l.map (·.1)).Nodup := by
      rw [h1]
      refine List.Pairwise.map _ (fun a b hab => ?_) h2
      intro z
      refine hab ?_
      have key : ∀ a b : List Int, a.map (Sum.inl : Int → Key) = b.map Sum.inl → a = b := by
        intro a
        induction a with
        | nil => intro b h; cases b with | nil => rfl | cons _ _ => cases h
        | cons x a ih =>
          intro b h
          cases b with
          | nil => cases h
          | cons y b =>
            rw [List.map_cons, List.map_cons] at h
            injection h with h1 h2
            injection h1 with h1
            rw [h1, ih b h2]
      exact key a b z
    have hget : ∀ (p : List Key × D), p ∈ l → ∀ t, oIdx (.dt l) (.tup (p.1.map keyD)) t = .ok p.2 t := fun p hp t => by
      unfold oIdx
      simp only [asQ, asL, dget, asDk, asDt]
      rw [keysOf_keyD, Option.map_some, look_at hnd hp]
    have hclk : ∀ l : List (List Key × D), D.clt s.length l = true → D.cls s.length (l.map (·.2)) = true := by
      intro l
      induction l with
      | nil => intro _; rfl
      | cons p l ih =>
        intro h
        obtain ⟨k, d⟩ := p
        rw [clt_cons, Bool.and_eq_true] at h
        rw [List.map_cons, cls_cons, h.1, ih h.2]; rfl
    have hcd := hcl2.2
    rw [cl_dt] at hcd
    refine ⟨some (.dt l), some (.dt l), j5, (l.map fun p => D.tup (p.1.map keyD)) ++ l.map (·.2), m + n, ?_, h3.app h4, by omega, ?_⟩
    · simp [b_law_same_1, isLst, asL_sn, -List.map_append, hpop]
      simp [dup, show ∀ t, oIs false (.dt l) .non t = .ok (.bl false) t from fun _ => rfl, show isA [.bl] .dct = false by decide, show isA [.int, .str] .dct = false by decide, show isA [.dct] .dct = true by decide, hkeys, hne, asL, zip_dup]
      rw [extend_sn (by simp; omega)]
      simp [isLst_sn]
      rw [eLc_map (fun p : List Key × D => D.tup (p.1.map keyD)) (fun p : List Key × D => dup p.2) l (g := []) (by simp) rfl (fun p hp => ⟨_, by simp <;> rfl, by simp [hget p hp, dup]⟩) (by simp; omega)]
      simp [isLst_sn]
      rw [← List.append_assoc, extend_sn (by simp; omega)]
      simp [dup, isLst_sn]
    · have key : ∀ a b : List D, D.cls s.length a = true → D.cls s.length b = true → D.cls s.length (a ++ b) = true := by
        intro a
        induction a with
        | nil => intro b _ h; exact h
        | cons x a ih =>
          intro b ha hb
          rw [cls_cons, Bool.and_eq_true] at ha
          rw [List.cons_append, cls_cons, ha.1, ih b ha.2 hb]; rfl
      refine key _ _ ?_ (hclk l hcd)
      rw [keyD_ints h1]
      refine cls_map _ fun a => ?_
      show D.cl _ (.tup _) = true
      rw [cl_tup]
      exact cls_map _ fun i => cl_int ..
theorem law_same_ok {d : D} {n : Nat} {s : Sr} (hs : Cld s) (hd : Sm d n) (hz : n ≤ 1000000) (hcl : d.cl s.length = true) : m_law_same [d, d] s = .ok (.bl true) s := by
  have main : ∃ c, b_law_same [some d, some d, none, none, none, none, none, none, none] s = .ok (.rt (.bl true)) (s ++ [c]) := by
    unfold b_law_same
    simp [eNew_run, toCell]
    have hr := whileF_rule (c := eB (eBin oNe (eVar 2) (eLst eNil))) (body := b_law_same_1) (fun m env s' => ∃ j3 j4 j5 L, env = [some d, some d, some (.ref s.length), j3, j4, j5, none, none, none] ∧ s' = s ++ [.lst (L.map dup)] ∧ Sms L m ∧ m ≤ 1000000 ∧ D.cls s.length L = true)
      (fun r => ∃ env, r = .ok (.nx env) (s ++ [.lst []]))
      (fun m env s' ⟨j3, j4, j5, L, h1, h2, h3, h4, h5⟩ => by
        subst h1 h2
        cases L with
        | nil =>
          refine ⟨false, s ++ [.lst []], ?_, ?_⟩
          rotate_left
          · rw [if_neg (by decide)]; exact ⟨_, rfl⟩
          · have e : oNe (.ref s.length) (.lst []) (s ++ [.lst []]) = .ok (.bl false) (s ++ [.lst []]) := by
              unfold oNe
              have e1 : lenNe (s ++ [.lst []]) (.ref s.length) (.lst []) = false := by
                unfold lenNe
                rw [asL_sn]; rfl
              rw [e1, if_neg (by decide)]
              unfold withPy
              have e2 : pyOf (s ++ [.lst []]) (.ref s.length) = some (.list []) := by
                unfold pyOf
                simp only [snoc_get]
                rfl
              have e3 : pyOf (s ++ [.lst []]) (.lst []) = some (.list []) := by unfold pyOf D.py D.pys; rfl
              rw [e2, e3]
              simp only
              rw [show SeqAt.shaped (.list []) = true by decide +kernel, if_pos (by rfl), show PyData.eqv (.list []) (.list []) = true by unfold PyData.eqv PyData.eqvAll; rfl]
              rfl
            simp [e]
        | cons a L =>
          have e : oNe (.ref s.length) (.lst []) (s ++ [.lst ((a :: L).map dup)]) = .ok (.bl true) (s ++ [.lst ((a :: L).map dup)]) := by
            unfold oNe
            have e1 : lenNe (s ++ [.lst ((a :: L).map dup)]) (.ref s.length) (.lst []) = true := by
              unfold lenNe
              rw [asL_sn]
              simp [asL]
            rw [e1, if_pos rfl]
          refine ⟨true, s ++ [.lst ((a :: L).map dup)], by simp [-List.map_cons, e], ?_⟩
          rw [if_pos rfl]
          obtain ⟨k, x, p, q, e2, g1, g2, g3⟩ := h3.last (by simp)
          rw [e2] at h5 ⊢
          have hk := g1.len
          obtain ⟨k3, k4, k5, kids, m', q1, q2, q3, q4⟩ := same_turn (x1 := some d) (x2 := some d) (j3 := j3) (j4 := j4) (j5 := j5) hs g2 (show k.length + q ≤ 10000000 by omega) h5
          rw [q1]
          refine ⟨p + m', by omega, k3, k4, k5, k ++ kids, rfl, rfl, g1.app q2, by omega, ?_⟩
          have key : ∀ a b : List D, D.cls s.length (a ++ [x]) = true → D.cls s.length b = true → D.cls s.length (a ++ b) = true := by
            intro a
            induction a with
            | nil => intro b _ h; exact h
            | cons y a ih =>
              intro b ha hb
              rw [List.cons_append, cls_cons, Bool.and_eq_true] at ha
              rw [List.cons_append, cls_cons, ha.1, ih b ha.2 hb]; rfl
          exact key k kids h5 q4)
      1000000000 n [some d, some d, some (.ref s.length), none, none, none, none, none, none] (s ++ [.lst [dup d]]) (by omega)
      ⟨none, none, none, [d], rfl, rfl, by have := Sms.cons hd .nil; rwa [Nat.add_zero] at this, hz, by rw [cls_cons, hcl]; rfl⟩
    obtain ⟨env, e⟩ := hr
    rw [show (D.tup [d, d] : D) = dup d from rfl, e]
    simp
  obtain ⟨c, e⟩ := main
  exact run_snoc (c := c) e hs (by simp)
theorem sm_dPo : ∀ {l : Po}, Nk l → ∃ n, n ≤ 4 * l.length + 1 ∧ Sm (dPo l) n := by
  intro l hn
  have h1 : Sms ((eP l).map fun p => D.tup (p.1.map keyD)) (l.length * 3) := by
    clear hn
    induction l with
    | nil => exact .nil
    | cons e l ih =>
      have := Sms.cons (Sm.tup (.cons (.int (e.1.1 : Int)) (.cons (.int (e.1.2 : Int)) .nil))) ih
      rw [List.length_cons, Nat.succ_mul, Nat.add_comm]
      exact this
  have h2 : Sms ((eP l).map (·.2)) l.length := by
    clear hn h1
    induction l with
    | nil => exact .nil
    | cons e l ih =>
      have := Sms.cons (Sm.int e.2) ih
      rw [List.length_cons, Nat.add_comm]
      exact this
  refine ⟨l.length + l.length * 3 + 1, by omega, .dt (ks := l.map fun e => [(e.1.1 : Int), (e.1.2 : Int)]) ?_ ?_ h1 h2⟩
  · unfold eP
    rw [List.map_map, List.map_map]
    rfl
  · have : (l.map fun e => [(e.1.1 : Int), (e.1.2 : Int)]) = (l.map (·.1)).map fun k => [(k.1 : Int), (k.2 : Int)] := by rw [List.map_map]; rfl
    rw [this]
    refine List.Pairwise.map _ (fun a b hab => ?_) hn
    intro z
    injection z with z1 z2
    injection z2 with z2 _
    refine hab ?_
    obtain ⟨a1, a2⟩ := a
    obtain ⟨b1, b2⟩ := b
    simp only at z1 z2
    rw [show a1 = b1 by omega, show a2 = b2 by omega]
end L3

/-! M17: sums over all dyes -/
namespace L3
open PySem PySem.Spec PyProof.Rows L2

def kpAll (k : Nat) : Nat → List (List Nat)
  | 0 => [[]]
  | m + 1 => (List.range k).flatMap fun v => (kpAll k m).map (· ++ [v])
theorem kpAll_len (k : Nat) : ∀ m, (kpAll k m).length = k ^ m
  | 0 => rfl
  | m + 1 => by
    have h : ∀ l : List Nat, (l.flatMap fun v => (kpAll k m).map (· ++ [v])).length = l.length * k ^ m := by
      intro l
      induction l with
      | nil => simp
      | cons v l ih => rw [List.flatMap_cons, List.length_append, ih, List.length_map, kpAll_len k m, List.length_cons, Nat.succ_mul]; omega
    show ((List.range k).flatMap _).length = _
    rw [h, List.length_range, Nat.pow_succ, Nat.mul_comm]
theorem kpAll_mem {k : Nat} : ∀ {m : Nat} {d : List Nat}, d ∈ kpAll k m → d.length = m ∧ ∀ v ∈ d, v < k
  | 0, d, h => by
    have : d = [] := List.mem_singleton.mp h
    subst this
    exact ⟨rfl, fun v h => by cases h⟩
  | m + 1, d, h => by
    obtain ⟨v, hv, h⟩ := List.mem_flatMap.mp (show d ∈ (List.range k).flatMap fun v => (kpAll k m).map (· ++ [v]) from h)
    obtain ⟨e, he, rfl⟩ := List.mem_map.mp h
    obtain ⟨h1, h2⟩ := kpAll_mem he
    refine ⟨by simp [h1], fun w hw => ?_⟩
    rcases List.mem_append.mp hw with hw | hw
    · exact h2 w hw
    · rw [List.mem_singleton] at hw; subst hw; exact List.mem_range.mp hv
theorem kp_body2 {v : Nat} {L A : List (List Nat)} {a c e g : Option D} {s : Sr} (hA : ∀ d ∈ A, d.length ≤ 1000) (hz : L.length + A.length ≤ 1000000) :
    b_law_kp_all_2 [a, c, some (.lst (A.map dL)), e, some (.lst (L.map dL)), some (.int v), g] s = .ok (.nx [a, c, some (.lst (A.map dL)), e, some (.lst ((L ++ A.map (· ++ [v])).map dL)), some (.int v), g]) s := by
  unfold b_law_kp_all_2
  simp
  rw [eLc_map dL (fun d => dL (d ++ [v])) A (g := []) (by simp) rfl (fun d hd => ⟨_, by simp <;> rfl, by
    have := hA d hd
    simp [dL]
    rw [oAdd_tup (by simp; omega)]
    simp [dN]⟩) (by simp; omega)]
  simp
  rw [oAdd_lst (by simp; omega)]
  simp
theorem kp_all_ok {k m : Nat} {s : Sr} (hs : Cld s) (hk : k ≤ 1000) (hm : m ≤ 1000) (hz : ∀ i, i ≤ m → k ^ i ≤ 100000) : m_law_kp_all [.int m, .int k] s = .ok (.lst ((kpAll k m).map dL)) s := by
  refine run_rt ?_ hs (by rw [cl_lst]; exact cls_map _ (dL_cl _))
  simp [b_law_kp_all]
  obtain ⟨env', s', e, j3, j4, j5, h1, h2⟩ := sFor_st dN (fun (i : Nat) (_ : Nat) => i + 1) (fun (i : Nat) env s1 => ∃ j3 j4 j5, env = [some (.int m), some (.int k), some (.lst ((kpAll k i).map dL)), j3, j4, j5, none] ∧ s1 = s) (fun i _ => i < m) (List.range m) (t := .name 3) (body := b_law_kp_all_1) (b := 0) (env := [some (.int m), some (.int k), some (.lst [.tup []]), none, none, none, none]) (s := s) (it := iArgs hRange1 (eCons (eVar 0) eNil)) (g := [])
    (by simp [hr1 (show m ≤ 16777216 by omega)]) ⟨none, none, none, rfl, rfl⟩ (fun _ _ _ _ => rfl)
    (fun i a env s1 ⟨j3, j4, j5, h1, h2⟩ hq => by
      subst h1 h2
      have hp := hz (i + 1) (by omega)
      obtain ⟨env2, s2, q, k5, L, e1, e2, e3⟩ := sFor_st dN (fun (L : List (List Nat)) v => L ++ (kpAll k i).map (· ++ [v])) (fun (L : List (List Nat)) env s2 => ∃ k5 L', env = [some (.int m), some (.int k), some (.lst ((kpAll k i).map dL)), some (dN a), some (.lst (L.map dL)), k5, none] ∧ s2 = s1 ∧ L' = L) (fun L _ => L.length + (kpAll k i).length ≤ 1000000) (List.range k) (t := .name 5) (body := b_law_kp_all_2) (b := []) (env := [some (.int m), some (.int k), some (.lst ((kpAll k i).map dL)), some (dN a), some (.lst []), j5, none]) (s := s1) (it := iArgs hRange1 (eCons (eVar 1) eNil)) (g := [])
        (by simp [hr1 (show k ≤ 16777216 by omega)]) ⟨j5, [], rfl, rfl, rfl⟩ (fun _ _ _ _ => rfl)
        (fun L v env s2 ⟨k5, L', e1, e2, e3⟩ hq => by
          subst e1 e2
          exact ⟨_, by simp [dN] <;> rfl, _, _, kp_body2 (fun d hd => by have := (kpAll_mem hd).1; omega) hq, ⟨_, _, rfl, rfl, rfl⟩⟩)
        (fun pre v post z => by
          have key : ∀ (P : List Nat) (L : List (List Nat)), (P.foldl (fun (L : List (List Nat)) v => L ++ (kpAll k i).map (· ++ [v])) L).length = L.length + P.length * k ^ i := by
            intro P
            induction P with
            | nil => intro L; simp
            | cons v P ih =>
              intro L
              rw [List.foldl_cons, ih, List.length_append, List.length_map, kpAll_len, List.length_cons, Nat.succ_mul]; omega
          have k2 := range_at z
          rw [key, kpAll_len]
          simp only [List.length_nil]
          have : pre.length * k ^ i ≤ k * k ^ i := Nat.mul_le_mul_right _ (by omega)
          rw [Nat.pow_succ, Nat.mul_comm] at hp
          have := hz i (by omega)
          omega)
      have hf : ∀ (P : List Nat) (L : List (List Nat)), P.foldl (fun (L : List (List Nat)) v => L ++ (kpAll k i).map (· ++ [v])) L = L ++ P.flatMap fun v => (kpAll k i).map (· ++ [v]) := by
        intro P
        induction P with
        | nil => intro L; simp
        | cons v P ih => intro L; rw [List.foldl_cons, ih, List.flatMap_cons, List.append_assoc]
      rw [hf, List.nil_append] at e1
      subst e1 e2
      refine ⟨_, by simp <;> rfl, _, _, ?_, ⟨some (dN a), some (.lst ((kpAll k (i + 1)).map dL)), k5, rfl, rfl⟩⟩
      unfold b_law_kp_all_1
      simp
      rw [q]
      simp
      rfl)
    (fun pre i post q => by
      have := range_at q
      rw [foldl_succ]; omega)
  rw [foldl_succ, List.length_range, Nat.zero_add] at h1
  subst h1 h2
  rw [e]
  simp
def sameN (ts : List (Nat × Nat)) (d : List Nat) : Nat := (ts.filter fun p => decide (gt d p.1 = gt d p.2)).length
theorem isDye_same {n k : Nat} {ts : List (Nat × Nat)} {d : List Nat} (h : ∀ v ∈ d, v < k) : isDye n ts k d = decide (sameN ts d = 0) := by
  unfold isDye sameN
  rw [List.all_eq_true.mpr fun v hv => decide_eq_true (h v hv), Bool.true_and]
  by_cases c : (ts.filter fun p => decide (gt d p.1 = gt d p.2)).length = 0
  · rw [decide_eq_true c]
    refine List.all_eq_true.mpr fun p hp => ?_
    have := List.filter_eq_nil_iff.mp (List.eq_nil_of_length_eq_zero c) p hp
    simpa using this
  · rw [decide_eq_false c]
    rw [List.all_eq_false]
    have h0 : (ts.filter fun p => decide (gt d p.1 = gt d p.2)) ≠ [] := fun z => c (by rw [z]; rfl)
    obtain ⟨p, hp⟩ := List.exists_mem_of_ne_nil _ h0
    obtain ⟨h1, h2⟩ := List.mem_filter.mp hp
    exact ⟨p, h1, by simpa using h2⟩
structure Acc3 where
  a : Int
  b : Int
  c : Int
def dyeStep (ts : List (Nat × Nat)) (x : Acc3) (d : List Nat) : Acc3 := ⟨x.a + 2 ^ sameN ts d, x.b + 3 ^ sameN ts d, x.c + if sameN ts d = 0 then 1 else 0⟩
theorem vInt_bl (b : Bool) (s : Sr) : vInt [.bl b] s = .ok (.int (if b then 1 else 0)) s := rfl
theorem dyes_body {r : Nat → List D → Sr → R D} {n k : Nat} {ts : List (Nat × Nat)} {d : List Nat} {x : Acc3} {j6 : Option D} {s : Sr} (hs : Cld s) (h : WebOk n ts) (hk : k ≤ 1000000) (hd : d.length = n) (hv : ∀ v ∈ d, v < k) :
    b_law_kp_dyes_right_1 r [some (dW n ts), some (.int k), some (.int x.a), some (.int x.b), some (.int x.c), some (dL d), j6, none, none, none, none] s =
      .ok (.nx [some (dW n ts), some (.int k), some (.int (dyeStep ts x d).a), some (.int (dyeStep ts x d).b), some (.int (dyeStep ts x d).c), some (dL d), some (.int (sameN ts d)), none, none, none, none]) s := by
  have h12 := h.t12
  have hsl : sameN ts d ≤ ts.length := List.length_filter_le ..
  unfold b_law_kp_dyes_right_1
  simp
  rw [eLc_fm dP (fun p => decide (gt d p.1 = gt d p.2)) (fun _ => D.int 1) ts (g := []) (by simp) rfl (fun p hp => by
    have hq := h.pr p hp
    refine ⟨[some (dW n ts), some (.int k), some (.int x.a), some (.int x.b), some (.int x.c), some (dL d), j6, none, none, some (.int p.1), some (.int p.2)], by unfold dP; simp, ?_, fun _ => by simp⟩
    have e1 : oIdx (dL d) (.int p.1) s = .ok (.int (gt d p.1)) s := oIdx_tup (gt_map (by omega))
    have e2 : oIdx (dL d) (.int p.2) s = .ok (.int (gt d p.2)) s := oIdx_tup (gt_map (by omega))
    simp [e1, e2]
    omega) (by simp; omega)]
  simp only [bind_ok, vLen_lst, List.length_map]
  rw [show (ts.filter fun p => decide (gt d p.1 = gt d p.2)).length = sameN ts d from rfl]
  simp [law_power_ok hs (show smallI 2 = true by decide) (show sameN ts d ≤ 1000 by omega), law_power_ok hs (show smallI 3 = true by decide) (show sameN ts d ≤ 1000 by omega), vInt_bl, is_dyeing_ok hs h hk hd, isDye_same (n := n) (ts := ts) hv]
  by_cases c : sameN ts d = 0 <;> simp [c, dyeStep]
theorem sums_map {α : Type} (f : α → Int) : ∀ (l : List α) (c : Int), l.foldl (fun c a => c + f a) c = c + (l.map f).sum
  | [], c => by simp
  | a :: l, c => by rw [List.foldl_cons, sums_map f l, List.map_cons, List.sum_cons, Int.add_assoc]
theorem dye_fold (ts : List (Nat × Nat)) : ∀ (L : List (List Nat)) (x : Acc3), L.foldl (dyeStep ts) x = ⟨x.a + (L.map fun d => (2 : Int) ^ sameN ts d).sum, x.b + (L.map fun d => (3 : Int) ^ sameN ts d).sum, x.c + (L.map fun d => if sameN ts d = 0 then (1 : Int) else 0).sum⟩
  | [], x => by simp
  | d :: L, x => by
    rw [List.foldl_cons, dye_fold ts L]
    simp only [dyeStep, List.map_cons, List.sum_cons, Int.add_assoc]
def dyeSum (ts : List (Nat × Nat)) (n k : Nat) (w : Int) : Int := ((kpAll k n).map fun d => w ^ sameN ts d).sum
def dyeNum (ts : List (Nat × Nat)) (n k : Nat) : Int := ((kpAll k n).map fun d => if sameN ts d = 0 then (1 : Int) else 0).sum
def pcs (n : Nat) (ts : List (Nat × Nat)) : Nat := (piecesP n (lotTs ts (allT ts))).length
theorem dyes_right_ok {r : Nat → List D → Sr → R D} {n k : Nat} {ts : List (Nat × Nat)} {s : Sr} (hr : ∀ j, PbtOk 12 (r j)) (hs : Cld s) (h : WebOk n ts) (hk1 : 1 ≤ k) (hk : k ≤ 3)
    (H1 : dyeSum ts n k 2 = (k : Int) ^ pcs n ts * evP (btP ts.length n ts) (1 + k) 2) (H2 : mdye n ts k = dyeNum ts n k) (H3 : k = 2 → dyeSum ts n k 3 = (k : Int) ^ pcs n ts * 2 ^ rkL n (lotTs ts (allT ts)) * evP (btP ts.length n ts) 2 3) :
    m_law_kp_dyes_right r [dW n ts, .int k] s = .ok (.bl true) s := by
  have h8 := h.n8
  have h12 := h.t12
  have hpc : pcs n ts ≤ 8 := by
    unfold pcs
    rw [piecesP_len]
    have := dst_len (namesOf n (lotTs ts (allT ts)))
    rw [namesOf_len] at this
    omega
  refine run_rt ?_ hs (by simp)
  unfold b_law_kp_dyes_right
  simp
  obtain ⟨env', s', e, j5, j6, h1, h2⟩ := sFor_st dL (dyeStep ts) (fun (x : Acc3) env s1 => ∃ j5 j6, env = [some (dW n ts), some (.int k), some (.int x.a), some (.int x.b), some (.int x.c), j5, j6, none, none, none, none] ∧ s1 = s) (fun _ d => d ∈ kpAll k n) (kpAll k n) (t := .name 5) (body := b_law_kp_dyes_right_1 r) (b := ⟨0, 0, 0⟩) (env := [some (dW n ts), some (.int k), some (.int 0), some (.int 0), some (.int 0), none, none, none, none, none, none]) (s := s) (it := iSrc (eCall 2 m_law_kp_all (eCons (eBin oIdx (eVar 0) (eC (.int 1))) (eCons (eVar 1) eNil)))) (g := [])
    (by simp [kp_all_ok (m := n) (k := k) hs (by omega) (by omega) (fun i hi => Nat.le_trans (Nat.pow_le_pow_left hk i) (Nat.le_trans (Nat.pow_le_pow_right (n := 3) (by decide) (show i ≤ 8 by omega)) (by decide)))]) ⟨none, none, rfl, rfl⟩ (fun _ _ _ _ => rfl)
    (fun x d env s1 ⟨j5, j6, h1, h2⟩ hq => by
      subst h1 h2
      obtain ⟨q1, q2⟩ := kpAll_mem hq
      exact ⟨_, by simp <;> rfl, _, _, dyes_body hs h (by omega) q1 q2, ⟨_, _, rfl, rfl⟩⟩)
    (fun pre d post z => by rw [z]; simp)
  rw [dye_fold] at h1
  simp only [Int.zero_add] at h1
  rw [show ((kpAll k n).map fun d => (2 : Int) ^ sameN ts d).sum = dyeSum ts n k 2 from rfl, show ((kpAll k n).map fun d => (3 : Int) ^ sameN ts d).sum = dyeSum ts n k 3 from rfl, show ((kpAll k n).map fun d => if sameN ts d = 0 then (1 : Int) else 0).sum = dyeNum ts n k from rfl] at h1
  subst h1 h2
  rw [e]
  have l2 : ∀ u ∈ allT ts, u < ts.length := fun u hu => List.mem_range.mp hu
  have lp : (allT ts).Pairwise (· < ·) := List.pairwise_lt_range
  have lz : (allT ts).length ≤ 1000 := by unfold allT; rw [List.length_range]; omega
  have pc := pieces_ok hs h l2 lp lz
  have rk := law_rank_ok hs (show n ≤ 1000 by omega) (fun p hp => by have := h.pr p hp; omega) l2 lz
  rw [show dL (allT ts) = .tup ((List.range ts.length).map dN) from rfl] at pc rk
  have vl : vLen [dG (piecesP n (lotTs ts (allT ts)))] s' = .ok (.int (pcs n ts)) s' := by unfold dG pcs; simp
  have w1 := worth_ok (x := 1 + (k : Int)) (y := 2) (r := fun j => r (j + 1)) (hr 2) hs h (by omega) (by decide)
  have w2 := worth_ok (x := 2) (y := 3) (r := fun j => r (j + 1)) (hr 2) hs h (by decide) (by decide)
  have kp := law_power_ok (b := (k : Int)) (k := pcs n ts) hs (small_of (n := 3) (by omega) (by decide)) (by omega)
  have sm : smallI ((k : Int) ^ pcs n ts) = true := pow40 (by omega) (by omega)
  have md := many_dyeings_ok hs h (show k ≤ 1000000 by omega)
  have p2 := law_power_ok (b := 2) (k := rkL n (lotTs ts (allT ts))) hs (by decide) (by have := rkL_le n (lotTs ts (allT ts)); omega)
  have sm2 : smallI ((k : Int) ^ pcs n ts * 2 ^ rkL n (lotTs ts (allT ts))) = true := by
    refine small_of (n := 3 ^ 8 * 2 ^ 8) ?_ (by decide)
    rw [Int.natAbs_mul, Int.natAbs_pow, Int.natAbs_pow]
    have := rkL_le n (lotTs ts (allT ts))
    exact Nat.mul_le_mul (Nat.le_trans (Nat.pow_le_pow_left (show (k : Int).natAbs ≤ 3 by omega) _) (Nat.pow_le_pow_right (by decide) hpc)) (Nat.pow_le_pow_right (n := 2) (by decide) (by omega))
  simp [rgT1 (show ts.length ≤ 16777216 by omega), pc, vl, kp]
  rw [w1]
  simp
  rw [oMul_int (.inl sm)]
  simp [rgT1 (show ts.length ≤ 16777216 by omega), H1, md, H2, rk, oMod_int (show (0 : Int) < 2 by decide)]
  by_cases c : (k : Int) % 2 = 1
  · simp [c]
  · have hk2 : k = 2 := by omega
    simp [c, p2]
    rw [oMul_int (.inl sm)]
    simp [oDiv_int (i := (k : Int)) (show (0 : Int) < 2 by decide) (by decide)]
    rw [show (1 + (k : Int) / 2) = 2 by omega, w2]
    simp
    rw [oMul_int (.inl sm2)]
    simp [H3 hk2]
end L3

/-! M18: sums over all flows -/
namespace L3
open PySem PySem.Spec PyProof.Rows L2

def toI (l : List Nat) : List Int := l.map fun (v : Nat) => (v : Int)
theorem dL_toI (l : List Nat) : dL l = .tup ((toI l).map D.int) := by
  unfold dL toI
  rw [List.map_map]
  rfl
def kir (n : Nat) (ts : List (Nat × Nat)) (k : Nat) (vs : List Nat) : Bool := (sumsOf n ts (toI vs)).all fun (v : Int) => decide (v % k = 0)
def idleN (vs : List Nat) : Nat := (vs.filter fun v => decide (v = 0)).length
structure Acc2 where
  a : Int
  b : Int
def flowStep (n : Nat) (ts : List (Nat × Nat)) (k : Nat) (x : Acc2) (vs : List Nat) : Acc2 := if kir n ts k vs then ⟨x.a + 2 ^ idleN vs, x.b + if idleN vs = 0 then 1 else 0⟩ else x
theorem isCur_idle {n k : Nat} {ts : List (Nat × Nat)} {vs : List Nat} (h : ∀ v ∈ vs, v < k) (hk : kir n ts k vs = true) : isCur n ts k (toI vs) = decide (idleN vs = 0) := by
  unfold isCur
  rw [show ((sumsOf n ts (toI vs)).all fun (v : Int) => decide (v % k = 0)) = true from hk, Bool.and_true]
  unfold idleN toI
  by_cases c : (vs.filter fun v => decide (v = 0)).length = 0
  · rw [decide_eq_true c, List.all_map]
    refine List.all_eq_true.mpr fun v hv => ?_
    have := List.filter_eq_nil_iff.mp (List.eq_nil_of_length_eq_zero c) v hv
    have hk := h v hv
    simp only [Function.comp, Bool.and_eq_true, decide_eq_true_eq] at this ⊢
    omega
  · rw [decide_eq_false c, List.all_map, List.all_eq_false]
    have h0 : (vs.filter fun v => decide (v = 0)) ≠ [] := fun z => c (by rw [z]; rfl)
    obtain ⟨v, hv⟩ := List.exists_mem_of_ne_nil _ h0
    obtain ⟨h1, h2⟩ := List.mem_filter.mp hv
    refine ⟨v, h1, ?_⟩
    have := of_decide_eq_true h2
    subst this
    simp
theorem flow_sums {r : Nat → List D → Sr → R D} {l : List Int} {q : (Nat × Nat) × Int} {a b c d e j : Option D} {s : Sr} (h1 : q.1.1 < l.length) (h2 : q.1.2 < l.length) :
    b_law_kp_flows_right_2 r [a, b, c, d, e, some (.ref s.length), some (.int q.1.1), some (.int q.1.2), some (.int q.2), j] (s ++ [.lst (l.map D.int)]) = .ok (.nx [a, b, c, d, e, some (.ref s.length), some (.int q.1.1), some (.int q.1.2), some (.int q.2), j]) (s ++ [.lst ((kStep l q).map D.int)]) := by
  unfold b_law_kp_flows_right_2
  simp only [sThen_run, sSet_run, eBin_run, eVar_succ, eVar_zero, bind_ok, idx_sn h1, oSub_int, set_sn h1, thenR_nx, sSkip_run]
  rw [idx_sn (l := l.set q.1.1 (gI l q.1.1 - q.2)) (by simpa using h2)]
  simp only [bind_ok, oAdd_int]
  rw [set_sn (l := l.set q.1.1 (gI l q.1.1 - q.2)) (by simpa using h2)]
  rfl
theorem beqs_refl : ∀ l : List Int, D.beqs (l.map D.int) (l.map D.int) = true
  | [] => by unfold D.beqs; rfl
  | a :: l => by
    show D.beqs (D.int a :: l.map D.int) (D.int a :: l.map D.int) = true
    unfold D.beqs D.beq
    rw [beqs_refl l]; simp
theorem guard_sn (s : Sr) (l : List Int) : ([(s.length, l.map D.int)] : List (Nat × List D)).all (guardOk (s ++ [.lst (l.map D.int)])) = true := by
  unfold List.all List.all
  unfold guardOk
  simp only [snoc_get, beqs_refl]
  rfl
theorem src_sn (s : Sr) (l : List D) : srcD (s ++ [.lst l]) (.ref s.length) = some ⟨l, [(s.length, l)]⟩ := by
  unfold srcD
  simp only [snoc_get]
theorem flows_body {r : Nat → List D → Sr → R D} {n k : Nat} {ts : List (Nat × Nat)} {vs : List Nat} {x : Acc2} {j5 j6 j7 j8 j9 : Option D} {s : Sr} (hs : Cld s) (h : WebOk n ts) (hk1 : 1 ≤ k) (hk : k ≤ 1000000) (hd : vs.length = ts.length) (hv : ∀ v ∈ vs, v < k) :
    ∃ y5 y6 y7 y8 y9 c, b_law_kp_flows_right_1 r [some (dW n ts), some (.int k), some (.int x.a), some (.int x.b), some (dL vs), j5, j6, j7, j8, j9] s =
      .ok (.nx [some (dW n ts), some (.int k), some (.int (flowStep n ts k x vs).a), some (.int (flowStep n ts k x vs).b), some (dL vs), y5, y6, y7, y8, y9]) (s ++ [c]) ∧ Cld (s ++ [c]) := by
  have h8 := h.n8
  have h12 := h.t12
  have hp : ∀ p ∈ ts, p.1 < n ∧ p.2 < n := fun p hp => by have := h.pr p hp; omega
  obtain ⟨env', s', q, y6, y7, y8, e1, e2, e3⟩ := sFor_st dQ kStep (fun (l : List Int) env s1 => ∃ y6 y7 y8, env = [some (dW n ts), some (.int k), some (.int x.a), some (.int x.b), some (dL vs), some (.ref s.length), y6, y7, y8, j9] ∧ s1 = s ++ [.lst (l.map D.int)] ∧ l.length = n) (fun l q => q.1.1 < n ∧ q.1.2 < n) (ts.zip (toI vs)) (t := .tup [.tup [.name 6, .name 7], .name 8]) (body := b_law_kp_flows_right_2 r) (b := List.replicate n 0) (env := [some (dW n ts), some (.int k), some (.int x.a), some (.int x.b), some (dL vs), some (.ref s.length), j6, j7, j8, j9]) (s := s ++ [.lst ((List.replicate n (0 : Int)).map D.int)]) (it := iArgs hZip (eCons (eBin oIdx (eVar 0) (eC (.int 2))) (eCons (eVar 4) eNil))) (g := [])
    (by simp only [iArgs_run, eCons_run, eBin_run, eVar_zero, eVar_succ, eC_run, bind_ok, idxW2, eNil_run, dL_toI, zip_flow]) ⟨j6, j7, j8, rfl, rfl, List.length_replicate ..⟩ (fun _ _ _ _ => rfl)
    (fun l q env s1 ⟨y6, y7, y8, h1, h2, h3⟩ hq => by
      subst h1 h2
      exact ⟨_, by unfold dQ dP; simp <;> rfl, _, _, flow_sums (by omega) (by omega), ⟨_, _, _, rfl, rfl, by rw [kStep_len]; exact h3⟩⟩)
    (fun pre q post z => by
      have : q ∈ ts.zip (toI vs) := by rw [z]; simp
      exact hp q.1 (List.of_mem_zip this).1)
  have hsum : (ts.zip (toI vs)).foldl kStep (List.replicate n 0) = sumsOf n ts (toI vs) := rfl
  rw [hsum] at e2 e3
  have hc : Cld (s ++ [.lst ((sumsOf n ts (toI vs)).map D.int)]) := cld_lst hs
  subst e1 e2
  rw [List.map_replicate] at q
  have hcomp : ∀ env8 : Option D, eLc (iSrc (eVar 5)) [8] (.name 8) (eB (eBin oNe (eBin oMod (eCallV vInt (eCons (eVar 8) eNil)) (eVar 1)) (eC (.int 0)))) (eC (.int 1)) [some (dW n ts), some (.int k), some (.int x.a), some (.int x.b), some (dL vs), some (.ref s.length), y6, y7, env8, j9] (s ++ [.lst ((sumsOf n ts (toI vs)).map D.int)]) = .ok (.lst (((sumsOf n ts (toI vs)).filter fun (v : Int) => !decide (v % k = 0)).map fun _ => D.int 1)) (s ++ [.lst ((sumsOf n ts (toI vs)).map D.int)]) := fun env8 => by
    rw [eLc_fm D.int (fun (v : Int) => !decide (v % k = 0)) (fun _ => D.int 1) (sumsOf n ts (toI vs)) (g := [(s.length, (sumsOf n ts (toI vs)).map D.int)]) (by simp [src_sn]) (guard_sn _ _) (fun v hv => ⟨_, by simp <;> rfl, by simp [oMod_int (show (0 : Int) < k by omega)], fun _ => by simp⟩) (by rw [sumsOf_len]; simp; omega)]
  have heq : ∀ (l : List Int) t, oEq (.lst (l.map fun _ => D.int 1)) (.lst []) t = .ok (.bl (decide (l = []))) t := fun l t => by
    have := oEq_en (enLs enI) (l.map fun _ => (1 : Int)) [] t (by decide)
    rw [show (enLs enI).en (l.map fun _ => (1 : Int)) = .lst (l.map fun _ => D.int 1) by
      show D.lst ((l.map fun _ => (1 : Int)).map D.int) = _
      rw [List.map_map]; rfl] at this
    refine this.trans ?_
    cases l <;> simp
  have hkir : decide (((sumsOf n ts (toI vs)).filter fun (v : Int) => !decide (v % k = 0)) = []) = kir n ts k vs := by
    unfold kir
    by_cases c : ((sumsOf n ts (toI vs)).filter fun (v : Int) => !decide (v % k = 0)) = []
    · rw [decide_eq_true c]
      refine (List.all_eq_true.mpr fun v hv => ?_).symm
      have := List.filter_eq_nil_iff.mp c v hv
      simpa using this
    · rw [decide_eq_false c]
      obtain ⟨v, hv⟩ := List.exists_mem_of_ne_nil _ c
      obtain ⟨h1, h2⟩ := List.mem_filter.mp hv
      refine (List.all_eq_false.mpr ⟨v, h1, by simpa using h2⟩).symm
  unfold b_law_kp_flows_right_1
  have hz0 : nMul (.lst [.int 0]) (.int n) s = some (.lst (List.replicate n (D.int 0))) := by
    rw [nMul_zero (show n ≤ 1000 by omega), List.map_replicate]
  simp [eNew_run, hz0, toCell]
  rw [q]
  simp
  rw [hcomp y8]
  simp only [bind_ok, heq, asB_run, hkir]
  unfold flowStep
  cases hk2 : kir n ts k vs with
  | false => exact ⟨some (.ref s.length), y6, y7, y8, j9, _, by simp <;> rfl, hc⟩
  | true =>
    have hil : idleN vs ≤ vs.length := List.length_filter_le ..
    have hid : ∀ x5 x9, eLc (iSrc (eVar 4)) [8] (.name 8) (eB (eBin oEq (eVar 8) (eC (.int 0)))) (eC (.int 1)) [some (dW n ts), some (.int k), some (.int x.a), some (.int x.b), some (dL vs), x5, y6, y7, y8, x9] (s ++ [.lst ((sumsOf n ts (toI vs)).map D.int)]) = .ok (.lst ((vs.filter fun v => decide (v = 0)).map fun _ => D.int 1)) (s ++ [.lst ((sumsOf n ts (toI vs)).map D.int)]) := fun x5 x9 => by
      rw [eLc_fm dN (fun v => decide (v = 0)) (fun _ => D.int 1) vs (g := []) (by unfold dL; simp) rfl (fun v hv => ⟨_, by simp [dN] <;> rfl, by simp <;> omega, fun _ => by simp⟩) (by simp; omega)]
    have pw := law_power_ok (b := 2) (k := idleN vs) hc (by decide) (by omega)
    have ic := is_current_ok (vs := toI vs) hc h hk1 hk (by unfold toI; rw [List.length_map]; exact hd)
    rw [isCur_idle hv hk2, ← dL_toI] at ic
    have hlen : (vs.filter fun v => decide (v = 0)).length = idleN vs := rfl
    refine ⟨some (.ref s.length), y6, y7, y8, some (.int (idleN vs)), _, ?_, hc⟩
    simp [hid, hlen, pw, vInt_bl, ic]
theorem flow_fold (n : Nat) (ts : List (Nat × Nat)) (k : Nat) : ∀ (L : List (List Nat)) (x : Acc2), L.foldl (flowStep n ts k) x = ⟨x.a + ((L.filter (kir n ts k)).map fun v => (2 : Int) ^ idleN v).sum, x.b + ((L.filter (kir n ts k)).map fun v => if idleN v = 0 then (1 : Int) else 0).sum⟩
  | [], x => by simp
  | v :: L, x => by
    rw [List.foldl_cons, flow_fold n ts k L]
    unfold flowStep
    cases hk : kir n ts k v with
    | true => rw [if_pos rfl, List.filter_cons_of_pos hk]; simp only [List.map_cons, List.sum_cons, Int.add_assoc]
    | false => rw [if_neg (by decide), List.filter_cons_of_neg (by rw [hk]; decide)]
def flowSum (n : Nat) (ts : List (Nat × Nat)) (k : Nat) (w : Int) : Int := (((kpAll k ts.length).filter (kir n ts k)).map fun v => w ^ idleN v).sum
def flowNum (n : Nat) (ts : List (Nat × Nat)) (k : Nat) : Int := (((kpAll k ts.length).filter (kir n ts k)).map fun v => if idleN v = 0 then (1 : Int) else 0).sum
theorem flows_right_ok {r : Nat → List D → Sr → R D} {n k : Nat} {ts : List (Nat × Nat)} {s : Sr} (hr : ∀ j, PbtOk 12 (r j)) (hs : Cld s) (h : WebOk n ts) (hrk : RkOk n ts) (h6 : ts.length ≤ 8) (hk1 : 1 ≤ k) (hk : k ≤ 3)
    (H1 : flowSum n ts k 2 = evP (btP ts.length n ts) 2 (1 + k)) (H2 : pSum (curNum n ts) k = flowNum n ts k) :
    m_law_kp_flows_right r [dW n ts, .int k] s = .ok (.bl true) s := by
  have main : ∃ more, b_law_kp_flows_right r [some (dW n ts), some (.int k), none, none, none, none, none, none, none, none] s = .ok (.rt (.bl true)) (s ++ more) := by
    unfold b_law_kp_flows_right
    simp
    obtain ⟨env', s', e, j4, j5, j6, j7, j8, j9, more, h1, h2, h3⟩ := sFor_st dL (flowStep n ts k) (fun (x : Acc2) env s1 => ∃ j4 j5 j6 j7 j8 j9 more, env = [some (dW n ts), some (.int k), some (.int x.a), some (.int x.b), j4, j5, j6, j7, j8, j9] ∧ s1 = s ++ more ∧ Cld s1) (fun _ v => v ∈ kpAll k ts.length) (kpAll k ts.length) (t := .name 4) (body := b_law_kp_flows_right_1 r) (b := ⟨0, 0⟩) (env := [some (dW n ts), some (.int k), some (.int 0), some (.int 0), none, none, none, none, none, none]) (s := s) (it := iSrc (eCall 2 m_law_kp_all (eCons (eCallV vLen (eCons (eBin oIdx (eVar 0) (eC (.int 2))) eNil)) (eCons (eVar 1) eNil)))) (g := [])
      (by simp [kp_all_ok (m := ts.length) (k := k) hs (by omega) (by omega) (fun i hi => Nat.le_trans (Nat.pow_le_pow_left hk i) (Nat.le_trans (Nat.pow_le_pow_right (n := 3) (by decide) (show i ≤ 8 by omega)) (by decide)))]) ⟨none, none, none, none, none, none, [], rfl, by simp, hs⟩ (fun _ _ _ _ => rfl)
      (fun x v env s1 ⟨j4, j5, j6, j7, j8, j9, more, h1, h2, h3⟩ hq => by
        subst h1 h2
        obtain ⟨q1, q2⟩ := kpAll_mem hq
        obtain ⟨y5, y6, y7, y8, y9, c, z, zc⟩ := flows_body (r := r) (x := x) (j5 := j5) (j6 := j6) (j7 := j7) (j8 := j8) (j9 := j9) h3 h hk1 (show k ≤ 1000000 by omega) q1 q2
        exact ⟨_, by simp <;> rfl, _, _, z, ⟨_, _, _, _, _, _, more ++ [c], rfl, by rw [List.append_assoc], by rw [List.append_assoc] at zc; rwa [List.append_assoc]⟩⟩)
      (fun pre d post z => by rw [z]; simp)
    rw [flow_fold] at h1
    simp only [Int.zero_add] at h1
    rw [show (((kpAll k ts.length).filter (kir n ts k)).map fun v => (2 : Int) ^ idleN v).sum = flowSum n ts k 2 from rfl, show (((kpAll k ts.length).filter (kir n ts k)).map fun v => if idleN v = 0 then (1 : Int) else 0).sum = flowNum n ts k from rfl] at h1
    subst h1 h2
    rw [e]
    refine ⟨more, ?_⟩
    have w1 := worth_ok (x := 2) (y := 1 + (k : Int)) (r := fun j => r (j + 1)) (hr 2) h3 h (by decide) (by omega)
    have mc := many_currents_ok h3 h hrk hk1 (show k ≤ 1000000 by omega)
    simp [w1, mc, H1, H2]
  obtain ⟨more, e⟩ := main
  unfold m_law_kp_flows_right
  rw [run_def]
  rw [show b_law_kp_flows_right r (List.map some [dW n ts, D.int k] ++ List.replicate (10 - [dW n ts, D.int (k : Int)].length) none) s = _ from e]
  show fin false s (.bl true) (s ++ more) = _
  rw [fin_grown hs, frz_cl (by simp)]
end L3

/-! M19: draws -/
namespace L3
open PySem PySem.Spec PyProof.Rows L2

/-- the dict of the draws -/
def dDr (g : Nat) (cs : List Int) (r t : Int) : List (Key × D) := [(.inr "great", .ref g), (.inr "cells", .lst (cs.map D.int)), (.inr "rest", .int r), (.inr "turn", .int t)]
theorem k1 : ((.inr "great" : Key) = .inr "cells") = False := eq_false (by decide +kernel)
theorem k2 : ((.inr "great" : Key) = .inr "rest") = False := eq_false (by decide +kernel)
theorem k3 : ((.inr "great" : Key) = .inr "turn") = False := eq_false (by decide +kernel)
theorem k4 : ((.inr "cells" : Key) = .inr "rest") = False := eq_false (by decide +kernel)
theorem k5 : ((.inr "cells" : Key) = .inr "turn") = False := eq_false (by decide +kernel)
theorem k6 : ((.inr "rest" : Key) = .inr "turn") = False := eq_false (by decide +kernel)
theorem k7 : ((.inr "turn" : Key) = .inr "rest") = False := eq_false (by decide +kernel)
theorem look_great (g : Nat) (cs : List Int) (r t : Int) : look (.inr "great" : Key) (dDr g cs r t) = some (.ref g) := by
  unfold dDr look; rw [if_pos rfl]
theorem look_cells (g : Nat) (cs : List Int) (r t : Int) : look (.inr "cells" : Key) (dDr g cs r t) = some (.lst (cs.map D.int)) := by
  unfold dDr look; rw [if_neg (by rw [k1]; exact id)]
  unfold look; rw [if_pos rfl]
theorem look_rest (g : Nat) (cs : List Int) (r t : Int) : look (.inr "rest" : Key) (dDr g cs r t) = some (.int r) := by
  unfold dDr look; rw [if_neg (by rw [k2]; exact id)]
  unfold look; rw [if_neg (by rw [k4]; exact id)]
  unfold look; rw [if_pos rfl]
theorem look_turn (g : Nat) (cs : List Int) (r t : Int) : look (.inr "turn" : Key) (dDr g cs r t) = some (.int t) := by
  unfold dDr look; rw [if_neg (by rw [k3]; exact id)]
  unfold look; rw [if_neg (by rw [k5]; exact id)]
  unfold look; rw [if_neg (by rw [k6]; exact id)]
  unfold look; rw [if_pos rfl]
theorem put_rest (g : Nat) (cs : List Int) (r t v : Int) : put (.inr "rest" : Key) (.int v) (dDr g cs r t) = dDr g cs v t := by
  unfold put dDr
  simp only [List.any_cons, List.any_nil, k2, k4, k7, decide_false, decide_true, Bool.false_or, Bool.true_or, if_true, List.map_cons, List.map_nil, if_false]
theorem put_turn (g : Nat) (cs : List Int) (r t v : Int) : put (.inr "turn" : Key) (.int v) (dDr g cs r t) = dDr g cs r v := by
  unfold put dDr
  simp only [List.any_cons, List.any_nil, k3, k5, k6, decide_false, decide_true, Bool.false_or, Bool.or_false, if_true, List.map_cons, List.map_nil, if_false]
/-- the draws' state at the cells g, i -/
structure Dr (g i T : Nat) (great cs : List Int) (r t : Int) (s : Sr) : Prop where
  d : s[i]? = some (.dk (dDr g cs r t))
  l : s[g]? = some (.lst (great.map D.int))
  ne : g ≠ i
  b : t.natAbs ≤ T
  c : Cld s
theorem Dr.dk {g i T : Nat} {great cs : List Int} {r t : Int} {s : Sr} (h : Dr g i T great cs r t s) : asDk s (.ref i) = some (dDr g cs r t) := by
  unfold asDk
  simp only [h.d]
theorem Dr.idx {g i T : Nat} {great cs : List Int} {r t : Int} {s : Sr} (h : Dr g i T great cs r t s) {x : Str} {v : D} (hl : look (.inr x : Key) (dDr g cs r t) = some v) : oIdx (.ref i) (.str x) s = .ok v s := by
  unfold oIdx
  have e1 : asQ s (.ref i) = none := by
    unfold asQ asL
    simp only [h.d]
  rw [e1]
  simp only
  unfold dget
  rw [h.dk]
  simp only [keyOf, Option.map_some, hl]
theorem cld_set {s : Sr} {i : Nat} {c : Cell} (h : Cld s) (hc : c.cl s.length = true) : Cld (s.set i c) := by
  unfold Cld closedS at h ⊢
  rw [List.length_set]
  refine List.all_eq_true.mpr fun x hx => ?_
  rcases List.mem_or_eq_of_mem_set hx with hx | rfl
  · exact List.all_eq_true.mp h x hx
  · exact hc
theorem dDr_cl {n g : Nat} {cs : List Int} {r t : Int} (h : g < n) : D.clk n (dDr g cs r t) = true := by
  unfold dDr
  simp only [clk_cons, clk_nil, cl_ref, cl_int, cl_lst, Bool.and_true, Bool.true_and]
  rw [decide_eq_true h, cls_map _ fun _ => cl_int ..]; rfl
theorem Dr.glt {g i T : Nat} {great cs : List Int} {r t : Int} {s : Sr} (h : Dr g i T great cs r t s) : g < s.length := (List.getElem?_eq_some_iff.mp h.l).1
theorem Dr.ilt {g i T : Nat} {great cs : List Int} {r t : Int} {s : Sr} (h : Dr g i T great cs r t s) : i < s.length := (List.getElem?_eq_some_iff.mp h.d).1
theorem Dr.setD' {g i T T' : Nat} {great cs : List Int} {r t r' t' : Int} {s : Sr} (h : Dr g i T great cs r t s) (hb : t'.natAbs ≤ T') : Dr g i T' great cs r' t' (s.set i (.dk (dDr g cs r' t'))) where
  d := by rw [List.getElem?_set_self h.ilt]
  l := by rw [List.getElem?_set_ne (Ne.symm h.ne)]; exact h.l
  ne := h.ne
  b := hb
  c := cld_set h.c (dDr_cl h.glt)
theorem Dr.set {g i T : Nat} {great cs : List Int} {r t : Int} {s : Sr} (h : Dr g i T great cs r t s) {x : Str} {v r' t' : Int} (hp : put (.inr x : Key) (.int v) (dDr g cs r t) = dDr g cs r' t') : L3.setD s (.ref i) (.str x) (.int v) = some (s.set i (.dk (dDr g cs r' t'))) := by
  unfold L3.setD
  simp only [h.d]
  rw [if_pos (by simp [dDr])]
  simp only [keyOf, Option.map_some, hp]
/-- what else stands, stands -/
def Same2 (g i : Nat) (s s' : Sr) : Prop := s'.length = s.length ∧ ∀ j, j ≠ g → j ≠ i → s'[j]? = s[j]?
theorem Same2.refl (g i : Nat) (s : Sr) : Same2 g i s s := ⟨rfl, fun _ _ _ => rfl⟩
theorem Same2.trans {g i : Nat} {s s' s2 : Sr} (h : Same2 g i s s') (k : Same2 g i s' s2) : Same2 g i s s2 := ⟨k.1.trans h.1, fun j a b => (k.2 j a b).trans (h.2 j a b)⟩
theorem Same2.set {g i : Nat} {s : Sr} {c : Cell} : Same2 g i s (s.set i c) := ⟨List.length_set .., fun j _ b => List.getElem?_set_ne (Ne.symm b)⟩
theorem Same2.setg {g i : Nat} {s : Sr} {c : Cell} : Same2 g i s (s.set g c) := ⟨List.length_set .., fun j b _ => List.getElem?_set_ne (Ne.symm b)⟩
theorem run_same {m : Nat} {fs : FS} {ds : List D} {s s' : Sr} {d : D} (h : fs (ds.map some ++ List.replicate (m - ds.length) none) s = .ok (.rt d) s') (hl : s'.length = s.length) (hs : Cld s') (hd : d.cl s.length = true) : runDef false m fs ds s = .ok d s' := by
  rw [run_def, h]
  show fin false s d s' = _
  unfold fin
  rw [if_neg (by decide), ← hl, List.take_length, if_pos hs]
  unfold frzD
  rw [if_pos (by rw [hl]; exact hd)]
theorem blend_loop {p : Int} (hp : 0 < p) (cs : List Int) (t v : Int) (x y : Option D) (a f : D) (s : Sr) (hv : v.natAbs < 2 ^ 63) (ht : t.natAbs < 2 ^ 40) (hpb : p < 2 ^ 32) (it : FI) (hi : it [some a, some (.int t), some f, some (.int p), some (.int v), y] s = .ok ⟨cs.map D.int, []⟩ s) :
    ∃ w y', w.natAbs < 2 ^ 63 ∧ sFor it (.name 5) b_law_blended_2 [some a, some (.int t), some f, some (.int p), some (.int v), y] s = .ok (.nx [some a, some (.int t), some f, some (.int p), some (.int w), y']) s := by
  obtain ⟨env', s', e, w, y', h1, h2, h3⟩ := sFor_st D.int (fun (v c : Int) => (v * 69621 + c + t) % p) (fun (v : Int) env s1 => ∃ w y', env = [some a, some (.int t), some f, some (.int p), some (.int w), y'] ∧ s1 = s ∧ w = v ∧ w.natAbs < 2 ^ 63) (fun _ _ => True) cs (t := .name 5) (body := b_law_blended_2) (b := v) (g := []) hi ⟨v, y, rfl, rfl, rfl, hv⟩ (fun _ _ _ _ => rfl)
    (fun v c env s1 ⟨w, y', h1, h2, h3, h4⟩ _ => by
      subst h1 h2 h3
      refine ⟨_, by simp <;> rfl, _, _, ?_, ⟨(w * 69621 + c + t) % p, some (.int c), rfl, rfl, rfl, ?_⟩⟩
      · simp [b_law_blended_2, oMul_int (i := w) (j := 69621) (.inr (by decide)), oMod_int hp]
      · have h1 := Int.emod_nonneg (w * 69621 + c + t) (show p ≠ 0 by omega)
        have h2 := Int.emod_lt_of_pos (w * 69621 + c + t) hp
        omega)
    (fun pre c post q => trivial)
  obtain ⟨h3, h4⟩ := h3
  subst h1 h2
  exact ⟨w, y', h4, e⟩
theorem blended_ok {g i T : Nat} {great cs : List Int} {r t : Int} {s : Sr} (h : Dr g i T great cs r t s) (hT : T < 2 ^ 30) : ∃ v, m_law_blended [.ref i] s = .ok (.int v) (s.set i (.dk (dDr g cs r (t + 1)))) := by
  have hb := h.b
  have h' : Dr g i (T + 1) great cs r (t + 1) (s.set i (.dk (dDr g cs r (t + 1)))) := h.setD' (by omega)
  have key : ∀ (f : Int) (p : Int) (x4 x5 : Option D), 0 < p → p < 2 ^ 32 → ∃ v w y, b_law_blended_1 [some (.ref i), some (.int (t + 1)), some (.int f), some (.int p), x4, x5] (s.set i (.dk (dDr g cs r (t + 1)))) = .ok (.nx [some (.ref i), some (.int (t + 1)), some (.int v), some (.int p), some (.int w), y]) (s.set i (.dk (dDr g cs r (t + 1)))) := by
    intro f p x4 x5 hp hpb
    unfold b_law_blended_1
    have hd : (p / 53).natAbs < 2 ^ 32 := by omega
    simp [oMul_int (i := 48271) (j := t + 1) (.inl (by decide)), oDiv_int (i := p) (show (0 : Int) < 53 by decide) (by decide)]
    obtain ⟨w, y, hw, e⟩ := blend_loop hp cs (t + 1) (48271 * (t + 1) + p / 53) none x5 (.ref i) (.int f) (s.set i (.dk (dDr g cs r (t + 1)))) (by omega) (by omega) hpb (iSrc (eBin oIdx (eVar 0) (eC (.str "cells")))) (by simp [h'.idx (look_cells _ _ _ _)])
    rw [e]
    have hpw : oPow (.int w) (.int 5) (s.set i (.dk (dDr g cs r (t + 1)))) = .ok (.int (w ^ 5)) (s.set i (.dk (dDr g cs r (t + 1)))) := by
      unfold oPow
      simp only
      rw [if_pos ⟨by decide, by decide, by omega⟩]
      rfl
    refine ⟨f * 2147483647 + w ^ 5 % p, w, y, ?_⟩
    simp [oMul_int (i := f) (j := 2147483647) (.inr (by decide)), hpw, oMod_int hp]
  have main : ∃ v, b_law_blended [some (.ref i), none, none, none, none, none] s = .ok (.rt (.int v)) (s.set i (.dk (dDr g cs r (t + 1)))) := by
    unfold b_law_blended
    simp [h.idx (look_turn _ _ _ _), h.set (put_turn _ _ _ _ _)]
    obtain ⟨v1, w1, y1, e1⟩ := key 0 2147483579 none none (by decide) (by decide)
    obtain ⟨v2, w2, y2, e2⟩ := key v1 2147483629 (some (.int w1)) y1 (by decide) (by decide)
    obtain ⟨v3, w3, y3, e3⟩ := key v2 2147483563 (some (.int w2)) y2 (by decide) (by decide)
    refine ⟨v3, ?_⟩
    rw [sFor_run]
    simp [forL, e1, e2, e3]
  obtain ⟨v, e⟩ := main
  exact ⟨v, run_same e (List.length_set ..) h'.c (cl_int ..)⟩
end L3

/-! M20: draws, begun -/
namespace L3
open PySem PySem.Spec PyProof.Rows L2

theorem Dr.asl {g i T : Nat} {great cs : List Int} {r t : Int} {s : Sr} (h : Dr g i T great cs r t s) : asL s (.ref g) = some (great.map D.int) := by
  unfold asL
  simp only [h.l]
theorem Dr.isl {g i T : Nat} {great cs : List Int} {r t : Int} {s : Sr} (h : Dr g i T great cs r t s) : isLst s (.ref g) = true := by
  unfold isLst
  rw [h.asl]; rfl
theorem ne_nil {g : Nat} {l : List Int} {s : Sr} (h : s[g]? = some (.lst (l.map D.int))) : oNe (.ref g) (.lst []) s = .ok (.bl (!l.isEmpty)) s := by
  have ea : asL s (.ref g) = some (l.map D.int) := by
    unfold asL
    simp only [h]
  unfold oNe
  cases l with
  | nil =>
    have e1 : lenNe s (.ref g) (.lst []) = false := by
      unfold lenNe
      rw [ea]; rfl
    rw [e1, if_neg (by decide)]
    unfold withPy
    have e2 : pyOf s (.ref g) = some (.list []) := by
      unfold pyOf
      simp only [h]
      rfl
    have e3 : pyOf s (.lst []) = some (.list []) := by unfold pyOf D.py D.pys; rfl
    rw [e2, e3]
    simp only
    rw [show SeqAt.shaped (.list []) = true by decide +kernel, if_pos (by rfl), show PyData.eqv (.list []) (.list []) = true by unfold PyData.eqv PyData.eqvAll; rfl]
    rfl
  | cons a l =>
    have e1 : lenNe s (.ref g) (.lst []) = true := by
      unfold lenNe
      rw [ea]; simp [asL]
    rw [e1, if_pos rfl]
    rfl
theorem pop0 {g i T : Nat} {a : Int} {great cs : List Int} {r t : Int} {s : Sr} (h : Dr g i T (a :: great) cs r t s) : mPop (.ref g) [.int 0] s = .ok (.int a) (s.set g (.lst (great.map D.int))) := by
  unfold mPop cellL
  simp only [h.l]
  rw [if_pos ⟨by decide, by decide⟩]
  have e : seqIndex? 0 ((a :: great).map D.int).length = some 0 := by
    unfold seqIndex?
    simp
  rw [e]
  rfl
theorem Dr.popped {g i T : Nat} {a : Int} {great cs : List Int} {r t : Int} {s : Sr} (h : Dr g i T (a :: great) cs r t s) : Dr g i T great cs r t (s.set g (.lst (great.map D.int))) where
  d := by rw [List.getElem?_set_ne h.ne]; exact h.d
  l := by rw [List.getElem?_set_self h.glt]
  ne := h.ne
  b := h.b
  c := cld_set h.c (cls_map _ fun _ => cl_int ..)
/-- some state of the draws -/
def DrA (g i T : Nat) (s : Sr) : Prop := ∃ great cs r t, Dr g i T great cs r t s
theorem draw_ok {g i T : Nat} {room : Nat} {s : Sr} (h : DrA g i T s) (hT : T < 2 ^ 30) (h1 : 0 < room) (h2 : room < 2 ^ 30) : ∃ v s', v < room ∧ m_law_draw [.ref i, .int room] s = .ok (.int v) s' ∧ DrA g i (T + 1) s' ∧ Same2 g i s s' := by
  have hr0 : (0 : Int) < room := by omega
  obtain ⟨great, cs, r, t, h⟩ := h
  -- the second half
  have tail : ∀ (great : List Int) (r t : Int) (s1 : Sr), Dr g i (T + 1) great cs r t s1 → Same2 g i s s1 →
      (sThen (sAsg (.name 2) (eBin oMod (eCallV vInt (eCons (eBin oIdx (eVar 0) (eC (.str "rest"))) eNil)) (eVar 1)))
  (sThen (sSet (eBin oDiv (eBin oIdx (eVar 0) (eC (.str "rest"))) (eVar 1)) (eVar 0) (eC (.str "rest")))
  (sThen (sRet (eVar 2))
  sSkip))) [some (.ref i), some (.int room), none] s1 = .ok (.rt (.int (r % room))) (s1.set i (.dk (dDr g cs (r / room) t))) := by
    intro great r t s1 hd _
    simp [hd.idx (look_rest _ _ _ _), oMod_int hr0, oDiv_int hr0 (show (room : Int) < 1073741824 by omega), hd.set (put_rest _ _ _ _ _)]
  have fin' : ∀ (great : List Int) (r t : Int) (s1 : Sr), Dr g i (T + 1) great cs r t s1 → Same2 g i s s1 → b_law_draw [some (.ref i), some (.int room), none] s = .ok (.rt (.int (r % room))) (s1.set i (.dk (dDr g cs (r / room) t))) →
      ∃ v s', v < room ∧ m_law_draw [.ref i, .int room] s = .ok (.int v) s' ∧ DrA g i (T + 1) s' ∧ Same2 g i s s' := by
    intro great r t s1 hd hsm e
    have n1 := Int.emod_nonneg r (show (room : Int) ≠ 0 by omega)
    have n2 := Int.emod_lt_of_pos r hr0
    have hd2 : Dr g i (T + 1) great cs (r / room) t (s1.set i (.dk (dDr g cs (r / room) t))) := hd.setD' hd.b
    refine ⟨(r % room).toNat, s1.set i (.dk (dDr g cs (r / room) t)), by omega, ?_, ⟨_, _, _, _, hd2⟩, hsm.trans .set⟩
    rw [show ((r % room).toNat : Int) = r % room by omega]
    exact run_same e ((List.length_set ..).trans hsm.1) hd2.c (cl_int ..)
  have up : ∀ {great : List Int} {r t : Int} {s1 : Sr}, Dr g i T great cs r t s1 → Dr g i (T + 1) great cs r t s1 := fun h => ⟨h.d, h.l, h.ne, by have := h.b; omega, h.c⟩
  by_cases c : r = 0
  · subst c
    cases great with
    | cons a great =>
      have hp := h.popped
      have hp2 : Dr g i (T + 1) great cs a t ((s.set g (.lst (great.map D.int))).set i (.dk (dDr g cs a t))) := (up hp).setD' (up hp).b
      refine fin' great a t _ hp2 (Same2.setg.trans .set) ?_
      unfold b_law_draw
      rw [sThen_run]
      have e1 : oNe (.ref g) (.lst []) s = .ok (.bl true) s := ne_nil h.l
      simp only [sIf_run, eB_run, eBin_run, eVar_zero, eVar_succ, eC_run, bind_ok, h.idx (look_rest _ _ _ _), oEq_int, asB_run, decide_true, if_true, sThen_run, sSet_run, eIf_run, h.idx (look_great _ _ _ _), eLst_run, eNil_run, List.length_nil, Nat.zero_le, e1, eMeth_run, h.isl, eCons_run, pop0 h, hp.set (put_rest g cs 0 t a), thenR_nx, sSkip_run]
      exact tail great a t _ hp2 (Same2.setg.trans .set)
    | nil =>
      obtain ⟨v, e⟩ := blended_ok h hT
      have hb := h.b
      have h' : Dr g i (T + 1) [] cs 0 (t + 1) (s.set i (.dk (dDr g cs 0 (t + 1)))) := h.setD' (by omega)
      have h2' : Dr g i (T + 1) [] cs v (t + 1) ((s.set i (.dk (dDr g cs 0 (t + 1)))).set i (.dk (dDr g cs v (t + 1)))) := h'.setD' h'.b
      refine fin' [] v (t + 1) _ h2' (Same2.set.trans .set) ?_
      unfold b_law_draw
      rw [sThen_run]
      have e1 : oNe (.ref g) (.lst []) s = .ok (.bl false) s := ne_nil (l := []) h.l
      simp only [sIf_run, eB_run, eBin_run, eVar_zero, eVar_succ, eC_run, bind_ok, h.idx (look_rest _ _ _ _), oEq_int, asB_run, decide_true, if_true, sThen_run, sSet_run, eIf_run, h.idx (look_great _ _ _ _), eLst_run, eNil_run, List.length_nil, Nat.zero_le, e1, Bool.false_eq_true, if_false, eCall_run, eCons_run, List.length_cons, Nat.zero_add, e, h'.set (put_rest g cs 0 (t + 1) v), thenR_nx, sSkip_run]
      exact tail [] v (t + 1) _ h2' (Same2.set.trans .set)
  · refine fin' great r t s (up h) (.refl ..) ?_
    unfold b_law_draw
    rw [sThen_run]
    simp only [sIf_run, eB_run, eBin_run, eVar_zero, eVar_succ, eC_run, bind_ok, h.idx (look_rest _ _ _ _), oEq_int, asB_run, decide_eq_false c, Bool.false_eq_true, if_false, thenR_nx, sSkip_run]
    exact tail great r t s (up h) (.refl ..)
/-! begun -/
theorem vAbs_int (x : Int) (s : Sr) : vAbs [.int x] s = .ok (.int (if x < 0 then -x else x)) s := rfl
def absI (x : Int) : Int := if x < 0 then -x else x
def greatOf (script : List Int) : List Int := (script.filter fun x => decide ((10 : Int) ^ 18 ≤ absI x)).map fun x => absI x - 10 ^ 18
def stBegun (s : Sr) (script : List Int) : Sr := (s ++ [.lst ((greatOf script).map D.int)]) ++ [.dk (dDr s.length (script.map absI) 0 0)]
theorem pow18 (t : Sr) : oPow (.int 10) (.int 18) t = .ok (.int (10 ^ 18)) t := by
  unfold oPow
  simp only
  rw [if_pos ⟨by decide, by decide, by decide⟩]
  rfl
theorem merge_dDr (g : Nat) (cs : List Int) (r t : Int) : mergeD [] (dDr g cs r t) = dDr g cs r t := by
  unfold mergeD dDr put
  simp only [List.foldl_cons, List.foldl_nil, List.any_cons, List.any_nil, k1, k2, k3, k4, k5, k6, decide_false, Bool.or_false, Bool.false_eq_true, if_false, List.nil_append, List.cons_append]
/-- what is asked of the script -/
structure Scr (x : D) (script : List Int) : Prop where
  src : ∀ s, srcD s x = some ⟨script.map D.int, []⟩
  len : ∀ s, vLen [x] s = .ok (.int script.length) s
theorem begun_ok {x : D} {script : List Int} {s : Sr} (hx : Scr x script) (hs : Cld s) (hl : script.length ≤ 1000) : m_law_begun [x] s = .ok (.ref (s.length + 1)) (stBegun s script) ∧ DrA s.length (s.length + 1) 0 (stBegun s script) ∧ (stBegun s script).length = s.length + 2 ∧ ∀ j, j < s.length → (stBegun s script)[j]? = s[j]? := by
  have h1 : eLc (iSrc (eVar 0)) [2] (.name 2) (eB (eBin oGe (eCallV vAbs (eCons (eVar 2) eNil)) (eBin oPow (eC (.int 10)) (eC (.int 18))))) (eBin oSub (eCallV vAbs (eCons (eVar 2) eNil)) (eBin oPow (eC (.int 10)) (eC (.int 18)))) [some (x), none, none] s = .ok (.lst ((greatOf script).map D.int)) s := by
    rw [eLc_fm D.int (fun x => decide ((10 : Int) ^ 18 ≤ absI x)) (fun x => D.int (absI x - 10 ^ 18)) script (g := []) (by simp [hx.src]) rfl (fun y hy => ⟨_, by simp <;> rfl, by simp only [eB_run, eBin_run, eCallV_run, eCons_run, eVar_succ, eVar_zero, eNil_run, bind_ok, vAbs_int, eC_run, pow18, oGe_int, asB_run]; rfl, fun _ => by simp only [eBin_run, eCallV_run, eCons_run, eVar_succ, eVar_zero, eNil_run, bind_ok, vAbs_int, eC_run, pow18, oSub_int]; rfl⟩) (by simp; omega)]
    unfold greatOf
    rw [List.map_map]
    rfl
  have hlen2 : (s ++ [Cell.lst ((greatOf script).map D.int)]).length = s.length + 1 := by simp
  have h2 : ∀ j (s : Sr), eLc (iSrc (eVar 0)) [2] (.name 2) bYes (eCallV vAbs (eCons (eVar 2) eNil)) [some (x), j, none] s = .ok (.lst ((script.map absI).map D.int)) s := fun j s => by
    rw [eLc_map D.int (fun x => D.int (absI x)) script (g := []) (by simp [hx.src]) rfl (fun y hy => ⟨_, by simp <;> rfl, by simp only [eCallV_run, eCons_run, eVar_succ, eVar_zero, eNil_run, bind_ok, vAbs_int]; rfl⟩) (by simp; omega)]
    rw [List.map_map]
    rfl
  have hd : Dr s.length (s.length + 1) 0 (greatOf script) (script.map absI) 0 0 (stBegun s script) := by
    refine ⟨?_, ?_, by omega, by decide, ?_⟩
    · unfold stBegun
      rw [← hlen2]; exact snoc_get ..
    · unfold stBegun
      rw [List.getElem?_append_left (by rw [hlen2]; omega)]
      exact snoc_get ..
    · exact cld_snoc (cld_lst hs) (dDr_cl (by rw [hlen2]; omega))
  refine ⟨?_, ⟨_, _, _, _, hd⟩, by unfold stBegun; simp, fun j hj => ?_⟩
  · have main : b_law_begun [some (x), none, none] s = .ok (.rt (.ref (s.length + 1))) (stBegun s script) := by
      unfold b_law_begun
      simp only [sThen_run, sNew_run, h1, bind_ok, toCell, List.set_cons_succ, List.set_cons_zero, thenR_nx, sRet_run, eNew_run, eDisp_run]
      simp only [evPs, eC_run, nox_ok, bind_ok, eVar_succ, eVar_zero, h2]
      have hk : keysP dkK [(D.str "great", D.ref s.length), (.str "cells", .lst ((script.map absI).map D.int)), (.str "rest", .int 0), (.str "turn", .int 0)] = some (dDr s.length (script.map absI) 0 0) := rfl
      rw [hk]
      simp only
      rw [merge_dDr, if_pos (by simp [dDr])]
      simp only [bind_ok, show dkK.dat (dDr s.length (script.map absI) 0 0) = .dk (dDr s.length (script.map absI) 0 0) from rfl, thenR_rt, hlen2]
      rfl
    unfold m_law_begun
    rw [run_def]
    rw [show b_law_begun (List.map some [x] ++ List.replicate (3 - [x].length) none) s = _ from main]
    rfl
  · unfold stBegun
    rw [List.getElem?_append_left (by rw [hlen2]; omega), List.getElem?_append_left hj]
end L3

/-! M21: the law, by what is asked of webs -/
namespace L3
open PySem PySem.Spec PyProof.Rows L2

theorem DrA.mono {g i T T' : Nat} {s : Sr} (h : DrA g i T s) (hT : T ≤ T') : DrA g i T' s := by
  obtain ⟨gr, cs, r, t, h⟩ := h
  exact ⟨gr, cs, r, t, h.d, h.l, h.ne, Nat.le_trans h.b hT, h.c⟩
theorem DrA.cld {g i T : Nat} {s : Sr} (h : DrA g i T s) : Cld s := by
  obtain ⟨gr, cs, r, t, h⟩ := h
  exact h.c
/-- drawn pairs -/
theorem pairs_run {g i n : Nat} {env : Env'} {chk : Sr → Bool} {vs : List Nat} {t : Tg} {elt : F} (hn : 0 < n) (hn2 : n < 2 ^ 30) (hc : ∀ s, chk s = true)
    (he : ∀ (d : D) (s : Sr), ∃ env1, t.put d (wipeE env vs) = some env1 ∧ elt env1 s = (m_law_draw [.ref i, .int n] s).bind fun x s => (m_law_draw [.ref i, .int n] s).bind fun y s => .ok (.tup [x, y]) s) :
    ∀ (items : List D) (acc : List D) (T : Nat) (s : Sr), DrA g i T s → T + 2 * items.length < 2 ^ 30 → acc.length + items.length ≤ 1000 → ∃ (ps : List (Nat × Nat)) (s' : Sr), ps.length = items.length ∧ (∀ p ∈ ps, p.1 < n ∧ p.2 < n) ∧ lcL chk vs t bYes elt items acc env s = .ok (acc ++ ps.map dP) s' ∧ DrA g i (T + 2 * items.length) s' ∧ Same2 g i s s'
  | [], acc, T, s, h, _, _ => by
    refine ⟨[], s, rfl, (fun p h => by cases h), ?_, h, Same2.refl ..⟩
    unfold lcL
    rw [if_pos (hc s)]; simp
  | d :: items, acc, T, s, h, hT, hz => by
    rw [List.length_cons] at hT hz
    obtain ⟨env1, e1, e2⟩ := he d s
    obtain ⟨a, s1, a1, a2, a3, a4⟩ := draw_ok (room := n) h (by omega) hn hn2
    obtain ⟨b, s2, b1, b2, b3, b4⟩ := draw_ok (room := n) a3 (by omega) hn hn2
    obtain ⟨ps, s3, p1, p2, p3, p4, p5⟩ := pairs_run hn hn2 hc he items (acc ++ [dP (a, b)]) (T + 1 + 1) s2 b3 (by omega) (by rw [List.length_append]; simp; omega)
    refine ⟨(a, b) :: ps, s3, by rw [List.length_cons, List.length_cons, p1], fun p hp => ?_, ?_, by rw [List.length_cons]; exact p4.mono (by omega), a4.trans (b4.trans p5)⟩
    · rcases List.mem_cons.mp hp with rfl | hp
      · exact ⟨a1, b1⟩
      · exact p2 p hp
    · unfold lcL
      rw [if_pos (hc s), e1]
      simp only [bYes_run, nox_ok, bind_ok, if_true]
      rw [e2, a2]
      simp only [bind_ok]
      rw [b2]
      simp only [bind_ok, nox_ok]
      rw [if_pos (by simp; omega), show (D.tup [.int (a : Nat), .int (b : Nat)]) = dP (a, b) from rfl, p3]
      simp
/-- what is asked of webs -/
structure MathOk (n : Nat) (ts : List (Nat × Nat)) : Prop where
  rk : RkOk n ts
  mono : ∀ lot ∈ lots ts.length, rkL n (lotTs ts lot) ≤ rkL n (lotTs ts (allT ts))
  eq : polyL n ts = byLots n ts
  ne : byLots n ts ≠ []
  h1 : ∀ k : Nat, 1 ≤ k → k ≤ 3 → dyeSum ts n k 2 = (k : Int) ^ pcs n ts * evP (btP ts.length n ts) (1 + k) 2
  h2 : ∀ k : Nat, 1 ≤ k → k ≤ 3 → mdye n ts k = dyeNum ts n k
  h3 : dyeSum ts n 2 3 = (2 : Int) ^ pcs n ts * 2 ^ rkL n (lotTs ts (allT ts)) * evP (btP ts.length n ts) 2 3
  h4 : ∀ k : Nat, 1 ≤ k → k ≤ 3 → flowSum n ts k 2 = evP (btP ts.length n ts) 2 (1 + k)
  h5 : ∀ k : Nat, 1 ≤ k → k ≤ 3 → pSum (curNum n ts) k = flowNum n ts k
theorem poly_len {n : Nat} {ts : List (Nat × Nat)} (hz : (byRaw n ts).length ≤ 800000) : (byLots n ts).length ≤ 800000 := by
  have h1 := norm_len (addAll [] (byRaw n ts))
  have h2 := addAll_len (byRaw n ts) []
  unfold byLots
  simp only [List.length_nil] at h2
  omega
theorem forL_nil {chk : Sr → Bool} {t : Tg} {body : FS} {env : Env'} {s : Sr} (h : chk s = true) : forL chk t body [] env s = .ok (.nx env) s := by
  unfold forL; rw [if_pos h]
theorem forL_cons {chk : Sr → Bool} {t : Tg} {body : FS} {d : D} {ds : List D} {env e1 e2 : Env'} {s s2 : Sr} (h : chk s = true) (hp : t.put d env = some e1) (hb : body e1 s = .ok (.nx e2) s2) : forL chk t body (d :: ds) env s = forL chk t body ds e2 s2 := by
  conv => lhs; unfold forL
  rw [if_pos h, hp]
  simp only
  rw [hb]
theorem turn_ok {r : Nat → List D → Sr → R D} {n : Nat} {ts : List (Nat × Nat)} {x0 x1 x2 : Option D} {x5 x6 : Option D} {s : Sr} (hr : ∀ j, PbtOk 12 (r j)) (hs : Cld s) (htab : tabB 0 "_law_lots.<locals>.<lambda>" s = true) (h : WebOk n ts) (h6 : ts.length ≤ 8) (hM : MathOk n ts) :
    (sThen (sIf (bNot (eB (eCall 2 m_law_same (eCons (eCall 1 m_two_letters (eCons (eVar 4) eNil)) (eCons (eCall 1 m_law_by_lots (eCons (eVar 4) eNil)) eNil))))) (sThen (sRet (eC (.bl false)))
  sSkip) sSkip)
  (sThen (sFor (iSrc (eLst (eCons (eC (.int 1)) (eCons (eC (.int 2)) (eCons (eC (.int 3)) eNil))))) (.name 5) (b_law_2 r))
  sSkip)) [x0, x1, x2, some (.int n), some (dW n ts), x5, x6] s = .ok (.nx [x0, x1, x2, some (.int n), some (dW n ts), some (.int 3), x6]) s := by
  have h8 := h.n8
  have hp : ∀ p ∈ ts, p.1 < n ∧ p.2 < n := fun p hp => by have := h.pr p hp; omega
  have e1 := two_letters_ok hs h hM.rk
  have e2 := by_lots_ok hs (show n ≤ 12 by omega) hp h.t12 hM.rk hM.mono htab hM.ne
  rw [hM.eq] at e1
  have hnk : Nk (byLots n ts) := norm_nk (addAll_nk nk_nil)
  obtain ⟨w, w1, w2⟩ := sm_dPo hnk
  have hraw : (byRaw n ts).length ≤ 4096 * 169 := by
    have hLL : (lots ts.length).length ≤ 4096 := by
      rw [(lots_perm _).length_eq, lotsRaw_len]
      exact Nat.pow_le_pow_right (n := 2) (by decide) h.t12
    refine Nat.le_trans (flatMap_len_le _ 169 (lots ts.length) fun lot hl => ?_) (Nat.mul_le_mul_right _ hLL)
    have hb := lots_mem hl
    have ha := hM.rk.all
    exact Nat.le_trans (lotE_len _ _) (Nat.le_trans (Nat.mul_le_mul (show _ ≤ 13 by omega) (show _ ≤ 13 by omega)) (by decide))
  have hdeg : Deg 24 (byLots n ts) := by
    refine Deg.norm (Deg.addAll (fun k hk => by simp at hk) fun k hk => ?_)
    obtain ⟨e, he, rfl⟩ := List.mem_map.mp hk
    unfold byRaw at he
    obtain ⟨lot, hl, he⟩ := List.mem_flatMap.mp he
    unfold lotE at he
    obtain ⟨i, hi, he⟩ := List.mem_flatMap.mp he
    unfold rowE at he
    obtain ⟨j, hj, rfl⟩ := List.mem_map.mp he
    have hi := List.mem_range.mp hi
    have hj := List.mem_range.mp hj
    have hb := lots_mem hl
    have ha := hM.rk.all
    have := h.t12
    simp only [termE]
    omega
  have hlen : (byLots n ts).length ≤ 10000 := by
    have := nodup_sub_len hnk (m := (List.range 25).flatMap fun i => (List.range 25).map fun j => (i, j)) fun k hk => by
      have := hdeg k hk
      rw [List.mem_flatMap]
      exact ⟨k.1, List.mem_range.mpr (by omega), List.mem_map.mpr ⟨k.2, List.mem_range.mpr (by omega), rfl⟩⟩
    rw [List.length_map] at this
    refine Nat.le_trans this ?_
    decide +kernel
  have e3 := law_same_ok hs w2 (by omega) (dPo_cl _ _)
  have k1 := dyes_right_ok (r := fun j => r (j + 1)) (k := 1) (fun j => hr (j + 1)) hs h (by decide) (by decide) (hM.h1 1 (by decide) (by decide)) (hM.h2 1 (by decide) (by decide)) (fun h => by omega)
  have k2 := dyes_right_ok (r := fun j => r (j + 1)) (k := 2) (fun j => hr (j + 1)) hs h (by decide) (by decide) (hM.h1 2 (by decide) (by decide)) (hM.h2 2 (by decide) (by decide)) (fun _ => hM.h3)
  have k3 := dyes_right_ok (r := fun j => r (j + 1)) (k := 3) (fun j => hr (j + 1)) hs h (by decide) (by decide) (hM.h1 3 (by decide) (by decide)) (hM.h2 3 (by decide) (by decide)) (fun h => by omega)
  have l1 := flows_right_ok (r := fun j => r (j + 1)) (k := 1) (fun j => hr (j + 1)) hs h hM.rk h6 (by decide) (by decide) (hM.h4 1 (by decide) (by decide)) (hM.h5 1 (by decide) (by decide))
  have l2 := flows_right_ok (r := fun j => r (j + 1)) (k := 2) (fun j => hr (j + 1)) hs h hM.rk h6 (by decide) (by decide) (hM.h4 2 (by decide) (by decide)) (hM.h5 2 (by decide) (by decide))
  have l3 := flows_right_ok (r := fun j => r (j + 1)) (k := 3) (fun j => hr (j + 1)) hs h hM.rk h6 (by decide) (by decide) (hM.h4 3 (by decide) (by decide)) (hM.h5 3 (by decide) (by decide))
  have body : ∀ (k : Nat) (x5 : Option D), m_law_kp_dyes_right (fun j => r (j + 1)) [dW n ts, .int k] s = .ok (.bl true) s → m_law_kp_flows_right (fun j => r (j + 1)) [dW n ts, .int k] s = .ok (.bl true) s → b_law_2 r [x0, x1, x2, some (.int n), some (dW n ts), some (.int k), x6] s = .ok (.nx [x0, x1, x2, some (.int n), some (dW n ts), some (.int k), x6]) s := by
    intro k x5 h1 h2
    unfold b_law_2
    simp [h1, h2]
  rw [sThen_run]
  simp only [sIf_run, bNot_run, eB_run, eCall_run, eCons_run, eVar_succ, eVar_zero, eNil_run, bind_ok, List.length_cons, List.length_nil, Nat.zero_add, Nat.reduceAdd, if_true, e1, e2, e3, asB_run, Bool.not_true, Bool.false_eq_true, if_false, sSkip_run, thenR_nx]
  rw [sThen_run, sFor_run]
  simp only [iSrc_run, eLst_run, eCons_run, eC_run, eNil_run, bind_ok, List.length_cons, List.length_nil, Nat.zero_add, Nat.reduceAdd, szl, Nat.reduceLeDiff, if_true, srcD_lst]
  have g1 := body 1 none k1 l1
  have g2 := body 2 none k2 l2
  have g3 := body 3 none k3 l3
  rw [show ((1 : Nat) : Int) = 1 from rfl] at g1
  rw [show ((2 : Nat) : Int) = 2 from rfl] at g2
  rw [show ((3 : Nat) : Int) = 3 from rfl] at g3
  rw [forL_cons (s2 := s) (src_ok_nil _ _) (put_name 5 (.int 1) [x0, x1, x2, some (.int n), some (dW n ts), x5, x6]) g1, forL_cons (s2 := s) (src_ok_nil _ _) (put_name 5 (.int 2) [x0, x1, x2, some (.int n), some (dW n ts), some (.int 1), x6]) g2, forL_cons (s2 := s) (src_ok_nil _ _) (put_name 5 (.int 3) [x0, x1, x2, some (.int n), some (dW n ts), some (.int 2), x6]) g3, forL_nil (src_ok_nil _ _)]
  rfl
theorem law_body {xx : D} {r : Nat → List D → Sr → R D} {a T : Nat} {j3 j4 j5 j6 : Option D} {s : Sr} (hr : ∀ j, PbtOk 12 (r j)) (hM : ∀ (n : Nat) (ts : List (Nat × Nat)), WebOk n ts → n ≤ 4 → ts.length ≤ 5 → MathOk n ts)
    (h : DrA 1 2 T s) (hT : T ≤ 1000) (h0 : s[0]? = some (.tab "_law_lots.<locals>.<lambda>")) :
    ∃ k3 k4 k5 k6 s', b_law_1 r [some (xx), some (.ref 2), some (dN a), j3, j4, j5, j6] s = .ok (.nx [some (xx), some (.ref 2), some (dN a), k3, k4, k5, k6]) s' ∧ DrA 1 2 (T + 20) s' ∧ s'[0]? = some (.tab "_law_lots.<locals>.<lambda>") := by
  obtain ⟨v, s2, v1, v2, v3, v4⟩ := draw_ok (room := 4) h (by omega) (by decide) (by decide)
  obtain ⟨m, s3, m1, m2, m3, m4⟩ := draw_ok (room := 6) v3 (by omega) (by decide) (by decide)
  have v2' : m_law_draw [.ref 2, .int 4] s = .ok (.int v) s2 := v2
  have m2' : m_law_draw [.ref 2, .int 6] s2 = .ok (.int m) s3 := m2
  have hN : (1 + (v : Int)) = ((1 + v : Nat) : Int) := by omega
  generalize hn : 1 + v = n at hN
  obtain ⟨ps, s4, p1, p2, p3, p4, p5⟩ := pairs_run (g := 1) (i := 2) (n := n) (env := [some (xx), some (.ref 2), some (dN a), some (.int (n : Int)), j4, j5, j6]) (chk := Src.ok ⟨(List.range m).map dN, []⟩) (vs := [6]) (t := .name 6) (elt := eTup (eCons (eCall 2 m_law_draw (eCons (eVar 1) (eCons (eVar 3) eNil))) (eCons (eCall 2 m_law_draw (eCons (eVar 1) (eCons (eVar 3) eNil))) eNil))) (by omega) (by omega) (fun _ => rfl)
    (fun d s => ⟨_, by simp <;> rfl, by
      simp
      cases m_law_draw [D.ref 2, D.int (n : Int)] s with
      | ok x s =>
        simp
        cases m_law_draw [D.ref 2, D.int (n : Int)] s with
        | ok y s => simp
        | exc c fs s => simp
        | bad => simp
      | exc c fs s => simp
      | bad => simp⟩) ((List.range m).map dN) [] (T + 1 + 1) s3 m3 (by simp; omega) (by simp; omega)
  rw [List.length_map, List.length_range] at p1 p4
  have hs4 := p4.cld
  have h40 : s4[0]? = some (.tab "_law_lots.<locals>.<lambda>") := by
    rw [(v4.trans (m4.trans p5)).2 0 (by decide) (by decide)]; exact h0
  have htab : tabB 0 "_law_lots.<locals>.<lambda>" s4 = true := by
    unfold tabB
    rw [h40]
    exact decide_eq_true rfl
  have hW : WebOk n (ps.map srt) := ⟨by omega, by omega, by rw [List.length_map]; omega, fun p hp => by
    obtain ⟨q, hq, rfl⟩ := List.mem_map.mp hp
    have := p2 q hq
    simp only [srt]
    omega⟩
  have hmade : m_law_made [.int (n : Int), .lst (ps.map dP)] s4 = .ok (dW n (ps.map srt)) s4 := law_made_ok hs4 (.inr rfl) (by omega)
  have ht := turn_ok (x0 := some (xx)) (x1 := some (.ref 2)) (x2 := some (dN a)) (x5 := j5) (x6 := j6) hr hs4 htab hW (by rw [List.length_map]; omega) (hM _ _ hW (by omega) (by rw [List.length_map]; omega))
  refine ⟨some (.int n), some (dW n (ps.map srt)), some (.int 3), j6, s4, ?_, p4.mono (by omega), h40⟩
  have hcomp : eLc (iArgs hRange1 (eCons (eCall 2 m_law_draw (eCons (eVar 1) (eCons (eC (.int 6)) eNil))) eNil)) [6] (.name 6) bYes (eTup (eCons (eCall 2 m_law_draw (eCons (eVar 1) (eCons (eVar 3) eNil))) (eCons (eCall 2 m_law_draw (eCons (eVar 1) (eCons (eVar 3) eNil))) eNil))) [some (xx), some (.ref 2), some (dN a), some (.int (n : Int)), j4, j5, j6] s2 = .ok (.lst (ps.map dP)) s4 := by
    rw [eLc_run]
    simp only [iArgs_run, eCons_run, eCall_run, eVar_succ, eVar_zero, eC_run, eNil_run, bind_ok, List.length_cons, List.length_nil, Nat.zero_add, Nat.reduceAdd, if_true, m2', hr1 (show m ≤ 16777216 by omega)]
    rw [p3]
    rfl
  unfold b_law_1
  rw [sThen_run]
  simp only [sAsg_run, eBin_run, eC_run, bind_ok, eCall_run, eCons_run, eVar_succ, eVar_zero, eNil_run, List.length_cons, List.length_nil, Nat.zero_add, Nat.reduceAdd, if_true, v2', oAdd_int, hN, put_name, List.set_cons_succ, List.set_cons_zero, thenR_nx]
  rw [sThen_run]
  simp only [sAsg_run, bind_ok, eCall_run, eCons_run, eVar_succ, eVar_zero, eNil_run, List.length_cons, List.length_nil, Nat.zero_add, Nat.reduceAdd, if_true, hcomp, hmade, put_name, List.set_cons_succ, List.set_cons_zero, thenR_nx]
  exact ht
theorem law_ok {xx : D} {r : Nat → List D → Sr → R D} {script : List Int} (hx : Scr xx script) (hr : ∀ j, PbtOk 12 (r j)) (hl : script.length ≤ 63) (hM : ∀ (n : Nat) (ts : List (Nat × Nat)), WebOk n ts → n ≤ 4 → ts.length ≤ 5 → MathOk n ts) :
    ∃ s', m_law r [xx] [.tab "_law_lots.<locals>.<lambda>"] = .ok (.bl true) s' := by
  have hs0 : Cld [.tab "_law_lots.<locals>.<lambda>"] := rfl
  obtain ⟨b1, b2, b3, b4⟩ := begun_ok hx hs0 (by omega)
  have hcnt : ∃ c : Nat, c ≤ 6 ∧ ∀ s, hRange1 [.int (2 + (if (4 : Int) < (script.length : Int) then (4 : Int) else (script.length : Int)))] s = some ⟨(List.range c).map dN, []⟩ := by
    by_cases c : (4 : Int) < script.length
    · exact ⟨6, by omega, fun s => by rw [if_pos c]; exact hr1 (n := 6) (by decide) s⟩
    · refine ⟨2 + script.length, by omega, fun s => ?_⟩
      rw [if_neg c, show (2 + (script.length : Int)) = ((2 + script.length : Nat) : Int) by omega]
      exact hr1 (by omega) s
  obtain ⟨c, hc6, hc⟩ := hcnt
  have hmin : ∀ s, vMin [.int (script.length : Int), .int 4] s = .ok (.int (if (4 : Int) < script.length then 4 else script.length)) s := fun s => rfl
  obtain ⟨env', s', e, T, j2, j3, j4, j5, j6, h1, h2, h3, h4⟩ := sFor_st dN (fun (i : Nat) (_ : Nat) => i + 1) (fun (i : Nat) env s1 => ∃ T j2 j3 j4 j5 j6, env = [some (xx), some (.ref 2), j2, j3, j4, j5, j6] ∧ DrA 1 2 T s1 ∧ T ≤ 20 * i ∧ s1[0]? = some (.tab "_law_lots.<locals>.<lambda>")) (fun i _ => i < 10) (List.range c) (t := .name 2) (body := b_law_1 r) (b := 0) (env := [some (xx), some (.ref 2), none, none, none, none, none]) (s := stBegun [.tab "_law_lots.<locals>.<lambda>"] script) (it := iArgs hRange1 (eCons (eBin oAdd (eC (.int 2)) (eCallV vMin (eCons (eCallV vLen (eCons (eVar 0) eNil)) (eCons (eC (.int 4)) eNil)))) eNil)) (g := [])
    (by simp only [iArgs_run, eCons_run, eBin_run, eC_run, bind_ok, eCallV_run, eVar_zero, eNil_run, hx.len, hmin, oAdd_int, hc]) ⟨0, none, none, none, none, none, rfl, b2, Nat.le_refl _, b4 0 (by decide)⟩ (fun _ _ _ _ => rfl)
    (fun i a env s1 ⟨T, j2, j3, j4, j5, j6, h1, h2, h3, h4⟩ hi => by
      subst h1
      obtain ⟨k3, k4, k5, k6, s2, z, z1, z2⟩ := law_body (xx := xx) (a := a) (j3 := j3) (j4 := j4) (j5 := j5) (j6 := j6) hr hM h2 (by omega) h4
      exact ⟨_, by simp <;> rfl, _, _, z, ⟨T + 20, _, _, _, _, _, rfl, z1, by omega, z2⟩⟩)
    (fun pre i post z => by
      have := range_at z
      rw [foldl_succ]; omega)
  rw [h1] at e
  have b1' : m_law_begun [xx] [.tab "_law_lots.<locals>.<lambda>"] = .ok (.ref 2) (stBegun [.tab "_law_lots.<locals>.<lambda>"] script) := b1
  have main : b_law r [some (xx), none, none, none, none, none, none] [.tab "_law_lots.<locals>.<lambda>"] = .ok (.rt (.bl true)) s' := by
    unfold b_law
    simp only [sThen_run, sAsg_run, eCall_run, eCons_run, eVar_zero, eNil_run, bind_ok, List.length_cons, List.length_nil, Nat.zero_add, if_true, b1', put_name, List.set_cons_succ, List.set_cons_zero, thenR_nx]
    rw [e]
    simp only [thenR_nx, sThen_run, sRet_run, eC_run, bind_ok, thenR_rt]
  unfold m_law
  rw [run_def]
  rw [show b_law r (List.map some [xx] ++ List.replicate (7 - [xx].length) none) [.tab "_law_lots.<locals>.<lambda>"] = _ from main]
  cases s' with
  | nil => cases h4
  | cons c0 s' =>
    have : c0 = .tab "_law_lots.<locals>.<lambda>" := by simpa using h4
    subst this
    exact ⟨[.tab "_law_lots.<locals>.<lambda>"], rfl⟩
end L3

/-! what heads share -/
namespace L3
open PySem PySem.Spec PyProof.Rows L2
def BindP (d : Df) : Prop := ∀ (kV doc pm : Value) (an : Option Addr) (cdv ct : Value) (us : List Value), us.length = d.ps.length → bindArgs (PySem.W.fnOf d.name d.name d.args d.body d.scope .none kV doc pm an cdv ct) ⟨us, []⟩ = pure (d.ps.zip us)
def OkL : List (Str × Df) → Prop
  | [] => True
  | p :: l => BindP p.2 ∧ OkL l
theorem OkL.mem : ∀ {l : List (Str × Df)} {p : Str × Df}, OkL l → p ∈ l → BindP p.2
  | q :: l, p, h, hp => by
    rcases List.mem_cons.mp hp with rfl | hp
    · exact h.1
    · exact OkL.mem h.2 hp
def scopeB (d : Df) : Bool := decide (d.scope.kind = .function) && !d.scope.isCoroutine && !d.scope.isGenerator && decide d.N.Nodup && decide (d.N.take d.ps.length = d.ps) && d.ps.all (fun x => decide (d.scope.names.lookup x = some .local) || decide (d.scope.names.lookup x = some .cell)) && d.scope.names.all fun y => decide (y.2 ≠ .free)
theorem scope_of {d : Df} (h : scopeB d = true) : FnScope d.N d.ps d.scope := by
  unfold scopeB at h
  simp only [Bool.and_eq_true, Bool.not_eq_true', decide_eq_true_eq] at h
  obtain ⟨⟨⟨⟨⟨⟨h1, h2⟩, h3⟩, h4⟩, h5⟩, h6⟩, h7⟩ := h
  refine ⟨h1, h2, h3, h4, h5, fun x hx => ?_, fun y hy => of_decide_eq_true (List.all_eq_true.mp h7 y hy)⟩
  have := List.all_eq_true.mp h6 x hx
  rw [Bool.or_eq_true] at this
  exact this.imp of_decide_eq_true of_decide_eq_true
theorem lookup_mem' {x : Str} {d : Df} : ∀ {l : List (Str × Df)}, l.lookup x = some d → (x, d) ∈ l
  | (y, e) :: l, h => by
    rw [List.lookup_cons] at h
    cases c : x == y with
    | true =>
      rw [c] at h
      cases h
      rw [eq_of_beq c]
      exact List.mem_cons_self ..
    | false =>
      rw [c] at h
      exact List.mem_cons_of_mem _ (lookup_mem' h)
/-- the table's lambda's name, the def that has it -/
def lamB (own q : Str) (p : Str × Df) : Bool := match p.2.lam with
  | none => true
  | some (i, q') => decide (p.1 = own) && decide (i = 0) && decide (q' = q) && decide (p.2.name ++ ".<locals>." ++ "<lambda>" = q)
theorem def_at {g : G} {mg : Str → Option Value} {base : Heap} {x own q : Str} {d : Df} {fd : FuncData} (hm : mg x = some (.ref (He.ga g.K x))) (F : FunD g.K d.name d.name d.args d.body d.scope [] [] (He.fAd g.K (x, none)) fd) (hb : BindP d) (hs : scopeB d = true) (hl : lamB own q (x, d) = true)
    (ht : ∀ c, He.codeOf g.K (own, none) = c → x = own → LamX.TabB base mg c (g.tb q)) : DefAt g mg base x d := by
  obtain ⟨oc, od, dV, kV, doc, pm, an, cdv, ct, osl, hfd, lk, hcd, _, _⟩ := id F.ex
  refine ⟨He.ga g.K x, fd, hm, F, ?_, scope_of hs, fun i q' e => ?_⟩
  · exact FunD.bindsN F fun kV doc pm an cdv ct us hl => hb kV doc pm an cdv ct us hl
  · unfold lamB at hl
    rw [e] at hl
    simp only [Bool.and_eq_true, decide_eq_true_eq] at hl
    obtain ⟨⟨⟨h1, h2⟩, h3⟩, h4⟩ := hl
    obtain ⟨c, hc⟩ := He.codeIn_ref hcd
    have hcode : fd.code = .ref c := by rw [hfd]; exact hc
    refine ⟨by rw [h4, h3], c, hcode, ?_⟩
    rw [h3]
    refine ht c ?_ h1
    subst h1
    exact He.codeOf_eq lk hcode
theorem sto_start {g : G} {H : Hp} {P : Addr} {q : Str} (hP : H P = some (.tbl #[])) (hg : g.tb q = P) : Sto g ⟨[P], []⟩ [.tab q] H where
  len := rfl
  nd := by simp
  tb := fun n a q' h1 h2 => by
    cases n with
    | zero => simp at h1 h2; rw [← h1, ← h2, hg]
    | succ n => simp at h1
  dis := fun a _ h => by cases h
  xin := fun a h => by cases h
  xt := fun a h => by cases h
  cell := fun n a h => by
    cases n with
    | zero =>
      simp at h
      subst h
      exact ⟨.tab q, .tbl #[], rfl, hP, .tab trivial fun pos cv e => by cases e⟩
    | succ n => simp at h
/-- the script as data -/
theorem script_rel {K : PySem.W.Frag} {H : Hp} {P a : Addr} {ns : List Int} (hP : H P = some (.tbl #[])) (h : SqL K H a (ns.map V.int)) : ∃ x, RelD K ⟨[P], []⟩ H x (.ref a) ∧ (x = .lst (ns.map D.int) ∨ x = .lck (ns.map D.int)) := by
  have hr : ∀ ns : List Int, RelDs K ⟨[P], []⟩ H (ns.map D.int) (ns.map V.int) := by
    intro ns
    induction ns with
    | nil => exact .nil
    | cons n ns ih => exact .cons (.int n) ih
  have hn : ∀ o, H a = some o → (∀ ps, o ≠ .tbl ps) → ¬ (⟨[P], []⟩ : Rho).has a := fun o e ht z => by
    rcases z with z | z
    · have : a = P := List.mem_singleton.mp z
      subst this
      rw [hP] at e
      cases e
      exact ht _ rfl
    · cases z
  rcases h with (h | ⟨o, h⟩) | h
  · exact ⟨_, .lst ⟨hn _ h (fun ps e => by cases e), h⟩ (hr ns), .inl rfl⟩
  · exact ⟨_, .lck (hn _ h (fun ps e => by cases e)) h (hr ns), .inr rfl⟩
  · exact ⟨_, .lkk h (hr ns), .inr rfl⟩
theorem Pol.def_ok {p : Pol} {g : G} {P : Program} {w : World} {mg : Str → Option Value} {base : Heap} (h : p.At g mg base) (k : Nat) {d : Df} {f : Addr} {fd : FuncData} (F : FunD g.K d.name d.name d.args d.body d.scope [] [] f fd) (S : FnScope d.N d.ps d.scope)
    (hL : ∀ i q, d.lam = some (i, q) → d.name ++ ".<locals>." ++ "<lambda>" = q ∧ ∃ c, fd.code = .ref c ∧ LamX.TabB base mg c (g.tb q)) : FnOk P w g.K mg base (L2.CX P w) (k + 1) f fd d.ps (spI g d.ps.length (d.run (p.cf d (p.call k)))) := by
  obtain ⟨oc, od, dV, kV, doc, pm, an, cdv, ct, osl, rfl, lk, hcd, _, _⟩ := F.ex
  refine fn_ok lk hcd S fun A outer s H E hr => blk_ok (SV_ok (EV_ok 60) ?_ _ _) _
  refine ⟨⟨rfl, rfl, S.nd, fun y z e => .inl e, fun y e => rfl, rfl, by have := hr.un; show (A.deeper _).units + 67 < cLine; omega, hr.depth, takes_of rfl rfl rfl rfl, fun y m u e => ?_, h.free, h.keyf, fun i q e => ?_, h.glo⟩, rfl, ?_, passes_of rfl⟩
  · obtain ⟨b, fd2, ps2, q1, q2, q3, q4⟩ := Pol.call_ok h k y m u e
    exact ⟨b, fd2, ps2, k, q1, q2, q3, hr, q4⟩
  · obtain ⟨l1, c, l2, l3⟩ := hL i q e
    exact ⟨l1, c, l2, l3⟩
  · show (if d.scope.kind.isAnnotationScope then ScopeKind.function else d.scope.kind) = _
    rw [S.kind]; rfl
end L3

set_option maxHeartbeats 0
namespace L3.K11
open PySem PySem.Spec PyProof.Rows L2 L3
abbrev lw : PySem.W.OpenLaw := PySem.Challenge.rw_ringsandcuts_k11_whole_sums_over_all_dye
abbrev R : PySem.W.OpenRow := PySem.W.OpenLaw.row lw
def frees : List Str := ["isinstance", "int", "bool", "tuple", "str", "len", "all", "min", "max", "range", "list", "sorted", "dict", "sum", "zip", "reversed", "enumerate", "any", "abs"]
def consts : List (Str × Int) := [("MOST_PLACES", 8), ("MOST_TIES", 12), ("MOST_WORTH", 999999999999), ("MOST_CURRENT", 1000000), ("MOST_DYES", 1000000)]
def fa : List He.Fa := (dfs.map fun p => He.Fa.glo p.1) ++ (frees.map He.Fa.free) ++ consts.map fun p => He.Fa.int p.1 p.2
def fn : List He.DefD := dfs.map fun p => ⟨(p.1, none), p.2.name, p.2.name, p.2.args, p.2.body, p.2.scope, [], []⟩
def tf : List He.Defn := [("_law_lots", none)]
abbrev hk : PySem.W.Hook := He.hookX 4 fa fn [] tf (fun _ => true)
def ob (s : PySem.W.SharedT) : He.AlX := He.obsX 4 fa fn [] tf (fun _ => true) (HandSHeadRun.getT s)
theorem ob_eq (s : PySem.W.SharedT) : ob s = hk.obs s.abs := He.obsX_eq (HandSHeadRun.getT_eq s)
def names0 : List Str := ["WebError", "BadWeb", "BadLot", "BadNumber", "MOST_PLACES", "MOST_TIES", "is_whole", "need_whole", "is_below", "is_pair", "is_web", "need_web", "is_lot", "need_lot", "made", "names_by", "pieces_by", "pieces_in", "pieces", "rank_in", "all_ties", "by_size", "all_lots", "without", "is_loop", "is_bridge", "web_away", "name_drawn", "web_drawn", "MOST_WORTH"]
def names1 : List Str := ["plus", "times", "taken_so_often", "table_of", "polynomial_of", "two_letters", "polynomial_by_ties", "powered", "worth_of", "worth", "MOST_CURRENT", "need_current", "sums_at", "are_wholes", "is_current", "current_numbers", "power_sum", "many_currents", "MOST_DYES", "need_dyes", "is_tied", "is_dyeing_in", "is_dyeing", "with_place", "counts_of_partings", "falling_product", "many_dyeings", "_law_begun", "_law_blended", "_law_draw"]
def names2 : List Str := ["_law_is_truth", "_law_same", "_law_pieces", "_law_rank", "_law_lots", "_law_choose", "_law_by_lots", "_law_power", "_law_made", "_law_kp_all", "_law_kp_dyes_right", "_law_kp_flows_right"]
def names : List Str := names0 ++ names1 ++ names2
theorem run (w : World) : HandSHeadRun.RunEq R (PySem.W.view R.prog [79]) hk ob 3000 names w := by
  intro os
  kernel_rfl
theorem bd_is_whole : BindP d_is_whole := fun _ _ _ _ _ _ us hl => match us, hl with | [_], _ => rfl
theorem bd_need_whole : BindP d_need_whole := fun _ _ _ _ _ _ us hl => match us, hl with | [_, _, _, _], _ => rfl
theorem bd_is_below : BindP d_is_below := fun _ _ _ _ _ _ us hl => match us, hl with | [_, _], _ => rfl
theorem bd_is_pair : BindP d_is_pair := fun _ _ _ _ _ _ us hl => match us, hl with | [_, _], _ => rfl
theorem bd_is_web : BindP d_is_web := fun _ _ _ _ _ _ us hl => match us, hl with | [_], _ => rfl
theorem bd_need_web : BindP d_need_web := fun _ _ _ _ _ _ us hl => match us, hl with | [_], _ => rfl
theorem bd_is_lot : BindP d_is_lot := fun _ _ _ _ _ _ us hl => match us, hl with | [_, _], _ => rfl
theorem bd_need_lot : BindP d_need_lot := fun _ _ _ _ _ _ us hl => match us, hl with | [_, _], _ => rfl
theorem bd_made : BindP d_made := fun _ _ _ _ _ _ us hl => match us, hl with | [_, _], _ => rfl
theorem bd_names_by : BindP d_names_by := fun _ _ _ _ _ _ us hl => match us, hl with | [_, _], _ => rfl
theorem bd_pieces_by : BindP d_pieces_by := fun _ _ _ _ _ _ us hl => match us, hl with | [_, _], _ => rfl
theorem bd_pieces_in : BindP d_pieces_in := fun _ _ _ _ _ _ us hl => match us, hl with | [_, _], _ => rfl
theorem bd_pieces : BindP d_pieces := fun _ _ _ _ _ _ us hl => match us, hl with | [_, _], _ => rfl
theorem bd_rank_in : BindP d_rank_in := fun _ _ _ _ _ _ us hl => match us, hl with | [_, _], _ => rfl
theorem bd_all_ties : BindP d_all_ties := fun _ _ _ _ _ _ us hl => match us, hl with | [_], _ => rfl
theorem bd_by_size : BindP d_by_size := fun _ _ _ _ _ _ us hl => match us, hl with | [_], _ => rfl
theorem bd_all_lots : BindP d_all_lots := fun _ _ _ _ _ _ us hl => match us, hl with | [_], _ => rfl
theorem bd_without : BindP d_without := fun _ _ _ _ _ _ us hl => match us, hl with | [_, _], _ => rfl
theorem bd_is_loop : BindP d_is_loop := fun _ _ _ _ _ _ us hl => match us, hl with | [_, _], _ => rfl
theorem bd_is_bridge : BindP d_is_bridge := fun _ _ _ _ _ _ us hl => match us, hl with | [_, _], _ => rfl
theorem bd_web_away : BindP d_web_away := fun _ _ _ _ _ _ us hl => match us, hl with | [_, _], _ => rfl
theorem bd_name_drawn : BindP d_name_drawn := fun _ _ _ _ _ _ us hl => match us, hl with | [_, _, _], _ => rfl
theorem bd_web_drawn : BindP d_web_drawn := fun _ _ _ _ _ _ us hl => match us, hl with | [_, _], _ => rfl
theorem bd_plus : BindP d_plus := fun _ _ _ _ _ _ us hl => match us, hl with | [_, _], _ => rfl
theorem bd_times : BindP d_times := fun _ _ _ _ _ _ us hl => match us, hl with | [_, _], _ => rfl
theorem bd_taken_so_often : BindP d_taken_so_often := fun _ _ _ _ _ _ us hl => match us, hl with | [_, _], _ => rfl
theorem bd_table_of : BindP d_table_of := fun _ _ _ _ _ _ us hl => match us, hl with | [_], _ => rfl
theorem bd_polynomial_of : BindP d_polynomial_of := fun _ _ _ _ _ _ us hl => match us, hl with | [_], _ => rfl
theorem bd_two_letters : BindP d_two_letters := fun _ _ _ _ _ _ us hl => match us, hl with | [_], _ => rfl
theorem bd_polynomial_by_ties : BindP d_polynomial_by_ties := fun _ _ _ _ _ _ us hl => match us, hl with | [_], _ => rfl
theorem bd_powered : BindP d_powered := fun _ _ _ _ _ _ us hl => match us, hl with | [_, _], _ => rfl
theorem bd_worth_of : BindP d_worth_of := fun _ _ _ _ _ _ us hl => match us, hl with | [_, _, _], _ => rfl
theorem bd_worth : BindP d_worth := fun _ _ _ _ _ _ us hl => match us, hl with | [_, _, _], _ => rfl
theorem bd_need_current : BindP d_need_current := fun _ _ _ _ _ _ us hl => match us, hl with | [_, _], _ => rfl
theorem bd_sums_at : BindP d_sums_at := fun _ _ _ _ _ _ us hl => match us, hl with | [_, _], _ => rfl
theorem bd_are_wholes : BindP d_are_wholes := fun _ _ _ _ _ _ us hl => match us, hl with | [_, _], _ => rfl
theorem bd_is_current : BindP d_is_current := fun _ _ _ _ _ _ us hl => match us, hl with | [_, _, _], _ => rfl
theorem bd_current_numbers : BindP d_current_numbers := fun _ _ _ _ _ _ us hl => match us, hl with | [_], _ => rfl
theorem bd_power_sum : BindP d_power_sum := fun _ _ _ _ _ _ us hl => match us, hl with | [_, _], _ => rfl
theorem bd_many_currents : BindP d_many_currents := fun _ _ _ _ _ _ us hl => match us, hl with | [_, _], _ => rfl
theorem bd_need_dyes : BindP d_need_dyes := fun _ _ _ _ _ _ us hl => match us, hl with | [_, _], _ => rfl
theorem bd_is_tied : BindP d_is_tied := fun _ _ _ _ _ _ us hl => match us, hl with | [_, _, _], _ => rfl
theorem bd_is_dyeing_in : BindP d_is_dyeing_in := fun _ _ _ _ _ _ us hl => match us, hl with | [_, _, _], _ => rfl
theorem bd_is_dyeing : BindP d_is_dyeing := fun _ _ _ _ _ _ us hl => match us, hl with | [_, _, _], _ => rfl
theorem bd_with_place : BindP d_with_place := fun _ _ _ _ _ _ us hl => match us, hl with | [_, _, _], _ => rfl
theorem bd_counts_of_partings : BindP d_counts_of_partings := fun _ _ _ _ _ _ us hl => match us, hl with | [_], _ => rfl
theorem bd_falling_product : BindP d_falling_product := fun _ _ _ _ _ _ us hl => match us, hl with | [_, _], _ => rfl
theorem bd_many_dyeings : BindP d_many_dyeings := fun _ _ _ _ _ _ us hl => match us, hl with | [_, _], _ => rfl
theorem bd_law_begun : BindP d_law_begun := fun _ _ _ _ _ _ us hl => match us, hl with | [_], _ => rfl
theorem bd_law_blended : BindP d_law_blended := fun _ _ _ _ _ _ us hl => match us, hl with | [_], _ => rfl
theorem bd_law_draw : BindP d_law_draw := fun _ _ _ _ _ _ us hl => match us, hl with | [_, _], _ => rfl
theorem bd_law_is_truth : BindP d_law_is_truth := fun _ _ _ _ _ _ us hl => match us, hl with | [_, _], _ => rfl
theorem bd_law_same : BindP d_law_same := fun _ _ _ _ _ _ us hl => match us, hl with | [_, _], _ => rfl
theorem bd_law_pieces : BindP d_law_pieces := fun _ _ _ _ _ _ us hl => match us, hl with | [_, _], _ => rfl
theorem bd_law_rank : BindP d_law_rank := fun _ _ _ _ _ _ us hl => match us, hl with | [_, _], _ => rfl
theorem bd_law_lots : BindP d_law_lots := fun _ _ _ _ _ _ us hl => match us, hl with | [_], _ => rfl
theorem bd_law_choose : BindP d_law_choose := fun _ _ _ _ _ _ us hl => match us, hl with | [_, _], _ => rfl
theorem bd_law_by_lots : BindP d_law_by_lots := fun _ _ _ _ _ _ us hl => match us, hl with | [_], _ => rfl
theorem bd_law_power : BindP d_law_power := fun _ _ _ _ _ _ us hl => match us, hl with | [_, _], _ => rfl
theorem bd_law_made : BindP d_law_made := fun _ _ _ _ _ _ us hl => match us, hl with | [_, _], _ => rfl
theorem bd_law_kp_all : BindP d_law_kp_all := fun _ _ _ _ _ _ us hl => match us, hl with | [_, _], _ => rfl
theorem bd_law_kp_dyes_right : BindP d_law_kp_dyes_right := fun _ _ _ _ _ _ us hl => match us, hl with | [_, _], _ => rfl
theorem bd_law_kp_flows_right : BindP d_law_kp_flows_right := fun _ _ _ _ _ _ us hl => match us, hl with | [_, _], _ => rfl
theorem bd_law : BindP d_law := fun _ _ _ _ _ _ us hl => match us, hl with | [_], _ => rfl
theorem binds_all : OkL dfs := ⟨bd_is_whole, bd_need_whole, bd_is_below, bd_is_pair, bd_is_web, bd_need_web, bd_is_lot, bd_need_lot, bd_made, bd_names_by, bd_pieces_by, bd_pieces_in, bd_pieces, bd_rank_in, bd_all_ties, bd_by_size, bd_all_lots, bd_without, bd_is_loop, bd_is_bridge, bd_web_away, bd_name_drawn, bd_web_drawn, bd_plus, bd_times, bd_taken_so_often, bd_table_of, bd_polynomial_of, bd_two_letters, bd_polynomial_by_ties, bd_powered, bd_worth_of, bd_worth, bd_need_current, bd_sums_at, bd_are_wholes, bd_is_current, bd_current_numbers, bd_power_sum, bd_many_currents, bd_need_dyes, bd_is_tied, bd_is_dyeing_in, bd_is_dyeing, bd_with_place, bd_counts_of_partings, bd_falling_product, bd_many_dyeings, bd_law_begun, bd_law_blended, bd_law_draw, bd_law_is_truth, bd_law_same, bd_law_pieces, bd_law_rank, bd_law_lots, bd_law_choose, bd_law_by_lots, bd_law_power, bd_law_made, bd_law_kp_all, bd_law_kp_dyes_right, bd_law_kp_flows_right, bd_law, trivial⟩
theorem scopes : dfs.all (fun p => scopeB p.2) = true := by decide +kernel
def lq : Str := "_law_lots.<locals>.<lambda>"
theorem lams : dfs.all (lamB "_law_lots" lq) = true := by decide +kernel
theorem by_size_body : ∃ e pos, d_by_size.body = [.Return (some e) pos] ∧ keyE e = some "lot" ∧ keySc "lot" d_by_size.scope = true := ⟨_, _, rfl, by decide +kernel, by decide +kernel⟩
theorem names_ok : (dfs.all fun p => decide (p.1 = p.2.name)) = true := by decide +kernel
section
variable {w : World} {K : PySem.W.Frag} {h base : Heap} {mg : Str → Option Value}
def gOf (K : PySem.W.Frag) : G := ⟨K, fun _ => 0, fun _ => (He.cT K ("_law_lots", none)).2⟩
theorem mem_fa_glo {p : Str × Df} (hp : p ∈ dfs) : He.Fa.glo p.1 ∈ fa := List.mem_append_left _ (List.mem_append_left _ (List.mem_map_of_mem (f := fun p : Str × Df => He.Fa.glo p.1) hp))
theorem mem_fa_free {x : Str} (hp : x ∈ frees) : He.Fa.free x ∈ fa := List.mem_append_left _ (List.mem_append_right _ (List.mem_map_of_mem hp))
theorem mem_fa_int {p : Str × Int} (hp : p ∈ consts) : He.Fa.int p.1 p.2 ∈ fa := List.mem_append_right _ (List.mem_map_of_mem (f := fun p : Str × Int => He.Fa.int p.1 p.2) hp)
theorem def_of (c : He.SaysD fa fn K) {p : Str × Df} (hp : p ∈ dfs) : ∃ fd, FunD K p.2.name p.2.name p.2.args p.2.body p.2.scope [] [] (He.fAd K (p.1, none)) fd := by
  exact He.SaysD.defs c (d := ⟨(p.1, none), p.2.name, p.2.name, p.2.args, p.2.body, p.2.scope, [], []⟩) (List.mem_map_of_mem (f := fun p : Str × Df => (⟨(p.1, none), p.2.name, p.2.name, p.2.args, p.2.body, p.2.scope, [], []⟩ : He.DefD)) hp)
theorem glo_of {x : Str} {d : D} (e : pol.glo x = some d) : ∃ i, (x, i) ∈ consts ∧ d = .int i := by
  unfold pol at e
  simp only at e
  split at e
  · rename_i hx
    subst hx
    cases e
    exact ⟨8, by decide +kernel, rfl⟩
  split at e
  · rename_i hx
    subst hx
    cases e
    exact ⟨12, by decide +kernel, rfl⟩
  split at e
  · rename_i hx
    subst hx
    cases e
    exact ⟨999999999999, by decide +kernel, rfl⟩
  split at e
  · rename_i hx
    subst hx
    cases e
    exact ⟨1000000, by decide +kernel, rfl⟩
  split at e
  · rename_i hx
    subst hx
    cases e
    exact ⟨1000000, by decide +kernel, rfl⟩
  cases e
theorem pol_at (KX : K.In h) (G0 : h.Ns mainGlobals mg) (c : He.SaysX fa fn [] tf (fun _ => true) w h K) (TB : LamX.TabB base mg (He.cT K ("_law_lots", none)).1 (He.cT K ("_law_lots", none)).2) : pol.At (gOf K) mg base where
  defs := fun x d e => by
    have hm : (x, d) ∈ dfs := lookup_mem' e
    obtain ⟨fd, F⟩ := def_of c.t.d hm
    refine def_at (own := "_law_lots") (q := lq) (He.glo_ok KX G0 (He.SaysD.facts c.t.d (mem_fa_glo hm))) F (OkL.mem binds_all hm) (List.all_eq_true.mp scopes _ hm) (List.all_eq_true.mp lams _ hm) fun cc hc _ => ?_
    have e1 : (He.cT K ("_law_lots", none)).1 = cc := hc
    rw [← e1]
    exact TB
  free := fun x e => by
    have hx : x ∈ frees := by
      have e : (frees.contains x) = true := e
      simpa using e
    exact He.free_ok KX G0 (He.SaysD.facts c.t.d (mem_fa_free hx))
  keyf := fun x e => by
    have ex : x = "by_size" := by
      have e : (x == ("by_size" : Str)) = true := e
      exact eq_of_beq e
    subst ex
    have hm : (("by_size" : Str), d_by_size) ∈ dfs := lookup_mem' t_by_size
    obtain ⟨fd, F⟩ := def_of c.t.d hm
    obtain ⟨e1, pos, b1, b2, b3⟩ := by_size_body
    have F' : FunD K d_by_size.name d_by_size.name d_by_size.args [.Return (some e1) pos] d_by_size.scope [] [] (He.fAd K ("by_size", none)) fd := by
      have F2 : FunD K d_by_size.name d_by_size.name d_by_size.args d_by_size.body d_by_size.scope [] [] (He.fAd K ("by_size", none)) fd := F
      rw [b1] at F2
      exact F2
    refine ⟨_, _, _, e1, pos, _, He.ga K "by_size", fd, "lot", He.glo_ok KX G0 (He.SaysD.facts c.t.d (mem_fa_glo hm)), F', ?_, b2, b3⟩
    exact FunD.bindsN F fun kV doc pm an cdv ct us hl => bd_by_size kV doc pm an cdv ct us hl
  glo := fun x d e => by
    obtain ⟨i, hi, rfl⟩ := glo_of e
    obtain ⟨t, ht⟩ := He.int_ok KX G0 (He.SaysD.facts c.t.d (mem_fa_int hi))
    exact ⟨.int i, _, ht, ⟨t, rfl⟩, fun ρ H => .int i⟩
end
/-- a recursion's functions at each depth -/
theorem pbt_at : ∀ f : Nat, f ≤ 12 → ∀ k, ∃ g, pol.call (k + 4 + f) "polynomial_by_ties" = some (1, g) ∧ PbtOk f g
  | 0, _, k => by
    have hb : ∀ k, ∃ g, pol.call (k + 1) "polynomial_by_ties" = some (1, g) := fun k => ⟨_, call_s t_polynomial_by_ties k⟩
    obtain ⟨g, hg⟩ := hb (k + 2)
    refine ⟨m_polynomial_by_ties g, c_polynomial_by_ties k g ?_, ?_⟩
    · exact hg
    · intro n ts s hs hn hp hz
      have : ts = [] := List.eq_nil_of_length_eq_zero (by omega)
      subst this
      exact bt_nil hs
  | f + 1, hf, k => by
    obtain ⟨g, h1, h2⟩ := pbt_at f (by omega) k
    refine ⟨m_polynomial_by_ties g, ?_, bt_step hf h2⟩
    have e : k + f + 1 + 3 = k + 4 + f := by omega
    have h3 : pol.call (k + f + 1 + 3) "polynomial_by_ties" = some (1, g) := by rw [e]; exact h1
    have e2 : k + 4 + (f + 1) = k + f + 1 + 4 := by omega
    rw [e2]
    exact c_polynomial_by_ties (k + f + 1) g h3

theorem law_at {w : World} {mg : Str → Option Value} {fa0 : Addr} {h : Heap} (hM : ∀ (n : Nat) (ts : List (Nat × Nat)), WebOk n ts → n ≤ 4 → ts.length ≤ 5 → MathOk n ts) (Y : hk.says w h) (G0 : h.Ns mainGlobals mg) (hmg : mg "law" = some (.ref fa0)) :
    ∃ K : PySem.W.Frag, K.In h ∧ LamX.LawAtS lw w K (L2.CX lw.prog w) 19 63 "script" mg fa0 h := by
  obtain ⟨K, KX, c⟩ := Y
  refine ⟨K, KX, ?_⟩
  have hm : (("law" : Str), d_law) ∈ dfs := lookup_mem' t_law
  obtain ⟨fd, F⟩ := def_of c.t.d hm
  have hga : mg "law" = some (.ref (He.ga K "law")) := He.glo_ok KX G0 (He.SaysD.facts c.t.d (mem_fa_glo hm))
  have efa : fa0 = He.ga K "law" := by rw [hmg] at hga; cases hga; rfl
  subst efa
  obtain ⟨g, h1, h2⟩ := pbt_at 12 (Nat.le_refl _) 0
  have e16 : 0 + 4 + 12 = 10 + 6 := rfl
  rw [e16] at h1
  have hl := c_law 10 (fun _ => g) h1
  have htf : (("_law_lots", none) : He.Defn) ∈ tf := List.mem_singleton.mpr rfl
  refine ⟨fd, [He.cT K ("_law_lots", none)], spI (gOf K) 1 (m_law fun _ => g), ?_, ?_, ?_, ?_, ?_, ?_⟩
  · intro p hp
    rw [List.mem_singleton] at hp; subst hp
    exact c.empty _ htf
  · intro p hp
    rw [List.mem_singleton] at hp; subst hp
    exact c.out _ htf
  · intro p hp
    rw [List.mem_singleton] at hp; subst hp
    exact PySem.W.codeHd_of_K KX (c.hd _ htf)
  · intro s u
    exact FunD.bindsA F (ps := ["script"]) (fun kV doc pm an cdv ct us hl => bd_law kV doc pm an cdv ct us hl) s [u] rfl
  · intro H a ns hn hb hP hS
    have hP := hP _ (List.mem_singleton.mpr rfl)
    obtain ⟨x, hx, hx2⟩ := script_rel hP hS
    have hscr : Scr x ns := by
      rcases hx2 with rfl | rfl
      · exact ⟨fun s => rfl, fun s => by simp⟩
      · exact ⟨fun s => rfl, fun s => by unfold vLen; simp [asQ]⟩
    obtain ⟨s', e⟩ := law_ok (r := fun _ => g) hscr (fun _ => h2) hn hM
    refine ⟨rfl, ⟨[(He.cT K ("_law_lots", none)).2], []⟩, [.tab lq], [x], sto_start hP rfl, .cons hx .nil, ?_⟩
    have e' : m_law (fun _ => g) [x] [.tab lq] = .ok (.bl true) s' := e
    rw [e']
    intro ρ' H' v u hs r
    cases r
    rfl
  · intro base KB GB TB
    have A : pol.At (gOf K) mg base := pol_at KX G0 c (TB _ (List.mem_singleton.mpr rfl))
    have e1 : some (d_law.ps.length, d_law.run (pol.cf d_law (pol.call 18))) = some (1, m_law fun _ => g) := (call_s t_law 18).symm.trans hl
    have e2 : d_law.run (pol.cf d_law (pol.call 18)) = m_law fun _ => g := congrArg Prod.snd (Option.some.inj e1)
    have hF := Pol.def_ok (P := lw.prog) (w := w) A 18 F (scope_of (List.all_eq_true.mp scopes _ hm)) (fun i q e => by cases e)
    rw [show (("law" : Str), d_law).2 = d_law from rfl, e2] at hF
    exact hF
end L3.K11
open PySem PySem.W PySem.Calls PyProof.Rows
theorem L3.K11.holds (hM : ∀ (n : Nat) (ts : List (Nat × Nat)), L3.WebOk n ts → n ≤ 4 → ts.length ≤ 5 → L3.MathOk n ts) : PySem.Challenge.rw_ringsandcuts_k11_whole_sums_over_all_dye.Holds := by
  w_on; o_law
  refine HandSHeadRun.head_any (r := OpenLaw.row PySem.Challenge.rw_ringsandcuts_k11_whole_sums_over_all_dye) (q := view (OpenLaw.row PySem.Challenge.rw_ringsandcuts_k11_whole_sums_over_all_dye).prog [79]) (H := L3.K11.hk) (ob := L3.K11.ob) (M := 3000) (loose := L3.K11.names) (d := HandSHeadRun.topDef (OpenLaw.row PySem.Challenge.rw_ringsandcuts_k11_whole_sums_over_all_dye).prog 79) (kwd := []) L3.K11.ob_eq
    (by kernel_rfl) (fun s => by kernel_rfl) L3.K11.run (by kernel_rfl) (by kernel_rfl) (by kernel_rfl) (by rfl) (by first | assumption | decide +kernel) (by decide +kernel) ⟨rfl, rfl, rfl, rfl, rfl, by decide +kernel⟩ ?hw ?hc
  case hw => w_witness2
  case hc =>
    refine LamX.walk_ofTsE (l := PySem.Challenge.rw_ringsandcuts_k11_whole_sums_over_all_dye) (n := 63) (k := 19) (x := "script") (CX := fun w => L2.CX L3.K11.lw.prog w) rfl (by decide) (by kernel_rfl) ⟨rfl, by decide, by decide⟩ ?F ?hCX
    case F =>
      intro w mg fa0 h Y G hmg0
      have hmg : mg ("law" : PySem.Str) = some (.ref fa0) := by
        have e : (HandSHeadRun.topDef (OpenLaw.row PySem.Challenge.rw_ringsandcuts_k11_whole_sums_over_all_dye).prog 79).name = ("law" : PySem.Str) := by kernel_rfl
        rw [← e]
        exact hmg0
      exact L3.K11.law_at hM Y G hmg
    case hCX =>
      intro w H s e s' hx
      obtain ⟨_, _, _, _, _, _, _, _, _, _, _, _, z⟩ := hx
      exact z

/-! P1: ranks -/
namespace L3
abbrev T2 := Nat × Nat
/-- connected by ties -/
inductive Cn (ts : List T2) : Nat → Nat → Prop
  | refl (x : Nat) : Cn ts x x
  | tie {p : T2} : p ∈ ts → Cn ts p.1 p.2
  | symm {x y : Nat} : Cn ts x y → Cn ts y x
  | trans {x y z : Nat} : Cn ts x y → Cn ts y z → Cn ts x z
theorem Cn.mono {ts us : List T2} (h : ∀ p ∈ ts, p ∈ us) {x y : Nat} (c : Cn ts x y) : Cn us x y := by
  induction c with
  | refl x => exact .refl x
  | tie hp => exact .tie (h _ hp)
  | symm _ ih => exact .symm ih
  | trans _ _ i1 i2 => exact .trans i1 i2
theorem cn_snoc {ts : List T2} {e : T2} {x y : Nat} : Cn (ts ++ [e]) x y ↔ Cn ts x y ∨ (Cn ts x e.1 ∧ Cn ts e.2 y) ∨ (Cn ts x e.2 ∧ Cn ts e.1 y) := by
  constructor
  · intro c
    induction c with
    | refl x => exact .inl (.refl x)
    | tie hp =>
      rcases List.mem_append.mp hp with hp | hp
      · exact .inl (.tie hp)
      · rw [List.mem_singleton] at hp
        subst hp
        exact .inr (.inl ⟨.refl _, .refl _⟩)
    | symm _ ih =>
      rcases ih with h | ⟨h1, h2⟩ | ⟨h1, h2⟩
      · exact .inl h.symm
      · exact .inr (.inr ⟨h2.symm, h1.symm⟩)
      · exact .inr (.inl ⟨h2.symm, h1.symm⟩)
    | trans _ _ i1 i2 =>
      rcases i1 with h | ⟨h1, h2⟩ | ⟨h1, h2⟩
      · rcases i2 with k | ⟨k1, k2⟩ | ⟨k1, k2⟩
        · exact .inl (h.trans k)
        · exact .inr (.inl ⟨h.trans k1, k2⟩)
        · exact .inr (.inr ⟨h.trans k1, k2⟩)
      · rcases i2 with k | ⟨k1, k2⟩ | ⟨k1, k2⟩
        · exact .inr (.inl ⟨h1, h2.trans k⟩)
        · exact .inr (.inl ⟨h1, k2⟩)
        · exact .inl (h1.trans k2)
      · rcases i2 with k | ⟨k1, k2⟩ | ⟨k1, k2⟩
        · exact .inr (.inr ⟨h1, h2.trans k⟩)
        · exact .inl (h1.trans k2)
        · exact .inr (.inr ⟨h1, k2⟩)
  · have up : ∀ {x y}, Cn ts x y → Cn (ts ++ [e]) x y := fun c => c.mono fun p hp => List.mem_append_left _ hp
    have he : Cn (ts ++ [e]) e.1 e.2 := .tie (by simp)
    rintro (h | ⟨h1, h2⟩ | ⟨h1, h2⟩)
    · exact up h
    · exact (up h1).trans (he.trans (up h2))
    · exact (up h1).trans (he.symm.trans (up h2))
theorem cn_nil {x y : Nat} (c : Cn [] x y) : x = y := by
  induction c with
  | refl _ => rfl
  | tie h => cases h
  | symm _ ih => exact ih.symm
  | trans _ _ i1 i2 => exact i1.trans i2
theorem gt_relab {l : List Nat} {p : T2} {x : Nat} (hx : x < l.length) : gt (relab l p) x = if gt l x = max (gt l p.1) (gt l p.2) then min (gt l p.1) (gt l p.2) else gt l x := by
  unfold relab
  conv => lhs; unfold gt
  rw [List.getD_eq_getElem?_getD, List.getElem?_map, List.getElem?_eq_getElem hx]
  simp only [Option.map_some, Option.getD_some]
  have : l[x] = gt l x := by unfold gt; rw [List.getD_eq_getElem?_getD, List.getElem?_eq_getElem hx]; rfl
  rw [this]
  rfl
theorem names_snoc (n : Nat) (ts : List T2) (e : T2) : namesOf n (ts ++ [e]) = relab (namesOf n ts) e := by unfold namesOf; rw [List.foldl_append]; rfl
theorem names_ker : ∀ (k n : Nat) (ts : List T2), ts.length = k → (∀ p ∈ ts, p.1 < n ∧ p.2 < n) → ∀ x y, x < n → y < n → (gt (namesOf n ts) x = gt (namesOf n ts) y ↔ Cn ts x y)
  | 0, n, ts, hk, _, x, y, hx, hy => by
    have : ts = [] := List.eq_nil_of_length_eq_zero hk
    subst this
    have e : ∀ z, z < n → gt (namesOf n []) z = z := fun z hz => by
      unfold namesOf gt
      rw [List.foldl_nil, List.getD_eq_getElem?_getD, List.getElem?_range hz]; rfl
    rw [e x hx, e y hy]
    exact ⟨fun h => h ▸ .refl _, cn_nil⟩
  | k + 1, n, ts, hk, hp, x, y, hx, hy => by
    have hne : ts ≠ [] := by intro z; rw [z] at hk; cases hk
    obtain ⟨us, e, rfl⟩ : ∃ us e, ts = us ++ [e] := ⟨ts.dropLast, ts.getLast hne, (List.dropLast_concat_getLast hne).symm⟩
    rw [List.length_append, List.length_singleton] at hk
    have ih := names_ker k n us (by omega) (fun p h => hp p (List.mem_append_left _ h))
    have he := hp e (by simp)
    have hl := namesOf_len n us
    rw [names_snoc, gt_relab (by omega), gt_relab (by omega), cn_snoc, ← ih x y hx hy, ← ih x e.1 hx he.1, ← ih e.2 y he.2 hy, ← ih x e.2 hx he.2, ← ih e.1 y he.1 hy]
    generalize gt (namesOf n us) x = fx
    generalize gt (namesOf n us) y = fy
    generalize gt (namesOf n us) e.1 = fa
    generalize gt (namesOf n us) e.2 = fb
    split <;> split <;> omega
/-! how many classes -/
theorem dst_snoc (l : List Nat) (x : Nat) : dst (l ++ [x]) = if x ∈ dst l then dst l else dst l ++ [x] := by
  unfold dst dstS
  rw [List.foldl_append]; rfl
theorem dst_len_ker {f g : Nat → Nat} : ∀ (n : Nat), (∀ x y, x < n → y < n → (f x = f y ↔ g x = g y)) → (dst ((List.range n).map f)).length = (dst ((List.range n).map g)).length
  | 0, _ => rfl
  | n + 1, h => by
    have ih := dst_len_ker n fun x y hx hy => h x y (by omega) (by omega)
    have key : ∀ k : Nat → Nat, k n ∈ dst ((List.range n).map k) ↔ ∃ x, x < n ∧ k x = k n := fun k => by
      rw [dst_mem, List.mem_map]
      constructor
      · rintro ⟨x, hx, e⟩; exact ⟨x, List.mem_range.mp hx, e⟩
      · rintro ⟨x, hx, e⟩; exact ⟨x, List.mem_range.mpr hx, e⟩
    have hm : f n ∈ dst ((List.range n).map f) ↔ g n ∈ dst ((List.range n).map g) := by
      rw [key, key]
      constructor
      · rintro ⟨x, hx, e⟩; exact ⟨x, hx, (h x n (by omega) (by omega)).mp e⟩
      · rintro ⟨x, hx, e⟩; exact ⟨x, hx, (h x n (by omega) (by omega)).mpr e⟩
    rw [List.range_succ, List.map_append, List.map_append, List.map_singleton, List.map_singleton, dst_snoc, dst_snoc]
    by_cases c : f n ∈ dst ((List.range n).map f)
    · rw [if_pos c, if_pos (hm.mp c), ih]
    · rw [if_neg c, if_neg fun z => c (hm.mpr z), List.length_append, List.length_append, ih]; rfl
theorem names_map (n : Nat) (ts : List T2) : namesOf n ts = (List.range n).map (gt (namesOf n ts)) := by
  refine List.ext_getElem ?_ fun i h1 h2 => ?_
  · rw [List.length_map, List.length_range, namesOf_len]
  · rw [List.getElem_map, List.getElem_range]
    unfold gt
    rw [List.getD_eq_getElem?_getD, List.getElem?_eq_getElem h1]; rfl
def Pr (n : Nat) (ts : List T2) : Prop := ∀ p ∈ ts, p.1 < n ∧ p.2 < n
def cls (n : Nat) (ts : List T2) : Nat := (dst (namesOf n ts)).length
theorem rk_cls (n : Nat) (ts : List T2) : rkL n ts + cls n ts = n := by
  have := dst_len (namesOf n ts)
  rw [namesOf_len] at this
  unfold rkL cls; omega
theorem cls_congr {n : Nat} {ts us : List T2} (h1 : Pr n ts) (h2 : Pr n us) (h : ∀ x y, x < n → y < n → (Cn ts x y ↔ Cn us x y)) : cls n ts = cls n us := by
  unfold cls
  rw [names_map n ts, names_map n us]
  refine dst_len_ker n fun x y hx hy => ?_
  rw [names_ker _ n ts rfl h1 x y hx hy, names_ker _ n us rfl h2 x y hx hy]
  exact h x y hx hy
theorem rk_congr {n : Nat} {ts us : List T2} (h1 : Pr n ts) (h2 : Pr n us) (h : ∀ x y, x < n → y < n → (Cn ts x y ↔ Cn us x y)) : rkL n ts = rkL n us := by
  have := cls_congr h1 h2 h
  have a := rk_cls n ts
  have b := rk_cls n us
  omega
/-- the same ties, in any sequence -/
theorem rk_mem {n : Nat} {ts us : List T2} (h1 : Pr n ts) (h : ∀ p, p ∈ ts ↔ p ∈ us) : rkL n ts = rkL n us :=
  rk_congr h1 (fun p hp => h1 p ((h p).mpr hp)) fun x y _ _ => ⟨fun c => c.mono fun p hp => (h p).mp hp, fun c => c.mono fun p hp => (h p).mpr hp⟩
theorem len_of_mem {l m : List Nat} (hl : l.Nodup) (hm : m.Nodup) (h : ∀ x, x ∈ l ↔ x ∈ m) : l.length = m.length :=
  Nat.le_antisymm (nodup_sub_len hl fun x hx => (h x).mp hx) (nodup_sub_len hm fun x hx => (h x).mpr hx)
theorem dst_len_of {l m : List Nat} (h : ∀ x, x ∈ l ↔ x ∈ m) : (dst l).length = (dst m).length := len_of_mem (dst_nodup l) (dst_nodup m) fun x => by rw [dst_mem, dst_mem, h]
/-- one more tie -/
theorem rk_snoc {n : Nat} {ts : List T2} {e : T2} (h : Pr n (ts ++ [e])) : (Cn ts e.1 e.2 → rkL n (ts ++ [e]) = rkL n ts) ∧ (¬ Cn ts e.1 e.2 → rkL n (ts ++ [e]) = rkL n ts + 1) := by
  have h1 : Pr n ts := fun p hp => h p (List.mem_append_left _ hp)
  have he := h e (by simp)
  have k := names_ker _ n ts rfl h1 e.1 e.2 he.1 he.2
  have hl := namesOf_len n ts
  constructor
  · intro c
    refine rk_congr h h1 fun x y _ _ => ?_
    rw [cn_snoc]
    constructor
    · rintro (z | ⟨z1, z2⟩ | ⟨z1, z2⟩)
      · exact z
      · exact z1.trans (c.trans z2)
      · exact z1.trans (c.symm.trans z2)
    · exact .inl
  · intro c
    have hne : gt (namesOf n ts) e.1 ≠ gt (namesOf n ts) e.2 := fun z => c (k.mp z)
    have hmem : ∀ i, i < n → gt (namesOf n ts) i ∈ namesOf n ts := fun i hi => by
      unfold gt
      rw [List.getD_eq_getElem?_getD, List.getElem?_eq_getElem (by omega)]
      exact List.getElem_mem ..
    have m1 := hmem e.1 he.1
    have m2 := hmem e.2 he.2
    have key : (dst (namesOf n (ts ++ [e]))).length = ((dst (namesOf n ts)).erase (max (gt (namesOf n ts) e.1) (gt (namesOf n ts) e.2))).length := by
      refine len_of_mem (dst_nodup _) ((dst_nodup _).erase _) fun x => ?_
      rw [dst_mem, (dst_nodup _).mem_erase_iff, dst_mem, names_snoc]
      unfold relab
      rw [List.mem_map]
      generalize gt (namesOf n ts) e.1 = fa at *
      generalize gt (namesOf n ts) e.2 = fb at *
      constructor
      · rintro ⟨y, hy, rfl⟩
        split
        · refine ⟨by omega, ?_⟩
          rcases Nat.le_total fa fb with q | q
          · rw [Nat.min_eq_left q]; exact m1
          · rw [Nat.min_eq_right q]; exact m2
        · rename_i q; exact ⟨q, hy⟩
      · rintro ⟨q, hx⟩
        exact ⟨x, hx, by rw [if_neg q]⟩
    have hmax : max (gt (namesOf n ts) e.1) (gt (namesOf n ts) e.2) ∈ dst (namesOf n ts) := by
      rw [dst_mem]
      rcases Nat.le_total (gt (namesOf n ts) e.1) (gt (namesOf n ts) e.2) with q | q
      · rw [Nat.max_eq_right q]; exact m2
      · rw [Nat.max_eq_left q]; exact m1
    rw [List.length_erase_of_mem hmax] at key
    have hpos := List.length_pos_of_mem hmax
    have a := rk_cls n ts
    have b := rk_cls n (ts ++ [e])
    unfold cls at a b
    omega
theorem rk_nil (n : Nat) : rkL n [] = 0 := by
  have a := rk_cls n []
  have : cls n [] = n := by
    unfold cls namesOf
    rw [List.foldl_nil]
    have := len_of_mem (dst_nodup (List.range n)) List.nodup_range fun x => dst_mem _ x
    rw [this, List.length_range]
  omega
theorem rk_app {n : Nat} {ts : List T2} : ∀ {us : List T2}, Pr n (ts ++ us) → rkL n ts ≤ rkL n (ts ++ us) ∧ rkL n (ts ++ us) ≤ rkL n ts + us.length := by
  intro us
  induction us generalizing ts with
  | nil => intro _; rw [List.append_nil]; simp
  | cons e us ih =>
    intro h
    have e1 : ts ++ e :: us = (ts ++ [e]) ++ us := by simp
    rw [e1] at h ⊢
    have h2 : Pr n (ts ++ [e]) := fun p hp => h p (List.mem_append_left _ hp)
    obtain ⟨a, b⟩ := ih h
    obtain ⟨c, d⟩ := rk_snoc h2
    rw [List.length_cons]
    by_cases z : Cn ts e.1 e.2
    · have := c z; omega
    · have := d z; omega
theorem rk_le_len {n : Nat} {ts : List T2} (h : Pr n ts) : rkL n ts ≤ ts.length := by
  have := (rk_app (n := n) (ts := []) (us := ts) (by simpa using h)).2
  rw [rk_nil] at this
  simpa using this
/-! drawn together -/
def up (high w : Nat) : Nat := if w < high then w else w + 1
theorem nm_up {low high w : Nat} (h : low < high) : nmD low high (up high w) = w := by
  unfold nmD up
  split <;> (split <;> (try split)) <;> omega
theorem nm_eq {low high x y : Nat} (h : low < high) (e : nmD low high x = nmD low high y) : x = y ∨ (x = low ∧ y = high) ∨ (x = high ∧ y = low) := by
  unfold nmD at e
  split at e <;> split at e <;> (try split at e) <;> (try split at e) <;> omega
def drP (q p : T2) : T2 := (nmD q.1 q.2 p.1, nmD q.1 q.2 p.2)
theorem cn_drawn {ts : List T2} {e : T2} (he : e.1 < e.2) {x y : Nat} : Cn (ts.map (drP e)) (nmD e.1 e.2 x) (nmD e.1 e.2 y) ↔ Cn (ts ++ [e]) x y := by
  have hE : Cn (ts ++ [e]) e.1 e.2 := .tie (by simp)
  constructor
  · have key : ∀ u v, Cn (ts.map (drP e)) u v → ∀ x y, nmD e.1 e.2 x = u → nmD e.1 e.2 y = v → Cn (ts ++ [e]) x y := by
      have same : ∀ x y, nmD e.1 e.2 x = nmD e.1 e.2 y → Cn (ts ++ [e]) x y := fun x y h => by
        rcases nm_eq he h with rfl | ⟨rfl, rfl⟩ | ⟨rfl, rfl⟩
        · exact .refl _
        · exact hE
        · exact hE.symm
      intro u v c
      induction c with
      | refl u => exact fun x y h1 h2 => same x y (h1.trans h2.symm)
      | tie hp =>
        intro x y h1 h2
        obtain ⟨q, hq, rfl⟩ := List.mem_map.mp hp
        exact (same x q.1 h1).trans ((Cn.tie (List.mem_append_left _ hq)).trans (same q.2 y h2.symm))
      | symm _ ih => exact fun x y h1 h2 => (ih y x h2 h1).symm
      | trans _ _ i1 i2 => exact fun x y h1 h2 => (i1 x _ h1 (nm_up he)).trans (i2 _ y (nm_up he) h2)
    exact fun c => key _ _ c x y rfl rfl
  · intro c
    induction c with
    | refl x => exact .refl _
    | tie hp =>
      rcases List.mem_append.mp hp with hp | hp
      · exact .tie (List.mem_map_of_mem (f := drP e) hp)
      · rw [List.mem_singleton] at hp
        rw [hp]
        have a : nmD e.1 e.2 e.1 = e.1 := by unfold nmD; split <;> (try split) <;> omega
        have b : nmD e.1 e.2 e.2 = e.1 := by unfold nmD; simp
        rw [a, b]; exact .refl _
    | symm _ ih => exact ih.symm
    | trans _ _ i1 i2 => exact i1.trans i2
theorem drP_pr {n : Nat} {ts : List T2} {e : T2} (h : Pr n ts) (he : e.1 < e.2) (h2 : e.2 < n) : Pr (n - 1) (ts.map (drP e)) := fun p hp => by
  obtain ⟨q, hq, rfl⟩ := List.mem_map.mp hp
  have := h q hq
  exact ⟨nmD_lt he h2 this.1, nmD_lt he h2 this.2⟩
theorem up_lt {n high w : Nat} (h : w < n - 1) : up high w < n := by unfold up; split <;> omega
theorem rk_drawn {n : Nat} {ts : List T2} {e : T2} (h : Pr n (ts ++ [e])) (he : e.1 < e.2) : rkL n (ts ++ [e]) = rkL (n - 1) (ts.map (drP e)) + 1 := by
  have h1 : Pr n ts := fun p hp => h p (List.mem_append_left _ hp)
  have h2 := h e (by simp)
  have hd := drP_pr h1 he h2.2
  have key : cls n (ts ++ [e]) = cls (n - 1) (ts.map (drP e)) := by
    unfold cls
    rw [names_map n (ts ++ [e]), names_map (n - 1) (ts.map (drP e))]
    rw [dst_len_ker (g := fun x => gt (namesOf (n - 1) (ts.map (drP e))) (nmD e.1 e.2 x)) n fun x y hx hy => ?_]
    · refine dst_len_of fun z => ?_
      rw [List.mem_map, List.mem_map]
      constructor
      · rintro ⟨x, hx, rfl⟩
        exact ⟨_, List.mem_range.mpr (nmD_lt he h2.2 (List.mem_range.mp hx)), rfl⟩
      · rintro ⟨x, hx, rfl⟩
        exact ⟨up e.2 x, List.mem_range.mpr (up_lt (List.mem_range.mp hx)), congrArg (gt (namesOf (n - 1) (ts.map (drP e)))) (nm_up he)⟩
    · rw [names_ker _ n _ rfl h x y hx hy, names_ker _ (n - 1) _ rfl hd _ _ (nmD_lt he h2.2 hx) (nmD_lt he h2.2 hy), cn_drawn he]
  have a := rk_cls n (ts ++ [e])
  have b := rk_cls (n - 1) (ts.map (drP e))
  omega
end L3

/-! P2: lots, sums -/
namespace L3
theorem snoc_ind {α : Type} {P : List α → Prop} (h0 : P []) (h1 : ∀ l a, P l → P (l ++ [a])) : ∀ l, P l := by
  have key : ∀ (k : Nat) (l : List α), l.length = k → P l := by
    intro k
    induction k with
    | zero => intro l hl; rw [List.eq_nil_of_length_eq_zero hl]; exact h0
    | succ k ih =>
      intro l hl
      have hne : l ≠ [] := by intro z; rw [z] at hl; cases hl
      rw [← List.dropLast_concat_getLast hne]
      exact h1 _ _ (ih _ (by rw [List.length_dropLast]; omega))
  exact fun l => key _ l rfl
def lotsL (ts : List T2) : List (List T2) := (lotsRaw ts.length).map (lotTs ts)
theorem lotTs_app {ts us : List T2} {lot : List Nat} (h : ∀ t ∈ lot, t < ts.length) : lotTs (ts ++ us) lot = lotTs ts lot := by
  unfold lotTs
  refine List.map_congr_left fun t ht => ?_
  rw [List.getD_eq_getElem?_getD, List.getD_eq_getElem?_getD, List.getElem?_append_left (h t ht)]
theorem lotTs_snoc {ts : List T2} {e : T2} {lot : List Nat} (h : ∀ t ∈ lot, t < ts.length) : lotTs (ts ++ [e]) (lot ++ [ts.length]) = lotTs ts lot ++ [e] := by
  have : lotTs (ts ++ [e]) (lot ++ [ts.length]) = lotTs (ts ++ [e]) lot ++ [(ts ++ [e]).getD ts.length (0, 0)] := by
    unfold lotTs
    rw [List.map_append]; rfl
  rw [this, lotTs_app h, List.getD_eq_getElem?_getD]
  simp
theorem lotsL_snoc (ts : List T2) (e : T2) : lotsL (ts ++ [e]) = lotsL ts ++ (lotsL ts).map (· ++ [e]) := by
  unfold lotsL
  rw [List.length_append, List.length_singleton]
  show ((lotsRaw ts.length) ++ (lotsRaw ts.length).map (· ++ [ts.length])).map (lotTs (ts ++ [e])) = _
  rw [List.map_append, List.map_map, List.map_map]
  congr 1
  · exact List.map_congr_left fun lot hl => lotTs_app (lotsRaw_mem hl).2.1
  · exact List.map_congr_left fun lot hl => lotTs_snoc (lotsRaw_mem hl).2.1
theorem lotsL_nil : lotsL [] = [[]] := rfl
theorem lotTs_all (ts : List T2) : lotTs ts (allT ts) = ts := by
  unfold lotTs allT
  refine List.ext_getElem (by simp) fun i h1 h2 => ?_
  rw [List.getElem_map, List.getElem_range, List.getD_eq_getElem?_getD, List.getElem?_eq_getElem h2]; rfl
theorem lotsL_mem : ∀ (ts A : List T2), A ∈ lotsL ts → (∀ p ∈ A, p ∈ ts) ∧ ∃ B, (∀ p, p ∈ ts ↔ p ∈ A ++ B) ∧ A.length + B.length = ts.length := by
  refine snoc_ind ?_ fun ts e ih => ?_
  · intro A h
    rw [lotsL_nil, List.mem_singleton] at h
    subst h
    exact ⟨fun p h => h, [], fun p => by simp, rfl⟩
  · intro A h
    rw [lotsL_snoc] at h
    rcases List.mem_append.mp h with h | h
    · obtain ⟨h1, B, h2, h3⟩ := ih A h
      refine ⟨fun p hp => List.mem_append_left _ (h1 p hp), B ++ [e], fun p => ?_, by simp; omega⟩
      rw [List.mem_append, h2 p]
      simp only [List.mem_append, or_assoc]
    · obtain ⟨A', hA, rfl⟩ := List.mem_map.mp h
      obtain ⟨h1, B, h2, h3⟩ := ih A' hA
      refine ⟨fun p hp => ?_, B, fun p => ?_, by simp; omega⟩
      · rcases List.mem_append.mp hp with hp | hp
        · exact List.mem_append_left _ (h1 p hp)
        · exact List.mem_append_right _ hp
      · rw [List.mem_append, h2 p]
        simp only [List.mem_append, or_assoc]
        constructor
        · rintro (z | z | z)
          · exact .inl z
          · exact .inr (.inr z)
          · exact .inr (.inl z)
        · rintro (z | z | z)
          · exact .inl z
          · exact .inr (.inr z)
          · exact .inr (.inl z)
theorem lotsL_len {ts A : List T2} (h : A ∈ lotsL ts) : A.length ≤ ts.length := by
  obtain ⟨_, B, _, h3⟩ := lotsL_mem ts A h
  omega
theorem lotsL_pr {n : Nat} {ts A : List T2} (hp : Pr n ts) (h : A ∈ lotsL ts) : Pr n A := fun p hq => hp p ((lotsL_mem ts A h).1 p hq)
theorem lotsL_rk {n : Nat} {ts A : List T2} (hp : Pr n ts) (h : A ∈ lotsL ts) : rkL n A ≤ A.length ∧ rkL n A ≤ rkL n ts ∧ rkL n ts + A.length ≤ rkL n A + ts.length := by
  obtain ⟨h1, B, h2, h3⟩ := lotsL_mem ts A h
  have e := rk_mem hp h2
  have hAB : Pr n (A ++ B) := fun p hq => hp p ((h2 p).mpr hq)
  have := rk_app hAB
  have := rk_le_len (lotsL_pr hp h)
  omega
theorem lot_in {ts : List T2} {lot : List Nat} (h : lot ∈ lots ts.length) : lotTs ts lot ∈ lotsL ts := List.mem_map_of_mem ((lots_perm _).mem_iff.mp h)
theorem lotTs_len (ts : List T2) (lot : List Nat) : (lotTs ts lot).length = lot.length := by unfold lotTs; rw [List.length_map]
theorem rkOk_of {n : Nat} {ts : List T2} (hp : Pr n ts) : RkOk n ts where
  le := fun lot hl => by
    have := (lotsL_rk hp (lot_in hl)).1
    rwa [lotTs_len] at this
  up := fun lot hl => by
    have := (lotsL_rk hp (lot_in hl)).2.2
    rw [lotTs_len] at this
    rw [lotTs_all]; exact this
  all := by rw [lotTs_all]; exact rk_le_len hp
theorem mono_of {n : Nat} {ts : List T2} (hp : Pr n ts) : ∀ lot ∈ lots ts.length, rkL n (lotTs ts lot) ≤ rkL n (lotTs ts (allT ts)) := fun lot hl => by
  rw [lotTs_all]; exact (lotsL_rk hp (lot_in hl)).2.1
theorem lotTs_map {ts : List T2} (g : T2 → T2) {lot : List Nat} (h : ∀ t ∈ lot, t < ts.length) : lotTs (ts.map g) lot = (lotTs ts lot).map g := by
  unfold lotTs
  rw [List.map_map]
  refine List.map_congr_left fun t ht => ?_
  simp only [Function.comp]
  rw [List.getD_eq_getElem?_getD, List.getD_eq_getElem?_getD, List.getElem?_map, List.getElem?_eq_getElem (h t ht)]
  rfl
theorem lotsL_map (g : T2 → T2) (ts : List T2) : lotsL (ts.map g) = (lotsL ts).map (List.map g) := by
  unfold lotsL
  rw [List.length_map, List.map_map]
  exact List.map_congr_left fun lot hl => lotTs_map g (lotsRaw_mem hl).2.1
/-! sums -/
theorem sum_perm {l m : List Int} (h : l.Perm m) : l.sum = m.sum := by
  induction h with
  | nil => rfl
  | cons x _ ih => rw [List.sum_cons, List.sum_cons, ih]
  | swap x y l => simp only [List.sum_cons]; omega
  | trans _ _ h1 h2 => exact h1.trans h2
/-- a sum over a list -/
def sm {α : Type} (l : List α) (f : α → Int) : Int := (l.map f).sum
theorem sm_nil {α : Type} (f : α → Int) : sm [] f = 0 := rfl
theorem sm_cons {α : Type} (a : α) (l : List α) (f : α → Int) : sm (a :: l) f = f a + sm l f := by unfold sm; rw [List.map_cons, List.sum_cons]
theorem sm_app {α : Type} (l m : List α) (f : α → Int) : sm (l ++ m) f = sm l f + sm m f := by unfold sm; rw [List.map_append, List.sum_append]
theorem sm_map {α β : Type} (g : α → β) (l : List α) (f : β → Int) : sm (l.map g) f = sm l fun a => f (g a) := by unfold sm; rw [List.map_map]; rfl
theorem sm_congr {α : Type} {l : List α} {f g : α → Int} (h : ∀ a ∈ l, f a = g a) : sm l f = sm l g := by unfold sm; rw [List.map_congr_left h]
theorem sm_perm {α : Type} {l m : List α} (h : l.Perm m) (f : α → Int) : sm l f = sm m f := sum_perm (h.map f)
theorem sm_add {α : Type} (l : List α) (f g : α → Int) : sm l (fun a => f a + g a) = sm l f + sm l g := by
  induction l with
  | nil => rfl
  | cons a l ih => rw [sm_cons, sm_cons, sm_cons, ih]; omega
theorem sm_mul {α : Type} (l : List α) (c : Int) (f : α → Int) : sm l (fun a => c * f a) = c * sm l f := by
  induction l with
  | nil => simp [sm_nil]
  | cons a l ih => rw [sm_cons, sm_cons, ih, Int.mul_add]
theorem sm_flatMap {α β : Type} (g : α → List β) (l : List α) (f : β → Int) : sm (l.flatMap g) f = sm l fun a => sm (g a) f := by
  induction l with
  | nil => rfl
  | cons a l ih => rw [List.flatMap_cons, sm_app, sm_cons, ih]
theorem sm_filter {α : Type} (p : α → Bool) (l : List α) (f : α → Int) : sm (l.filter p) f = sm l fun a => if p a then f a else 0 := by
  induction l with
  | nil => rfl
  | cons a l ih =>
    rw [sm_cons]
    cases h : p a with
    | true => rw [List.filter_cons_of_pos h, sm_cons, ih, if_pos rfl]
    | false => rw [List.filter_cons_of_neg (by rw [h]; decide), ih, if_neg (by decide)]; omega
theorem sm_const {α : Type} (l : List α) (c : Int) : sm l (fun _ => c) = l.length * c := by
  induction l with
  | nil => simp [sm_nil]
  | cons a l ih => rw [sm_cons, ih, List.length_cons]; push_cast; rw [Int.add_mul]; omega
theorem sm_lots (ts : List T2) (f : List T2 → Int) : sm (lots ts.length) (fun lot => f (lotTs ts lot)) = sm (lotsL ts) f := by
  rw [sm_perm (lots_perm ts.length)]
  unfold lotsL
  rw [sm_map]
/-! linear in polynomials -/
def lin (g : T2 → Int) (l : Po) : Int := sm l fun e => e.2 * g e.1
theorem lin_putA (g : T2 → Int) (k : T2) (v : Int) : ∀ (l : Po), Nk l → lin g (putA k v l) + (getA k l).getD 0 * g k = lin g l + v * g k := by
  intro l hn
  unfold putA
  by_cases h : k ∈ l.map (·.1)
  · rw [if_pos ((any_key k l).mpr h)]
    induction l with
    | nil => simp at h
    | cons e r ih =>
      unfold Nk at hn
      rw [List.map_cons, List.nodup_cons] at hn
      rw [List.map_cons]
      by_cases c : e.1 = k
      · rw [if_pos c]
        have e1 : r.map (fun e => if e.1 = k then (e.1, v) else e) = r := by
          refine (List.map_congr_left fun f hf => ?_).trans (List.map_id r)
          rw [if_neg]
          · rfl
          · intro z
            exact hn.1 (by rw [c, ← z]; exact List.mem_map_of_mem hf)
        rw [e1]
        unfold getA lin
        rw [if_pos c, sm_cons, sm_cons]
        simp only [Option.getD_some, c]
        omega
      · rw [if_neg c]
        rw [List.map_cons, List.mem_cons] at h
        have := ih hn.2 (h.resolve_left fun z => c z.symm)
        unfold getA
        rw [if_neg c]
        unfold lin at this ⊢
        rw [sm_cons, sm_cons]
        omega
  · rw [if_neg (fun z => h ((any_key k l).mp z)), getA_none h]
    unfold lin
    rw [sm_app, sm_cons, sm_nil]
    simp
theorem lin_addE (g : T2 → Int) {l : Po} (e : T2 × Int) (hn : Nk l) : lin g (addE l e) = lin g l + e.2 * g e.1 := by
  have := lin_putA g e.1 ((getA e.1 l).getD 0 + e.2) l hn
  unfold addE
  rw [Int.add_mul] at this
  omega
theorem lin_addAll (g : T2 → Int) : ∀ (L : Po) {l : Po}, Nk l → lin g (addAll l L) = lin g l + lin g L
  | [], l, _ => by simp [addAll, lin, sm_nil]
  | e :: L, l, hn => by
    show lin g (addAll (addE l e) L) = _
    rw [lin_addAll g L (addE_nk hn), lin_addE g e hn]
    unfold lin
    rw [sm_cons]; omega
theorem lin_normT (g : T2 → Int) {l : Po} (hn : Nk l) : lin g (normT l) = lin g l := sm_perm (normT_perm hn) _
theorem lin_norm (g : T2 → Int) {l : Po} (hn : Nk l) : lin g (norm l) = lin g l := by
  rw [norm_eq, ← lin_normT g hn]
  unfold lin
  rw [sm_filter]
  refine sm_congr fun e _ => ?_
  by_cases c : e.2 = 0
  · simp [c]
  · simp [c]
theorem lin_plus (g : T2 → Int) {a b : Po} (ha : Nk a) : lin g (plusP a b) = lin g a + lin g b := by
  unfold plusP
  rw [lin_norm g (addAll_nk ha), lin_addAll g b ha]
theorem lin_times (g : T2 → Int) (a b : Po) : lin g (timesP a b) = sm a fun e => sm b fun f => e.2 * f.2 * g (e.1.1 + f.1.1, e.1.2 + f.1.2) := by
  unfold timesP
  rw [lin_norm g (addAll_nk nk_nil), lin_addAll g _ nk_nil]
  unfold prods lin
  rw [sm_nil, Int.zero_add, sm_flatMap]
  refine sm_congr fun e _ => ?_
  rw [sm_map]
end L3

/-! P3: the polynomial by ties is the sum over lots -/
namespace L3
theorem cn_srt {A : List T2} {x y : Nat} : Cn (A.map srt) x y ↔ Cn A x y := by
  constructor
  · intro c
    induction c with
    | refl x => exact .refl x
    | tie hp =>
      obtain ⟨q, hq, rfl⟩ := List.mem_map.mp hp
      unfold srt
      rcases Nat.le_total q.1 q.2 with h | h
      · simp only [Nat.min_eq_left h, Nat.max_eq_right h]; exact .tie hq
      · simp only [Nat.min_eq_right h, Nat.max_eq_left h]; exact (Cn.tie hq).symm
    | symm _ ih => exact ih.symm
    | trans _ _ i1 i2 => exact i1.trans i2
  · intro c
    induction c with
    | refl x => exact .refl x
    | @tie q hq =>
      have := Cn.tie (List.mem_map_of_mem (f := srt) hq)
      unfold srt at this
      rcases Nat.le_total q.1 q.2 with h | h
      · simp only [Nat.min_eq_left h, Nat.max_eq_right h] at this; exact this
      · simp only [Nat.min_eq_right h, Nat.max_eq_left h] at this; exact this.symm
    | symm _ ih => exact ih.symm
    | trans _ _ i1 i2 => exact i1.trans i2
theorem pr_srt {n : Nat} {A : List T2} (h : Pr n A) : Pr n (A.map srt) := fun p hp => by
  obtain ⟨q, hq, rfl⟩ := List.mem_map.mp hp
  have := h q hq
  unfold srt
  simp only
  omega
theorem rk_srt {n : Nat} {A : List T2} (h : Pr n A) : rkL n (A.map srt) = rkL n A := rk_congr (pr_srt h) h fun x y _ _ => cn_srt
theorem evP_lin (l : Po) (x y : Int) : evP l x y = lin (fun k => x ^ k.1 * y ^ k.2) l := by
  unfold evP lin sm
  congr 1
  exact List.map_congr_left fun e _ => Int.mul_assoc ..
theorem evP_one (i j : Nat) (P : Po) (x y : Int) : evP (timesP [((i, j), 1)] P) x y = x ^ i * y ^ j * evP P x y := by
  rw [evP_lin, evP_lin, lin_times, sm_cons, sm_nil]
  unfold lin
  rw [← sm_mul, Int.add_zero]
  refine sm_congr fun f _ => ?_
  simp only
  rw [Int.pow_add, Int.pow_add]
  generalize x ^ i = a
  generalize y ^ j = b
  generalize x ^ f.1.1 = c
  generalize y ^ f.1.2 = d
  generalize f.2 = v
  rw [Int.one_mul]
  simp only [Int.mul_comm, Int.mul_left_comm, Int.mul_assoc]
theorem evP_plus {a b : Po} (ha : Nk a) (x y : Int) : evP (plusP a b) x y = evP a x y + evP b x y := by
  rw [evP_lin, evP_lin, evP_lin, lin_plus _ ha]
def tut (n : Nat) (ts : List T2) (X Y : Int) : Int := sm (lotsL ts) fun A => X ^ (rkL n ts - rkL n A) * Y ^ (A.length - rkL n A)
theorem tut_nil (n : Nat) (X Y : Int) : tut n [] X Y = 1 := by
  unfold tut
  rw [lotsL_nil, sm_cons, sm_nil]
  simp
theorem tut_snoc (n : Nat) (ts : List T2) (e : T2) (X Y : Int) : tut n (ts ++ [e]) X Y = sm (lotsL ts) (fun A => X ^ (rkL n (ts ++ [e]) - rkL n A) * Y ^ (A.length - rkL n A)) + sm (lotsL ts) (fun A => X ^ (rkL n (ts ++ [e]) - rkL n (A ++ [e])) * Y ^ (A.length + 1 - rkL n (A ++ [e]))) := by
  unfold tut
  rw [lotsL_snoc, sm_app, sm_map]
  congr 1
  exact sm_congr fun A _ => by rw [List.length_append]; rfl
theorem pr_snoc {n : Nat} {ts A : List T2} {e : T2} (h : Pr n (ts ++ [e])) (hA : A ∈ lotsL ts) : Pr n (A ++ [e]) := fun p hp => by
  rcases List.mem_append.mp hp with hp | hp
  · exact h p (List.mem_append_left _ ((lotsL_mem ts A hA).1 p hp))
  · exact h p (List.mem_append_right _ hp)
theorem tut_loop {n : Nat} {ts : List T2} {e : T2} (h : Pr n (ts ++ [e])) (he : e.1 = e.2) (X Y : Int) : tut n (ts ++ [e]) X Y = (Y + 1) * tut n ts X Y := by
  have h1 : Pr n ts := fun p hp => h p (List.mem_append_left _ hp)
  have c : ∀ A, Pr n (A ++ [e]) → rkL n (A ++ [e]) = rkL n A := fun A hA => (rk_snoc hA).1 (he ▸ .refl _)
  rw [tut_snoc, c ts h, Int.add_mul, Int.one_mul, Int.add_comm]
  unfold tut
  rw [← sm_mul]
  congr 1
  refine sm_congr fun A hA => ?_
  have hr := (lotsL_rk h1 hA).1
  rw [c A (pr_snoc h hA), show A.length + 1 - rkL n A = (A.length - rkL n A) + 1 by omega, Int.pow_succ]
  generalize X ^ (rkL n ts - rkL n A) = a
  generalize Y ^ (A.length - rkL n A) = b
  simp only [Int.mul_comm, Int.mul_left_comm]
theorem tut_drawn {n : Nat} {ts : List T2} {e : T2} (h : Pr n (ts ++ [e])) (he : e.1 < e.2) (X Y : Int) : tut (n - 1) (ts.map fun p => srt (drP e p)) X Y = sm (lotsL ts) fun A => X ^ (rkL n (ts ++ [e]) - rkL n (A ++ [e])) * Y ^ (A.length + 1 - rkL n (A ++ [e])) := by
  have h1 : Pr n ts := fun p hp => h p (List.mem_append_left _ hp)
  have h2 := h e (by simp)
  have key : ∀ A, Pr n (A ++ [e]) → rkL n (A ++ [e]) = rkL (n - 1) (A.map fun p => srt (drP e p)) + 1 := fun A hA => by
    have hp := drP_pr (n := n) (ts := A) (e := e) (fun p hp => hA p (List.mem_append_left _ hp)) he h2.2
    have hh := rk_srt hp
    rw [List.map_map] at hh
    rw [rk_drawn hA he, ← hh]
    rfl
  unfold tut
  rw [lotsL_map, sm_map]
  refine sm_congr fun A hA => ?_
  rw [key A (pr_snoc h hA), key ts h, List.length_map]
  congr 2 <;> omega
theorem tut_else {n : Nat} {ts : List T2} {e : T2} (h : Pr n (ts ++ [e])) (he : e.1 < e.2) (hb : rkL n (ts ++ [e]) = rkL n ts) (X Y : Int) : tut n (ts ++ [e]) X Y = tut n ts X Y + tut (n - 1) (ts.map fun p => srt (drP e p)) X Y := by
  rw [tut_snoc, tut_drawn h he, hb]
  rfl
theorem tut_bridge {n : Nat} {ts : List T2} {e : T2} (h : Pr n (ts ++ [e])) (he : e.1 < e.2) (hb : rkL n ts < rkL n (ts ++ [e])) (X Y : Int) : tut n (ts ++ [e]) X Y = (X + 1) * tut (n - 1) (ts.map fun p => srt (drP e p)) X Y := by
  have h1 : Pr n ts := fun p hp => h p (List.mem_append_left _ hp)
  have nc : ¬ Cn ts e.1 e.2 := fun c => by
    have := (rk_snoc h).1 c
    omega
  have key : ∀ A ∈ lotsL ts, rkL n (A ++ [e]) = rkL n A + 1 := fun A hA => (rk_snoc (pr_snoc h hA)).2 fun c => nc (c.mono (lotsL_mem ts A hA).1)
  have ke := (rk_snoc h).2 nc
  rw [tut_snoc, tut_drawn h he, Int.add_mul, Int.one_mul, ← sm_mul]
  congr 1
  refine sm_congr fun A hA => ?_
  have hr := lotsL_rk h1 hA
  rw [key A hA, ke, show rkL n ts + 1 - rkL n A = (rkL n ts + 1 - (rkL n A + 1)) + 1 by omega, Int.pow_succ, show A.length + 1 - (rkL n A + 1) = A.length - rkL n A by omega]
  generalize X ^ (rkL n ts + 1 - (rkL n A + 1)) = a
  generalize Y ^ (A.length - rkL n A) = b
  simp only [Int.mul_comm, Int.mul_left_comm]
theorem rest_snoc (us : List T2) (e : T2) : rest (us ++ [e]) us.length = us := by unfold rest; simp
theorem getD_snoc (us : List T2) (e : T2) : (us ++ [e]).getD us.length (0, 0) = e := by rw [List.getD_eq_getElem?_getD]; simp
theorem drawn_snoc (us : List T2) (e : T2) : drawnT (us ++ [e]) us.length = us.map fun p => srt (drP e p) := by
  unfold drawnT
  rw [rest_snoc, getD_snoc]
  rfl
theorem wo_snoc (us : List T2) (e : T2) : lotTs (us ++ [e]) (wo (us ++ [e]) us.length) = us := by
  have : wo (us ++ [e]) us.length = allT us := by
    unfold wo allT
    rw [List.length_append, List.length_singleton, List.range_succ, List.filter_append]
    have a : (List.range us.length).filter (fun u => !decide (u ∈ [us.length])) = List.range us.length := List.filter_eq_self.mpr fun u hu => by
      have := List.mem_range.mp hu
      simp; omega
    rw [a]
    simp
  rw [this, lotTs_app (ts := us) (lot := allT us) (fun t ht => List.mem_range.mp ht), lotTs_all]
theorem bt_eval (X Y : Int) : ∀ (f n : Nat) (ts : List T2), ts.length ≤ f → PrOk n ts → evP (btP f n ts) (X + 1) (Y + 1) = tut n ts X Y
  | 0, n, ts, h, _ => by
    have : ts = [] := List.eq_nil_of_length_eq_zero (by omega)
    subst this
    rw [tut_nil]
    simp [btP, evP]
  | f + 1, n, ts, h, hp => by
    unfold btP
    by_cases e0 : ts = []
    · subst e0
      rw [if_pos rfl, tut_nil]
      simp [evP]
    · rw [if_neg e0]
      obtain ⟨us, e, rfl⟩ : ∃ us e, ts = us ++ [e] := ⟨ts.dropLast, ts.getLast e0, (List.dropLast_concat_getLast e0).symm⟩
      have hl : (us ++ [e]).length - 1 = us.length := by simp
      have hlen : us.length ≤ f := by simp at h; omega
      have hP : Pr n (us ++ [e]) := fun p hq => by have := hp.pr p hq; omega
      have he := hp.pr e (by simp)
      have hr : PrOk n us := ⟨hp.n1, fun p hq => hp.pr p (List.mem_append_left _ hq)⟩
      rw [hl, rest_snoc, drawn_snoc]
      have ia := bt_eval X Y f n us hlen hr
      have ga := bt_good f n us hlen
      by_cases c1 : loopB (us ++ [e]) us.length = true
      · rw [if_pos c1, evP_one, ia]
        have ce : e.1 = e.2 := by
          unfold loopB at c1
          rw [getD_snoc] at c1
          exact of_decide_eq_true c1
        rw [tut_loop hP ce]
        simp [Int.pow_succ]
      · have c1' : loopB (us ++ [e]) us.length = false := by simpa using c1
        have ce : e.1 < e.2 := by
          unfold loopB at c1'
          rw [getD_snoc] at c1'
          have := of_decide_eq_false c1'
          omega
        have hd : PrOk (n - 1) (us.map fun p => srt (drP e p)) := by
          have := hp.drawn (t := us.length) (by simp) c1'
          rwa [drawn_snoc] at this
        have id' := bt_eval X Y f (n - 1) (us.map fun p => srt (drP e p)) (by rw [List.length_map]; exact hlen) hd
        rw [if_neg c1]
        have hbr : bridgeB n (us ++ [e]) us.length = decide (rkL n us < rkL n (us ++ [e])) := by
          unfold bridgeB
          rw [wo_snoc, lotTs_all]
        rw [hbr]
        by_cases c2 : rkL n us < rkL n (us ++ [e])
        · rw [if_pos (decide_eq_true c2), evP_one, id', tut_bridge hP ce c2]
          simp [Int.pow_succ]
        · rw [if_neg (by simpa using c2), evP_plus ga.1.nk, ia, id', tut_else hP ce]
          have := (rk_app hP).1
          omega
end L3

/-! P4: sums over dyes -/
namespace L3
theorem sm_zero {α : Type} (l : List α) : sm l (fun _ => 0) = 0 := by rw [sm_const]; simp
theorem sm_swap {α β : Type} (l : List α) (m : List β) (f : α → β → Int) : sm l (fun a => sm m (f a)) = sm m fun b => sm l fun a => f a b := by
  induction l with
  | nil => simp only [sm_nil]; exact (sm_zero m).symm
  | cons a l ih =>
    rw [sm_cons, ih, ← sm_add]
    exact sm_congr fun b _ => by rw [sm_cons]
theorem gt_range {n x : Nat} (f : Nat → Nat) (h : x < n) : gt ((List.range n).map f) x = f x := by
  unfold gt
  rw [List.getD_eq_getElem?_getD, List.getElem?_map, List.getElem?_range h]; rfl
theorem gt_ext {l m : List Nat} {n : Nat} (h1 : l.length = n) (h2 : m.length = n) (h : ∀ x, x < n → gt l x = gt m x) : l = m := by
  refine List.ext_getElem (h1.trans h2.symm) fun i i1 i2 => ?_
  have := h i (by omega)
  unfold gt at this
  rw [List.getD_eq_getElem?_getD, List.getD_eq_getElem?_getD, List.getElem?_eq_getElem i1, List.getElem?_eq_getElem i2] at this
  exact this
theorem gt_lt {l : List Nat} {n k x : Nat} (h1 : l.length = n) (h : ∀ v ∈ l, v < k) (hx : x < n) : gt l x < k := by
  unfold gt
  rw [List.getD_eq_getElem?_getD, List.getElem?_eq_getElem (by omega)]
  exact h _ (List.getElem_mem ..)
theorem kpAll_iff {k : Nat} : ∀ {m : Nat} {d : List Nat}, d ∈ kpAll k m ↔ d.length = m ∧ ∀ v ∈ d, v < k
  | 0, d => ⟨kpAll_mem, fun h => by rw [List.eq_nil_of_length_eq_zero h.1]; exact List.mem_singleton.mpr rfl⟩
  | m + 1, d => ⟨kpAll_mem, fun h => by
    have hne : d ≠ [] := by intro z; rw [z] at h; cases h.1
    obtain ⟨us, e, rfl⟩ : ∃ us e, d = us ++ [e] := ⟨d.dropLast, d.getLast hne, (List.dropLast_concat_getLast hne).symm⟩
    refine List.mem_flatMap.mpr ⟨e, List.mem_range.mpr (h.2 e (by simp)), List.mem_map.mpr ⟨us, kpAll_iff.mpr ⟨by have := h.1; simp at this; omega, fun v hv => h.2 v (List.mem_append_left _ hv)⟩, rfl⟩⟩⟩
theorem nodup_map {α β : Type} {f : α → β} : ∀ {l : List α}, l.Nodup → (∀ a ∈ l, ∀ b ∈ l, f a = f b → a = b) → (l.map f).Nodup
  | [], _, _ => List.nodup_nil
  | a :: l, h, hf => by
    rw [List.nodup_cons] at h
    rw [List.map_cons, List.nodup_cons]
    refine ⟨fun hm => ?_, nodup_map h.2 fun x hx y hy => hf x (List.mem_cons_of_mem _ hx) y (List.mem_cons_of_mem _ hy)⟩
    obtain ⟨b, hb, e⟩ := List.mem_map.mp hm
    rw [hf b (List.mem_cons_of_mem _ hb) a (List.mem_cons_self ..) e] at hb
    exact h.1 hb
theorem nodup_flat {α β : Type} {f : α → List β} : ∀ {l : List α}, l.Nodup → (∀ a ∈ l, (f a).Nodup) → (∀ a ∈ l, ∀ b ∈ l, ∀ x, x ∈ f a → x ∈ f b → a = b) → (l.flatMap f).Nodup
  | [], _, _, _ => List.nodup_nil
  | a :: l, h, h1, h2 => by
    rw [List.nodup_cons] at h
    rw [List.flatMap_cons, List.nodup_append]
    refine ⟨h1 a (List.mem_cons_self ..), nodup_flat h.2 (fun x hx => h1 x (List.mem_cons_of_mem _ hx)) (fun x hx y hy => h2 x (List.mem_cons_of_mem _ hx) y (List.mem_cons_of_mem _ hy)), fun x hx y hy e => ?_⟩
    subst e
    obtain ⟨b, hb, hy⟩ := List.mem_flatMap.mp hy
    rw [← h2 a (List.mem_cons_self ..) b (List.mem_cons_of_mem _ hb) x hx hy] at hb
    exact h.1 hb
theorem kpAll_nodup (k : Nat) : ∀ m, (kpAll k m).Nodup
  | 0 => by unfold kpAll; simp
  | m + 1 => by
    unfold kpAll
    refine nodup_flat List.nodup_range (fun v _ => nodup_map (kpAll_nodup k m) fun a _ b _ e => List.append_cancel_right e) fun a _ b _ x h1 h2 => ?_
    obtain ⟨u, _, rfl⟩ := List.mem_map.mp h1
    obtain ⟨v, _, e⟩ := List.mem_map.mp h2
    have := (List.append_inj' e rfl).2
    simpa using this.symm
/-- alike along all ties -/
def same (A : List T2) (d : List Nat) : Bool := A.all fun p => decide (gt d p.1 = gt d p.2)
theorem same_snoc (A : List T2) (e : T2) (d : List Nat) : same (A ++ [e]) d = (same A d && decide (gt d e.1 = gt d e.2)) := by
  unfold same
  rw [List.all_append]
  simp
theorem sameN_snoc (ts : List T2) (e : T2) (d : List Nat) : sameN (ts ++ [e]) d = sameN ts d + if gt d e.1 = gt d e.2 then 1 else 0 := by
  unfold sameN
  rw [List.filter_append, List.length_append]
  congr 1
  by_cases c : gt d e.1 = gt d e.2 <;> simp [c]
theorem same_pow (c : Int) (d : List Nat) (ts : List T2) : (1 + c) ^ sameN ts d = sm (lotsL ts) fun A => c ^ A.length * (if same A d then 1 else 0) := by
  induction ts using snoc_ind with
  | h0 => rw [lotsL_nil, sm_cons, sm_nil]; simp [sameN, same]
  | h1 ts e ih =>
    rw [sameN_snoc, lotsL_snoc, sm_app, sm_map, ← ih]
    by_cases h : gt d e.1 = gt d e.2
    · rw [if_pos h, Int.pow_succ]
      have : sm (lotsL ts) (fun A => c ^ (A ++ [e]).length * (if same (A ++ [e]) d then 1 else 0)) = c * (1 + c) ^ sameN ts d := by
        rw [ih, ← sm_mul]
        refine sm_congr fun A _ => ?_
        rw [same_snoc, decide_eq_true h, Bool.and_true, List.length_append, List.length_singleton, Int.pow_succ, Int.mul_comm _ c, Int.mul_assoc]
      rw [this, Int.mul_comm, Int.add_mul, Int.one_mul]
    · rw [if_neg h]
      have : sm (lotsL ts) (fun A => c ^ (A ++ [e]).length * (if same (A ++ [e]) d then 1 else 0)) = 0 := by
        refine (sm_congr (g := fun _ => 0) fun A _ => ?_).trans (sm_zero _)
        rw [same_snoc, decide_eq_false h, Bool.and_false]
        simp
      rw [this]
      simp
def cntS (n : Nat) (A : List T2) (k : Nat) : Int := sm (kpAll k n) fun d => if same A d then 1 else 0
theorem dye_lots (n k : Nat) (c : Int) (ts : List T2) : dyeSum ts n k (1 + c) = sm (lotsL ts) fun A => c ^ A.length * cntS n A k := by
  show sm (kpAll k n) (fun d => (1 + c) ^ sameN ts d) = _
  rw [sm_congr fun d _ => same_pow c d ts, sm_swap]
  refine sm_congr fun A _ => ?_
  unfold cntS
  rw [sm_mul]
def ins (low high n : Nat) (d : List Nat) : List Nat := (List.range n).map fun x => gt d (nmD low high x)
theorem up_nm {low high x : Nat} (h : low < high) : up high (nmD low high x) = if x = high then low else x := by
  unfold up nmD
  by_cases c : x = high
  · rw [if_pos c, if_pos c, if_pos h]
  · rw [if_neg c, if_neg c]
    by_cases c2 : x > high
    · rw [if_pos c2, if_neg (by omega)]; omega
    · rw [if_neg c2, if_pos (by omega)]
theorem gt_ins {low high n x : Nat} {d : List Nat} (hx : x < n) : gt (ins low high n d) x = gt d (nmD low high x) := gt_range _ hx
theorem ins_perm {low high n k : Nat} (h1 : low < high) (h2 : high < n) : ((kpAll k (n - 1)).map (ins low high n)).Perm ((kpAll k n).filter fun d => decide (gt d low = gt d high)) := by
  refine (List.perm_ext_iff_of_nodup (nodup_map (kpAll_nodup _ _) fun a ha b hb e => ?_) ((kpAll_nodup _ _).filter _)).mpr fun d => ?_
  · have ha := (kpAll_iff.mp ha).1
    have hb := (kpAll_iff.mp hb).1
    refine gt_ext ha hb fun w hw => ?_
    have e2 : gt (ins low high n a) (up high w) = gt (ins low high n b) (up high w) := by rw [e]
    rw [gt_ins (up_lt hw), gt_ins (up_lt hw), nm_up h1] at e2
    exact e2
  · rw [List.mem_map, List.mem_filter]
    constructor
    · rintro ⟨a, ha, rfl⟩
      have ha := kpAll_iff.mp ha
      refine ⟨kpAll_iff.mpr ⟨by unfold ins; simp, fun v hv => ?_⟩, decide_eq_true ?_⟩
      · unfold ins at hv
        obtain ⟨x, hx, rfl⟩ := List.mem_map.mp hv
        exact gt_lt ha.1 ha.2 (nmD_lt h1 h2 (List.mem_range.mp hx))
      · rw [gt_ins (by omega), gt_ins h2]
        congr 1
        unfold nmD
        rw [if_neg (by omega), if_neg (by omega), if_pos rfl]
    · rintro ⟨hd, he⟩
      have hd := kpAll_iff.mp hd
      have he := of_decide_eq_true he
      refine ⟨(List.range (n - 1)).map fun w => gt d (up high w), kpAll_iff.mpr ⟨by simp, fun v hv => ?_⟩, gt_ext (by unfold ins; simp) hd.1 fun x hx => ?_⟩
      · obtain ⟨x, hx, rfl⟩ := List.mem_map.mp hv
        exact gt_lt hd.1 hd.2 (up_lt (List.mem_range.mp hx))
      · rw [gt_ins hx, gt_range _ (nmD_lt h1 h2 hx), up_nm h1]
        split
        · rename_i c; rw [c, he]
        · rfl
theorem same_ins {n : Nat} {e : T2} {A : List T2} {d : List Nat} (h : Pr n A) : same A (ins e.1 e.2 n d) = same (A.map fun p => srt (drP e p)) d := by
  unfold same
  rw [List.all_map]
  refine Bool.eq_iff_iff.mpr ?_
  rw [List.all_eq_true, List.all_eq_true]
  have key : ∀ p ∈ A, decide (gt (ins e.1 e.2 n d) p.1 = gt (ins e.1 e.2 n d) p.2) = decide (gt d (srt (drP e p)).1 = gt d (srt (drP e p)).2) := fun p hp => by
    have := h p hp
    rw [gt_ins this.1, gt_ins this.2]
    unfold srt drP
    simp only
    rcases Nat.le_total (nmD e.1 e.2 p.1) (nmD e.1 e.2 p.2) with q | q
    · rw [Nat.min_eq_left q, Nat.max_eq_right q]
    · rw [Nat.min_eq_right q, Nat.max_eq_left q]
      exact decide_eq_decide.mpr ⟨Eq.symm, Eq.symm⟩
  exact ⟨fun g p hp => (key p hp).symm.trans (g p hp), fun g p hp => (key p hp).trans (g p hp)⟩
theorem cntS_drawn {n k : Nat} {e : T2} {A : List T2} (h : Pr n A) (h1 : e.1 < e.2) (h2 : e.2 < n) : cntS n (A ++ [e]) k = cntS (n - 1) (A.map fun p => srt (drP e p)) k := by
  unfold cntS
  have : sm (kpAll k n) (fun d => if same (A ++ [e]) d then (1 : Int) else 0) = sm ((kpAll k n).filter fun d => decide (gt d e.1 = gt d e.2)) fun d => if same A d then (1 : Int) else 0 := by
    rw [sm_filter]
    refine sm_congr fun d _ => ?_
    rw [same_snoc]
    by_cases c : gt d e.1 = gt d e.2 <;> simp [c]
  rw [this, ← sm_perm (ins_perm h1 h2), sm_map]
  exact sm_congr fun d _ => by rw [same_ins h]
theorem drawnS_ok {n : Nat} {us : List T2} {e : T2} (hp : PrOk n (us ++ [e])) (he : e.1 < e.2) : PrOk (n - 1) (us.map fun p => srt (drP e p)) := by
  have c : loopB (us ++ [e]) us.length = false := by
    unfold loopB
    rw [getD_snoc]
    exact decide_eq_false (by omega)
  have := hp.drawn (t := us.length) (by simp) c
  rwa [drawn_snoc] at this
theorem rk_drawnS {n : Nat} {us : List T2} {e : T2} (hp : PrOk n (us ++ [e])) (he : e.1 < e.2) : rkL n (us ++ [e]) = rkL (n - 1) (us.map fun p => srt (drP e p)) + 1 := by
  have hA : Pr n (us ++ [e]) := fun p hq => by have := hp.pr p hq; omega
  have hp := drP_pr (n := n) (ts := us) (e := e) (fun p hp => hA p (List.mem_append_left _ hp)) he (hA e (by simp)).2
  have hh := rk_srt hp
  rw [List.map_map] at hh
  rw [rk_drawn hA he, ← hh]
  rfl
theorem cntS_eq (k : Nat) : ∀ (f n : Nat) (A : List T2), A.length = f → PrOk n A → cntS n A k = (k : Int) ^ (n - rkL n A)
  | 0, n, A, h, _ => by
    have : A = [] := List.eq_nil_of_length_eq_zero h
    subst this
    rw [rk_nil]
    unfold cntS
    rw [sm_congr (g := fun _ => 1) fun d _ => by simp [same], sm_const, kpAll_len]
    push_cast
    simp
  | f + 1, n, A, h, hp => by
    have hne : A ≠ [] := by intro z; rw [z] at h; cases h
    obtain ⟨us, e, rfl⟩ : ∃ us e, A = us ++ [e] := ⟨A.dropLast, A.getLast hne, (List.dropLast_concat_getLast hne).symm⟩
    have hl : us.length = f := by simp at h; omega
    have hP : Pr n (us ++ [e]) := fun p hq => by have := hp.pr p hq; omega
    have hr : PrOk n us := ⟨hp.n1, fun p hq => hp.pr p (List.mem_append_left _ hq)⟩
    have he := hp.pr e (by simp)
    by_cases c : e.1 = e.2
    · rw [(rk_snoc hP).1 (c ▸ .refl _), ← cntS_eq k f n us hl hr]
      unfold cntS
      refine sm_congr fun d _ => ?_
      rw [same_snoc, c]
      simp
    · have c : e.1 < e.2 := by omega
      rw [cntS_drawn (fun p hq => hP p (List.mem_append_left _ hq)) c he.2, cntS_eq k f (n - 1) _ (by rw [List.length_map]; exact hl) (drawnS_ok hp c), rk_drawnS hp c]
      congr 1
      omega
theorem prOk_lot {n : Nat} {ts A : List T2} (h : PrOk n ts) (hA : A ∈ lotsL ts) : PrOk n A := ⟨h.n1, fun p hp => h.pr p ((lotsL_mem ts A hA).1 p hp)⟩
theorem dye_sum {n k : Nat} {ts : List T2} (c : Int) (h : PrOk n ts) : dyeSum ts n k (1 + c) = sm (lotsL ts) fun A => c ^ A.length * (k : Int) ^ (n - rkL n A) := by
  rw [dye_lots]
  exact sm_congr fun A hA => by rw [cntS_eq k _ n A rfl (prOk_lot h hA)]
theorem pcs_eq (n : Nat) (ts : List T2) : pcs n ts = n - rkL n ts := by
  unfold pcs
  rw [piecesP_len, lotTs_all]
  have := rk_cls n ts
  unfold cls at this
  omega
theorem int_one_pow (m : Nat) : (1 : Int) ^ m = 1 := by
  induction m with
  | zero => rfl
  | succ m ih => rw [Int.pow_succ, ih]; rfl
theorem h1_ok {n k : Nat} {ts : List T2} (h : PrOk n ts) : dyeSum ts n k 2 = (k : Int) ^ pcs n ts * evP (btP ts.length n ts) (1 + k) 2 := by
  rw [show (1 + (k : Int)) = k + 1 by omega, show (2 : Int) = 1 + 1 from rfl, bt_eval k 1 _ n ts (Nat.le_refl _) h, dye_sum 1 h, pcs_eq]
  unfold tut
  rw [← sm_mul]
  refine sm_congr fun A hA => ?_
  have hP : Pr n ts := fun p hq => by have := h.pr p hq; omega
  have := lotsL_rk hP hA
  have a := rk_cls n ts
  rw [int_one_pow, int_one_pow, Int.one_mul, Int.mul_one, ← Int.pow_add]
  congr 1
  omega
theorem h3_ok {n : Nat} {ts : List T2} (h : PrOk n ts) : dyeSum ts n 2 3 = (2 : Int) ^ pcs n ts * 2 ^ rkL n (lotTs ts (allT ts)) * evP (btP ts.length n ts) 2 3 := by
  rw [lotTs_all, show (3 : Int) = 1 + 2 from rfl, dye_sum 2 h, show (1 + 2 : Int) = 2 + 1 from rfl, show evP (btP ts.length n ts) 2 (2 + 1) = evP (btP ts.length n ts) (1 + 1) (2 + 1) from rfl, bt_eval 1 2 _ n ts (Nat.le_refl _) h, pcs_eq]
  unfold tut
  rw [← sm_mul]
  refine sm_congr fun A hA => ?_
  have hP : Pr n ts := fun p hq => by have := h.pr p hq; omega
  have := lotsL_rk hP hA
  have a := rk_cls n ts
  rw [int_one_pow, Int.one_mul, ← Int.pow_add, ← Int.pow_add, show ((2 : Nat) : Int) = 2 from rfl, ← Int.pow_add]
  congr 1
  omega
end L3

/-! P5: sums over flows -/
namespace L3
def df (e : T2) (v : Int) (x : Nat) : Int := (if e.2 = x then v else 0) - (if e.1 = x then v else 0)
def net (ts : List T2) (vs : List Int) (x : Nat) : Int := sm (ts.zip vs) fun q => df q.1 q.2 x
theorem net_snoc {ts : List T2} {e : T2} {vs : List Int} {v : Int} (h : vs.length = ts.length) (x : Nat) : net (ts ++ [e]) (vs ++ [v]) x = net ts vs x + df e v x := by
  unfold net
  rw [List.zip_append h.symm, sm_app]
  congr 1
  rw [show [e].zip [v] = [(e, v)] from rfl, sm_cons, sm_nil, Int.add_zero]
theorem gI_set (l : List Int) (i x : Nat) (v : Int) (hx : x < l.length) : gI (l.set i v) x = if i = x then v else gI l x := by
  unfold gI
  rw [List.getD_eq_getElem?_getD, List.getD_eq_getElem?_getD, List.getElem?_set]
  by_cases c : i = x
  · subst c; simp [hx]
  · simp [c]
theorem kStep_gI (l : List Int) (q : T2 × Int) (x : Nat) (hx : x < l.length) : gI (kStep l q) x = gI l x + df q.1 q.2 x := by
  unfold kStep df
  rw [gI_set _ _ _ _ (by simpa using hx), gI_set _ _ x _ hx]
  by_cases c1 : q.1.2 = x
  · rw [if_pos c1, if_pos c1, c1, gI_set _ _ x _ hx]
    by_cases c2 : q.1.1 = x
    · rw [if_pos c2, if_pos c2, c2]; omega
    · rw [if_neg c2, if_neg c2]; omega
  · rw [if_neg c1, if_neg c1]
    by_cases c2 : q.1.1 = x
    · rw [if_pos c2, if_pos c2, c2]; omega
    · rw [if_neg c2, if_neg c2]; omega
theorem fold_gI (x : Nat) : ∀ (L : List (T2 × Int)) (l : List Int), x < l.length → gI (L.foldl kStep l) x = gI l x + sm L fun q => df q.1 q.2 x
  | [], l, _ => by rw [sm_nil]; simp
  | q :: L, l, h => by
    rw [List.foldl_cons, fold_gI x L _ (by rw [kStep_len]; exact h), kStep_gI l q x h, sm_cons, Int.add_assoc]
theorem sumsOf_gI {n x : Nat} (ts : List T2) (vs : List Int) (h : x < n) : gI (sumsOf n ts vs) x = net ts vs x := by
  unfold sumsOf
  rw [fold_gI x _ _ (by simpa using h)]
  have : gI (List.replicate n 0) x = 0 := by
    unfold gI
    rw [List.getD_eq_getElem?_getD, List.getElem?_replicate]
    simp [h]
  rw [this, Int.zero_add]
  rfl
def kq (n : Nat) (ts : List T2) (k : Nat) (s : Nat → Int) (vs : List Nat) : Bool := (List.range n).all fun x => decide ((net ts (toI vs) x + s x) % k = 0)
theorem kq_iff {n k : Nat} {ts : List T2} {s : Nat → Int} {vs : List Nat} : kq n ts k s vs = true ↔ ∀ x, x < n → (net ts (toI vs) x + s x) % k = 0 := by
  unfold kq
  rw [List.all_eq_true]
  exact ⟨fun h x hx => of_decide_eq_true (h x (List.mem_range.mpr hx)), fun h x hx => decide_eq_true (h x (List.mem_range.mp hx))⟩
def z0 (_ : Nat) : Int := 0
theorem kir_eq (n k : Nat) (ts : List T2) (vs : List Nat) : kir n ts k vs = kq n ts k z0 vs := by
  refine Bool.eq_iff_iff.mpr ?_
  rw [kq_iff]
  unfold kir
  rw [List.all_eq_true]
  have hl := sumsOf_len n ts (toI vs)
  constructor
  · intro h x hx
    rw [← sumsOf_gI ts _ hx]
    unfold z0 gI
    rw [Int.add_zero, List.getD_eq_getElem?_getD, List.getElem?_eq_getElem (by omega)]
    exact of_decide_eq_true (h _ (List.getElem_mem ..))
  · intro h v hv
    obtain ⟨x, hx, rfl⟩ := List.getElem_of_mem hv
    have := h x (by omega)
    rw [← sumsOf_gI (n := n) ts _ (by omega)] at this
    unfold z0 gI at this
    rw [Int.add_zero, List.getD_eq_getElem?_getD, List.getElem?_eq_getElem (by omega)] at this
    exact decide_eq_true this
def sh (s : Nat → Int) (e : T2) (v : Int) (x : Nat) : Int := s x + df e v x
theorem kq_snoc {n k : Nat} {ts : List T2} {e : T2} {s : Nat → Int} {d : List Nat} {v : Nat} (h : d.length = ts.length) : kq n (ts ++ [e]) k s (d ++ [v]) = kq n ts k (sh s e v) d := by
  unfold kq
  congr 1
  funext x
  have : toI (d ++ [v]) = toI d ++ [(v : Int)] := by unfold toI; simp
  rw [this, net_snoc (by unfold toI; simpa using h)]
  unfold sh
  rw [show net ts (toI d) x + df e v x + s x = net ts (toI d) x + (s x + df e v x) by omega]
theorem sm_kp (k m : Nat) (f : List Nat → Int) : sm (kpAll k (m + 1)) f = sm (List.range k) fun v => sm (kpAll k m) fun d => f (d ++ [v]) := by
  show sm ((List.range k).flatMap fun v => (kpAll k m).map (· ++ [v])) f = _
  rw [sm_flatMap]
  exact sm_congr fun v _ => sm_map ..
theorem idle_snoc (d : List Nat) (v : Nat) : idleN (d ++ [v]) = idleN d + if v = 0 then 1 else 0 := by
  unfold idleN
  rw [List.filter_append, List.length_append]
  congr 1
  by_cases c : v = 0 <;> simp [c]
def fL (n k : Nat) (w : Int) (ts : List T2) (s : Nat → Int) : Int := sm (kpAll k ts.length) fun vs => if kq n ts k s vs then w ^ idleN vs else 0
def fC (n k : Nat) (A : List T2) (s : Nat → Int) : Int := sm (kpAll k A.length) fun vs => if kq n A k s vs then 1 else 0
theorem sh_zero (s : Nat → Int) (e : T2) : sh s e ((0 : Nat) : Int) = s := by
  funext x
  unfold sh df
  simp
theorem sm_pick {k : Nat} (v0 : Nat) (h : v0 < k) (f : Nat → Int) : sm (List.range k) (fun v => if v = v0 then f v else 0) = f v0 := by
  induction k with
  | zero => omega
  | succ k ih =>
    rw [List.range_succ, sm_app, sm_cons, sm_nil]
    by_cases c : k = v0
    · subst c
      rw [if_pos rfl, sm_congr (g := fun _ => 0) fun v hv => if_neg (by have := List.mem_range.mp hv; omega), sm_zero]
      omega
    · rw [if_neg c, ih (by omega)]
      omega
theorem fC_snoc (n k : Nat) (A : List T2) (e : T2) (s : Nat → Int) : fC n k (A ++ [e]) s = sm (List.range k) fun v => fC n k A (sh s e (v : Int)) := by
  unfold fC
  rw [List.length_append, List.length_singleton, sm_kp]
  refine sm_congr fun v _ => sm_congr fun d hd => ?_
  rw [kq_snoc (kpAll_mem hd).1]
theorem fL_snoc (n k : Nat) (hk : 1 ≤ k) (c : Int) (ts : List T2) (e : T2) (s : Nat → Int) : fL n k (1 + c) (ts ++ [e]) s = c * fL n k (1 + c) ts s + sm (List.range k) fun v => fL n k (1 + c) ts (sh s e (v : Int)) := by
  have h1 : fL n k (1 + c) (ts ++ [e]) s = sm (List.range k) fun v => (if v = 0 then c * fL n k (1 + c) ts (sh s e (v : Int)) else 0) + fL n k (1 + c) ts (sh s e (v : Int)) := by
    conv => lhs; unfold fL
    rw [List.length_append, List.length_singleton, sm_kp]
    refine sm_congr fun v _ => ?_
    by_cases z : v = 0
    · rw [if_pos z]
      unfold fL
      rw [← sm_mul, ← sm_add]
      refine sm_congr fun d hd => ?_
      rw [kq_snoc (kpAll_mem hd).1, idle_snoc, if_pos z]
      cases kq n ts k (sh s e (v : Int)) d with
      | true =>
        simp only [if_true]
        rw [Int.pow_succ, Int.mul_comm, Int.add_mul, Int.one_mul]
        omega
      | false => simp
    · rw [if_neg z, Int.zero_add]
      unfold fL
      refine sm_congr fun d hd => ?_
      rw [kq_snoc (kpAll_mem hd).1, idle_snoc, if_neg z]
      rfl
  rw [h1, sm_add, sm_pick (f := fun v => c * fL n k (1 + c) ts (sh s e (v : Int))) 0 (by omega)]
  simp only [sh_zero]
theorem flow_lots (n k : Nat) (hk : 1 ≤ k) (c : Int) (ts : List T2) : ∀ s, fL n k (1 + c) ts s = sm (lotsL ts) fun A => c ^ (ts.length - A.length) * fC n k A s := by
  induction ts using snoc_ind with
  | h0 =>
    intro s
    rw [lotsL_nil, sm_cons, sm_nil]
    unfold fL fC
    simp [kpAll, sm_cons, sm_nil, idleN]
  | h1 ts e ih =>
    intro s
    rw [fL_snoc n k hk, ih s, lotsL_snoc, sm_app, sm_map, ← sm_mul]
    congr 1
    · refine sm_congr fun A hA => ?_
      have := lotsL_len hA
      rw [List.length_append, List.length_singleton, show ts.length + 1 - A.length = (ts.length - A.length) + 1 by omega, Int.pow_succ, Int.mul_comm _ c, Int.mul_assoc]
    · refine (sm_congr (l := List.range k) (g := fun (v : Nat) => sm (lotsL ts) fun A => c ^ (ts.length - A.length) * fC n k A (sh s e (v : Int))) fun (v : Nat) _ => ih (sh s e (v : Int))).trans ?_
      rw [sm_swap]
      refine sm_congr fun A hA => ?_
      rw [sm_mul, fC_snoc, List.length_append, List.length_append, List.length_singleton, Nat.add_sub_add_right]
/-! how many flows -/
theorem sh_loop (s : Nat → Int) (e : T2) (h : e.1 = e.2) (v : Int) : sh s e v = s := by
  funext x
  unfold sh df
  rw [h]; omega
theorem net_drawn (lo hi : Nat) (h : lo < hi) (A : List T2) (vs : List Int) (w : Nat) : net (A.map (drP (lo, hi))) vs w = if w = lo then net A vs lo + net A vs hi else net A vs (up hi w) := by
  unfold net
  rw [List.zip_map_left, sm_map]
  have nm : ∀ y, nmD lo hi y = w ↔ (if w = lo then y = lo ∨ y = hi else y = up hi w) := fun y => by
    by_cases c : w = lo
    · rw [if_pos c]
      unfold nmD
      split
      · omega
      · split <;> omega
    · rw [if_neg c]
      unfold nmD up
      split
      · split <;> omega
      · split <;> (split <;> omega)
  by_cases c : w = lo
  · rw [if_pos c, ← sm_add]
    refine sm_congr fun q _ => ?_
    show df (drP (lo, hi) q.1) q.2 w = _
    simp only [if_pos c] at nm
    unfold df drP
    simp only [nm]
    have key : ∀ y : Nat, (if y = lo ∨ y = hi then q.2 else 0) = (if y = lo then q.2 else 0) + (if y = hi then q.2 else 0) := fun y => by
      by_cases c1 : y = lo
      · rw [if_pos (.inl c1), if_pos c1, if_neg (by omega)]; omega
      · by_cases c2 : y = hi
        · rw [if_pos (.inr c2), if_neg c1, if_pos c2]; omega
        · rw [if_neg (by omega), if_neg c1, if_neg c2]; rfl
    rw [key, key]
    omega
  · rw [if_neg c]
    refine sm_congr fun q _ => ?_
    show df (drP (lo, hi) q.1) q.2 w = _
    simp only [if_neg c] at nm
    unfold df drP
    simp only [nm]
theorem only_v {k v : Nat} (h1 : 1 ≤ k) (h3 : k ≤ 3) (hv : v < k) (a b : Int) : ((a - v) % k = 0 ∧ (b + v) % k = 0) ↔ (v = (a % k).toNat ∧ (a + b) % k = 0) := by
  have : k = 1 ∨ k = 2 ∨ k = 3 := by omega
  rcases this with rfl | rfl | rfl <;> omega
theorem kq_drawn {n k v : Nat} {A : List T2} {e : T2} {d : List Nat} (h1 : 1 ≤ k) (h3 : k ≤ 3) (hv : v < k) (he : e.1 ≠ e.2) (e1 : e.1 < n) (e2 : e.2 < n) :
    kq n A k (sh z0 e v) d = true ↔ v = (net A (toI d) e.1 % k).toNat ∧ kq (n - 1) (A.map (drP (min e.1 e.2, max e.1 e.2))) k z0 d = true := by
  rw [kq_iff, kq_iff]
  generalize hN : net A (toI d) = N
  have hlh : min e.1 e.2 < max e.1 e.2 := by omega
  have nd : ∀ w, net (A.map (drP (min e.1 e.2, max e.1 e.2))) (toI d) w = if w = min e.1 e.2 then N (min e.1 e.2) + N (max e.1 e.2) else N (up (max e.1 e.2) w) := fun w => by rw [net_drawn _ _ hlh, hN]
  have hsum : N (min e.1 e.2) + N (max e.1 e.2) = N e.1 + N e.2 := by
    rcases Nat.le_total e.1 e.2 with q | q
    · rw [Nat.min_eq_left q, Nat.max_eq_right q]
    · rw [Nat.min_eq_right q, Nat.max_eq_left q, Int.add_comm]
  have se1 : sh z0 e v e.1 = - (v : Int) := by unfold sh z0 df; rw [if_neg (fun z => he z.symm), if_pos rfl]; omega
  have se2 : sh z0 e v e.2 = (v : Int) := by unfold sh z0 df; rw [if_pos rfl, if_neg he]; omega
  have se3 : ∀ x, x ≠ e.1 → x ≠ e.2 → sh z0 e v x = 0 := fun x a b => by unfold sh z0 df; rw [if_neg (fun z => b z.symm), if_neg (fun z => a z.symm)]; rfl
  constructor
  · intro h
    have a := h e.1 e1
    have b := h e.2 e2
    rw [se1] at a
    rw [se2] at b
    have ab := (only_v h1 h3 hv (N e.1) (N e.2)).mp ⟨by rw [Int.sub_eq_add_neg]; exact a, b⟩
    refine ⟨ab.1, fun w hw => ?_⟩
    rw [nd]
    unfold z0
    rw [Int.add_zero]
    split
    · rw [hsum]; exact ab.2
    · rename_i c
      have hx := up_lt (high := max e.1 e.2) hw
      have := h _ hx
      rw [se3, Int.add_zero] at this
      · exact this
      · intro z
        apply c
        have := nm_up (w := w) hlh
        rw [z] at this
        unfold nmD at this
        split at this
        · omega
        · split at this <;> omega
      · intro z
        apply c
        have := nm_up (w := w) hlh
        rw [z] at this
        unfold nmD at this
        split at this
        · omega
        · split at this <;> omega
  · rintro ⟨h, hq⟩
    have hw := hq (min e.1 e.2) (by omega)
    rw [nd, if_pos rfl, hsum] at hw
    unfold z0 at hw
    rw [Int.add_zero] at hw
    have ab := (only_v h1 h3 hv (N e.1) (N e.2)).mpr ⟨h, hw⟩
    intro x hx
    by_cases c1 : x = e.1
    · rw [c1, se1, ← Int.sub_eq_add_neg]; exact ab.1
    · by_cases c2 : x = e.2
      · rw [c2, se2]; exact ab.2
      · rw [se3 x c1 c2]
        have := hq (nmD (min e.1 e.2) (max e.1 e.2) x) (nmD_lt hlh (by omega) hx)
        rw [nd, up_nm hlh, if_neg (by omega : ¬ x = max e.1 e.2)] at this
        rw [if_neg] at this
        · exact this
        · unfold nmD
          split
          · omega
          · split <;> omega
theorem fC_drawn {n k : Nat} {A : List T2} {e : T2} (h1 : 1 ≤ k) (h3 : k ≤ 3) (he : e.1 ≠ e.2) (e1 : e.1 < n) (e2 : e.2 < n) : fC n k (A ++ [e]) z0 = fC (n - 1) k (A.map (drP (min e.1 e.2, max e.1 e.2))) z0 := by
  rw [fC_snoc]
  unfold fC
  rw [sm_swap, List.length_map]
  refine sm_congr fun d _ => ?_
  have hv0 : (net A (toI d) e.1 % k).toNat < k := by
    have a := Int.emod_nonneg (net A (toI d) e.1) (show (k : Int) ≠ 0 by omega)
    have b := Int.emod_lt_of_pos (net A (toI d) e.1) (show (0 : Int) < k by omega)
    omega
  have : sm (List.range k) (fun v => if kq n A k (sh z0 e (v : Int)) d then (1 : Int) else 0) = sm (List.range k) fun v => if v = (net A (toI d) e.1 % k).toNat then (if kq (n - 1) (A.map (drP (min e.1 e.2, max e.1 e.2))) k z0 d then (1 : Int) else 0) else 0 := by
    refine sm_congr fun v hv => ?_
    have key := kq_drawn (d := d) (A := A) h1 h3 (List.mem_range.mp hv) he e1 e2
    by_cases c : kq n A k (sh z0 e (v : Int)) d = true
    · obtain ⟨a, b⟩ := key.mp c
      rw [if_pos c, if_pos a, if_pos b]
    · rw [if_neg c]
      by_cases a : v = (net A (toI d) e.1 % k).toNat
      · rw [if_pos a, if_neg fun b => c (key.mpr ⟨a, b⟩)]
      · rw [if_neg a]
  rw [this, sm_pick _ hv0]
theorem rk_turn {n : Nat} {A : List T2} {e : T2} (h : Pr n (A ++ [e])) : rkL n (A ++ [e]) = rkL n (A ++ [(min e.1 e.2, max e.1 e.2)]) := by
  have h2 : Pr n (A ++ [(min e.1 e.2, max e.1 e.2)]) := fun p hp => by
    rcases List.mem_append.mp hp with hp | hp
    · exact h p (List.mem_append_left _ hp)
    · have := h e (by simp)
      rw [List.mem_singleton] at hp
      subst hp
      simp only
      omega
  have a := rk_snoc h
  have b := rk_snoc h2
  have c : Cn A e.1 e.2 ↔ Cn A (min e.1 e.2) (max e.1 e.2) := by
    rcases Nat.le_total e.1 e.2 with q | q
    · rw [Nat.min_eq_left q, Nat.max_eq_right q]
    · rw [Nat.min_eq_right q, Nat.max_eq_left q]; exact ⟨Cn.symm, Cn.symm⟩
  by_cases z : Cn A e.1 e.2
  · rw [a.1 z, b.1 (c.mp z)]
  · rw [a.2 z, b.2 fun y => z (c.mpr y)]
theorem fC_eq {k : Nat} (h1 : 1 ≤ k) (h3 : k ≤ 3) : ∀ (f n : Nat) (A : List T2), A.length = f → Pr n A → fC n k A z0 = (k : Int) ^ (A.length - rkL n A)
  | 0, n, A, h, _ => by
    have : A = [] := List.eq_nil_of_length_eq_zero h
    subst this
    have hq : kq n [] k z0 [] = true := kq_iff.mpr fun x _ => by simp [net, sm_nil, z0]
    unfold fC
    show sm [[]] _ = _
    rw [sm_cons, sm_nil, hq]
    simp
  | f + 1, n, A, h, hp => by
    have hne : A ≠ [] := by intro z; rw [z] at h; cases h
    obtain ⟨us, e, rfl⟩ : ∃ us e, A = us ++ [e] := ⟨A.dropLast, A.getLast hne, (List.dropLast_concat_getLast hne).symm⟩
    have hl : us.length = f := by simp at h; omega
    have hr : Pr n us := fun p hq => hp p (List.mem_append_left _ hq)
    have he := hp e (by simp)
    rw [List.length_append, List.length_singleton]
    by_cases c : e.1 = e.2
    · have := rk_le_len hr
      rw [(rk_snoc hp).1 (c ▸ .refl _), fC_snoc, sm_congr (g := fun _ => fC n k us z0) fun v _ => by rw [sh_loop z0 e c], sm_const, List.length_range, fC_eq h1 h3 f n us hl hr, show us.length + 1 - rkL n us = (us.length - rkL n us) + 1 by omega, Int.pow_succ, Int.mul_comm]
    · have hlh : min e.1 e.2 < max e.1 e.2 := by omega
      have hd := drP_pr (n := n) (ts := us) (e := (min e.1 e.2, max e.1 e.2)) hr hlh (show max e.1 e.2 < n by omega)
      have hp2 : Pr n (us ++ [(min e.1 e.2, max e.1 e.2)]) := fun p hq => by
        rcases List.mem_append.mp hq with hq | hq
        · exact hr p hq
        · rw [List.mem_singleton] at hq
          subst hq
          simp only
          omega
      rw [fC_drawn h1 h3 c he.1 he.2, fC_eq h1 h3 f (n - 1) _ (by rw [List.length_map]; exact hl) hd, rk_turn hp, rk_drawn hp2 hlh, List.length_map]
      congr 1
      omega
theorem flow_sum {n k : Nat} {ts : List T2} (c : Int) (h1 : 1 ≤ k) (h3 : k ≤ 3) (h : Pr n ts) : fL n k (1 + c) ts z0 = sm (lotsL ts) fun A => c ^ (ts.length - A.length) * (k : Int) ^ (A.length - rkL n A) := by
  rw [flow_lots n k h1]
  exact sm_congr fun A hA => by rw [fC_eq h1 h3 _ n A rfl fun p hp => h p ((lotsL_mem ts A hA).1 p hp)]
theorem h4_ok {n k : Nat} {ts : List T2} (h1 : 1 ≤ k) (h3 : k ≤ 3) (h : PrOk n ts) : flowSum n ts k 2 = evP (btP ts.length n ts) 2 (1 + k) := by
  have hP : Pr n ts := fun p hq => by have := h.pr p hq; omega
  have e1 : flowSum n ts k 2 = fL n k (1 + 1) ts z0 := by
    show sm ((kpAll k ts.length).filter (kir n ts k)) (fun v => (2 : Int) ^ idleN v) = _
    rw [sm_filter]
    unfold fL
    exact sm_congr fun d _ => by rw [kir_eq]; rfl
  rw [e1, flow_sum 1 h1 h3 hP, show (1 + (k : Int)) = k + 1 by omega, show evP (btP ts.length n ts) 2 (k + 1) = evP (btP ts.length n ts) (1 + 1) (k + 1) from rfl, bt_eval 1 k _ n ts (Nat.le_refl _) h]
  unfold tut
  exact sm_congr fun A hA => by rw [int_one_pow, int_one_pow]
theorem zero_pow (m : Nat) : (0 : Int) ^ m = if m = 0 then 1 else 0 := by
  cases m with
  | zero => rfl
  | succ m => rw [Int.pow_succ]; simp
theorem flowNum_eq {n k : Nat} {ts : List T2} (h1 : 1 ≤ k) (h3 : k ≤ 3) (hP : Pr n ts) : flowNum n ts k = sm (lotsL ts) fun A => (-1) ^ (ts.length - A.length) * (k : Int) ^ (A.length - rkL n A) := by
  rw [← flow_sum (-1) h1 h3 hP]
  show sm ((kpAll k ts.length).filter (kir n ts k)) (fun v => if idleN v = 0 then (1 : Int) else 0) = _
  rw [sm_filter]
  unfold fL
  refine sm_congr fun d _ => ?_
  rw [kir_eq, show (1 + -1 : Int) = 0 from rfl, zero_pow]
end L3

/-! P6: numbers of currents; polynomials by their numbers -/
namespace L3
theorem lin_nil (g : T2 → Int) : lin g [] = 0 := rfl
theorem lin_tab (g : T2 → Int) (n : Nat) (ts : List T2) : lin g (tabP n ts) = sm (lotsL ts) fun A => g (rkL n A, A.length) := by
  unfold tabP
  rw [lin_normT g (addAll_nk nk_nil), lin_addAll g _ nk_nil, lin_nil, Int.zero_add, ← sm_lots ts (fun A => g (rkL n A, A.length))]
  unfold lin tabRaw
  rw [sm_map]
  refine sm_congr fun lot _ => ?_
  rw [lotTs_len, Int.one_mul]
theorem pSum_cons (a : Int) (l : List Int) (k : Int) : pSum (a :: l) k = a + pSum l k * k := by
  unfold pSum
  rw [List.reverse_cons, List.foldl_append]
  simp only [List.foldl_cons, List.foldl_nil]
  omega
theorem pSum_set (k c : Int) : ∀ (l : List Int) (i : Nat), i < l.length → pSum (l.set i (gI l i + c)) k = pSum l k + c * k ^ i
  | [], i, h => by simp at h
  | a :: l, 0, _ => by
    rw [List.set_cons_zero, pSum_cons, pSum_cons]
    show a + c + _ = _
    rw [Int.pow_zero, Int.mul_one]
    omega
  | a :: l, i + 1, h => by
    rw [List.set_cons_succ, pSum_cons, pSum_cons]
    show a + pSum (l.set i (gI l i + c)) k * k = _
    rw [pSum_set k c l i (by simp at h; omega), Int.add_mul, Int.pow_succ, Int.mul_assoc]
    omega
theorem pSum_zero (k : Int) : ∀ m, pSum (List.replicate m 0) k = 0
  | 0 => rfl
  | m + 1 => by rw [List.replicate_succ, pSum_cons, pSum_zero k m]; simp
def gC (m : Nat) (k : Int) (x : T2) : Int := (-1) ^ (m - x.2) * k ^ (x.2 - x.1)
theorem sgn_pow : ∀ m : Nat, (-1 : Int) ^ m = if m % 2 = 0 then 1 else -1
  | 0 => rfl
  | m + 1 => by
    rw [Int.pow_succ, sgn_pow m]
    by_cases c : m % 2 = 0
    · rw [if_pos c, if_neg (by omega)]; rfl
    · rw [if_neg c, if_pos (by omega)]; rfl
theorem pSum_fold (m : Nat) (k : Int) : ∀ (L : Po) (l : List Int), (∀ e ∈ L, e.1.2 - e.1.1 < l.length) → pSum (L.foldl (cStep m) l) k = pSum l k + lin (gC m k) L
  | [], l, _ => by rw [lin_nil, Int.add_zero]; rfl
  | e :: L, l, h => by
    rw [List.foldl_cons, pSum_fold m k L _ fun f hf => by rw [cStep_len]; exact h f (List.mem_cons_of_mem _ hf)]
    unfold cStep
    rw [pSum_set k _ l _ (h e (List.mem_cons_self ..))]
    unfold lin gC
    rw [sm_cons, sgn_pow, ← Int.add_assoc]
    congr 2
    by_cases c : (m - e.1.2) % 2 = 0
    · rw [if_pos c, if_pos c, Int.one_mul]
    · rw [if_neg c, if_neg c, Int.neg_mul, Int.neg_mul, Int.one_mul, Int.mul_neg]
theorem h5_ok {n k : Nat} {ts : List T2} (h1 : 1 ≤ k) (h3 : k ≤ 3) (hP : Pr n ts) : pSum (curNum n ts) k = flowNum n ts k := by
  rw [flowNum_eq h1 h3 hP]
  unfold curNum
  rw [pSum_fold, pSum_zero, Int.zero_add, lin_tab]
  · rfl
  · intro e he
    obtain ⟨lot, hl, hk⟩ := tab_mem he
    have := lotsL_rk hP (lot_in hl)
    rw [lotTs_len] at this
    rw [hk, lotTs_all, List.length_replicate]
    simp only
    omega
/-! polynomials by their numbers -/
def one (k x : T2) : Int := if x = k then 1 else 0
theorem getA_lin (k : T2) : ∀ {l : Po}, Nk l → (getA k l).getD 0 = lin (one k) l
  | [], _ => rfl
  | e :: l, h => by
    unfold Nk at h
    rw [List.map_cons, List.nodup_cons] at h
    unfold getA lin
    rw [sm_cons]
    show _ = e.2 * one k e.1 + lin (one k) l
    rw [← getA_lin k h.2]
    unfold one
    by_cases c : e.1 = k
    · rw [if_pos c, if_pos c, getA_none (by rw [← c]; exact h.1)]
      simp
    · rw [if_neg c, if_neg c]; simp
theorem lin_none {k : T2} {l : Po} (hn : Nk l) (h : k ∉ l.map (·.1)) : lin (one k) l = 0 := by
  rw [← getA_lin k hn, getA_none h]; rfl
def ltP (a b : T2) : Prop := a.1 < b.1 ∨ a.1 = b.1 ∧ a.2 < b.2
theorem leP_iff (a b : T2) : leP a b = true ↔ ¬ ltP b a := by
  unfold leP ltP oPr
  simp [oN]
  split <;> omega
theorem ins_sorted {x : T2} : ∀ {l : List T2}, l.Pairwise ltP → x ∉ l → (insS leP x l).Pairwise ltP
  | [], _, _ => by unfold insS; simp
  | y :: r, h, hx => by
    have h0 := h
    rw [List.pairwise_cons] at h
    rw [List.mem_cons] at hx
    unfold insS
    by_cases c : leP x y = true
    · rw [if_pos c]
      have hxy : ltP x y := by
        have := (leP_iff x y).mp c
        have hne : x ≠ y := fun z => hx (.inl z)
        obtain ⟨x1, x2⟩ := x
        obtain ⟨y1, y2⟩ := y
        have : ¬ (x1 = y1 ∧ x2 = y2) := fun z => hne (by rw [z.1, z.2])
        unfold ltP at *
        simp only at *
        omega
      rw [List.pairwise_cons]
      refine ⟨fun z hz => ?_, h0⟩
      rcases List.mem_cons.mp hz with rfl | hz
      · exact hxy
      · have := h.1 z hz
        unfold ltP at *
        omega
    · rw [if_neg c, List.pairwise_cons]
      have hyx : ltP y x := Classical.byContradiction fun z => c ((leP_iff x y).mpr z)
      refine ⟨fun z hz => ?_, ins_sorted h.2 fun z => hx (.inr z)⟩
      rcases List.mem_cons.mp ((insS_perm leP x r).mem_iff.mp hz) with rfl | hz
      · exact hyx
      · exact h.1 z hz
theorem isS_sorted : ∀ l : List T2, l.Nodup → (isS leP l).Pairwise ltP
  | [], _ => List.Pairwise.nil
  | x :: r, h => by
    rw [List.nodup_cons] at h
    unfold isS
    exact ins_sorted (isS_sorted r h.2) fun z => h.1 ((isS_perm leP r).mem_iff.mp z)
theorem uniq_of : ∀ {l m : List T2}, l.Pairwise ltP → m.Pairwise ltP → (∀ x, x ∈ l ↔ x ∈ m) → l = m
  | [], m, _, _, h => by
    cases m with
    | nil => rfl
    | cons a m => exact absurd ((h a).mpr (List.mem_cons_self ..)) (by simp)
  | a :: l, [], _, _, h => absurd ((h a).mp (List.mem_cons_self ..)) (by simp)
  | a :: l, b :: m, h1, h2, h => by
    rw [List.pairwise_cons] at h1 h2
    have hab : a = b := by
      rcases List.mem_cons.mp ((h a).mp (List.mem_cons_self ..)) with e | e
      · exact e
      · rcases List.mem_cons.mp ((h b).mpr (List.mem_cons_self ..)) with f | f
        · exact f.symm
        · have x := h2.1 a e
          have y := h1.1 b f
          unfold ltP at x y
          omega
    subst hab
    have ir : ∀ {c : List T2}, (∀ x ∈ c, ltP a x) → a ∉ c := fun hc z => by
      have := hc a z
      unfold ltP at this
      omega
    rw [uniq_of h1.2 h2.2 fun x => ?_]
    have hx := h x
    rw [List.mem_cons, List.mem_cons] at hx
    constructor
    · intro q
      rcases hx.mp (.inr q) with z | z
      · rw [z] at q; exact absurd q (ir h1.1)
      · exact z
    · intro q
      rcases hx.mpr (.inr q) with z | z
      · rw [z] at q; exact absurd q (ir h2.1)
      · exact z
theorem norm_uniq {a b : Po} (ha : Nk a) (hb : Nk b) (h : ∀ k, lin (one k) a = lin (one k) b) : norm a = norm b := by
  have hm : ∀ {l : Po}, Nk l → ∀ k, k ∈ (isS leP (l.map (·.1))).filter (fun k => decide ((getA k l).getD 0 ≠ 0)) ↔ lin (one k) l ≠ 0 := fun {l} hl k => by
    rw [List.mem_filter, sorted_mem, decide_eq_true_iff, getA_lin k hl]
    exact ⟨fun x => x.2, fun x => ⟨Classical.byContradiction fun z => x (lin_none hl z), x⟩⟩
  unfold norm
  have key : (isS leP (a.map (·.1))).filter (fun k => decide ((getA k a).getD 0 ≠ 0)) = (isS leP (b.map (·.1))).filter (fun k => decide ((getA k b).getD 0 ≠ 0)) :=
    uniq_of ((isS_sorted _ ha).filter _) ((isS_sorted _ hb).filter _) fun k => by rw [hm ha, hm hb, h k]
  rw [key]
  refine List.map_congr_left fun k _ => ?_
  rw [getA_lin k ha, getA_lin k hb, h k]
end L3

/-! P7: two polynomials are one -/
namespace L3
theorem lot_eq : ∀ h < 6, ∀ w < 6, norm (addAll [] (lotE h w)) = timesP (oftenP pX h) (oftenP pY w) := by decide +kernel
theorem lot_one : ∀ h < 6, ∀ w < 6, lin (fun k => 2 ^ k.1 * 2 ^ k.2) (lotE h w) = 1 := by decide +kernel
theorem lin_raw (g : T2 → Int) (L : Po) : lin g (norm (addAll [] L)) = lin g L := by
  rw [lin_norm g (addAll_nk nk_nil), lin_addAll g _ nk_nil, lin_nil, Int.zero_add]
theorem lin_term (g : T2 → Int) (w : Nat) (e : T2 × Int) : lin g (termP w e) = e.2 * lin g (timesP (oftenP pX (w - e.1.1)) (oftenP pY (e.1.2 - e.1.1))) := by
  unfold termP
  rw [lin_times, sm_cons, sm_nil, Int.add_zero]
  unfold lin
  rw [← sm_mul]
  refine sm_congr fun f _ => ?_
  simp only [Nat.zero_add]
  rw [Int.mul_assoc]
theorem poly_fold (w : Nat) : ∀ (L : Po) (Y : Po), Nk Y → ∃ X, Nk X ∧ L.foldl (fun l e => plusP l (termP w e)) (norm Y) = norm X ∧ ∀ g, lin g X = lin g Y + sm L fun e => lin g (termP w e)
  | [], Y, h => ⟨Y, h, rfl, fun g => by rw [sm_nil, Int.add_zero]⟩
  | e :: L, Y, h => by
    have hn : Nk (addAll (norm Y) (termP w e)) := addAll_nk (norm_nk h)
    obtain ⟨X, x1, x2, x3⟩ := poly_fold w L _ hn
    refine ⟨X, x1, x2, fun g => ?_⟩
    rw [x3 g, lin_addAll g _ (norm_nk h), lin_norm g h, sm_cons, Int.add_assoc]
theorem lin_by (g : T2 → Int) (n : Nat) (ts : List T2) : lin g (byRaw n ts) = sm (lotsL ts) fun A => lin g (lotE (rkL n ts - rkL n A) (A.length - rkL n A)) := by
  rw [← sm_lots ts (fun A => lin g (lotE (rkL n ts - rkL n A) (A.length - rkL n A)))]
  unfold lin byRaw
  rw [sm_flatMap]
  refine sm_congr fun lot _ => ?_
  rw [lotTs_len, lotTs_all]
theorem eq_ok {n : Nat} {ts : List T2} (hP : Pr n ts) (h5 : ts.length ≤ 5) : polyL n ts = byLots n ts := by
  obtain ⟨X, x1, x2, x3⟩ := poly_fold (rkL n (lotTs ts (allT ts))) (tabP n ts) [] nk_nil
  have x2' : polyL n ts = norm X := x2
  rw [x2']
  unfold byLots
  refine norm_uniq x1 (addAll_nk nk_nil) fun k => ?_
  rw [x3, lin_nil, Int.zero_add, lin_addAll _ _ nk_nil, lin_nil, Int.zero_add, lin_by, lotTs_all, sm_congr (fun e _ => lin_term (one k) _ e)]
  refine (lin_tab (fun x => lin (one k) (timesP (oftenP pX (rkL n ts - x.1)) (oftenP pY (x.2 - x.1)))) n ts).trans ?_
  refine sm_congr fun A hA => ?_
  have h1 := lotsL_rk hP hA
  have h2 := rk_le_len hP
  have h3 := lotsL_len hA
  simp only
  rw [← lot_eq _ (by omega) _ (by omega), lin_raw]
theorem ne_ok {n : Nat} {ts : List T2} (hP : Pr n ts) (h5 : ts.length ≤ 5) : byLots n ts ≠ [] := by
  intro h
  have a : lin (fun k => 2 ^ k.1 * 2 ^ k.2) (byLots n ts) = 0 := by rw [h]; rfl
  unfold byLots at a
  rw [lin_raw, lin_by, sm_congr (g := fun _ => 1) fun A hA => ?_, sm_const] at a
  · have b : (lotsL ts).length = 2 ^ ts.length := by unfold lotsL; rw [List.length_map, lotsRaw_len]
    rw [b] at a
    have := Nat.two_pow_pos ts.length
    omega
  · have h1 := lotsL_rk hP hA
    have h2 := rk_le_len hP
    have h3 := lotsL_len hA
    exact lot_one _ (by omega) _ (by omega)
end L3

/-! P8: partings and dyes -/
namespace L3
theorem tied_congr {ts us : List T2} (h : ∀ p, p ∈ ts ↔ p ∈ us) : tiedAny ts = tiedAny us := by
  funext p own
  unfold tiedAny
  congr 1
  funext o
  exact decide_eq_decide.mpr (h _)
theorem withPl_congr {ts us : List T2} (h : ∀ p, p ∈ ts ↔ p ∈ us) : withPl ts = withPl us := by
  funext p π
  unfold withPl
  have : wStep ts p π = wStep us p π := by
    funext acc q
    unfold wStep
    rw [tied_congr h]
  rw [this]
theorem level_congr {ts us : List T2} (h : ∀ p, p ∈ ts ↔ p ∈ us) : ∀ n, levelP ts n = levelP us n
  | 0 => rfl
  | p + 1 => by
    unfold levelP
    rw [withPl_congr h, level_congr h p]
    by_cases c : srt (p, p) ∈ ts
    · rw [if_pos c, if_pos ((h _).mp c)]
    · rw [if_neg c, if_neg fun z => c ((h _).mpr z)]
theorem mdye_congr {ts us : List T2} (h : ∀ p, p ∈ ts ↔ p ∈ us) (n k : Nat) : mdye n ts k = mdye n us k := by
  unfold mdye cntP
  rw [level_congr h]
theorem sameN_zero {ts : List T2} {d : List Nat} : sameN ts d = 0 ↔ ∀ p ∈ ts, gt d p.1 ≠ gt d p.2 := by
  unfold sameN
  rw [List.length_eq_zero_iff, List.filter_eq_nil_iff]
  exact ⟨fun h p hp => by simpa using h p hp, fun h p hp => by simpa using h p hp⟩
theorem dyeNum_congr {ts us : List T2} (h : ∀ p, p ∈ ts ↔ p ∈ us) (n k : Nat) : dyeNum ts n k = dyeNum us n k := by
  unfold dyeNum
  congr 1
  refine List.map_congr_left fun d _ => ?_
  have : sameN ts d = 0 ↔ sameN us d = 0 := by
    rw [sameN_zero, sameN_zero]
    exact ⟨fun g p hp => g p ((h p).mpr hp), fun g p hp => g p ((h p).mp hp)⟩
  by_cases c : sameN ts d = 0
  · rw [if_pos c, if_pos (this.mp c)]
  · rw [if_neg c, if_neg fun z => c (this.mpr z)]
theorem filter_lot (f : T2 → Bool) (l : List T2) : l.filter f ∈ lotsL l := by
  induction l using snoc_ind with
  | h0 => rw [lotsL_nil]; simp
  | h1 l a ih =>
    rw [List.filter_append, lotsL_snoc, List.mem_append]
    by_cases c : f a = true
    · right
      rw [show [a].filter f = [a] by simp [c]]
      exact List.mem_map_of_mem ih
    · left
      rw [show [a].filter f = [] by simp [c], List.append_nil]
      exact ih
def prs (n : Nat) : List T2 := [(0, 1), (0, 2), (1, 2), (0, 3), (1, 3), (2, 3)].filter fun p => decide (p.2 < n)
theorem dyes_all : ((List.range 5).all fun n => (lotsL (prs n)).all fun A => (List.range 4).all fun k => decide (mdye n A k = dyeNum A n k)) = true := by decide +kernel
theorem prs_mem {n : Nat} (h : n ≤ 4) {p : T2} : p ∈ prs n ↔ p.1 < p.2 ∧ p.2 < n := by
  obtain ⟨a, b⟩ := p
  unfold prs
  rw [List.mem_filter]
  simp
  omega
theorem level_loop {ts : List T2} {a : Nat} (h : (a, a) ∈ ts) : ∀ n, a < n → levelP ts n = []
  | 0, h => by omega
  | p + 1, hn => by
    unfold levelP
    by_cases c : a = p
    · subst c
      rw [if_pos]
      · rfl
      · unfold srt; simpa using h
    · rw [level_loop h p (by omega)]
      split <;> rfl
theorem h2_ok {n k : Nat} {ts : List T2} (hp : PrOk n ts) (h4 : n ≤ 4) (h3 : k ≤ 3) : mdye n ts k = dyeNum ts n k := by
  by_cases c : ∃ a, (a, a) ∈ ts
  · obtain ⟨a, ha⟩ := c
    have han := (hp.pr _ ha).2
    have e1 : mdye n ts k = 0 := by
      unfold mdye cntP
      rw [level_loop ha n han, List.foldl_nil]
      have : ∀ n < 5, ∀ k < 4, ((List.replicate (n + 1) (0 : Int)).zipIdx.map fun q => q.1 * fallI (k : Nat) q.2).sum = 0 := by decide +kernel
      exact this n (by omega) k (by omega)
    rw [e1]
    show 0 = sm (kpAll k n) fun d => if sameN ts d = 0 then (1 : Int) else 0
    rw [sm_congr (g := fun _ => 0) fun d _ => if_neg fun z => sameN_zero.mp z _ ha rfl, sm_zero]
  · have hm : ∀ p, p ∈ ts ↔ p ∈ (prs n).filter fun p => decide (p ∈ ts) := fun p => by
      rw [List.mem_filter, decide_eq_true_iff, prs_mem h4]
      constructor
      · intro h
        have := hp.pr p h
        refine ⟨⟨?_, this.2⟩, h⟩
        rcases Nat.lt_or_ge p.1 p.2 with z | z
        · exact z
        · have e : p.1 = p.2 := by omega
          exact absurd ⟨p.1, by
            have : p = (p.1, p.1) := by rw [show (p.1, p.1) = (p.1, p.2) by rw [← e]]
            rw [← this]; exact h⟩ c
      · exact fun h => h.2
    rw [mdye_congr hm, dyeNum_congr hm]
    have := List.all_eq_true.mp dyes_all n (List.mem_range.mpr (by omega))
    have := List.all_eq_true.mp this _ (filter_lot (fun p => decide (p ∈ ts)) (prs n))
    have := List.all_eq_true.mp this k (List.mem_range.mpr (by omega))
    exact of_decide_eq_true this
theorem math_ok {n : Nat} {ts : List T2} (h : WebOk n ts) (h4 : n ≤ 4) (h5 : ts.length ≤ 5) : MathOk n ts :=
  have hp : PrOk n ts := ⟨h.n1, h.pr⟩
  have hP : Pr n ts := fun p hq => by have := h.pr p hq; omega
  { rk := rkOk_of hP
    mono := mono_of hP
    eq := eq_ok hP h5
    ne := ne_ok hP h5
    h1 := fun k _ _ => h1_ok hp
    h2 := fun k _ k3 => h2_ok hp h4 k3
    h3 := h3_ok hp
    h4 := fun k k1 k3 => h4_ok k1 k3 hp
    h5 := fun k k1 k3 => h5_ok k1 k3 hP }
end L3

theorem PySem.Challenge.cw_ringsandcuts_k11_whole_sums_over_all_dye_holds : PySem.Challenge.rw_ringsandcuts_k11_whole_sums_over_all_dye.Holds := by
  exact L3.K11.holds fun n ts h h4 h5 => L3.math_ok h h4 h5
