import PyProof.Rows.All
import Wide.All
import OpenK.AllK
import Wide.FinOn
import KE.KStateDown
import HandS.Base
import HandS.Call
import HandS.List
import HandS.Comp
import HandS.Iter
import HandS.Dict
import HandS.Text
import HandS.More
import HandS.Words
import HandS.WordsList
import HandS.WordsExc
import HandS.Ends
import HandS.IsInst
import HandS.Zip
import HandS.Walk
import HandS.TupAny
import HandS.TupMul
import HandS.TupLe
import HandS.Style
import HandS.Exc
import HandS.Defaults
import HandS.ExcIs
import HandS.ExcField
import HandS.ExcInit
import HandS.Property
import HandS.HeadHook1
import KE.GoesEnum
import KE.GoesZip
import KE.GoesMore
import PyProof.StrLawsRepr
import HandS.HeadEnd
import KE.KDictDisplayH
import HandS.TryOnly
import PyProof.Rows.ChunkEnd
import KE.KRevSl
import KE.KTupSum
import KE.DatumOrd
import HandS.Star
import HandS.SortInts
import HandS.SetFor
import HandS.Strs
import HandS.Conv
import PyProof.Gen
import PyProof.GenQ
import OpenK.XSeg
import HandS.GenList
import HandS.FStr
import PyProof.CollectIter
import KE.KStar
import KE.KEqNest
import HandS.Set
import PyProof.InstEq
import HandS.HeadHook2
import KE.KSuper
import HandS.ExcOwn
import HandS.HotCalls
import KE.KExcIs
import PyProof.Rows.StrIntSpec
import PyProof.FString3
import PyProof.Rows.StrMul
import PyProof.Rows.StrJoinRep
import PyProof.EqKinds
import PyProof.FactsAll.dict
import PyProof.Meets
import PyProof.Pure
import PyProof.RulesSmallArms
import PyProof.RulesMatch
import HandS.MakeKwOnly
import HandS.HeadHook3
import HandS.Finally
import KE.OsSort
import KE.KTryMore
import HandS.ClsMeth
import HandS.MethStar
import HandS.Head0
import HandS.Head1
import HandS.Head2
import HandS.HeadEnd
import HandS.HeadHook1
import HandS.HeadHook2
import PySem.Challenge.RW_chairwalks_k63_whole_texts_there_and_bac
set_option Elab.async false
set_option linter.all false
set_option maxRecDepth 100000
set_option maxHeartbeats 4000000
namespace DL
open PySem PySem.Spec PyProof.Rows L2
inductive Ty where
  | none | bool | int | str | tuple | list | dict | verr | lerr
  deriving DecidableEq
def Ty.name : Ty → String
  | .none => "NoneType" | .bool => "bool" | .int => "int" | .str => "str" | .tuple => "tuple" | .list => "list" | .dict => "dict" | .verr => "ValueError" | .lerr => "LookupError"
def clsNames : List Str := "ChairError" :: "OtherLength" :: "BadWay" :: "Busy" :: "TooManyEdits" :: "TooManyWalkers" :: "NothingToUndo" :: "BadEdits" :: "TooLarge" :: "BadNumbers" :: "TooMuch" :: "TooFew" :: "BadChairs" :: "BadRow" :: "BadWalkers" :: "BadWants" :: "BadCount" :: "BadWant" :: "BadEdit" :: "Rejected" :: "BadPost" :: "BadLeast" :: "TooLow" :: "BadText" :: "NoStation" :: "NoWalker" :: "NoVersion" :: "Chairs" :: "Walker" :: "Watching" :: "Corridor" :: "Guard" :: "GuardedCorridor" :: "Shell" :: []
def lookNames : List Str := ["NoStation", "NoWalker", "NoVersion"]
def insNames : List Str := ["Chairs", "Walker", "Watching", "Corridor", "Guard", "GuardedCorridor", "Shell"]
def mroT (n : Str) : List Str := if n ∈ insNames then (if n = "GuardedCorridor" then ["GuardedCorridor", "Corridor", "Guard"] else [n]) else if n ∈ lookNames then [n, "LookupError"] else [n, "ChairError", "ValueError"]
def subB (n c : Str) : Bool := decide (c ∈ mroT n)
def fieldsT (n : Str) : List Str := if n = "Chairs" then ["amounts"] else if n = "Walker" then ["way", "done"] else if n = "Watching" then ["corridor"] else if n = "Corridor" then ["states", "answers", "standing", "watching"] else if n = "Guard" then ["place", "bottom"] else
  if n = "GuardedCorridor" then ["states", "answers", "standing", "watching", "place", "bottom"] else if n = "Shell" then ["corridor"] else ["bound", "value", "total", "present", "error", "index", "number"]
def presB (K : PySem.W.Frag) (c : Str) : Bool := match PySem.W.nsIn K mainGlobals c with
  | some (some (.ref _)) => true
  | _ => false
/-- a class that may stand in isinstance: no value of a built-in type is one of it -/
def cclsB (K : PySem.W.Frag) (c : Str) : Bool := decide (c ∈ clsNames) && (presB K c && ([Ty.none, .bool, .int, .str, .tuple, .list, .dict].all fun t => decide (PySem.W.kitOne K (.type t.name) (.ref (He.ga K c)) = some false)))
/-- isinstance of what is of the class n -/
def kitsB (K : PySem.W.Frag) (n : Str) : Bool := (clsNames.all fun c => !presB K c || decide (PySem.W.kitOne K (.ref (He.ga K n)) (.ref (He.ga K c)) = some (subB n c))) &&
  ([Ty.bool, .int, .str, .tuple, .list, .dict, .verr, .lerr].all fun t => decide (PySem.W.kitOne K (.ref (He.ga K n)) (.type t.name) = some (subB n t.name)))
def findB (K : PySem.W.Frag) (n m : Str) (v : Option Value) : Bool := decide (PySem.W.findIn K (.ref (He.ga K n)) m = some v)
def classB (K : PySem.W.Frag) (n : Str) : Bool := findB K n "__class__" (some (.builtin "object.__class__")) && (decide (PySem.W.specialIn K (.builtin "object.__class__") "__get__" = some (some (.builtin "getset_descriptor.__get__"))) &&
  (decide (PySem.W.takesIn K (.builtin "object.__class__") = some true) && decide (PySem.W.mroIn K (He.ga K n) (.type "object") = some true)))
/-- a plain class -/
def cinsB (K : PySem.W.Frag) (n : Str) : Bool := (He.Fa.cls n).ok K && (classB K n && (kitsB K n && (cclsB K n && (decide (PySem.W.subIn K (.ref (He.ga K n)) (.type "NoneType") = some false) && (fieldsT n).all fun f => findB K n f none))))
/-- an exception's class -/
def cexcB (K : PySem.W.Frag) (n : Str) : Bool := xfB K (He.ga K n) && (classB K n && (kitsB K n && ((fieldsT n).all (fun f => findB K n f none) &&
  clsNames.all fun c => !presB K c || (decide (c ∈ insNames) || decide (PySem.W.exmOne K (.ref (He.ga K n)) (.ref (He.ga K c)) = some (subB n c))))))
/-- a value as a tree; ref: an object that may change (in the map), or any other object -/
inductive Kd where
  | ins | exc | cls | fn
  deriving DecidableEq
inductive D where
  | obj (t : Kd) (n : Str) (ks : List Str) (xs : List D)
  | non | bl (b : Bool) | int (i : Int) | str (s : Str)
  | tup (xs : List D) | lst (xs : List D) | dic (ks : List Key) (xs : List D) | ref (a : Addr) | scr (ns : List Int) | ty (t : Ty)
/-- the script's list: read, never written -/
def SqS (K : PySem.W.Frag) (H : Hp) (a : Addr) (vs : List V) : Prop := (∃ o, H a = some (.frz o (.lst vs))) ∨ SqL K (fun _ => none) a vs
theorem SqS.sq {K : PySem.W.Frag} {H : Hp} {a : Addr} {vs : List V} (h : SqS K H a vs) : SqL K H a vs := by
  rcases h with ⟨o, h⟩ | (h | h)
  · exact .inl (.inr ⟨o, h⟩)
  · rcases h with h | ⟨_, h⟩ <;> cases h
  · exact .inr h
theorem SqS.of {K : PySem.W.Frag} {H : Hp} {a : Addr} {vs : List V} (h : SqL K H a vs) (hn : ∀ ws, H a ≠ some (.lst ws)) : SqS K H a vs := by
  rcases h with (h | h) | h
  · exact absurd h (hn _)
  · exact .inl h
  · exact .inr (.inr h)
/-- an object that stays as it is -/
def xoO (oe : Obj) : HO := .frz oe (.ext fun _ => True)
mutual
def Rep (K : PySem.W.Frag) (F : Addr → Prop) (H : Hp) : D → V → Prop
  | .non, v => v = .non
  | .bl b, v => v = .bl b
  | .int i, v => v = .int i
  | .str s, v => v = .str s
  | .tup xs, v => ∃ a vs, v = .ref a ∧ SqT K H a vs ∧ Reps K F H xs vs
  | .lst xs, v => ∃ a vs, v = .ref a ∧ F a ∧ H a = some (.lst vs) ∧ Reps K F H xs vs
  | .dic ks xs, v => ∃ a vs, v = .ref a ∧ F a ∧ H a = some (.dK (ks.zip vs)) ∧ ks.length = xs.length ∧ Reps K F H xs vs
  | .ref a, v => v = .ref a
  | .scr ns, v => ∃ a, v = .ref a ∧ SqS K H a (ns.map V.int)
  | .ty t, v => v = .ty t.name
  | .obj .fn n _ _, v => v = .ref (He.ga K n)
  | .obj .cls n _ _, v => v = .ref (He.ga K n) ∧ cclsB K n = true
  | .obj .ins n ks xs, v => cinsB K n = true ∧ ∃ a dx vs, v = .ref a ∧ F a ∧ H a = some (.ins (He.ga K n) dx (ks.zip vs)) ∧ ks.length = xs.length ∧ Reps K F H xs vs
  | .obj .exc n ks xs, v => cexcB K n = true ∧ ∃ a oe vs, v = .ref a ∧ F a ∧ H a = some (xoO oe) ∧ oe.cls = .ref (He.ga K n) ∧ (∃ fv, oe.data = .fields fv) ∧ ks.length = xs.length ∧ Reps K F H xs vs ∧
      ((oe.dict = none ∧ ks = []) ∨ ∃ dd, oe.dict = some dd ∧ F dd ∧ H dd = some (.xd (ks.zip vs)))
def Reps (K : PySem.W.Frag) (F : Addr → Prop) (H : Hp) : List D → List V → Prop
  | [], vs => vs = []
  | x :: xs, vs => ∃ v r, vs = v :: r ∧ Rep K F H x v ∧ Reps K F H xs r
end
structure Le (K : PySem.W.Frag) (F : Addr → Prop) (H : Hp) (F' : Addr → Prop) (H' : Hp) : Prop where
  tup : ∀ a vs, SqT K H a vs → SqT K H' a vs
  sub : ∀ a, F a → F' a
  frz : ∀ a, F a → H' a = H a
  scr : ∀ a vs, SqS K H a vs → SqS K H' a vs
section
variable {K : PySem.W.Frag} {F F' F1 F2 : Addr → Prop} {H H' H1 H2 : Hp}
theorem Le.refl : Le K F H F H := ⟨fun _ _ h => h, fun _ h => h, fun _ _ => rfl, fun _ _ h => h⟩
theorem Le.trans (a : Le K F H F1 H1) (b : Le K F1 H1 F2 H2) : Le K F H F2 H2 :=
  ⟨fun x vs h => b.tup x vs (a.tup x vs h), fun x h => b.sub x (a.sub x h), fun x h => (b.frz x (a.sub x h)).trans (a.frz x h), fun x vs h => b.scr x vs (a.scr x vs h)⟩
mutual
theorem Rep.mono (l : Le K F H F' H') : ∀ {d : D} {v : V}, Rep K F H d v → Rep K F' H' d v
  | .non, _, h => h
  | .bl _, _, h => h
  | .int _, _, h => h
  | .str _, _, h => h
  | .tup xs, v, h => by
    simp only [Rep] at h ⊢
    obtain ⟨a, vs, e, s, r⟩ := h
    exact ⟨a, vs, e, l.tup _ _ s, Reps.mono l r⟩
  | .lst xs, v, h => by
    simp only [Rep] at h ⊢
    obtain ⟨a, vs, e, f, s, r⟩ := h
    exact ⟨a, vs, e, l.sub _ f, (l.frz a f).trans s, Reps.mono l r⟩
  | .dic ks xs, v, h => by
    simp only [Rep] at h ⊢
    obtain ⟨a, vs, e, f, s, n, r⟩ := h
    exact ⟨a, vs, e, l.sub _ f, (l.frz a f).trans s, n, Reps.mono l r⟩
  | .ref _, _, h => h
  | .scr ns, v, h => by
    simp only [Rep] at h ⊢
    obtain ⟨a, e, s⟩ := h
    exact ⟨a, e, l.scr _ _ s⟩
  | .ty _, _, h => h
  | .obj .fn _ _ _, _, h => h
  | .obj .cls _ _ _, _, h => h
  | .obj .ins n ks xs, v, h => by
    simp only [Rep] at h ⊢
    obtain ⟨c, a, dx, vs, e, f, s, n, r⟩ := h
    exact ⟨c, a, dx, vs, e, l.sub _ f, (l.frz a f).trans s, n, Reps.mono l r⟩
  | .obj .exc n ks xs, v, h => by
    simp only [Rep] at h ⊢
    obtain ⟨c, a, oe, vs, e, f, s, hc, hd, n, r, q⟩ := h
    refine ⟨c, a, oe, vs, e, l.sub _ f, (l.frz a f).trans s, hc, hd, n, Reps.mono l r, ?_⟩
    rcases q with q | ⟨dd, q1, q2, q3⟩
    · exact .inl q
    · exact .inr ⟨dd, q1, l.sub _ q2, (l.frz dd q2).trans q3⟩
theorem Reps.mono (l : Le K F H F' H') : ∀ {ds : List D} {vs : List V}, Reps K F H ds vs → Reps K F' H' ds vs
  | [], _, h => h
  | x :: xs, vs, h => by
    simp only [Reps] at h ⊢
    obtain ⟨v, r, e, h1, h2⟩ := h
    exact ⟨v, r, e, Rep.mono l h1, Reps.mono l h2⟩
end
theorem Reps.nil : Reps K F H [] [] := by simp only [Reps]
theorem Reps.cons {d : D} {v : V} {ds : List D} {vs : List V} (a : Rep K F H d v) (b : Reps K F H ds vs) : Reps K F H (d :: ds) (v :: vs) := by
  simp only [Reps]
  exact ⟨v, vs, rfl, a, b⟩
theorem Reps.length : ∀ {ds : List D} {vs : List V}, Reps K F H ds vs → ds.length = vs.length
  | [], _, h => by simp only [Reps] at h; subst h; rfl
  | x :: xs, vs, h => by
    simp only [Reps] at h
    obtain ⟨v, r, e, h1, h2⟩ := h
    subst e
    simp [Reps.length h2]
theorem Reps.get : ∀ {ds : List D} {vs : List V}, Reps K F H ds vs → ∀ {i : Nat} {d : D}, ds[i]? = some d → ∃ v, vs[i]? = some v ∧ Rep K F H d v
  | [], _, h, i, d, e => by simp at e
  | x :: xs, vs, h, i, d, e => by
    simp only [Reps] at h
    obtain ⟨v, r, e1, h1, h2⟩ := h
    subst e1
    cases i with
    | zero => simp at e; subst e; exact ⟨v, rfl, h1⟩
    | succ i => exact Reps.get h2 (by simpa using e)
theorem Reps.append : ∀ {ds es : List D} {vs ws : List V}, Reps K F H ds vs → Reps K F H es ws → Reps K F H (ds ++ es) (vs ++ ws)
  | [], _, _, _, h, h' => by simp only [Reps] at h; subst h; exact h'
  | x :: xs, es, vs, ws, h, h' => by
    simp only [Reps] at h
    obtain ⟨v, r, e1, h1, h2⟩ := h
    subst e1
    exact Reps.cons h1 (Reps.append h2 h')
theorem Reps.take : ∀ {ds : List D} {vs : List V} (n : Nat), Reps K F H ds vs → Reps K F H (ds.take n) (vs.take n)
  | [], _, n, h => by simp only [Reps] at h; subst h; simp [Reps.nil]
  | x :: xs, vs, n, h => by
    simp only [Reps] at h
    obtain ⟨v, r, e1, h1, h2⟩ := h
    subst e1
    cases n with
    | zero => exact Reps.nil
    | succ n => exact Reps.cons h1 (Reps.take n h2)
theorem Reps.drop : ∀ {ds : List D} {vs : List V} (n : Nat), Reps K F H ds vs → Reps K F H (ds.drop n) (vs.drop n)
  | [], _, n, h => by simp only [Reps] at h; subst h; simp [Reps.nil]
  | x :: xs, vs, n, h => by
    cases n with
    | zero => exact h
    | succ n =>
      simp only [Reps] at h
      obtain ⟨v, r, e1, h1, h2⟩ := h
      subst e1
      exact Reps.drop n h2
theorem Reps.reverse {ds : List D} {vs : List V} (h : Reps K F H ds vs) : Reps K F H ds.reverse vs.reverse := by
  induction ds generalizing vs with
  | nil => simp only [Reps] at h; subst h; exact Reps.nil
  | cons x xs ih =>
    simp only [Reps] at h
    obtain ⟨v, r, e1, h1, h2⟩ := h
    subst e1
    simp only [List.reverse_cons]
    exact (ih h2).append (Reps.cons h1 Reps.nil)
theorem Reps.set {d : D} {v : V} (hd : Rep K F H d v) : ∀ {ds : List D} {vs : List V} (i : Nat), Reps K F H ds vs → Reps K F H (ds.set i d) (vs.set i v)
  | [], _, i, h => by simp only [Reps] at h; subst h; simp [Reps.nil]
  | x :: xs, vs, i, h => by
    simp only [Reps] at h
    obtain ⟨w, r, e1, h1, h2⟩ := h
    subst e1
    cases i with
    | zero => exact Reps.cons hd h2
    | succ i => exact Reps.cons h1 (Reps.set hd i h2)
theorem Reps.rep {ds : List D} {vs : List V} (h : Reps K F H ds vs) : ∀ k : Nat, Reps K F H (List.replicate k ds).flatten (List.replicate k vs).flatten
  | 0 => by simp [Reps.nil]
  | k + 1 => by
    simp only [List.replicate_succ, List.flatten_cons]
    exact h.append (Reps.rep h k)
theorem Reps.ints : ∀ ns : List Int, Reps K F H (ns.map D.int) (ns.map V.int)
  | [] => Reps.nil
  | n :: ns => Reps.cons rfl (Reps.ints ns)
theorem reps_ints : ∀ {ns : List Int} {vs : List V}, Reps K F H (ns.map D.int) vs → vs = ns.map V.int
  | [], vs, h => by simpa [Reps] using h
  | n :: ns, vs, h => by
    simp only [List.map_cons, Reps, Rep] at h
    obtain ⟨v, r, e, rfl, h2⟩ := h
    rw [e, reps_ints h2]
    rfl
end
inductive MO where
  | lst (ds : List D)
  | ins (n : Str) (fs : List (Str × D))
  | deck (c : Addr)
  | cells
  /-- a dict: its keys are tuples of ints, its values all True; its object -/
  | dT (ks : List (List Int)) (o : Obj)
structure MS where
  map : Addr → Option MO
  bud : Nat
def MS.put (M : MS) (a : Addr) (o : MO) : MS := { M with map := fun b => if b = a then some o else M.map b }
theorem MS.put_same {M : MS} {a : Addr} {o : MO} : (M.put a o).map a = some o := by simp [MS.put]
theorem MS.put_ne {M : MS} {a b : Addr} {o : MO} (h : b ≠ a) : (M.put a o).map b = M.map b := by simp [MS.put, h]
/-- one object, known -/
def knownO (a : Addr) (o : Obj) : HO := .ext fun h => h.get? a = some o
def hashT (ks : List Int) : Int := reduceHash (Builtin.Tuple.tupleHashOf (ks.map hashInt))
def entT (x : List Int × Addr) : DictEntry := ⟨hashT x.1, .ref x.2, .bool true⟩
def ORep (K : PySem.W.Frag) (F : Addr → Prop) (H : Hp) (M : MS) (a : Addr) : MO → Prop
  | .lst ds => ∃ vs, H a = some (.lst vs) ∧ Reps K F H ds vs
  | .ins n fs => cinsB K n = true ∧ ∃ dx fs', H a = some (.ins (He.ga K n) dx fs') ∧ fs.map (·.1) = fs'.map (·.1) ∧ Reps K F H (fs.map (·.2)) (fs'.map (·.2))
  | .deck c => M.map c = some .cells ∧ ∃ (cells : List Int) (n : Int), H a = some (.lst [.ref c, .int n]) ∧ H c = some (.lst (cells.map V.int)) ∧ (∀ x ∈ cells, 0 ≤ x) ∧ cells.length ≤ 63 ∧ 0 ≤ n ∧ n + M.bud ≤ 2 ^ 40
  | .cells => ∃ vs, H a = some (.lst vs)
  | .dT ks o => (a == sysModules) = false ∧ H a = some (knownO a o) ∧ o.ExactDict ∧ ks.Nodup ∧ ∃ (es : Array DictEntry) (ep : Nat) (xs : List (List Int × Addr)), o.data = .dict es ep ∧ es.toList = xs.map entT ∧ xs.map (·.1) = ks ∧ ∀ x ∈ xs, SqT K H x.2 (x.1.map V.int)
structure AbsM (K : PySem.W.Frag) (F : Addr → Prop) (H : Hp) (M : MS) : Prop where
  fh : ∀ a, F a → H a ≠ none
  mp : ∀ a o, M.map a = some o → ¬ F a ∧ ORep K F H M a o
abbrev DEnv := List (Option D)
structure RepEnv (K : PySem.W.Frag) (F : Addr → Prop) (H : Hp) (σ : L2.St) (ρ : DEnv) : Prop where
  len : ρ.length = σ.length
  get : ∀ (i : Nat) (d : D), ρ[i]? = some (some d) → ∃ v, σ[i]? = some (some v) ∧ Rep K F H d v
section
variable {K : PySem.W.Frag} {F F' F1 F2 : Addr → Prop} {H H' H1 H2 : Hp} {M M' : MS} {σ : L2.St} {ρ : DEnv} {a p : Addr}
theorem ORep.there {o : MO} (h : ORep K F H M a o) : H a ≠ none := by
  cases o with
  | lst ds => obtain ⟨vs, e, _⟩ := h; rw [e]; simp
  | ins C fs => obtain ⟨_, _, _, e, _⟩ := h; rw [e]; simp
  | deck c => obtain ⟨_, _, _, e, _⟩ := h; rw [e]; simp
  | cells => obtain ⟨_, e⟩ := h; rw [e]; simp
  | dT ks o => obtain ⟨_, e, _⟩ := h; rw [e]; simp
theorem AbsM.fresh (x : AbsM K F H M) (h : H p = none) : ¬ F p ∧ M.map p = none := by
  refine ⟨fun f => x.fh p f h, ?_⟩
  cases e : M.map p with
  | none => rfl
  | some o => exact absurd h (x.mp p o e).2.there
theorem Le.upd {o : HO} (hF : ¬ F p) (ht : ∀ vs, ¬ Rd H p (.tup vs)) (hs : ∀ ob u, H p ≠ some (.frz ob u)) : Le K F H F (upd H p o) := by
  refine ⟨fun b vs h => ?_, fun _ h => h, fun b f => upd_ne (fun e => hF (e ▸ f)), fun b vs h => ?_⟩
  · rcases h with h | h
    · refine .inl ?_
      have hb : b ≠ p := fun e => ht vs (e ▸ h)
      unfold Rd at *
      rw [upd_ne hb]
      exact h
    · exact .inr h
  · rcases h with ⟨ob, h⟩ | h
    · refine .inl ⟨ob, ?_⟩
      rw [upd_ne (fun e => hs _ _ (e ▸ h))]
      exact h
    · exact .inr h
theorem Le.grow {F' : Addr → Prop} (l : Le K F H F H') (h : ∀ a, F a → F' a) : Le K F H F' H' := ⟨l.tup, h, l.frz, l.scr⟩
theorem nord_none {o : HO} (h : H p = none) : ¬ Rd H p o := by
  rintro (e | ⟨_, e⟩) <;> rw [h] at e <;> cases e
theorem nofrz_none (h : H p = none) : ∀ ob u, H p ≠ some (.frz ob u) := fun _ _ e => by rw [h] at e; cases e
theorem nofrz_lst {vs : List V} (h : H p = some (.lst vs)) : ∀ ob u, H p ≠ some (.frz ob u) := fun _ _ e => by rw [h] at e; cases e
theorem nord_lst {vs ws : List V} (h : H p = some (.lst vs)) : ¬ Rd H p (.tup ws) := by
  rintro (e | ⟨_, e⟩) <;> rw [h] at e <;> cases e
/-- an entry where nothing of its own changed -/
theorem ORep.keep {o : MO} (h : ORep K F H M a o) (l : Le K F H F' H') (ha : H' a = H a) (hc : ∀ c, M.map c = some .cells → H' c = H c ∧ M'.map c = some .cells) (hb : M'.bud ≤ M.bud) : ORep K F' H' M' a o := by
  cases o with
  | lst ds => obtain ⟨vs, e, r⟩ := h; exact ⟨vs, ha.trans e, r.mono l⟩
  | ins C fs => obtain ⟨c, dx, fs', e, k, r⟩ := h; exact ⟨c, dx, fs', ha.trans e, k, r.mono l⟩
  | deck c =>
    obtain ⟨m, cells, n, e, ec, h1, h2, h3, h4⟩ := h
    refine ⟨(hc c m).2, cells, n, ha.trans e, (hc c m).1.trans ec, h1, h2, h3, ?_⟩
    omega
  | cells => obtain ⟨vs, e⟩ := h; exact ⟨vs, ha.trans e⟩
  | dT ks o =>
    obtain ⟨z, e, x, n, es, ep, xs, h1, h2, h3, h4⟩ := h
    exact ⟨z, ha.trans e, x, n, es, ep, xs, h1, h2, h3, fun y hy => l.tup _ _ (h4 y hy)⟩
/-- a new object, of no account -/
theorem AbsM.laid {o : HO} (x : AbsM K F H M) (h : H p = none) : AbsM K F (L2.upd H p o) M := by
  have l : Le K F H F (L2.upd H p o) := Le.upd (x.fresh h).1 (fun vs => nord_none h) (nofrz_none h)
  have keep : ∀ b, H b ≠ none → L2.upd H p o b = H b := fun b hb => upd_ne fun e => hb (e ▸ h)
  refine ⟨fun a f e => ?_, fun a o' e => ?_⟩
  · rw [keep a (x.fh a f)] at e; exact x.fh a f e
  · obtain ⟨nf, r⟩ := x.mp a o' e
    exact ⟨nf, r.keep l (keep a r.there) (fun c hc => ⟨keep c (x.mp c _ hc).2.there, hc⟩) (Nat.le_refl _)⟩
/-- .. that nobody will change -/
theorem AbsM.frozen {o : HO} (x : AbsM K F H M) (h : H p = none) : AbsM K (fun b => F b ∨ b = p) (L2.upd H p o) M ∧ Le K F H (fun b => F b ∨ b = p) (L2.upd H p o) := by
  have l : Le K F H F (L2.upd H p o) := Le.upd (x.fresh h).1 (fun vs => nord_none h) (nofrz_none h)
  have l2 : Le K F H (fun b => F b ∨ b = p) (L2.upd H p o) := l.grow fun _ f => .inl f
  have y : AbsM K F (L2.upd H p o) M := x.laid h
  have l3 : Le K F (L2.upd H p o) (fun b => F b ∨ b = p) (L2.upd H p o) := Le.refl.grow fun _ f => .inl f
  refine ⟨⟨fun a f e => ?_, fun a o' e => ?_⟩, l2⟩
  · rcases f with f | f
    · exact y.fh a f e
    · subst f; rw [upd_same] at e; cases e
  · obtain ⟨nf, r⟩ := y.mp a o' e
    refine ⟨fun f => ?_, r.keep l3 rfl (fun c hc => ⟨rfl, hc⟩) (Nat.le_refl _)⟩
    rcases f with f | f
    · exact nf f
    · subst f; rw [(x.fresh h).2] at e; cases e
/-- .. that may change -/
theorem AbsM.newM {vs : List V} {ds : List D} (x : AbsM K F H M) (h : H p = none) (r : Reps K F H ds vs) : AbsM K F (L2.upd H p (.lst vs)) (M.put p (.lst ds)) := by
  have l : Le K F H F (L2.upd H p (.lst vs)) := Le.upd (x.fresh h).1 (fun vs => nord_none h) (nofrz_none h)
  have y : AbsM K F (L2.upd H p (.lst vs)) M := x.laid h
  refine ⟨y.fh, fun a o' e => ?_⟩
  by_cases ha : a = p
  · subst ha
    rw [MS.put_same] at e; cases e
    exact ⟨(x.fresh h).1, vs, upd_same, r.mono l⟩
  · rw [MS.put_ne ha] at e
    obtain ⟨nf, r⟩ := y.mp a o' e
    refine ⟨nf, r.keep Le.refl rfl (fun c hc => ⟨rfl, ?_⟩) (Nat.le_refl _)⟩
    rw [MS.put_ne (fun z => by subst z; rw [(x.fresh h).2] at hc; cases hc)]
    exact hc
/-- a list written -/
theorem AbsM.wrote {vs : List V} {ds es : List D} (x : AbsM K F H M) (h : M.map p = some (.lst es)) (r : Reps K F H ds vs) :
    AbsM K F (L2.upd H p (.lst vs)) (M.put p (.lst ds)) ∧ Le K F H F (L2.upd H p (.lst vs)) := by
  obtain ⟨nf, ws, e, r0⟩ := x.mp p _ h
  have l : Le K F H F (L2.upd H p (.lst vs)) := Le.upd nf (fun vs => nord_lst e) (nofrz_lst e)
  refine ⟨⟨fun a f z => ?_, fun a o' e' => ?_⟩, l⟩
  · by_cases ha : a = p
    · subst ha; exact nf f
    · rw [upd_ne ha] at z; exact x.fh a f z
  · by_cases ha : a = p
    · subst ha
      rw [MS.put_same] at e'; cases e'
      exact ⟨nf, vs, upd_same, r.mono l⟩
    · rw [MS.put_ne ha] at e'
      obtain ⟨nf', r'⟩ := x.mp a o' e'
      refine ⟨nf', r'.keep l (upd_ne ha) (fun c hc => ?_) (Nat.le_refl _)⟩
      have hcp : c ≠ p := fun z => by subst z; rw [h] at hc; cases hc
      exact ⟨upd_ne hcp, by rw [MS.put_ne hcp]; exact hc⟩
theorem RepEnv.mono (e : RepEnv K F H σ ρ) (l : Le K F H F' H') : RepEnv K F' H' σ ρ :=
  ⟨e.len, fun i d h => let ⟨v, a, b⟩ := e.get i d h; ⟨v, a, b.mono l⟩⟩
theorem RepEnv.set {d : D} {v : V} (e : RepEnv K F H σ ρ) (r : Rep K F H d v) (i : Nat) : RepEnv K F H (σ.set i (some v)) (ρ.set i (some d)) := by
  refine ⟨by simp [e.len], fun j d' h => ?_⟩
  by_cases hj : i = j
  · subst hj
    have hi : i < ρ.length := by
      by_cases hi : i < ρ.length
      · exact hi
      · rw [List.getElem?_eq_none (by simpa using hi)] at h; cases h
    rw [List.getElem?_set_self hi] at h
    cases h
    exact ⟨v, by rw [List.getElem?_set_self (by rw [← e.len]; exact hi)], r⟩
  · rw [List.getElem?_set_ne hj] at h
    obtain ⟨w, a, b⟩ := e.get j d' h
    exact ⟨w, by rw [List.getElem?_set_ne hj]; exact a, b⟩
end
/-- from F, H, M to F', H', M': trees stand as they stood, what is hidden stays hidden and as it is -/
structure Lm (K : PySem.W.Frag) (F : Addr → Prop) (H : Hp) (M : MS) (F' : Addr → Prop) (H' : Hp) (M' : MS) : Prop where
  le : Le K F H F' H'
  hid : ∀ a, H a ≠ none → ¬ F a → M.map a = none → ¬ F' a ∧ M'.map a = none ∧ H' a = H a
section
variable {K : PySem.W.Frag} {F F' F1 F2 : Addr → Prop} {H H' H1 H2 : Hp} {M M' M1 M2 : MS} {p : Addr}
theorem Lm.refl : Lm K F H M F H M := ⟨Le.refl, fun _ _ f m => ⟨f, m, rfl⟩⟩
theorem Lm.trans (a : Lm K F H M F1 H1 M1) (b : Lm K F1 H1 M1 F2 H2 M2) : Lm K F H M F2 H2 M2 :=
  ⟨a.le.trans b.le, fun x h f m => by
    obtain ⟨f1, m1, e1⟩ := a.hid x h f m
    obtain ⟨f2, m2, e2⟩ := b.hid x (by rw [e1]; exact h) f1 m1
    exact ⟨f2, m2, e2.trans e1⟩⟩
/-- a new object, of no account | frozen | in the map -/
theorem Lm.laid {o : HO} (x : AbsM K F H M) (h : H p = none) : Lm K F H M F (upd H p o) M :=
  ⟨Le.upd (x.fresh h).1 (fun _ => nord_none h) (nofrz_none h), fun a ha f m => ⟨f, m, upd_ne fun e => ha (e ▸ h)⟩⟩
theorem Lm.frozen {o : HO} (x : AbsM K F H M) (h : H p = none) : Lm K F H M (fun b => F b ∨ b = p) (upd H p o) M :=
  ⟨(x.frozen h).2, fun a ha f m => ⟨fun z => z.elim f fun e => ha (e ▸ h), m, upd_ne fun e => ha (e ▸ h)⟩⟩
theorem Lm.newM {o : HO} {mo : MO} (x : AbsM K F H M) (h : H p = none) : Lm K F H M F (upd H p o) (M.put p mo) :=
  ⟨Le.upd (x.fresh h).1 (fun _ => nord_none h) (nofrz_none h), fun a ha f m => by
    have hp : a ≠ p := fun e => ha (e ▸ h)
    exact ⟨f, by rw [MS.put_ne hp]; exact m, upd_ne hp⟩⟩
theorem Lm.wrote {vs : List V} {ds es : List D} (x : AbsM K F H M) (h : M.map p = some (.lst es)) (r : Reps K F H ds vs) : Lm K F H M F (upd H p (.lst vs)) (M.put p (.lst ds)) :=
  ⟨(x.wrote h r).2, fun a ha f m => by
    have hp : a ≠ p := fun e => by subst e; rw [h] at m; cases m
    exact ⟨f, by rw [MS.put_ne hp]; exact m, upd_ne hp⟩⟩
end
/-- where a walk began: what stays true of all that follows -/
structure Og (K : PySem.W.Frag) where
  z : (Addr → Prop) → Hp → MS → Prop
  cl : ∀ {F H M F' H' M'}, z F H M → Lm K F H M F' H' M' → z F' H' M'
def Og.top {K : PySem.W.Frag} : Og K := ⟨fun _ _ _ => True, fun _ _ => trivial⟩
def Og.at (K : PySem.W.Frag) (F : Addr → Prop) (H : Hp) (M : MS) : Og K := ⟨fun F' H' M' => Lm K F H M F' H' M', fun a b => a.trans b⟩
structure Abs (K : PySem.W.Frag) (O : Og K) (F : Addr → Prop) (H : Hp) (M : MS) (σ : L2.St) (ρ : DEnv) : Prop where
  am : AbsM K F H M
  env : RepEnv K F H σ ρ
  og : O.z F H M
section
variable {K : PySem.W.Frag} {O : Og K} {F F' : Addr → Prop} {H H' : Hp} {M M' : MS} {σ : L2.St} {ρ : DEnv}
theorem Abs.go (A : Abs K O F H M σ ρ) (l : Lm K F H M F' H' M') (a : AbsM K F' H' M') : Abs K O F' H' M' σ ρ := ⟨a, A.env.mono l.le, O.cl A.og l⟩
theorem Abs.set {d : D} {v : V} (A : Abs K O F H M σ ρ) (r : Rep K F H d v) (i : Nat) : Abs K O F H M (σ.set i (some v)) (ρ.set i (some d)) := ⟨A.am, A.env.set r i, A.og⟩
theorem Abs.put {σ' : L2.St} {ρ' : DEnv} (A : Abs K O F H M σ ρ) (e : RepEnv K F H σ' ρ') : Abs K O F H M σ' ρ' := ⟨A.am, e, A.og⟩
end
end DL
namespace DL
open PySem PySem.Spec PyProof.Rows L2
structure FnG (P : Program) (w : World) (K : PySem.W.Frag) (mg : Str → Option Value) (base : Heap) (CX : CXT) (k : Nat) (f : Addr) (fd : FuncData) (ps : List Str) (sp : Sp) : Prop where
  len : ∀ vs H Q E, sp vs H Q E → vs.length = ps.length
  run : ∀ (A : Around) (outer : List Env) (s : Shared) (H : Hp) (args : Args) (us : List Value) (vs : List V) (Q : VK) (E : XK), Room k A → A.guards = some [] → Env0 P w K mg base A outer s H →
    BindsTo s fd args (ps.zip us) → Vals vs us → sp vs H Q E → codeAny (model P w) A (.call (.ref f) args) (CR CX outer P w H s Q E) s
section
variable {P : Program} {w : World} {K : PySem.W.Frag} {mg : Str → Option Value} {base : Heap} {CX : CXT} {j k : Nat} {f : Addr} {fd : FuncData} {ps : List Str} {sp sp' : Sp}
theorem FnG.mono (F : FnG P w K mg base CX j f fd ps sp) (h : j ≤ k) : FnG P w K mg base CX k f fd ps sp :=
  ⟨F.len, fun A outer s H args us vs Q E hr hg => F.run A outer s H args us vs Q E (hr.mono h) hg⟩
theorem FnG.imp (F : FnG P w K mg base CX k f fd ps sp) (h : ∀ vs H Q E, sp' vs H Q E → sp vs H Q E) : FnG P w K mg base CX k f fd ps sp' :=
  ⟨fun vs H Q E q => F.len vs H Q E (h _ _ _ _ q), fun A outer s H args us vs Q E hr hg e0 hb hv q => F.run A outer s H args us vs Q E hr hg e0 hb hv (h _ _ _ _ q)⟩
theorem FnG.of (F : FnOk P w K mg base CX k f fd ps sp) : FnG P w K mg base CX k f fd ps sp :=
  ⟨F.len, fun A outer s H args us vs Q E hr _ => F.run A outer s H args us vs Q E hr⟩
/-- a def of the text, by its body -/
theorem fnG_of {name qual : Str} {params : Arguments} {body : List Stmt} {scope : Scope} {dV kV doc pm cdv ct oc : Value} {an od : Option Addr} {osl : Array (Option Value)} {N : List Str}
    (lk : K.lookup f = some ⟨oc, od, .func (PySem.W.fnOf name qual params body scope dV kV doc pm an cdv ct), osl⟩) (hcd : PySem.W.codeIn K cdv qual = true) (S : FnScope N ps scope)
    (len : ∀ vs H Q E, sp vs H Q E → vs.length = ps.length)
    (hbody : ∀ (A : Around) (outer : List Env) (s : Shared) (H : Hp) (vs : List V) (Q : VK) (E : XK), Room k (A.deeper (envOfC qual scope s.heap.objs.size f cdv)) → (A.deeper (envOfC qual scope s.heap.objs.size f cdv)).guards = some [] → sp vs H Q E →
      ∃ t, PSs (cxOf CX P w K mg base N qual scope f cdv A outer s H E) body t ∧ t { nx := fun _ H' => Q .non H', rt := Q } (start N vs) H) :
    FnG P w K mg base CX (k + 1) f (PySem.W.fnOf name qual params body scope dV kV doc pm an cdv ct) ps sp := by
  refine ⟨len, fun A outer s H args us vs Q E hr hgd e0 hb rv hsp => ?_⟩
  have hlen := len _ _ _ _ hsp
  have inK : K.In s.heap := e0.mod.kin.keeps fun b o e => (e0.bs b o e).1
  have noLim : s.heap.NoLimit := e0.mod.nolimit.keeps fun b o e => (e0.bs b o e).1
  have kinds : ∀ y ∈ ps.zip us, scope.names.lookup y.1 = some .local ∨ (scope.names.lookup y.1 = some .cell ∧ ((cellsFrom (s.heap.objs.size + 1) scope.names []).lookup y.1).isSome = true) := by
    rintro ⟨n, v⟩ hy
    rcases S.par n (List.of_mem_zip hy).1 with h | h
    · exact .inl h
    · exact .inr ⟨h, PySem.W.cellsFrom_some _ _ _ (.inl h)⟩
  refine codeAny_call_function hr.depth (inK _ _ lk) rfl S.co S.gen rfl
    (PySem.W.codeRec_of inK hcd) (hb _ _ _ _ ?_)
  refine wpAny_newFunctionEnv_cells S.kind kinds
    fun env henv s1 inC => ?_
  subst henv
  refine ⟨noLim.keeps inC.toInCall.keep, codeAny_func ?_⟩
  obtain ⟨t, ht, hq⟩ := hbody A outer s H vs Q E (hr.deeper _) hgd hsp
  have I0 := inv_start (CX := CX) (E := E) (cd := cdv) S hr.hd e0 hlen rv inC
  refine wpAny_mono (ht.run [] s1 (start N vs) H _ I0 hq) (fun fl s' hs => ?_) fun e s' hs => hs
  cases fl with
  | ret u =>
    obtain ⟨v, σ', H', J, r, q⟩ := hs
    exact ⟨v, H', J.os, J.bare, J.base, J.hok, r, q⟩
  | next =>
    obtain ⟨σ', H', J, q⟩ := hs
    exact ⟨V.non, H', J.os, J.bare, J.base, J.hok, rfl, q⟩
  | brk => obtain ⟨_, _, _, q⟩ := hs; exact q.elim
  | cont => obtain ⟨_, _, _, q⟩ := hs; exact q.elim
theorem FunD.okG {x qual : Str} {params : Arguments} {body : List Stmt} {scope : Scope} {dvs : List V} {kws : List (Str × V)} {N : List Str} (F : FunD K x qual params body scope dvs kws f fd) (S : FnScope N ps scope)
    (len : ∀ vs H Q E, sp vs H Q E → vs.length = ps.length)
    (hbody : ∀ (cdv : Value) (A : Around) (outer : List Env) (s : Shared) (H : Hp) (vs : List V) (Q : VK) (E : XK), Room k (A.deeper (envOfC qual scope s.heap.objs.size f cdv)) → (A.deeper (envOfC qual scope s.heap.objs.size f cdv)).guards = some [] → sp vs H Q E →
      ∃ t, PSs (cxOf CX P w K mg base N qual scope f cdv A outer s H E) body t ∧ t { nx := fun _ H' => Q .non H', rt := Q } (start N vs) H) : FnG P w K mg base CX (k + 1) f fd ps sp := by
  obtain ⟨oc, od, dV, kV, doc, pm, an, cdv, ct, osl, e, lk, hcd, _, _⟩ := F.ex
  subst e
  exact fnG_of lk hcd S len fun A outer s H vs Q E hr hg hsp => hbody cdv A outer s H vs Q E hr hg hsp
end
section
variable {X : Cx} {CX : CXT} {k : Nat} {f C : Addr} {fd : FuncData} {ps : List Str} {sp : Sp} {dvs : List V} {ds : List Value} {E : XK} {x m : Str} {p pos apos : Pos} {e o : Expr} {es : List Expr} {ta : TE} {t : TA}
variable {O : Og X.K}
theorem runG {pins : List (Addr × Obj)} {σ : L2.St} {H : Hp} {s : Shared} {Q : VK} {us : List Value} {vs : List V} (F : FnG X.prog X.w X.K X.mg X.base CX k f fd ps sp) (hr : Room k X.A) (hg : X.A.guards = some []) (hb : Binds X.K fd ps ds) (hd : Vals dvs ds) (hx : Passes CX X E)
    (I : Inv X pins σ H s) (r : Vals vs us) (h : sp (vs ++ dvs) H Q E) : wpAny (model X.prog X.w) X.A (call (.ref f) us) (EP X pins σ Q) X.xe s := by
  have rr : Vals (vs ++ dvs) (us ++ ds) := r.append hd
  have hlen : (us ++ ds).length = ps.length := by
    rw [← rr.length]
    exact F.len _ _ _ _ h
  refine wpAny_call (codeAny_mono (F.run X.A X.stack s H ⟨us, []⟩ (us ++ ds) (vs ++ dvs) Q E hr hg I.env0 (hb s us I.kIn hlen) rr h)
    fun res s' hq => ?_)
  cases res with
  | error e => exact hx pins σ H s e s' I hq
  | ok fl =>
    cases fl with
    | ret u => exact I.after hq
    | next => exact hq.elim
    | brk => exact hq.elim
    | cont => exact hq.elim
theorem pe_callG (F : FnG X.prog X.w X.K X.mg X.base CX k f fd ps sp) (hr : Room k X.A) (hgd : X.A.guards = some []) (hg : Gl X x) (hm : X.mg x = some (.ref f)) (hk : PySem.W.keepIn X.K (.ref f) = true) (hb : Binds X.K fd ps ds) (hd : Vals dvs ds) (hx : Passes CX X E)
    (ha : PA X (e :: es) t) (hdb : (x == ("__debug__" : Str)) = false) (he : starEach (e :: es) X.env = (false, eval e X.env) :: starEach es X.env)
    (hpl : (backTo pos (starEach es X.env)).any (·.1) = false) : PE X (.Call (.Name x p) (e :: es) [] pos) (tCall sp dvs E t) := by
  refine ⟨fun pins s σ H Q I h => ?_⟩
  refine wpAny_Call_Name_kw (ld_glob I hg hm ?_ hdb)
  refine PySem.W.callWith_K (h₀ := X.base) I.ok.mod.kin hk
    (thn (ha.run pos pins s σ H _ I h) fun us s1 ⟨vs, H1, I1, r, q⟩ => ⟨I1.kIn, ?_⟩) he hpl
  exact runG F hr hgd hb hd hx I1 r q
end
abbrev DQ := D → MS → Prop
abbrev DE := DEnv → MS → DQ → Prop
abbrev DT := DEnv → MS → (Bool → MS → Prop) → Prop
abbrev DAs := DEnv → MS → (List D → MS → Prop) → Prop
structure DEnds where
  nx : DEnv → MS → Prop
  rt : DQ
  bk : DEnv → MS → Prop := fun _ _ => False
  ct : DEnv → MS → Prop := fun _ _ => False
abbrev DS := DEnds → DEnv → MS → Prop
def loQ (K : PySem.W.Frag) (F : Addr → Prop) (H : Hp) (M : MS) (Φ : DQ) : VK := fun v H' => ∃ F' M' d, Lm K F H M F' H' M' ∧ AbsM K F' H' M' ∧ Rep K F' H' d v ∧ Φ d M'
def lo (K : PySem.W.Frag) (O : Og K) (t : DE) : TE := fun σ H Q => ∃ F M ρ Φ, Abs K O F H M σ ρ ∧ t ρ M Φ ∧ ∀ v H', loQ K F H M Φ v H' → Q v H'
def loT (K : PySem.W.Frag) (O : Og K) (t : DT) : TT := fun σ H Q => ∃ F M ρ Φ, Abs K O F H M σ ρ ∧ t ρ M Φ ∧ ∀ b H' F' M', Lm K F H M F' H' M' → AbsM K F' H' M' → Φ b M' → Q b H'
def loA (K : PySem.W.Frag) (O : Og K) (t : DAs) : TA := fun σ H Q => ∃ F M ρ Φ, Abs K O F H M σ ρ ∧ t ρ M Φ ∧ ∀ vs H' F' M' ds, Lm K F H M F' H' M' → AbsM K F' H' M' → Reps K F' H' ds vs → Φ ds M' → Q vs H'
def loR (K : PySem.W.Frag) (R : D → D → MS → DQ → Prop) : R2 := fun vx vy H Q => ∃ F M x y Φ, AbsM K F H M ∧ Rep K F H x vx ∧ Rep K F H y vy ∧ R x y M Φ ∧ ∀ v H', loQ K F H M Φ v H' → Q v H'
def loU (K : PySem.W.Frag) (R : D → MS → DQ → Prop) : V → Hp → VK → Prop := fun vx H Q => ∃ F M x Φ, AbsM K F H M ∧ Rep K F H x vx ∧ R x M Φ ∧ ∀ v H', loQ K F H M Φ v H' → Q v H'
def loC (K : PySem.W.Frag) (R : List D → MS → DQ → Prop) : List V → Hp → VK → Prop := fun vs H Q => ∃ F M ds Φ, AbsM K F H M ∧ Reps K F H ds vs ∧ R ds M Φ ∧ ∀ v H', loQ K F H M Φ v H' → Q v H'
structure LoEnds (K : PySem.W.Frag) (O : Og K) (F : Addr → Prop) (H : Hp) (M : MS) (Δ : DEnds) (Y : Ends) : Prop where
  nx : ∀ σ' H' F' M' ρ', Lm K F H M F' H' M' → Abs K O F' H' M' σ' ρ' → Δ.nx ρ' M' → Y.nx σ' H'
  rt : ∀ v H', loQ K F H M Δ.rt v H' → Y.rt v H'
  bk : ∀ σ' H' F' M' ρ', Lm K F H M F' H' M' → Abs K O F' H' M' σ' ρ' → Δ.bk ρ' M' → Y.bk σ' H'
  ct : ∀ σ' H' F' M' ρ', Lm K F H M F' H' M' → Abs K O F' H' M' σ' ρ' → Δ.ct ρ' M' → Y.ct σ' H'
def loS (K : PySem.W.Frag) (O : Og K) (t : DS) : TS := fun Y σ H => ∃ F M ρ Δ, Abs K O F H M σ ρ ∧ t Δ ρ M ∧ LoEnds K O F H M Δ Y
section
variable {K : PySem.W.Frag} {F F' F1 F2 : Addr → Prop} {H H' H1 H2 : Hp} {M M' M1 : MS} {Φ : DQ}
theorem loQ.le (l : Lm K F H M F1 H1 M1) {v : V} (h : loQ K F1 H1 M1 Φ v H') : loQ K F H M Φ v H' := by
  obtain ⟨F', M', d, l', a, r, q⟩ := h
  exact ⟨F', M', d, l.trans l', a, r, q⟩
theorem loQ.here {d : D} {v : V} (a : AbsM K F H M) (r : Rep K F H d v) (q : Φ d M) : loQ K F H M Φ v H := ⟨F, M, d, Lm.refl, a, r, q⟩
theorem LoEnds.le {Δ : DEnds} {Y : Ends} (e : LoEnds K O F H M Δ Y) (l : Lm K F H M F1 H1 M1) : LoEnds K O F1 H1 M1 Δ Y :=
  ⟨fun σ' H' F' M' ρ' z => e.nx σ' H' F' M' ρ' (l.trans z), fun v H' z => e.rt v H' (z.le l), fun σ' H' F' M' ρ' z => e.bk σ' H' F' M' ρ' (l.trans z), fun σ' H' F' M' ρ' z => e.ct σ' H' F' M' ρ' (l.trans z)⟩
end
theorem PE.imp {X : Cx} {e : Expr} {t t' : TE} (h : PE X e t) (hi : ∀ σ H Q, t' σ H Q → t σ H Q) : PE X e t' := ⟨fun pins s σ H Q I q => h.run pins s σ H Q I (hi _ _ _ q)⟩
theorem PT.imp {X : Cx} {e : Expr} {t t' : TT} (h : PT X e t) (hi : ∀ σ H Q, t' σ H Q → t σ H Q) : PT X e t' := ⟨fun pins s σ H Q I q => h.run pins s σ H Q I (hi _ _ _ q)⟩
theorem PA.imp {X : Cx} {e : List Expr} {t t' : TA} (h : PA X e t) (hi : ∀ σ H Q, t' σ H Q → t σ H Q) : PA X e t' := ⟨fun pos pins s σ H Q I q => h.run pos pins s σ H Q I (hi _ _ _ q)⟩
theorem PS.imp {X : Cx} {e : Stmt} {t t' : TS} (h : PS X e t) (hi : ∀ D σ H, t' D σ H → t D σ H) : PS X e t' := ⟨fun pins s σ H D I q => h.run pins s σ H D I (hi _ _ _ q)⟩
theorem PSs.imp {X : Cx} {e : List Stmt} {t t' : TS} (h : PSs X e t) (hi : ∀ D σ H, t' D σ H → t D σ H) : PSs X e t' := ⟨fun pins s σ H D I q => h.run pins s σ H D I (hi _ _ _ q)⟩
def dC (d : D) : DE := fun _ M Φ => Φ d M
def dVar (i : Nat) : DE := fun ρ M Φ => match ρ[i]? with
  | some (some d) => Φ d M
  | _ => False
def dOp (R : D → D → MS → DQ → Prop) (ta tb : DE) : DE := fun ρ M Φ => ta ρ M fun x M1 => tb ρ M1 fun y M2 => R x y M2 Φ
def dUn (R : D → MS → DQ → Prop) (ta : DE) : DE := fun ρ M Φ => ta ρ M fun x M1 => R x M1 Φ
def dNil : DAs := fun _ M Φ => Φ [] M
def dCons (ta : DE) (tr : DAs) : DAs := fun ρ M Φ => ta ρ M fun x M1 => tr ρ M1 fun xs M2 => Φ (x :: xs) M2
def dFn (R : List D → MS → DQ → Prop) (ta : DAs) : DE := fun ρ M Φ => ta ρ M fun xs M1 => R xs M1 Φ
def dTup (ta : DAs) : DE := fun ρ M Φ => ta ρ M fun xs M1 => xs.length ≤ 100000 ∧ Φ (.tup xs) M1
def dLst (ta : DAs) : DE := fun ρ M Φ => ta ρ M fun xs M1 => xs.length ≤ 100000 ∧ Φ (.lst xs) M1
def dLstM (ta : DAs) : DE := fun ρ M Φ => ta ρ M fun xs M1 => xs.length ≤ 100000 ∧ ∀ p, M1.map p = none → Φ (.ref p) (M1.put p (.lst xs))
def dIf (t : DT) (ta tb : DE) : DE := fun ρ M Φ => t ρ M fun b M1 => if b = true then ta ρ M1 Φ else tb ρ M1 Φ
def dTest (te : DE) : DT := fun ρ M Φ => te ρ M fun x M1 => match x with
  | .bl b => Φ b M1
  | _ => False
def dAnd (t u : DT) : DT := fun ρ M Φ => t ρ M fun b M1 => if b = true then u ρ M1 Φ else Φ false M1
def dOr (t u : DT) : DT := fun ρ M Φ => t ρ M fun b M1 => if b = true then Φ true M1 else u ρ M1 Φ
def dNot (t : DT) : DT := fun ρ M Φ => t ρ M fun b M1 => Φ (!b) M1
def dAndV (t : DE) (u : DE) : DE := fun ρ M Φ => t ρ M fun x M1 => match x with
  | .bl b => if b = true then u ρ M1 Φ else Φ (.bl false) M1
  | _ => False
def dOrV (t : DE) (u : DE) : DE := fun ρ M Φ => t ρ M fun x M1 => match x with
  | .bl b => if b = true then Φ (.bl true) M1 else u ρ M1 Φ
  | _ => False
section
variable {X : Cx} {a b : Expr} {ta tb te : DE} {pos : Pos}
variable {O : Og X.K}
theorem q_var {i : Nat} {x : Str} (hN : X.N[i]? = some x) (hv : Vis X.env.scope x) (hd : (x == ("__debug__" : Str)) = false) (hcd : (x == ("__classdict__" : Str)) = false) : PE X (.Name x pos) (lo X.K O (dVar i)) :=
  PE.imp (pe_var hN hv hd hcd) fun σ H Q h => by
    obtain ⟨F, M, ρ, Φ, A, h, k⟩ := h
    unfold dVar at h
    split at h
    · rename_i d e
      obtain ⟨v, e1, r⟩ := A.env.get i d e
      exact ⟨v, e1, k v H (loQ.here A.am r h)⟩
    · exact h.elim
theorem q_c {d : D} {v : V} (he : PE X a (tC v)) (r : ∀ F H, Rep X.K F H d v) : PE X a (lo X.K O (dC d)) :=
  PE.imp he fun σ H Q h => by
    obtain ⟨F, M, ρ, Φ, A, h, k⟩ := h
    exact k v H (loQ.here A.am (r F H) h)
theorem q_op {op : Operator} {R : D → D → MS → DQ → Prop} (ho : OpR X (binaryOp op) (loR X.K R)) (ha : PE X a (lo X.K O ta)) (hb : PE X b (lo X.K O tb)) : PE X (.BinOp a op b pos) (lo X.K O (dOp R ta tb)) :=
  PE.imp (pe_op ho ha hb) fun σ H Q h => by
    obtain ⟨F, M, ρ, Φ, A, h, k⟩ := h
    exact ⟨F, M, ρ, _, A, h, fun vx H1 ⟨F1, M1, x, l1, a1, r1, h1⟩ => ⟨F1, M1, ρ, _, (A.go l1 a1), h1, fun vy H2 ⟨F2, M2, y, l2, a2, r2, h2⟩ =>
      ⟨F2, M2, x, y, Φ, a2, r1.mono l2.le, r2, h2, fun v H' q => k v H' ((q.le l2).le l1)⟩⟩⟩
theorem q_cmp {op : CmpOp} {R : D → D → MS → DQ → Prop} (ho : OpR X (compareOp op) (loR X.K R)) (ha : PE X a (lo X.K O ta)) (hb : PE X b (lo X.K O tb)) (hm : behindInMarks op b = false) : PE X (.Compare a [op] [b] pos) (lo X.K O (dOp R ta tb)) :=
  PE.imp (pe_cmpR ho ha hb hm) fun σ H Q h => by
    obtain ⟨F, M, ρ, Φ, A, h, k⟩ := h
    exact ⟨F, M, ρ, _, A, h, fun vx H1 ⟨F1, M1, x, l1, a1, r1, h1⟩ => ⟨F1, M1, ρ, _, (A.go l1 a1), h1, fun vy H2 ⟨F2, M2, y, l2, a2, r2, h2⟩ =>
      ⟨F2, M2, x, y, Φ, a2, r1.mono l2.le, r2, h2, fun v H' q => k v H' ((q.le l2).le l1)⟩⟩⟩
theorem q_cmpT {op : CmpOp} {R : D → D → MS → DQ → Prop} (ho : OpR X (compareOp op) (loR X.K R)) (ha : PE X a (lo X.K O ta)) (hb : PE X b (lo X.K O tb)) (hm : behindInMarks op b = false) : PT X (.Compare a [op] [b] pos) (loT X.K O (dTest (dOp R ta tb))) :=
  PT.imp (pt_cmpR ho ha hb hm) fun σ H Q h => by
    obtain ⟨F, M, ρ, Φ, A, h, k⟩ := h
    refine ⟨F, M, ρ, _, A, h, fun vx H1 ⟨F1, M1, x, l1, a1, r1, h1⟩ => ⟨F1, M1, ρ, _, (A.go l1 a1), h1, fun vy H2 ⟨F2, M2, y, l2, a2, r2, h2⟩ =>
      ⟨F2, M2, x, y, _, a2, r1.mono l2.le, r2, h2, fun v H' q => ?_⟩⟩⟩
    obtain ⟨F', M', d, l3, a3, r3, q3⟩ := q
    cases d with
    | bl c => exact ⟨c, r3, k c H' F' M' ((l1.trans l2).trans l3) a3 q3⟩
    | _ => exact q3.elim
theorem q_un {op : UnaryOp} {R : D → MS → DQ → Prop} (ho : UnR X (unaryOp op) (loU X.K R)) (ha : PE X a (lo X.K O ta)) : PE X (.UnaryOp op a pos) (lo X.K O (dUn R ta)) :=
  PE.imp (pe_un ho ha) fun σ H Q h => by
    obtain ⟨F, M, ρ, Φ, A, h, k⟩ := h
    exact ⟨F, M, ρ, _, A, h, fun vx H1 ⟨F1, M1, x, l1, a1, r1, h1⟩ => ⟨F1, M1, x, Φ, a1, r1, h1, fun v H' q => k v H' (q.le l1)⟩⟩
theorem q_nil : PA X [] (loA X.K O dNil) :=
  PA.imp pa_nil fun σ H Q h => by
    obtain ⟨F, M, ρ, Φ, A, h, k⟩ := h
    exact k [] H F M [] Lm.refl A.am Reps.nil h
theorem q_cons {es : List Expr} {tr : DAs} (ha : PE X a (lo X.K O ta)) (hr : PA X es (loA X.K O tr)) (hs : starEach (a :: es) X.env = (false, eval a X.env) :: starEach es X.env) : PA X (a :: es) (loA X.K O (dCons ta tr)) :=
  PA.imp (pa_cons ha hr hs) fun σ H Q h => by
    obtain ⟨F, M, ρ, Φ, A, h, k⟩ := h
    exact ⟨F, M, ρ, _, A, h, fun vx H1 ⟨F1, M1, x, l1, a1, r1, h1⟩ => ⟨F1, M1, ρ, _, (A.go l1 a1), h1, fun vs H2 F2 M2 ds l2 a2 r2 h2 =>
      k (vx :: vs) H2 F2 M2 (x :: ds) (l1.trans l2) a2 (Reps.cons (r1.mono l2.le) r2) h2⟩⟩
theorem sz5 {n : Nat} (h : n ≤ 100000) : n ≤ sizeLine := Nat.le_trans h (by decide)
theorem q_tup {es : List Expr} {tr : DAs} {x1} (h : PA X es (loA X.K O tr)) : PE X (.Tuple es x1 pos) (lo X.K O (dTup tr)) :=
  PE.imp (pe_tup h) fun σ H Q h => by
    obtain ⟨F, M, ρ, Φ, A, h, k⟩ := h
    refine ⟨F, M, ρ, _, A, h, fun vs H1 F1 M1 ds l1 a1 r1 ⟨z, q⟩ => ⟨by rw [← r1.length]; exact sz5 z, fun p hp => ?_⟩⟩
    have l2 := Lm.laid (o := .tup vs) a1 hp
    refine k _ _ ⟨F1, M1, .tup ds, l1.trans l2, a1.laid hp, ?_, q⟩
    simp only [Rep]
    exact ⟨p, vs, rfl, .inl (.inl upd_same), r1.mono l2.le⟩
theorem q_lst {es : List Expr} {tr : DAs} (h : PA X es (loA X.K O tr)) : PE X (.List es pos) (lo X.K O (dLst tr)) :=
  PE.imp (pe_lst h) fun σ H Q h => by
    obtain ⟨F, M, ρ, Φ, A, h, k⟩ := h
    refine ⟨F, M, ρ, _, A, h, fun vs H1 F1 M1 ds l1 a1 r1 ⟨z, q⟩ => ⟨by rw [← r1.length]; exact sz5 z, fun p hp => ?_⟩⟩
    have l2 := Lm.frozen (o := .lst vs) a1 hp
    refine k _ _ ⟨_, M1, .lst ds, l1.trans l2, (a1.frozen hp).1, ?_, q⟩
    simp only [Rep]
    exact ⟨p, vs, rfl, .inr rfl, upd_same, r1.mono l2.le⟩
theorem q_lstM {es : List Expr} {tr : DAs} (h : PA X es (loA X.K O tr)) : PE X (.List es pos) (lo X.K O (dLstM tr)) :=
  PE.imp (pe_lst h) fun σ H Q h => by
    obtain ⟨F, M, ρ, Φ, A, h, k⟩ := h
    refine ⟨F, M, ρ, _, A, h, fun vs H1 F1 M1 ds l1 a1 r1 ⟨z, q⟩ => ⟨by rw [← r1.length]; exact sz5 z, fun p hp => ?_⟩⟩
    exact k _ _ ⟨F1, _, .ref p, l1.trans (Lm.newM a1 hp), a1.newM hp r1, rfl, q p (a1.fresh hp).2⟩
theorem q_if {c : Expr} {tc : DT} (hc : PT X c (loT X.K O tc)) (ha : PE X a (lo X.K O ta)) (hb : PE X b (lo X.K O tb)) : PE X (.IfExp c a b pos) (lo X.K O (dIf tc ta tb)) :=
  PE.imp (pe_ifExp hc ha hb) fun σ H Q h => by
    obtain ⟨F, M, ρ, Φ, A, h, k⟩ := h
    refine ⟨F, M, ρ, _, A, h, fun c H1 F1 M1 l1 a1 h1 => ?_⟩
    cases c with
    | true => exact ⟨F1, M1, ρ, Φ, (A.go l1 a1), h1, fun v H' q => k v H' (q.le l1)⟩
    | false => exact ⟨F1, M1, ρ, Φ, (A.go l1 a1), h1, fun v H' q => k v H' (q.le l1)⟩
theorem q_not {tc : DT} (ha : PT X a (loT X.K O tc)) : PT X (.UnaryOp .Not a pos) (loT X.K O (dNot tc)) :=
  PT.imp (pt_not ha) fun σ H Q h => by
    obtain ⟨F, M, ρ, Φ, A, h, k⟩ := h
    exact ⟨F, M, ρ, _, A, h, fun c H1 F1 M1 l1 a1 h1 => k (!c) H1 F1 M1 l1 a1 h1⟩
end
end DL
namespace DL
open PySem PySem.Spec PyProof.Rows L2
def seqL (M : MS) : D → Option (List D)
  | .lst xs => some xs
  | .ref a => match M.map a with
    | some (.lst xs) => some xs
    | _ => none
  | _ => none
/-- .. the script, tuples too -/
def seqA (M : MS) : D → Option (List D)
  | .lst xs => some xs
  | .tup xs => some xs
  | .scr ns => some (ns.map D.int)
  | .ref a => match M.map a with
    | some (.lst xs) => some xs
    | _ => none
  | _ => none
section
variable {K : PySem.W.Frag} {F F' : Addr → Prop} {H H' : Hp} {M M' : MS} {x y d : D} {v vx vy : V} {xs ds : List D} {vs : List V} {Φ : DQ} {p : Addr}
theorem seqL_rep (am : AbsM K F H M) (r : Rep K F H x v) (h : seqL M x = some xs) : ∃ a vs, v = .ref a ∧ H a = some (.lst vs) ∧ Reps K F H xs vs := by
  cases x with
  | lst ys =>
    simp only [seqL, Option.some.injEq] at h
    subst h
    simp only [Rep] at r
    obtain ⟨a, vs, e, _, h1, h2⟩ := r
    exact ⟨a, vs, e, h1, h2⟩
  | ref a =>
    simp only [seqL] at h
    split at h
    · rename_i zs e
      cases h
      obtain ⟨_, vs, h1, h2⟩ := am.mp a _ e
      exact ⟨a, vs, r, h1, h2⟩
    · cases h
  | _ => simp [seqL] at h
theorem seqA_rep (am : AbsM K F H M) (r : Rep K F H x v) (h : seqA M x = some xs) : ∃ a vs, v = .ref a ∧ (SqL K H a vs ∨ SqT K H a vs) ∧ Reps K F H xs vs := by
  cases x with
  | lst ys =>
    simp only [seqA, Option.some.injEq] at h
    subst h
    simp only [Rep] at r
    obtain ⟨a, vs, e, _, h1, h2⟩ := r
    exact ⟨a, vs, e, .inl (SqL.of h1), h2⟩
  | tup ys =>
    simp only [seqA, Option.some.injEq] at h
    subst h
    simp only [Rep] at r
    obtain ⟨a, vs, e, h1, h2⟩ := r
    exact ⟨a, vs, e, .inr h1, h2⟩
  | scr ns =>
    simp only [seqA, Option.some.injEq] at h
    subst h
    simp only [Rep] at r
    obtain ⟨a, e, h1⟩ := r
    exact ⟨a, _, e, .inl h1.sq, Reps.ints ns⟩
  | ref a =>
    simp only [seqA] at h
    split at h
    · rename_i zs e
      cases h
      obtain ⟨_, vs, h1, h2⟩ := am.mp a _ e
      exact ⟨a, vs, r, .inl (SqL.of h1), h2⟩
    · cases h
  | _ => simp [seqA] at h
theorem new_lst (am : AbsM K F H M) (r : Reps K F H ds vs) (q : Φ (.lst ds) M) (hp : H p = none) : loQ K F H M Φ (.ref p) (upd H p (.lst vs)) := by
  have l := Lm.frozen (o := .lst vs) am hp
  refine ⟨_, M, .lst ds, l, (am.frozen hp).1, ?_, q⟩
  simp only [Rep]
  exact ⟨p, vs, rfl, .inr rfl, upd_same, r.mono l.le⟩
theorem new_lstM (am : AbsM K F H M) (r : Reps K F H ds vs) (q : ∀ p, M.map p = none → Φ (.ref p) (M.put p (.lst ds))) (hp : H p = none) : loQ K F H M Φ (.ref p) (upd H p (.lst vs)) :=
  ⟨F, _, .ref p, Lm.newM am hp, am.newM hp r, rfl, q p (am.fresh hp).2⟩
theorem new_tup (am : AbsM K F H M) (r : Reps K F H ds vs) (q : Φ (.tup ds) M) (hp : H p = none) : loQ K F H M Φ (.ref p) (upd H p (.tup vs)) := by
  have l := Lm.laid (o := .tup vs) am hp
  refine ⟨F, M, .tup ds, l, am.laid hp, ?_, q⟩
  simp only [Rep]
  exact ⟨p, vs, rfl, .inl (.inl upd_same), r.mono l.le⟩
theorem hI {i : Int} (a : AbsM K F H M) (q : Φ (.int i) M) : loQ K F H M Φ (.int i) H := ⟨F, M, .int i, Lm.refl, a, by simp only [Rep], q⟩
theorem hB {b : Bool} (a : AbsM K F H M) (q : Φ (.bl b) M) : loQ K F H M Φ (.bl b) H := ⟨F, M, .bl b, Lm.refl, a, by simp only [Rep], q⟩
theorem hS {z : Str} (a : AbsM K F H M) (q : Φ (.str z) M) : loQ K F H M Φ (.str z) H := ⟨F, M, .str z, Lm.refl, a, by simp only [Rep], q⟩
theorem hN (a : AbsM K F H M) (q : Φ .non M) : loQ K F H M Φ .non H := ⟨F, M, .non, Lm.refl, a, by simp only [Rep], q⟩
theorem rep_tup (h : Rep K F H (.tup xs) v) : ∃ a vs, v = .ref a ∧ SqT K H a vs ∧ Reps K F H xs vs := by simpa only [Rep] using h
theorem rep_int {i : Int} (h : Rep K F H (.int i) v) : v = .int i := h
theorem rep_str {z : Str} (h : Rep K F H (.str z) v) : v = .str z := h
end
theorem flat_nil {α : Type} : ∀ n : Nat, (List.replicate n ([] : List α)).flatten = []
  | 0 => rfl
  | n + 1 => by rw [List.replicate_succ, List.flatten_cons, flat_nil n]; rfl
theorem mul_same (l : Addr) (items : Array Value) (n : Nat) (dd : Option Addr) (sl : Array (Option Value)) (x : Int) (u : Tok) (c0 : (decide (x < -(2 ^ 63)) || decide (x ≥ 2 ^ 63)) = false) (c1 : (items.isEmpty || x == 1) = true) :
    Meets (Builtin.«tuple.__mul__» ⟨[.ref l, .int x u], []⟩) (fun _ R s => s.heap.get? l = some { cls := .type "tuple", dict := dd, data := .seq items n, slots := sl } ∧ R (.ok (.ret (.ref l))) s) :=
  .of_wp fun prog w A R s h => by
    rcases s with ⟨hp, g, d, tk, os⟩
    rcases h with ⟨hl, h⟩
    have f1 := AutoSeq1.idx_int
    wp_walk using AutoSeq1.wpAny_loadPart' hl
    repeat (first
      | (refine wpAny_ite_false (decide_eq_false (by rw [c0]; exact Bool.false_ne_true)) ?_; wp_walk using AutoSeq1.wpAny_loadPart' hl)
      | (refine wpAny_ite_true (decide_eq_true c1) ?_; wp_walk using AutoSeq1.wpAny_loadPart' hl))
    exact ⟨_, rfl, h⟩
theorem mul_zero' (l : Addr) (items : Array Value) (n : Nat) (dd : Option Addr) (sl : Array (Option Value)) (x : Int) (u : Tok) (c0 : (decide (x < -(2 ^ 63)) || decide (x ≥ 2 ^ 63)) = false) (c1 : (items.isEmpty || x == 1) = false) (c2 : (decide (x ≤ 0) || items.isEmpty) = true) :
    Meets (Builtin.«tuple.__mul__» ⟨[.ref l, .int x u], []⟩) (fun _ R s => s.heap.get? l = some { cls := .type "tuple", dict := dd, data := .seq items n, slots := sl } ∧
      R (.ok (.ret (Value.ref s.heap.objs.size))) { s with heap := s.heap.push { cls := Value.type "tuple", data := Data.seq #[] }, toks := s.toks }) :=
  .of_wp fun prog w A R s h => by
    rcases s with ⟨hp, g, d, tk, os⟩
    rcases h with ⟨hl, h⟩
    have f1 := AutoSeq1.idx_int
    have z0 : (#[] : Array Value).size ≤ sizeLine := Nat.zero_le _
    wp_walk using AutoSeq1.wpAny_loadPart' hl
    repeat (first
      | (refine wpAny_ite_false (decide_eq_false (by rw [c0]; exact Bool.false_ne_true)) ?_; wp_walk using AutoSeq1.wpAny_loadPart' hl)
      | (refine wpAny_ite_false (decide_eq_false (by rw [c1]; exact Bool.false_ne_true)) ?_; wp_walk using AutoSeq1.wpAny_loadPart' hl)
      | (refine wpAny_ite_true (decide_eq_true c2) ?_; wp_walk using AutoSeq1.wpAny_loadPart' hl)
      | (refine wpAny_ite_false (decide_eq_false (Nat.not_lt.mpr z0)) ?_; wp_walk using AutoSeq1.wpAny_loadPart' hl))
    exact ⟨_, rfl, h⟩
section
variable {X : Cx} {pins : List (Addr × Obj)} {σ : L2.St} {H : Hp} {s : Shared} {v u : Value} {a : Addr} {vs : List V} {n : Int} {Q : VK}
variable {O : Og X.K}
theorem mul_road (I : Inv X pins σ H s) (r1 : RelV (.ref a) v) (r2 : RelV (.int n) u) (ht : SqT X.K H a vs)
    (k : ∀ (its : List Value) (m : Nat) (dd : Option Addr) (sl : Array (Option Value)) (t : Tok), its.length = vs.length → s.heap.get? a = some { cls := .type "tuple", dict := dd, data := .seq its.toArray m, slots := sl } →
      ∃ S : PySem.Spec, Meets (Builtin.«tuple.__mul__» ⟨[.ref a, .int n t], []⟩) S ∧ S X.A (wants (EP X pins σ Q) X.xe) s) : wpAny (model X.prog X.w) X.A (binaryOp .Mult v u) (EP X pins σ Q) X.xe s := by
  cases r1
  obtain ⟨t, rfl⟩ := r2
  obtain ⟨its, r, ⟨⟨cls, dd, data, sl⟩, ho, hc, m, hd⟩, hs⟩ := I.tuple ht
  simp only at hc hd
  subst hc hd
  obtain ⟨S, g, hS⟩ := k its m dd sl t r.length.symm ho
  exact wpAny_binaryOp_repeat_ref (T := "tuple") (U := "int") (by decide) ⟨_, ho, rfl⟩ (fun s' => typeIs_int s' n t) noFill_tuple_mul F.fills_int_mul F.slot_int_rmul repeat_tuple F.slot_int_index.lookup
    (call_meets F.slot_int_rmul (typeIs_int s n t) F.entry_int_rmul (F.args_int_rmul_2 _ _) (int_rmul_tuple n t a its.toArray m dd sl) ⟨ho, rfl, ⟨_, ho, rfl⟩, call_meets F.slot_tuple_mul ⟨_, ho, rfl⟩ F.entry_tuple_mul (F.args_tuple_mul_2 _ _) g hS⟩)
theorem fits63 (h1 : -(2 ^ 63) ≤ n) (h2 : n < 2 ^ 63) : (decide (n < -(2 ^ 63)) || decide (n ≥ 2 ^ 63)) = false := by
  rw [decide_eq_false (by omega), decide_eq_false (by omega)]
  rfl
theorem rep_same (I : Inv X pins σ H s) (r1 : RelV (.ref a) v) (r2 : RelV (.int n) u) (ht : SqT X.K H a vs) (hs : vs = [] ∨ n = 1) (h1 : -(2 ^ 63) ≤ n) (h2 : n < 2 ^ 63) (q : Q (.ref a) H) : wpAny (model X.prog X.w) X.A (binaryOp .Mult v u) (EP X pins σ Q) X.xe s :=
  mul_road I r1 r2 ht fun its m dd sl t hl ho => ⟨_, mul_same a its.toArray m dd sl n t (fits63 h1 h2) (by
    rcases hs with z | z
    · subst z
      have : its = [] := List.eq_nil_of_length_eq_zero hl
      subst this
      rfl
    · subst z; simp), ho, .ref a, H, I, rfl, q⟩
theorem rep_zero (I : Inv X pins σ H s) (r1 : RelV (.ref a) v) (r2 : RelV (.int n) u) (ht : SqT X.K H a vs) (hne : vs ≠ []) (h1 : -(2 ^ 63) ≤ n) (h2 : n ≤ 0) (q : ∀ p, H p = none → Q (.ref p) (upd H p (.tup []))) :
    wpAny (model X.prog X.w) X.A (binaryOp .Mult v u) (EP X pins σ Q) X.xe s :=
  mul_road I r1 r2 ht fun its m dd sl t hl ho => by
    have hi : its.toArray.isEmpty = false := by
      cases its with
      | nil => exact absurd (List.eq_nil_of_length_eq_zero hl.symm) hne
      | cons _ _ => rfl
    refine ⟨_, mul_zero' a its.toArray m dd sl n t (fits63 h1 (by omega)) (by rw [hi, Bool.false_or]; exact beq_eq_false_iff_ne.mpr (by omega)) (by rw [decide_eq_true h2]; rfl), ho, ?_⟩
    exact ⟨.ref s.heap.objs.size, _, I.laid (t' := s.toks) (o := .tup []) (fun b ob q => Heap.get?_push_of_some _ q) (Nat.le_refl _) ⟨Nat.zero_le _, [], .nil, IsTup.new _ _⟩, rfl, q _ (I.hok.fresh (Nat.le_refl _))⟩
end
def rAdd (x y : D) (M : MS) (Φ : DQ) : Prop := match x with
  | .int i => (match y with
    | .int j => Φ (.int (i + j)) M
    | _ => False)
  | .tup xs => (match y with
    | .tup ys => xs.length + ys.length ≤ 100000 ∧ Φ (.tup (xs ++ ys)) M
    | _ => False)
  | .str a => (match y with
    | .str b => a.length + b.length ≤ 100000 ∧ Φ (.str (a ++ b)) M
    | _ => False)
  | x => (match seqL M x, seqL M y with
    | some xs, some ys => xs.length + ys.length ≤ 100000 ∧ Φ (.lst (xs ++ ys)) M
    | _, _ => False)
def rSub (x y : D) (M : MS) (Φ : DQ) : Prop := match x, y with
  | .int i, .int j => Φ (.int (i - j)) M
  | _, _ => False
def rMul (x y : D) (M : MS) (Φ : DQ) : Prop := match x with
  | .int i => (match y with
    | .int j => CMul i j ∧ Φ (.int (i * j)) M
    | _ => False)
  | .tup xs => (match y with
    | .int k => -(2 ^ 63) ≤ k ∧ k ≤ 1000 ∧ xs.length ≤ 1000 ∧ Φ (.tup (List.replicate k.toNat xs).flatten) M
    | _ => False)
  | x => (match seqL M x with
    | some xs => (match y with
      | .int k => -(2 ^ 63) ≤ k ∧ k < 2 ^ 63 ∧ xs.length * k.toNat ≤ 100000 ∧ Φ (.lst (List.replicate k.toNat xs).flatten) M
      | _ => False)
    | none => False)
def rDiv (x y : D) (M : MS) (Φ : DQ) : Prop := match x, y with
  | .int i, .int j => 0 < j ∧ j < 1073741824 ∧ Φ (.int (i / j)) M
  | _, _ => False
def rMod (x y : D) (M : MS) (Φ : DQ) : Prop := match x, y with
  | .int i, .int j => 0 < j ∧ Φ (.int (i % j)) M
  | _, _ => False
def rPow (x y : D) (M : MS) (Φ : DQ) : Prop := match x, y with
  | .int i, .int j => CPow i j ∧ Φ (.int (i ^ j.toNat)) M
  | _, _ => False
def rNeg (x : D) (M : MS) (Φ : DQ) : Prop := match x with
  | .int i => Φ (.int (-i)) M
  | _ => False
section
variable {X : Cx}
variable {O : Og X.K}
theorem o_add : OpR X (binaryOp .Add) (loR X.K rAdd) := by
  rintro pins s σ H vx vy v u Q I r1 r2 ⟨F, M, x, y, Φ, am, rx, ry, h, k⟩
  have lists : ∀ {xs ys : List D}, seqL M x = some xs → seqL M y = some ys → xs.length + ys.length ≤ 100000 → Φ (.lst (xs ++ ys)) M → wpAny (model X.prog X.w) X.A (binaryOp .Add v u) (EP X pins σ Q) X.xe s := by
    intro xs ys ex ey hz q
    obtain ⟨a, vs, e1, h1, p1⟩ := seqL_rep am rx ex
    obtain ⟨b, ws, e2, h2, p2⟩ := seqL_rep am ry ey
    refine op_cat pins s σ H vx vy v u Q I r1 r2 ⟨a, b, vs, ws, e1, e2, h1, h2, by rw [← p1.length, ← p2.length]; exact sz5 hz, fun p hp => k _ _ (new_lst am (p1.append p2) q hp)⟩
  cases x with
  | int i =>
    cases y with
    | int j => exact op_add pins s σ H vx vy v u Q I r1 r2 ⟨i, j, rx, ry, k _ _ (hI am h)⟩
    | _ => exact (show False from h).elim
  | tup xs =>
    cases y with
    | tup ys =>
      obtain ⟨hz, q⟩ := h
      obtain ⟨a, vs, e1, h1, p1⟩ := rep_tup rx
      obtain ⟨b, ws, e2, h2, p2⟩ := rep_tup ry
      subst e1 e2
      have n1 := p1.length
      have n2 := p2.length
      refine op_catA pins s σ H _ _ v u Q I r1 r2 ⟨a, b, vs, ws, rfl, rfl, h1, h2, by rw [← n1, ← n2]; exact sz5 hz, fun z => ?_, fun _ z => ?_, fun _ _ p hp => k _ _ (new_tup am (p1.append p2) q hp)⟩
      · subst z
        cases xs with
        | nil => exact k _ _ (loQ.here am ry q)
        | cons _ _ => simp at n1
      · subst z
        cases ys with
        | nil => rw [List.append_nil] at q; exact k _ _ (loQ.here am rx q)
        | cons _ _ => simp at n2
    | _ => exact (show False from h).elim
  | str a =>
    cases y with
    | str b => exact op_add_str pins s σ H vx vy v u Q I r1 r2 ⟨a, b, rx, ry, sz5 h.1, k _ _ (hS am h.2)⟩
    | _ => exact (show False from h).elim
  | _ =>
    simp only [rAdd] at h
    split at h
    · rename_i xs ys e1 e2
      exact lists e1 e2 h.1 h.2
    · exact h.elim
theorem o_sub : OpR X (binaryOp .Sub) (loR X.K rSub) := by
  rintro pins s σ H vx vy v u Q I r1 r2 ⟨F, M, x, y, Φ, am, rx, ry, h, k⟩
  unfold rSub at h
  split at h
  · rename_i i j
    exact op_sub pins s σ H vx vy v u Q I r1 r2 ⟨i, j, rx, ry, k _ _ (hI am h)⟩
  · exact h.elim
theorem o_mul : OpR X (binaryOp .Mult) (loR X.K rMul) := by
  rintro pins s σ H vx vy v u Q I r1 r2 ⟨F, M, x, y, Φ, am, rx, ry, h, k⟩
  have lists : ∀ {xs : List D} {n : Int}, seqL M x = some xs → y = .int n → -(2 ^ 63) ≤ n → n < 2 ^ 63 → xs.length * n.toNat ≤ 100000 → Φ (.lst (List.replicate n.toNat xs).flatten) M → wpAny (model X.prog X.w) X.A (binaryOp .Mult v u) (EP X pins σ Q) X.xe s := by
    intro xs n ex ey b1 b2 hz q
    subst ey
    obtain ⟨a, vs, e1, h1, p1⟩ := seqL_rep am rx ex
    refine op_rep pins s σ H vx vy v u Q I r1 r2 ⟨a, n, vs, e1, ry, h1, b1, b2, by rw [← p1.length]; exact sz5 hz, fun p hp => k _ _ (new_lst am (p1.rep _) q hp)⟩
  cases x with
  | int i =>
    cases y with
    | int j => exact op_mul pins s σ H vx vy v u Q I r1 r2 ⟨i, j, rx, ry, h.1, k _ _ (hI am h.2)⟩
    | _ => exact (show False from h).elim
  | tup xs =>
    cases y with
    | int n =>
      obtain ⟨h1, h2, h3, q⟩ := h
      obtain ⟨a, vs, e1, ht, p1⟩ := rep_tup rx
      subst e1
      have hl := p1.length
      by_cases hs : vs = [] ∨ n = 1
      · refine rep_same I r1 (show RelV (.int n) u from ry ▸ r2) ht hs h1 (by omega) (k _ _ (loQ.here am rx ?_))
        have e : (List.replicate n.toNat xs).flatten = xs := by
          rcases hs with z | z
          · subst z
            have : xs = [] := List.eq_nil_of_length_eq_zero hl
            subst this
            exact flat_nil _
          · subst z
            show [xs].flatten = xs
            simp
        rw [← e]
        exact q
      · by_cases hz : n ≤ 0
        · refine rep_zero I r1 (show RelV (.int n) u from ry ▸ r2) ht (fun z => hs (.inl z)) h1 hz fun p hp => k _ _ ?_
          have e : (List.replicate n.toNat xs).flatten = [] := by
            rw [show n.toNat = 0 by omega]; rfl
          rw [e] at q
          exact new_tup am Reps.nil q hp
        · refine op_repT pins s σ H _ _ v u Q I r1 r2 ⟨a, n, vs, rfl, ry, ht, fun z => hs (.inl z), by omega, h2, by rw [← p1.length]; exact h3, fun p hp => k _ _ (new_tup am (p1.rep _) q hp)⟩
    | _ => exact (show False from h).elim
  | _ =>
    simp only [rMul] at h
    split at h
    · rename_i xs e1
      split at h
      · rename_i n
        exact lists e1 rfl h.1 h.2.1 h.2.2.1 h.2.2.2
      · exact h.elim
    · exact h.elim
theorem o_div : OpR X (binaryOp .FloorDiv) (loR X.K rDiv) := by
  rintro pins s σ H vx vy v u Q I r1 r2 ⟨F, M, x, y, Φ, am, rx, ry, h, k⟩
  unfold rDiv at h
  split at h
  · rename_i i j
    exact op_fdiv pins s σ H vx vy v u Q I r1 r2 ⟨i, j, rx, ry, ⟨h.1, h.2.1⟩, k _ _ (hI am h.2.2)⟩
  · exact h.elim
theorem o_mod : OpR X (binaryOp .Mod) (loR X.K rMod) := by
  rintro pins s σ H vx vy v u Q I r1 r2 ⟨F, M, x, y, Φ, am, rx, ry, h, k⟩
  unfold rMod at h
  split at h
  · rename_i i j
    exact op_mod pins s σ H vx vy v u Q I r1 r2 ⟨i, j, rx, ry, h.1, k _ _ (hI am h.2)⟩
  · exact h.elim
theorem o_pow : OpR X (binaryOp .Pow) (loR X.K rPow) := by
  rintro pins s σ H vx vy v u Q I r1 r2 ⟨F, M, x, y, Φ, am, rx, ry, h, k⟩
  unfold rPow at h
  split at h
  · rename_i i j
    exact op_pow pins s σ H vx vy v u Q I r1 r2 ⟨i, j, rx, ry, h.1, k _ _ (hI am h.2)⟩
  · exact h.elim
theorem o_neg : UnR X (unaryOp .USub) (loU X.K rNeg) := by
  rintro pins s σ H vx v Q I r1 ⟨F, M, x, Φ, am, rx, h, k⟩
  unfold rNeg at h
  split at h
  · rename_i i
    exact un_neg pins s σ H vx v Q I r1 ⟨i, rx, k _ _ (hI am h)⟩
  · exact h.elim
end
def rCmp (f : Int → Int → Bool) (x y : D) (M : MS) (Φ : DQ) : Prop := match x, y with
  | .int i, .int j => Φ (.bl (f i j)) M
  | _, _ => False
abbrev rLt := rCmp fun i j => decide (i < j)
abbrev rLe := rCmp fun i j => decide (i ≤ j)
abbrev rGt := rCmp fun i j => decide (j < i)
abbrev rGe := rCmp fun i j => decide (j ≤ i)
section
variable {X : Cx}
variable {O : Og X.K}
theorem o_cmp {op : CmpOp} {f : Int → Int → Bool} (ho : OpR X (compareOp op) (rI0 fun i j => .bl (f i j))) : OpR X (compareOp op) (loR X.K (rCmp f)) := by
  rintro pins s σ H vx vy v u Q I r1 r2 ⟨F, M, x, y, Φ, am, rx, ry, h, k⟩
  unfold rCmp at h
  split at h
  · rename_i i j
    exact ho pins s σ H vx vy v u Q I r1 r2 ⟨i, j, rx, ry, k _ _ (hB am h)⟩
  · exact h.elim
end
mutual
def snap (M : MS) : D → D
  | .tup xs => .tup (snaps M xs)
  | .lst xs => .lst (snaps M xs)
  | .dic ks xs => .dic ks (snaps M xs)
  | .ref a => match M.map a with
    | some (.lst ds) => .lst ds
    | _ => .ref a
  | d => d
def snaps (M : MS) : List D → List D
  | [] => []
  | x :: xs => snap M x :: snaps M xs
end
def keyPy : Key → PyData
  | .inl i => .int i
  | .inr x => .str x
mutual
def toPy : D → PyData
  | .non => .none
  | .bl b => .bool b
  | .int i => .int i
  | .str s => .str s
  | .tup xs => .tuple (toPys xs)
  | .lst xs => .list (toPys xs)
  | .dic ks xs => .dict ((ks.map keyPy).zip (toPys xs))
  | .scr ns => .list (ns.map .int)
  | .ref _ => .none
  | .ty _ => .none
  | .obj _ _ _ _ => .none
def toPys : List D → List PyData
  | [] => []
  | x :: xs => toPy x :: toPys xs
end
mutual
def still : D → Bool
  | .tup xs => stills xs
  | .lst xs => stills xs
  | .dic ks xs => stills xs && (ks.length == xs.length)
  | .ref _ => false
  | .scr _ => false
  | .ty _ => false
  | .obj _ _ _ _ => false
  | _ => true
def stills : List D → Bool
  | [] => true
  | x :: xs => still x && stills xs
end
mutual
def plain : D → Bool
  | .tup xs => plains xs
  | .lst xs => plains xs
  | .dic _ _ => false
  | .ref _ => false
  | .scr _ => false
  | .ty _ => false
  | .obj _ _ _ _ => false
  | .str z => PyData.strOk z
  | _ => true
def plains : List D → Bool
  | [] => true
  | x :: xs => plain x && plains xs
end
mutual
def dep : D → Nat
  | .tup xs => deps xs + 1
  | .lst xs => deps xs + 1
  | .dic _ xs => deps xs + 1
  | _ => 0
def deps : List D → Nat
  | [] => 0
  | x :: xs => max (dep x) (deps xs)
end
mutual
def eqd : D → D → Bool
  | .non, .non => true
  | .bl a, .bl b => a == b
  | .bl a, .int j => (if a then 1 else 0) == j
  | .int i, .bl b => i == (if b then 1 else 0)
  | .int i, .int j => i == j
  | .str x, .str y => x == y
  | .lst xs, .lst ys => eqds xs ys
  | .tup xs, .tup ys => eqds xs ys
  | _, _ => false
def eqds : List D → List D → Bool
  | [], [] => true
  | x :: xs, y :: ys => eqd x y && eqds xs ys
  | _, _ => false
end
mutual
theorem eqv_toPy : ∀ (x y : D), plain x = true → plain y = true → PyData.eqv (toPy x) (toPy y) = eqd x y
  | x, y, hx, hy => by
    cases x <;> cases y <;> (first
      | rfl
      | (exact absurd (show false = true from hx) Bool.false_ne_true)
      | (exact absurd (show false = true from hy) Bool.false_ne_true)
      | (simp only [toPy, PyData.eqv, eqd]; try exact eqvAll_toPys _ _ (by simpa [plain] using hx) (by simpa [plain] using hy)))
theorem eqvAll_toPys : ∀ (xs ys : List D), plains xs = true → plains ys = true → PyData.eqvAll (toPys xs) (toPys ys) = eqds xs ys
  | [], [], _, _ => rfl
  | [], _ :: _, _, _ => rfl
  | _ :: _, [], _, _ => rfl
  | x :: xs, y :: ys, hx, hy => by
    simp only [plains, Bool.and_eq_true] at hx hy
    simp only [toPys, PyData.eqvAll, eqds, eqv_toPy x y hx.1 hy.1, eqvAll_toPys xs ys hx.2 hy.2]
end
mutual
theorem canLay_toPy : ∀ x : D, plain x = true → (toPy x).canLay0 = true
  | .non, _ => rfl
  | .bl _, _ => rfl
  | .int _, _ => rfl
  | .str z, h => by simpa only [toPy, PyData.canLay0, plain] using h
  | .tup xs, h => by simp only [toPy, PyData.canLay0]; exact canLay_toPys xs (by simpa only [plain] using h)
  | .lst xs, h => by simp only [toPy, PyData.canLay0]; exact canLay_toPys xs (by simpa only [plain] using h)
  | .dic _ _, h => absurd (show false = true from h) Bool.false_ne_true
  | .ref _, h => absurd (show false = true from h) Bool.false_ne_true
  | .ty _, h => absurd (show false = true from h) Bool.false_ne_true
  | .obj _ _ _ _, h => absurd (show false = true from h) Bool.false_ne_true
  | .scr _, h => absurd (show false = true from h) Bool.false_ne_true
theorem canLay_toPys : ∀ xs : List D, plains xs = true → PyData.canLayAll0 (toPys xs) = true
  | [], _ => rfl
  | x :: xs, h => by
    simp only [plains, Bool.and_eq_true] at h
    simp only [toPys, PyData.canLayAll0, canLay_toPy x h.1, canLay_toPys xs h.2, Bool.and_self]
end
mutual
theorem depth_toPy : ∀ x : D, plain x = true → (toPy x).depth = dep x
  | .non, _ => rfl
  | .bl _, _ => rfl
  | .int _, _ => rfl
  | .str z, h => rfl
  | .tup xs, h => by simp only [toPy, PyData.depth, dep]; rw [depth_toPys xs (by simpa only [plain] using h)]
  | .lst xs, h => by simp only [toPy, PyData.depth, dep]; rw [depth_toPys xs (by simpa only [plain] using h)]
  | .dic _ _, h => absurd (show false = true from h) Bool.false_ne_true
  | .ref _, h => absurd (show false = true from h) Bool.false_ne_true
  | .ty _, h => absurd (show false = true from h) Bool.false_ne_true
  | .obj _ _ _ _, h => absurd (show false = true from h) Bool.false_ne_true
  | .scr _, h => absurd (show false = true from h) Bool.false_ne_true
theorem depth_toPys : ∀ xs : List D, plains xs = true → PyData.depthAll (toPys xs) = deps xs
  | [], _ => rfl
  | x :: xs, h => by
    simp only [plains, Bool.and_eq_true] at h
    simp only [toPys, PyData.depthAll, deps, depth_toPy x h.1, depth_toPys xs h.2]
end
theorem shaped_toPy {x : D} (h : plain x = true) (hd : dep x ≤ 64) : SeqAt.shaped (toPy x) = true := by
  unfold SeqAt.shaped
  rw [canLay_toPy x h, depth_toPy x h]
  simp [hd]
end DL
namespace DL
open PySem PySem.Spec PyProof.Rows L2
mutual
def hasDic : D → Bool
  | .tup xs => hasDics xs
  | .lst xs => hasDics xs
  | .dic _ _ => true
  | _ => false
def hasDics : List D → Bool
  | [] => false
  | x :: xs => hasDic x || hasDics xs
end
mutual
def noLst : D → Bool
  | .tup xs => noLsts xs
  | .lst _ => false
  | .dic _ xs => noLsts xs
  | _ => true
def noLsts : List D → Bool
  | [] => true
  | x :: xs => noLst x && noLsts xs
end
theorem toPys_length : ∀ xs : List D, (toPys xs).length = xs.length
  | [] => rfl
  | x :: xs => by simp [toPys, toPys_length xs]
theorem readsAll_of {h : Heap} : ∀ {us : List Value} {ks : List Key}, Paired (fun k u => keyIs k u = true) ks us → ReadsAll h us (ks.map keyPy) []
  | _, _, .nil => .nil
  | _, k :: ks, .cons (b := u) r t => by
    have := readsAll_of (h := h) t
    have hr : Reads h u (keyPy k) [] := by
      rcases keyIs_shape r with ⟨i, t, rfl, rfl⟩ | ⟨x, t, rfl, rfl⟩
      · exact .int i t
      · exact .str x t
    exact .cons hr this
theorem kv_split {kvs : List (Key × V)} {vs : List (Key × Value)} : KV kvs vs → kvs.map (·.1) = vs.map (·.1) ∧ Vals (kvs.map (·.2)) (vs.map (·.2))
  | .nil => ⟨rfl, .nil⟩
  | .cons r t => by
    obtain ⟨a, b⟩ := kv_split t
    exact ⟨by simp only [List.map_cons, a, r.1], .cons r.2 b⟩
theorem pairs_split {P : Program} {w : World} : ∀ {es : List DictEntry} {kvs : List (Key × Value)}, Pairs (mixKind P w) es kvs → Paired (fun k u => keyIs k u = true) (kvs.map (·.1)) (es.map (·.key)) ∧ es.map (·.val) = kvs.map (·.2)
  | _, _, .nil => ⟨.nil, rfl⟩
  | _, _, .cons r e t => by
    obtain ⟨a, b⟩ := pairs_split t
    exact ⟨.cons r a, by simp only [List.map_cons, b, e]⟩
section
variable {X : Cx} {pins : List (Addr × Obj)} {σ : L2.St} {H : Hp} {s : Shared} {F : Addr → Prop} {M : MS}
variable {O : Og X.K}
mutual
theorem Rep.reads (I : Inv X pins σ H s) : ∀ (d : D) (v : V) (u : Value), Rep X.K F H d v → RelV v u → still d = true → ∃ as, Reads s.heap u (toPy d) as ∧ (H sysModules = none → sysModules ∉ as)
  | .non, v, u, h, r, _ => by
    have : v = .non := h
    subst this; cases r
    exact ⟨_, .none, by simp⟩
  | .bl b, v, u, h, r, _ => by
    have : v = .bl b := h
    subst this; cases r
    exact ⟨_, .bool b, by simp⟩
  | .int i, v, u, h, r, _ => by
    have : v = .int i := h
    subst this
    obtain ⟨t, rfl⟩ := r
    exact ⟨_, .int i t, by simp⟩
  | .str z, v, u, h, r, _ => by
    have : v = .str z := h
    subst this
    obtain ⟨t, rfl⟩ := r
    exact ⟨_, .str z t, by simp⟩
  | .tup xs, v, u, h, r, hs => by
    simp only [Rep] at h
    obtain ⟨a, vs, e, hq, hr⟩ := h
    subst e; cases r
    obtain ⟨its, rv, ⟨o, ho, hc, n, hd⟩, _⟩ := I.tuple hq
    obtain ⟨as, q, hn⟩ := Reps.reads I xs vs its hr rv (by simpa only [still] using hs)
    exact ⟨_, .tuple ho hc hd q, hn⟩
  | .lst xs, v, u, h, r, hs => by
    simp only [Rep] at h
    obtain ⟨a, vs, e, _, hq, hr⟩ := h
    subst e; cases r
    obtain ⟨its, rv, ⟨o, n, ho, hc, _, hd⟩, _⟩ := I.list (SqL.of hq)
    obtain ⟨as, q, hn⟩ := Reps.reads I xs vs its hr rv (by simpa only [still] using hs)
    exact ⟨_, .list ho hc hd q, fun hz => by
      simp only [List.mem_cons, not_or]
      exact ⟨fun w => by (rw [← w, hz] at hq; cases hq), hn hz⟩⟩
  | .dic ks xs, v, u, h, r, hs => by
    simp only [still, Bool.and_eq_true, beq_iff_eq] at hs
    simp only [Rep] at h
    obtain ⟨a, vs, e, _, hq, hl, hr⟩ := h
    subst e; cases r
    obtain ⟨_, hne, kvs, hkv, o, es, n, ho, hc, hd, _, hp, _⟩ := I.hok a _ hq
    obtain ⟨e1, rv⟩ := kv_split hkv
    have hkl : (ks.zip vs).map (·.1) = ks := by rw [List.map_fst_zip]; rw [← hr.length, hl]; exact Nat.le_refl _
    have hvl : (ks.zip vs).map (·.2) = vs := by rw [List.map_snd_zip]; rw [← hr.length, hl]; exact Nat.le_refl _
    rw [hkl] at e1
    rw [hvl] at rv
    obtain ⟨pk, pv⟩ := pairs_split hp
    rw [← e1] at pk
    rw [← pv] at rv
    obtain ⟨as, q, hn⟩ := Reps.reads I xs vs _ hr rv hs.1
    have hpl : (toPys xs).length = ks.length := by rw [toPys_length, ← hs.2]
    refine ⟨_, .dict (kvs := (ks.map keyPy).zip (toPys xs)) ho hc.1 hd (as := []) (bs := as) ?_ ?_, fun hz => ?_⟩
    · rw [List.map_fst_zip (by simp [hpl])]
      exact readsAll_of pk
    · rw [List.map_snd_zip (by simp [hpl])]
      exact q
    · simp only [List.append_nil, List.singleton_append, List.mem_cons, not_or]
      exact ⟨fun w => by (subst w; simp at hne), hn hz⟩
  | .ref _, _, _, _, _, hs => absurd (show false = true from hs) Bool.false_ne_true
  | .scr _, _, _, _, _, hs => absurd (show false = true from hs) Bool.false_ne_true
  | .ty _, _, _, _, _, hs => absurd (show false = true from hs) Bool.false_ne_true
  | .obj _ _ _ _, _, _, _, _, hs => absurd (show false = true from hs) Bool.false_ne_true
theorem Reps.reads (I : Inv X pins σ H s) : ∀ (ds : List D) (vs : List V) (us : List Value), Reps X.K F H ds vs → Vals vs us → stills ds = true → ∃ as, ReadsAll s.heap us (toPys ds) as ∧ (H sysModules = none → sysModules ∉ as)
  | [], vs, us, h, r, _ => by
    simp only [Reps] at h
    subst h; cases r
    exact ⟨_, .nil, by simp⟩
  | d :: ds, vs, us, h, r, hs => by
    simp only [stills, Bool.and_eq_true] at hs
    simp only [Reps] at h
    obtain ⟨v, vr, e, h1, h2⟩ := h
    subst e
    cases r with
    | cons r1 r2 =>
      obtain ⟨as, q1, n1⟩ := Rep.reads I d v _ h1 r1 hs.1
      obtain ⟨bs, q2, n2⟩ := Reps.reads I ds vr _ h2 r2 hs.2
      refine ⟨_, .cons q1 q2, fun hz => ?_⟩
      simp only [List.mem_append, not_or]
      exact ⟨n1 hz, n2 hz⟩
end
end
theorem snaps_length {M : MS} : ∀ xs : List D, (snaps M xs).length = xs.length
  | [] => rfl
  | x :: xs => by simp [snaps, snaps_length xs]
section
variable {K : PySem.W.Frag} {H : Hp} {F : Addr → Prop} {M : MS}
mutual
theorem Rep.snap (am : AbsM K F H M) : ∀ {d : D} {v : V}, Rep K F H d v → Rep K (fun _ => True) H (snap M d) v
  | .non, _, h => h
  | .bl _, _, h => h
  | .int _, _, h => h
  | .str _, _, h => h
  | .ty _, _, h => h
  | .obj _ _ _ _, _, h => by
    simp only [DL.snap]
    exact h.mono (Le.refl.grow fun _ _ => trivial)
  | .scr _, _, h => by simpa only [DL.snap, Rep] using h
  | .tup xs, v, h => by
    simp only [DL.snap, Rep] at h ⊢
    obtain ⟨a, vs, e, s, r⟩ := h
    exact ⟨a, vs, e, s, Reps.snap am r⟩
  | .lst xs, v, h => by
    simp only [DL.snap, Rep] at h ⊢
    obtain ⟨a, vs, e, f, s, r⟩ := h
    exact ⟨a, vs, e, trivial, s, Reps.snap am r⟩
  | .dic ks xs, v, h => by
    simp only [DL.snap, Rep] at h ⊢
    obtain ⟨a, vs, e, f, s, n, r⟩ := h
    exact ⟨a, vs, e, trivial, s, by rw [n]; exact (snaps_length _).symm, Reps.snap am r⟩
  | .ref a, v, h => by
    simp only [DL.snap]
    split
    · rename_i ds e
      obtain ⟨_, vs, h1, h2⟩ := am.mp a _ e
      simp only [Rep] at h ⊢
      exact ⟨a, vs, h, trivial, h1, h2.mono (Le.refl.grow fun _ _ => trivial)⟩
    · exact h
theorem Reps.snap (am : AbsM K F H M) : ∀ {ds : List D} {vs : List V}, Reps K F H ds vs → Reps K (fun _ => True) H (snaps M ds) vs
  | [], _, h => h
  | x :: xs, vs, h => by
    simp only [snaps, Reps] at h ⊢
    obtain ⟨v, r, e, h1, h2⟩ := h
    exact ⟨v, r, e, Rep.snap am h1, Reps.snap am h2⟩
end
end
structure EqOk (x : D) : Prop where
  pl : plain x = true
  dp : dep x ≤ 60
def rEq (x y : D) (M : MS) (Φ : DQ) : Prop := (∃ a b : Str, x = .str a ∧ y = .str b ∧ Φ (.bl (a == b)) M) ∨ (EqOk (snap M x) ∧ EqOk (snap M y) ∧ Φ (.bl (eqd (snap M x) (snap M y))) M) ∨ (∃ xs ys, seqL M x = some xs ∧ seqL M y = some ys ∧ xs.length ≠ ys.length ∧ Φ (.bl false) M)
def rNe (x y : D) (M : MS) (Φ : DQ) : Prop := (∃ a b : Str, x = .str a ∧ y = .str b ∧ Φ (.bl (!(a == b))) M) ∨ (EqOk (snap M x) ∧ EqOk (snap M y) ∧ Φ (.bl (!eqd (snap M x) (snap M y))) M) ∨ (∃ xs ys, seqL M x = some xs ∧ seqL M y = some ys ∧ xs.length ≠ ys.length ∧ Φ (.bl true) M)
mutual
theorem still_of_plain : ∀ x : D, plain x = true → still x = true
  | .non, _ => rfl
  | .bl _, _ => rfl
  | .int _, _ => rfl
  | .str _, _ => rfl
  | .tup xs, h => by simp only [still]; exact stills_of_plains xs (by simpa only [plain] using h)
  | .lst xs, h => by simp only [still]; exact stills_of_plains xs (by simpa only [plain] using h)
  | .dic _ _, h => absurd (show false = true from h) Bool.false_ne_true
  | .ref _, h => absurd (show false = true from h) Bool.false_ne_true
  | .scr _, h => absurd (show false = true from h) Bool.false_ne_true
  | .ty _, h => absurd (show false = true from h) Bool.false_ne_true
  | .obj _ _ _ _, h => absurd (show false = true from h) Bool.false_ne_true
theorem stills_of_plains : ∀ xs : List D, plains xs = true → stills xs = true
  | [], _ => rfl
  | x :: xs, h => by
    simp only [plains, Bool.and_eq_true] at h
    simp only [stills, still_of_plain x h.1, stills_of_plains xs h.2, Bool.and_self]
end
section
variable {X : Cx}
variable {O : Og X.K}
theorem o_eq (hu : X.A.units + 64 < cLine) : OpR X (compareOp .Eq) (loR X.K rEq) := by
  rintro pins s σ H vx vy v u Q I r1 r2 ⟨F, M, x, y, Φ, am, rx, ry, ⟨a, b, rfl, rfl, h⟩ | ⟨ex, ey, h⟩ | ⟨xs, ys, ex, ey, ne, h⟩, k⟩
  · have e1 := rep_str rx
    have e2 := rep_str ry
    subst e1 e2
    refine op_eq pins s σ H _ _ v u Q I r1 r2 ⟨rfl, k _ _ (hB am ?_)⟩
    rw [show decide (V.str a = V.str b) = (a == b) by rw [Bool.eq_iff_iff]; simp]
    exact h
  · obtain ⟨as, q1, _⟩ := Rep.reads I _ _ _ (rx.snap am) r1 (still_of_plain _ ex.pl)
    obtain ⟨bs, q2, _⟩ := Rep.reads I _ _ _ (ry.snap am) r2 (still_of_plain _ ey.pl)
    refine SeqAt.compareEq_shaped q1 q2 (shaped_toPy ex.pl (by have := ex.dp; omega)) (shaped_toPy ey.pl (by have := ey.dp; omega)) hu ?_
    rw [eqv_toPy _ _ ex.pl ey.pl]
    exact ⟨.bl _, H, I, rfl, k _ _ (hB am h)⟩
  · obtain ⟨a, vs, e1, g1, p1⟩ := seqL_rep am rx ex
    obtain ⟨b, ws, e2, g2, p2⟩ := seqL_rep am ry ey
    subst e1 e2
    obtain rfl : v = Value.ref a := r1
    obtain rfl : u = Value.ref b := r2
    obtain ⟨us1, rv1, l1, _⟩ := I.list (SqL.of g1)
    obtain ⟨us2, rv2, l2, _⟩ := I.list (SqL.of g2)
    refine SeqAt.RcAt.lists_lengths l1.isList l2.isList ?_ (by omega) _ _ _ _ ⟨.bl _, H, I, rfl, k _ _ (hB am h)⟩
    have n1 := p1.length
    have n2 := p2.length
    have n3 := rv1.length
    have n4 := rv2.length
    simp only [List.size_toArray, bne_iff_ne, ne_eq]
    omega
theorem o_ne (hu : X.A.units + 64 < cLine) : OpR X (compareOp .NotEq) (loR X.K rNe) := by
  rintro pins s σ H vx vy v u Q I r1 r2 ⟨F, M, x, y, Φ, am, rx, ry, ⟨a, b, rfl, rfl, h⟩ | ⟨ex, ey, h⟩ | ⟨xs, ys, ex, ey, ne, h⟩, k⟩
  · have e1 := rep_str rx
    have e2 := rep_str ry
    subst e1 e2
    refine op_ne pins s σ H _ _ v u Q I r1 r2 ⟨rfl, k _ _ (hB am ?_)⟩
    rw [show decide (V.str a = V.str b) = (a == b) by rw [Bool.eq_iff_iff]; simp]
    exact h
  · obtain ⟨as, q1, _⟩ := Rep.reads I _ _ _ (rx.snap am) r1 (still_of_plain _ ex.pl)
    obtain ⟨bs, q2, _⟩ := Rep.reads I _ _ _ (ry.snap am) r2 (still_of_plain _ ey.pl)
    refine SeqAt.compareNe_shaped q1 q2 (shaped_toPy ex.pl (by have := ex.dp; omega)) (shaped_toPy ey.pl (by have := ey.dp; omega)) hu ?_
    rw [eqv_toPy _ _ ex.pl ey.pl]
    exact ⟨.bl _, H, I, rfl, k _ _ (hB am h)⟩
  · obtain ⟨a, vs, e1, g1, p1⟩ := seqL_rep am rx ex
    obtain ⟨b, ws, e2, g2, p2⟩ := seqL_rep am ry ey
    subst e1 e2
    obtain rfl : v = Value.ref a := r1
    obtain rfl : u = Value.ref b := r2
    obtain ⟨us1, rv1, l1, _⟩ := I.list (SqL.of g1)
    obtain ⟨us2, rv2, l2, _⟩ := I.list (SqL.of g2)
    refine SeqAt.RcNeAt.lists_lengths l1.isList l2.isList ?_ (by omega) _ _ _ _ ⟨.bl _, H, I, rfl, k _ _ (hB am h)⟩
    have n1 := p1.length
    have n2 := p2.length
    have n3 := rv1.length
    have n4 := rv2.length
    simp only [List.size_toArray, bne_iff_ne, ne_eq]
    omega
end
end DL
namespace DL
open PySem PySem.Spec PyProof.Rows L2
def flatD : D → Bool
  | .non => true
  | .bl _ => true
  | .int _ => true
  | .str _ => true
  | _ => false
def inD (x : D) (xs : List D) : Bool := xs.any fun y => eqd y x
def rIn (neg : Bool) (x y : D) (M : MS) (Φ : DQ) : Prop := match seqA M y with
  | some xs => flatD x = true ∧ xs.all flatD = true ∧ Φ (.bl (if neg then !inD x xs else inD x xs)) M
  | none => match x, y with
    | .str a, .str b => Φ (.bl (if neg then !(!(Builtin.Str.occurrences b a 0 b.length 1).isEmpty) else !(Builtin.Str.occurrences b a 0 b.length 1).isEmpty)) M
    | _, _ => False
def isN : D → Bool
  | .non => true
  | _ => false
/-- is: None on the right, or two truth values -/
def rIs (neg : Bool) (x y : D) (M : MS) (Φ : DQ) : Prop := match y with
  | .non => Φ (.bl (if neg then !isN x else isN x)) M
  | .bl b => (match x with
    | .bl a => Φ (.bl (if neg then !(a == b) else (a == b))) M
    | _ => False)
  | _ => False
section
variable {K : PySem.W.Frag} {F : Addr → Prop} {H : Hp} {x : D} {v : V}
theorem flat_rep (h : flatD x = true) (r : Rep K F H x v) : flatV v = true := by
  cases x <;> first
    | exact absurd (show false = true from h) Bool.false_ne_true
    | (simp only [Rep] at r; subst r; rfl)
theorem eq_rep {y : D} {w : V} (h : flatD x = true) (h' : flatD y = true) (r : Rep K F H x v) (r' : Rep K F H y w) : eqV v w = eqd x y := by
  cases x <;> cases y <;> first
    | exact absurd (show false = true from h) Bool.false_ne_true
    | exact absurd (show false = true from h') Bool.false_ne_true
    | (simp only [Rep] at r r'; subst r r'; simp only [eqV, eqd])
theorem flats_rep : ∀ {xs : List D} {vs : List V}, xs.all flatD = true → Reps K F H xs vs → vs.all flatV = true
  | [], _, _, r => by simp only [Reps] at r; subst r; rfl
  | x :: xs, _, h, r => by
    simp only [List.all_cons, Bool.and_eq_true] at h
    simp only [Reps] at r
    obtain ⟨v, vr, e, h1, h2⟩ := r
    subst e
    simp only [List.all_cons, flat_rep h.1 h1, flats_rep h.2 h2, Bool.and_self]
theorem in_rep (hx : flatD x = true) (r : Rep K F H x v) : ∀ {xs : List D} {vs : List V}, xs.all flatD = true → Reps K F H xs vs → inV v vs = inD x xs
  | [], _, _, r' => by simp only [Reps] at r'; subst r'; rfl
  | y :: xs, _, h, r' => by
    simp only [List.all_cons, Bool.and_eq_true] at h
    simp only [Reps] at r'
    obtain ⟨w, vr, e, h1, h2⟩ := r'
    subst e
    have ih := in_rep hx r h.2 h2
    unfold inV inD at *
    simp only [List.any_cons, eq_rep h.1 hx h1 r, ih]
theorem rep_obj_ref {t : Kd} {n : Str} {ks : List Str} {xs : List D} (r : Rep K F H (.obj t n ks xs) v) : ∃ a, v = .ref a := by
  cases t with
  | fn => exact ⟨_, by simpa only [Rep] using r⟩
  | cls => simp only [Rep] at r; exact ⟨_, r.1⟩
  | ins => simp only [Rep] at r; obtain ⟨_, a, _, _, e, _⟩ := r; exact ⟨a, e⟩
  | exc => simp only [Rep] at r; obtain ⟨_, a, _, _, e, _⟩ := r; exact ⟨a, e⟩
theorem isN_rep (r : Rep K F H x v) : decide (v = .non) = isN x := by
  cases x with
  | non => simp only [Rep] at r; subst r; rfl
  | bl b => simp only [Rep] at r; subst r; rfl
  | int b => simp only [Rep] at r; subst r; rfl
  | str b => simp only [Rep] at r; subst r; rfl
  | ref b => simp only [Rep] at r; subst r; rfl
  | ty b => simp only [Rep] at r; subst r; rfl
  | tup _ => simp only [Rep] at r; obtain ⟨a, _, e, _⟩ := r; subst e; rfl
  | lst _ => simp only [Rep] at r; obtain ⟨a, _, e, _⟩ := r; subst e; rfl
  | dic _ _ => simp only [Rep] at r; obtain ⟨a, _, e, _⟩ := r; subst e; rfl
  | scr _ => simp only [Rep] at r; obtain ⟨a, e, _⟩ := r; subst e; rfl
  | obj _ _ _ _ => obtain ⟨a, e⟩ := rep_obj_ref r; subst e; rfl
end
section
variable {X : Cx}
variable {O : Og X.K}
theorem o_in : OpR X (compareOp .In) (loR X.K (rIn false)) := by
  rintro pins s σ H vx vy v u Q I r1 r2 ⟨F, M, x, y, Φ, am, rx, ry, h, k⟩
  unfold rIn at h
  split at h
  · rename_i xs e
    obtain ⟨fx, fs, q⟩ := h
    obtain ⟨a, vs, e1, hq, p1⟩ := seqA_rep am ry e
    refine op_in_seq pins s σ H vx vy v u Q I r1 r2 ⟨a, vs, e1, hq, flat_rep fx rx, flats_rep fs p1, ?_⟩
    rw [in_rep fx rx fs p1]
    exact k _ _ (hB am q)
  · split at h
    · rename_i a b _
      exact op_in_str pins s σ H vx vy v u Q I r1 r2 ⟨a, b, rx, ry, k _ _ (hB am h)⟩
    · exact h.elim
theorem o_is : OpR X (compareOp .Is) (loR X.K (rIs false)) := by
  rintro pins s σ H vx vy v u Q I r1 r2 ⟨F, M, x, y, Φ, am, rx, ry, h, k⟩
  cases y with
  | non =>
    refine op_isN pins s σ H vx vy v u Q I r1 r2 ⟨ry, ?_⟩
    rw [isN_rep rx]
    exact k _ _ (hB am h)
  | bl b =>
    cases x with
    | bl a =>
      refine op_is_bl pins s σ H vx vy v u Q I r1 r2 ⟨a, b, rx, ry, ?_⟩
      rw [show decide (a = b) = (a == b) by cases a <;> cases b <;> rfl]
      exact k _ _ (hB am h)
    | _ => exact (show False from h).elim
  | _ => exact (show False from h).elim
end
def tyD (M : MS) : D → Option Ty
  | .non => some .none
  | .bl _ => some .bool
  | .int _ => some .int
  | .str _ => some .str
  | .tup _ => some .tuple
  | .lst _ => some .list
  | .dic _ _ => some .dict
  | .scr _ => some .list
  | .ref a => match M.map a with
    | some (.lst _) => some .list
    | _ => none
  | .ty _ => none
  | .obj _ _ _ _ => none
def isaT : Ty → Ty → Bool
  | .bool, .int => true
  | a, b => decide (a = b)
theorem kit_isa : ∀ (a b : Ty), b ≠ .none → kitB a.name b.name = some (isaT a b) := by
  intro a b h
  cases b <;> first
    | exact absurd rfl h
    | (cases a <;> decide +kernel)
section
variable {X : Cx} {H : Hp} {F : Addr → Prop} {M : MS}
variable {O : Og X.K}
theorem ty_rep {K : PySem.W.Frag} {x : D} {v : V} {t : Ty} (am : AbsM K F H M) (r : Rep K F H x v) (h : tyD M x = some t) : TyX K H v (.type t.name) := by
  cases x with
  | non => simp only [Rep] at r; simp only [tyD, Option.some.injEq] at h; subst r h; exact .base .non
  | bl b => simp only [Rep] at r; simp only [tyD, Option.some.injEq] at h; subst r h; exact .base (.bl b)
  | int b => simp only [Rep] at r; simp only [tyD, Option.some.injEq] at h; subst r h; exact .base (.int b)
  | str b => simp only [Rep] at r; simp only [tyD, Option.some.injEq] at h; subst r h; exact .base (.str b)
  | ty b => simp [tyD] at h
  | obj _ _ _ _ => simp [tyD] at h
  | tup _ =>
    simp only [Rep] at r; simp only [tyD, Option.some.injEq] at h; subst h
    obtain ⟨a, _, e, hq, _⟩ := r
    subst e
    rcases hq with (hq | ⟨o, hq⟩) | ⟨o, its, n, hk, hc, _⟩
    · exact .base (.tup hq)
    · exact .fTuple hq
    · exact .kTuple hk hc
  | lst _ =>
    simp only [Rep] at r; simp only [tyD, Option.some.injEq] at h; subst h
    obtain ⟨a, _, e, _, hq, _⟩ := r
    subst e
    exact .base (.lst hq)
  | dic _ _ =>
    simp only [Rep] at r; simp only [tyD, Option.some.injEq] at h; subst h
    obtain ⟨a, _, e, _, hq, _⟩ := r
    subst e
    exact .base (.dK hq)
  | scr _ =>
    simp only [Rep] at r; simp only [tyD, Option.some.injEq] at h; subst h
    obtain ⟨a, e, hq⟩ := r
    subst e
    rcases hq.sq with (hq | ⟨o, hq⟩) | ⟨o, its, n, hk, hc, _⟩
    · exact .base (.lst hq)
    · exact .base (.frz hq)
    · exact .kList hk hc
  | ref a =>
    simp only [tyD] at h
    split at h
    · rename_i ds e
      cases h
      simp only [Rep] at r
      subst r
      obtain ⟨_, vs, h1, _⟩ := am.mp a _ e
      exact .base (.lst h1)
    · cases h
def tysOf : List D → Option (List Ty)
  | [] => some []
  | .ty t :: r => (tysOf r).map (t :: ·)
  | _ => none
def rIsi (args : List D) (M : MS) (Φ : DQ) : Prop := match args with
  | [x, .ty c] => (match tyD M x with
    | some t => c ≠ .none ∧ Φ (.bl (isaT t c)) M
    | none => False)
  | [x, .tup cs] => (match tyD M x, tysOf cs with
    | some t, some ts => (∀ c ∈ ts, c ≠ .none) ∧ Φ (.bl (ts.any (isaT t))) M
    | _, _ => False)
  | _ => False
theorem tys_rep {K : PySem.W.Frag} : ∀ {cs : List D} {vs : List V} {ts : List Ty}, Reps K F H cs vs → tysOf cs = some ts → Paired ClsV vs (ts.map fun t => Value.type t.name)
  | [], _, _, r, h => by
    simp only [Reps] at r; simp only [tysOf, Option.some.injEq] at h
    subst r h
    exact .nil
  | c :: cs, _, ts, r, h => by
    cases c with
    | ty t =>
      simp only [tysOf, Option.map_eq_some_iff] at h
      obtain ⟨us, h1, h2⟩ := h
      subst h2
      simp only [Reps, Rep] at r
      obtain ⟨v, vr, e, rfl, h3⟩ := r
      subst e
      exact .cons (.ty _) (tys_rep h3 h1)
    | _ => simp [tysOf] at h
theorem kit_any {K : PySem.W.Frag} {t : Ty} : ∀ {ts : List Ty}, (∀ c ∈ ts, c ≠ .none) → PySem.W.kitAny K (.type t.name) (ts.map fun t => Value.type t.name) = some (ts.any (isaT t))
  | [], _ => kitAny_nil
  | c :: cs, h => by
    have ih := kit_any (K := K) (t := t) (ts := cs) fun c hc => h c (List.mem_cons_of_mem _ hc)
    refine kitAny_cons (b := isaT t c) (kit_ty (kit_isa t c (h c (List.mem_cons_self ..)))) (fun z => ?_) (fun z => ?_)
    · rw [ih]; simp [z]
    · simp [z]
theorem c_isi : CallR X (.builtin "isinstance") (loC X.K rIsi) := by
  rintro pins s σ H vs us Q I r ⟨F, M, ds, Φ, am, rs, h, k⟩
  unfold rIsi at h
  split at h
  · rename_i x c
    simp only [Reps, Rep] at rs
    obtain ⟨v, _, e, rx, w, _, rfl, rfl, rfl⟩ := rs
    subst e
    split at h
    · rename_i t et
      exact call_isi pins s σ H _ us Q I r ⟨v, _, _, _, _, rfl, .ty _, ty_rep am rx et, kit_ty (kit_isa t c h.1), k _ _ (hB am h.2)⟩
    · exact h.elim
  · rename_i x cs
    simp only [Reps] at rs
    obtain ⟨v, _, e, rx, w, _, rfl, rc, rfl⟩ := rs
    subst e
    obtain ⟨tp, ws, rfl, hq, rw⟩ := rep_tup rc
    split at h
    · rename_i t ts et ets
      have hc := tys_rep rw ets
      have ka := kit_any (K := X.K) (t := t) h.1
      obtain ⟨u1, u2, rfl, r1, r2⟩ := vals2 r
      cases r2
      obtain ⟨its, rv, ⟨⟨oc, od, dt, sl⟩, ho, hcl, n, hd⟩, _⟩ := I.tuple hq
      have e2 := ClsV.all hc rv
      subst e2
      simp only at hcl hd
      subst hcl hd
      obtain ⟨P, Z, p, hx⟩ := kit_of I r1 (ty_rep am rx et)
      exact PySem.W.kia_tup Z I.kIn p ho ka hx fun tk => ⟨.bl _, H, I.tok tk, rfl, k _ _ (hB am h.2)⟩
    · exact h.elim
  · exact h.elim
end
def rLen (args : List D) (M : MS) (Φ : DQ) : Prop := match args with
  | [.str z] => z.length ≤ 1000000 ∧ Φ (.int z.length) M
  | [x] => (match seqA M x with
    | some xs => Φ (.int xs.length) M
    | none => False)
  | _ => False
def b2 : Bool → Int
  | true => 1
  | false => 0
def rInt (args : List D) (M : MS) (Φ : DQ) : Prop := match args with
  | [.int i] => Φ (.int i) M
  | [.bl b] => Φ (.int (b2 b)) M
  | _ => False
def rAbs (args : List D) (M : MS) (Φ : DQ) : Prop := match args with
  | [.int i] => Φ (.int (if i < 0 then -i else i)) M
  | _ => False
def rStr (args : List D) (M : MS) (Φ : DQ) : Prop := match args with
  | [.int i] => i.natAbs.log2 < 1920 ∧ Φ (.str (toString i)) M
  | _ => False
section
variable {X : Cx}
variable {O : Og X.K}
theorem sz6 {n : Nat} (h : n ≤ 1000000) : n ≤ sizeLine := Nat.le_trans h (by decide)
theorem c_len : CallR X (.builtin "len") (loC X.K rLen) := by
  rintro pins s σ H vs us Q I r ⟨F, M, ds, Φ, am, rs, h, k⟩
  unfold rLen at h
  split at h
  · rename_i z
    simp only [Reps, Rep] at rs
    obtain ⟨v, _, e, rfl, rfl⟩ := rs
    subst e
    exact call_len_str pins s σ H _ us Q I r ⟨z, rfl, sz6 h.1, k _ _ (hI am h.2)⟩
  · rename_i x _
    simp only [Reps] at rs
    obtain ⟨v, _, e, rx, rfl⟩ := rs
    subst e
    split at h
    · rename_i xs ex
      obtain ⟨a, ws, rfl, hq, p⟩ := seqA_rep am rx ex
      refine call_len_seq pins s σ H _ us Q I r ⟨a, ws, rfl, hq, ?_⟩
      rw [← p.length]
      exact k _ _ (hI am h)
    · exact h.elim
  · exact h.elim
theorem c_int : CallR X (.type "int") (loC X.K rInt) := by
  rintro pins s σ H vs us Q I r ⟨F, M, ds, Φ, am, rs, h, k⟩
  unfold rInt at h
  split at h
  · simp only [Reps, Rep] at rs
    obtain ⟨v, _, e, rfl, rfl⟩ := rs
    subst e
    exact call_int1 pins s σ H _ us Q I r (.inl ⟨_, rfl, k _ _ (hI am h)⟩)
  · rename_i b
    simp only [Reps, Rep] at rs
    obtain ⟨v, _, e, rfl, rfl⟩ := rs
    subst e
    refine call_int1 pins s σ H _ us Q I r (.inr ⟨b, rfl, ?_⟩)
    have e : (if b = true then (1 : Int) else 0) = b2 b := by cases b <;> rfl
    rw [e]
    exact k _ _ (hI am h)
  · exact h.elim
theorem c_abs : CallR X (.builtin "abs") (loC X.K rAbs) := by
  rintro pins s σ H vs us Q I r ⟨F, M, ds, Φ, am, rs, h, k⟩
  unfold rAbs at h
  split at h
  · simp only [Reps, Rep] at rs
    obtain ⟨v, _, e, rfl, rfl⟩ := rs
    subst e
    exact call_abs pins s σ H _ us Q I r ⟨_, rfl, k _ _ (hI am h)⟩
  · exact h.elim
theorem c_str : CallR X (.type "str") (loC X.K rStr) := by
  rintro pins s σ H vs us Q I r ⟨F, M, ds, Φ, am, rs, h, k⟩
  unfold rStr at h
  split at h
  · simp only [Reps, Rep] at rs
    obtain ⟨v, _, e, rfl, rfl⟩ := rs
    subst e
    exact call_str_int pins s σ H _ us Q I r ⟨_, rfl, h.1, k _ _ (hS am h.2)⟩
  · exact h.elim
end
def rTuple (args : List D) (M : MS) (Φ : DQ) : Prop := match args with
  | [x] => (match seqA M x with
    | some xs => Φ (.tup xs) M
    | none => False)
  | _ => False
def rListM (args : List D) (M : MS) (Φ : DQ) : Prop := match args with
  | [x] => (match seqA M x with
    | some xs => ∀ p, M.map p = none → Φ (.ref p) (M.put p (.lst xs))
    | none => False)
  | _ => False
section
variable {X : Cx}
variable {O : Og X.K}
theorem c_tuple : CallR X (.type "tuple") (loC X.K rTuple) := by
  rintro pins s σ H vs us Q I r ⟨F, M, ds, Φ, am, rs, h, k⟩
  unfold rTuple at h
  split at h
  · rename_i x
    simp only [Reps] at rs
    obtain ⟨v, _, e, rx, rfl⟩ := rs
    subst e
    split at h
    · rename_i xs ex
      obtain ⟨a, ws, rfl, hq, p⟩ := seqA_rep am rx ex
      refine call_tuple_of pins s σ H _ us Q I r ⟨a, ws, rfl, ?_⟩
      rcases hq with hq | hq
      · exact .inl ⟨hq, fun l hl => k _ _ (new_tup am p h hl)⟩
      · refine .inr ⟨hq, k _ _ (loQ.here am ?_ h)⟩
        simp only [Rep]
        exact ⟨a, ws, rfl, hq, p⟩
    · exact h.elim
  · exact h.elim
theorem c_listM : CallR X (.type "list") (loC X.K rListM) := by
  rintro pins s σ H vs us Q I r ⟨F, M, ds, Φ, am, rs, h, k⟩
  unfold rListM at h
  split at h
  · rename_i x
    simp only [Reps] at rs
    obtain ⟨v, _, e, rx, rfl⟩ := rs
    subst e
    split at h
    · rename_i xs ex
      obtain ⟨a, ws, rfl, hq, p⟩ := seqA_rep am rx ex
      exact call_list_of pins s σ H _ us Q I r ⟨a, ws, rfl, hq, fun l hl => k _ _ (new_lstM am p h hl)⟩
    · exact h.elim
  · exact h.elim
end
def asInts : List D → Option (List Int)
  | [] => some []
  | .int i :: r => (asInts r).map (i :: ·)
  | _ => none
def asBls : List D → Option (List Bool)
  | [] => some []
  | .bl i :: r => (asBls r).map (i :: ·)
  | _ => none
theorem asInts_eq : ∀ {xs : List D} {ns : List Int}, asInts xs = some ns → xs = ns.map D.int
  | [], ns, h => by simp only [asInts, Option.some.injEq] at h; subst h; rfl
  | x :: xs, ns, h => by
    cases x with
    | int i =>
      simp only [asInts, Option.map_eq_some_iff] at h
      obtain ⟨ms, h1, h2⟩ := h
      subst h2
      rw [asInts_eq h1]; rfl
    | _ => simp [asInts] at h
theorem asInts_map : ∀ ns : List Int, asInts (ns.map D.int) = some ns
  | [] => rfl
  | n :: ns => by simp only [List.map_cons, asInts, asInts_map ns, Option.map_some]
theorem asBls_eq : ∀ {xs : List D} {ns : List Bool}, asBls xs = some ns → xs = ns.map D.bl
  | [], ns, h => by simp only [asBls, Option.some.injEq] at h; subst h; rfl
  | x :: xs, ns, h => by
    cases x with
    | bl i =>
      simp only [asBls, Option.map_eq_some_iff] at h
      obtain ⟨ms, h1, h2⟩ := h
      subst h2
      rw [asBls_eq h1]; rfl
    | _ => simp [asBls] at h
theorem asBls_map : ∀ ns : List Bool, asBls (ns.map D.bl) = some ns
  | [] => rfl
  | n :: ns => by simp only [List.map_cons, asBls, asBls_map ns, Option.map_some]
theorem reps_bls {K : PySem.W.Frag} {F : Addr → Prop} {H : Hp} : ∀ {ns : List Bool} {vs : List V}, Reps K F H (ns.map D.bl) vs → vs = ns.map V.bl
  | [], vs, h => by simpa [Reps] using h
  | n :: ns, vs, h => by
    simp only [List.map_cons, Reps, Rep] at h
    obtain ⟨v, r, e, rfl, h2⟩ := h
    rw [e, reps_bls h2]
    rfl
def mxI : List Int → Int
  | [] => 0
  | x :: r => r.foldl max x
def rSum (args : List D) (M : MS) (Φ : DQ) : Prop := match args with
  | [x] => (match (seqA M x).bind asInts with
    | some ns => Φ (.int ns.sum) M
    | none => False)
  | _ => False
def rAll (args : List D) (M : MS) (Φ : DQ) : Prop := match args with
  | [x] => (match (seqL M x).bind asBls with
    | some bs => Φ (.bl (bs.all id)) M
    | none => False)
  | _ => False
theorem foldl_max : ∀ (r : List Int) (x : Int), (r.foldl max x = x ∨ r.foldl max x ∈ r) ∧ x ≤ r.foldl max x ∧ ∀ y ∈ r, y ≤ r.foldl max x
  | [], x => ⟨.inl rfl, Int.le_refl _, by simp⟩
  | z :: r, x => by
    obtain ⟨h1, h2, h3⟩ := foldl_max r (max x z)
    simp only [List.foldl_cons]
    refine ⟨?_, by omega, fun y hy => ?_⟩
    · rcases h1 with h | h
      · rw [h]
        by_cases hxz : z ≤ x
        · left; omega
        · right; rw [show max x z = z by omega]; exact List.mem_cons_self ..
      · exact .inr (List.mem_cons_of_mem _ h)
    · rcases List.mem_cons.mp hy with rfl | hy
      · omega
      · exact h3 y hy
theorem mxI_mem {ns : List Int} (h : 0 < ns.length) : mxI ns ∈ ns ∧ ∀ y ∈ ns, y ≤ mxI ns := by
  cases ns with
  | nil => simp at h
  | cons x r =>
    obtain ⟨h1, h2, h3⟩ := foldl_max r x
    refine ⟨?_, fun y hy => ?_⟩
    · rcases h1 with e | e
      · show r.foldl max x ∈ _; rw [e]; exact List.mem_cons_self ..
      · exact List.mem_cons_of_mem _ e
    · rcases List.mem_cons.mp hy with rfl | hy
      · exact h2
      · exact h3 y hy
section
variable {K : PySem.W.Frag} {F : Addr → Prop} {H : Hp} {M : MS} {x : D} {v : V}
theorem bls_rep (am : AbsM K F H M) (r : Rep K F H x v) {ns : List Bool} (h : (seqL M x).bind asBls = some ns) : ∃ a, v = .ref a ∧ H a = some (.lst (ns.map V.bl)) := by
  obtain ⟨xs, h1, h2⟩ := Option.bind_eq_some_iff.mp h
  obtain ⟨a, vs, e, hq, p⟩ := seqL_rep am r h1
  rw [asBls_eq h2] at p
  rw [reps_bls p] at hq
  exact ⟨a, e, hq⟩
end
section
variable {X : Cx}
variable {O : Og X.K}
theorem c_all (hc : X.calm = true) : CallR X (.builtin "all") (loC X.K rAll) := by
  rintro pins s σ H vs us Q I r ⟨F, M, ds, Φ, am, rs, h, k⟩
  unfold rAll at h
  split at h
  · simp only [Reps] at rs
    obtain ⟨v, _, e, rx, rfl⟩ := rs
    subst e
    split at h
    · rename_i bs ex
      obtain ⟨a, rfl, hq⟩ := bls_rep am rx ex
      exact cr_all hc pins s σ H _ us Q I r ⟨a, bs, rfl, SqL.of hq, k _ _ (hB am h)⟩
    · exact h.elim
  · exact h.elim
end
end DL
namespace DL
open PySem PySem.Spec PyProof.Rows L2
def rIx (x y : D) (M : MS) (Φ : DQ) : Prop := match y with
  | .int i => (match seqA M x with
    | some xs => (match atI xs i with
      | some d => Φ d M
      | none => False)
    | none => (match x with
      | .str z => (match atI z.cps.toList i with
        | some c => z.length ≤ 100000 ∧ Φ (.str ⟨#[c]⟩) M
        | none => False)
      | _ => False))
  | _ => False
theorem atI_rep {K : PySem.W.Frag} {F : Addr → Prop} {H : Hp} {xs : List D} {vs : List V} {i : Int} {d : D} (r : Reps K F H xs vs) (h : atI xs i = some d) : ∃ v, atI vs i = some v ∧ Rep K F H d v := by
  unfold atI at *
  obtain ⟨j, h1, h2⟩ := Option.bind_eq_some_iff.mp h
  obtain ⟨v, h3, h4⟩ := r.get h2
  exact ⟨v, by rw [← r.length, h1]; exact h3, h4⟩
section
variable {X : Cx}
variable {O : Og X.K}
theorem x_ix : IxR X (loR X.K rIx) := by
  rintro value slice pins s σ H vx vy v u Q I r1 r2 ⟨F, M, x, y, Φ, am, rx, ry, h, k⟩ hs
  unfold rIx at h
  split at h
  · rename_i i
    split at h
    · rename_i xs ex
      obtain ⟨a, vs, rfl, hq, p⟩ := seqA_rep am rx ex
      split at h
      · rename_i d ed
        obtain ⟨w, e1, rw⟩ := atI_rep p ed
        rcases hq with hq | hq
        · exact ix_list value slice pins s σ H _ vy v u Q I r1 r2 ⟨a, vs, i, w, rfl, ry, hq, e1, k _ _ (loQ.here am rw h)⟩ hs
        · exact ix_tup value slice pins s σ H _ vy v u Q I r1 r2 ⟨a, vs, i, w, rfl, ry, hq, e1, k _ _ (loQ.here am rw h)⟩ hs
      · exact h.elim
    · split at h
      · rename_i z _
        split at h
        · rename_i c ec
          exact ix_str value slice pins s σ H _ vy v u Q I r1 r2 ⟨z, i, c, rx, ry, sz5 h.1, ec, k _ _ (hS am h.2)⟩ hs
        · exact h.elim
      · exact h.elim
  · exact h.elim
theorem q_ix {a b : Expr} {ta tb : DE} {pos : Pos} (ha : PE X a (lo X.K O ta)) (hb : PE X b (lo X.K O tb)) (hs : PlainIx b) : PE X (.Subscript a b pos) (lo X.K O (dOp rIx ta tb)) :=
  PE.imp (pe_ix x_ix ha hb hs) fun σ H Q h => by
    obtain ⟨F, M, ρ, Φ, A, h, k⟩ := h
    exact ⟨F, M, ρ, _, A, h, fun vx H1 ⟨F1, M1, x, l1, a1, r1, h1⟩ => ⟨F1, M1, ρ, _, (A.go l1 a1), h1, fun vy H2 ⟨F2, M2, y, l2, a2, r2, h2⟩ =>
      ⟨F2, M2, x, y, Φ, a2, r1.mono l2.le, r2, h2, fun v H' q => k v H' ((q.le l2).le l1)⟩⟩⟩
end
def cutD (xs : List D) (lo hi : Option Int) : List D := (xs.drop (HT.sIx xs.length 0 lo)).take (HT.sIx xs.length xs.length hi - HT.sIx xs.length 0 lo)
abbrev DO := DEnv → MS → (Option Int → MS → Prop) → Prop
def dNoPart : DO := fun _ M Φ => Φ none M
def dPart (t : DE) : DO := fun ρ M Φ => t ρ M fun x M1 => match x with
  | .int i => Φ (some i) M1
  | _ => False
def loO (K : PySem.W.Frag) (O : Og K) (t : DO) : TO := fun σ H Q => ∃ F M ρ Φ, Abs K O F H M σ ρ ∧ t ρ M Φ ∧ ∀ b H' F' M', Lm K F H M F' H' M' → AbsM K F' H' M' → Φ b M' → Q b H'
def rSl (x : D) (lo hi : Option Int) (M : MS) (Φ : DQ) : Prop := match x with
  | .tup xs => Φ (.tup (cutD xs lo hi)) M
  | .scr ns => Φ (.lst (cutD (ns.map D.int) lo hi)) M
  | x => (match seqL M x with
    | some xs => Φ (.lst (cutD xs lo hi)) M
    | none => False)
def dSl (t : DE) (l h : DO) : DE := fun ρ M Φ => t ρ M fun x M1 => l ρ M1 fun a M2 => h ρ M2 fun b M3 => rSl x a b M3 Φ
theorem PO.imp {X : Cx} {e : Option Expr} {t t' : TO} (h : PO X e t) (hi : ∀ σ H Q, t' σ H Q → t σ H Q) : PO X e t' := ⟨fun pins s σ H Q I q => h.run pins s σ H Q I (hi _ _ _ q)⟩
theorem cut_rep {K : PySem.W.Frag} {F : Addr → Prop} {H : Hp} {xs : List D} {vs : List V} (r : Reps K F H xs vs) (l h : Option Int) : Reps K F H (cutD xs l h) (cutV vs l h) := by
  unfold cutD cutV
  rw [r.length]
  exact (r.drop _).take _
section
variable {X : Cx}
variable {O : Og X.K}
theorem q_nopart : PO X none (loO X.K O dNoPart) :=
  PO.imp po_none fun σ H Q h => by
    obtain ⟨F, M, ρ, Φ, A, h, k⟩ := h
    exact k none H F M Lm.refl A.am h
theorem q_part {e : Expr} {t : DE} (he : PE X e (lo X.K O t)) : PO X (some e) (loO X.K O (dPart t)) :=
  PO.imp (po_some he) fun σ H Q h => by
    obtain ⟨F, M, ρ, Φ, A, h, k⟩ := h
    refine ⟨F, M, ρ, _, A, h, fun v H1 ⟨F1, M1, x, l1, a1, r1, h1⟩ => ?_⟩
    cases x with
    | int i => exact ⟨i, r1, k _ _ _ _ l1 a1 h1⟩
    | _ => exact h1.elim
theorem x_sl : SlR X (fun vx lo' hi Hh Q => ∃ F M x Φ, AbsM X.K F Hh M ∧ Rep X.K F Hh x vx ∧ rSl x lo' hi M Φ ∧ ∀ v H', loQ X.K F Hh M Φ v H' → Q v H') := by
  rintro pins s σ H vx v vl vu lo hi sl Q I rv hs pl pu ⟨F, M, x, Φ, am, rx, h, k⟩
  have lists : ∀ {xs : List D}, seqL M x = some xs → Φ (.lst (cutD xs lo hi)) M → ∃ T id, typeLookup (.type T) "__getitem__" = pure (some (.builtin id)) ∧ s.TypeIs v T ∧ wpAny (model X.prog X.w) X.A (getItem v (.ref sl)) (EP X pins σ Q) X.xe s := by
    intro xs ex q
    obtain ⟨a, vs, rfl, hq, p⟩ := seqL_rep am rx ex
    exact sl_list pins s σ H _ v vl vu lo hi sl Q I rv hs pl pu ⟨a, vs, rfl, SqL.of hq, fun p' hp => k _ _ (new_lst am (cut_rep p lo hi) q hp)⟩
  cases x with
  | tup xs =>
    obtain ⟨a, vs, rfl, hq, p⟩ := rep_tup rx
    refine sl_tupA pins s σ H _ v vl vu lo hi sl Q I rv hs pl pu ⟨a, vs, rfl, hq, fun w => ?_, fun _ p' hp => k _ _ (new_tup am (cut_rep p lo hi) h hp)⟩
    refine k _ _ (loQ.here am rx ?_)
    have hh : Φ (.tup (cutD xs lo hi)) M := h
    have e : cutD xs lo hi = xs := by
      unfold cutD
      rw [p.length, w.1, w.2, Nat.sub_zero, List.drop_zero, ← p.length, List.take_length]
    rw [e] at hh
    exact hh
  | scr ns =>
    simp only [Rep] at rx
    obtain ⟨a, rfl, hq⟩ := rx
    exact sl_list pins s σ H _ v vl vu lo hi sl Q I rv hs pl pu ⟨a, _, rfl, hq.sq, fun p' hp => k _ _ (new_lst am (cut_rep (Reps.ints ns) lo hi) h hp)⟩
  | _ =>
    simp only [rSl] at h
    split at h
    · rename_i xs ex
      exact lists ex h
    · exact h.elim
theorem q_sl {e : Expr} {l hi : Option Expr} {te : DE} {tl th : DO} {pos p2 : Pos} (he : PE X e (lo X.K O te)) (hl : PO X l (loO X.K O tl)) (hh : PO X hi (loO X.K O th)) : PE X (.Subscript e (.Slice l hi none p2) pos) (lo X.K O (dSl te tl th)) :=
  PE.imp (pe_slice x_sl he hl hh) fun σ H Q h => by
    obtain ⟨F, M, ρ, Φ, A, h, k⟩ := h
    exact ⟨F, M, ρ, _, A, h, fun vx H1 ⟨F1, M1, x, l1, a1, r1, h1⟩ => ⟨F1, M1, ρ, _, (A.go l1 a1), h1, fun a H2 F2 M2 l2 a2 h2 =>
      ⟨F2, M2, ρ, _, (A.go (l1.trans l2) a2), h2, fun b H3 F3 M3 l3 a3 h3 => ⟨F3, M3, x, Φ, a3, r1.mono (l2.trans l3).le, h3, fun v H' q => k v H' (((q.le l3).le l2).le l1)⟩⟩⟩⟩
end
section
variable {X : Cx} {x : Str} {p pos : Pos} {e : Expr} {es : List Expr} {ta : DAs} {id T : String} {R : List D → MS → DQ → Prop}
variable {O : Og X.K}
theorem lo_fn (h : PE X e (tCB (loC X.K R) (loA X.K O ta))) : PE X e (lo X.K O (dFn R ta)) :=
  PE.imp h fun σ H Q h => by
    obtain ⟨F, M, ρ, Φ, A, h, k⟩ := h
    exact ⟨F, M, ρ, _, A, h, fun vs H1 F1 M1 ds l1 a1 r1 h1 => ⟨F1, M1, ds, Φ, a1, r1, h1, fun v H' q => k v H' (q.le l1)⟩⟩
theorem q_callB (hc : CallR X (.builtin id) (loC X.K R)) (hg : Gl X x) (hm : X.mg x = none) (hv : bootBuiltins x = some (.builtin id)) (ha : PA X (e :: es) (loA X.K O ta)) (hn : x ≠ "__name__") (hdb : (x == ("__debug__" : Str)) = false)
    (he : starEach (e :: es) X.env = (false, eval e X.env) :: starEach es X.env) (hpl : (backTo pos (starEach es X.env)).any (·.1) = false) : PE X (.Call (.Name x p) (e :: es) [] pos) (lo X.K O (dFn R ta)) :=
  lo_fn (pe_callB hc hg hm hv ha hn hdb he hpl)
theorem q_callT (hc : CallR X (.type T) (loC X.K R)) (hg : Gl X x) (hm : X.mg x = none) (hv : bootBuiltins x = some (.type T)) (ha : PA X (e :: es) (loA X.K O ta)) (hn : x ≠ "__name__") (hdb : (x == ("__debug__" : Str)) = false)
    (he : starEach (e :: es) X.env = (false, eval e X.env) :: starEach es X.env) (hpl : (backTo pos (starEach es X.env)).any (·.1) = false) : PE X (.Call (.Name x p) (e :: es) [] pos) (lo X.K O (dFn R ta)) :=
  lo_fn (pe_callTy hc hg hm hv ha hn hdb he hpl)
end
abbrev DX := Str → List (Str × D) → MS → Prop
abbrev DSp := List D → MS → DQ → DX → Prop
/-- no exception is wished for -/
def noX : DX := fun _ _ _ => False
def loSp (K : PySem.W.Frag) (sp : DSp) (n : Nat) : Sp := fun vs H Q E => ∃ F M ds Φ, ds.length = n ∧ AbsM K F H M ∧ Reps K F H ds vs ∧ sp ds M Φ noX ∧ ∀ v H', loQ K F H M Φ v H' → Q v H'
def dCall (n : Nat) (sp : DSp) (ta : DAs) : DE := fun ρ M Φ => ta ρ M fun ds M1 => ds.length = n ∧ sp ds M1 Φ noX
section
variable {X : Cx} {n : Nat} {sp : DSp} {e : Expr} {ta : DAs}
variable {O : Og X.K}
theorem lo_call {E : XK} (h : PE X e (tCall (loSp X.K sp n) [] E (loA X.K O ta))) : PE X e (lo X.K O (dCall n sp ta)) :=
  PE.imp h fun σ H Q h => by
    obtain ⟨F, M, ρ, Φ, A, h, k⟩ := h
    exact ⟨F, M, ρ, _, A, h, fun vs H1 F1 M1 ds l1 a1 r1 ⟨hn, h1⟩ => ⟨F1, M1, ds, Φ, hn, a1, by rw [List.append_nil]; exact r1, h1, fun v H' q => k v H' (q.le l1)⟩⟩
end
end DL
namespace DL
open PySem PySem.Spec PyProof.Rows L2
inductive Pat where
  | nm (i : Nat)
  | tp (ps : List Pat)
mutual
def Pat.put : Pat → D → DEnv → Option DEnv
  | .nm i, d, ρ => some (ρ.set i (some d))
  | .tp ps, .tup xs, ρ => Pat.puts ps xs ρ
  | .tp _, _, _ => none
def Pat.puts : List Pat → List D → DEnv → Option DEnv
  | [], [], ρ => some ρ
  | p :: ps, x :: xs, ρ => (match p.put x ρ with
    | some ρ' => Pat.puts ps xs ρ'
    | none => none)
  | _, _, _ => none
end
mutual
def Pat.slots : Pat → List Nat
  | .nm i => [i]
  | .tp ps => Pat.slotss ps
def Pat.slotss : List Pat → List Nat
  | [] => []
  | p :: ps => p.slots ++ Pat.slotss ps
end
mutual
def Pat.tg (K : PySem.W.Frag) : Pat → TG
  | .nm i => gName i
  | .tp ps => gTup K ps.length (Pat.tgs K ps)
def Pat.tgs (K : PySem.W.Frag) : List Pat → TGs
  | [] => gNil
  | p :: ps => gCons (p.tg K) (Pat.tgs K ps)
end
theorem wipe_get : ∀ (vs : List Nat) (σ : L2.St) (j : Nat), (wipe σ vs)[j]? = if j ∈ vs ∧ j < σ.length then some none else σ[j]?
  | [], σ, j => by simp [wipe]
  | v :: vs, σ, j => by
    unfold wipe
    by_cases hj : v = j
    · subst hj
      by_cases hl : v < σ.length
      · rw [List.getElem?_set_self (by rw [wipe_length]; exact hl)]
        simp [hl]
      · have e1 : ((wipe σ vs).set v none)[v]? = none := List.getElem?_eq_none (by rw [List.length_set, wipe_length]; omega)
        rw [e1, if_neg (by omega), List.getElem?_eq_none (by omega)]
    · rw [List.getElem?_set_ne hj, wipe_get vs σ j]
      have : (j ∈ v :: vs) ↔ j ∈ vs := by
        simp only [List.mem_cons]
        exact ⟨fun h => h.resolve_left fun e => hj e.symm, .inr⟩
      simp only [this]
theorem wipe_set {σ : L2.St} {i : Nat} {v : Option V} {vs : List Nat} (h : i ∈ vs) : wipe (σ.set i v) vs = wipe σ vs := by
  refine List.ext_getElem? fun j => ?_
  rw [wipe_get, wipe_get, List.length_set]
  by_cases hj : j ∈ vs ∧ j < σ.length
  · rw [if_pos hj, if_pos hj]
  · rw [if_neg hj, if_neg hj]
    by_cases e : i = j
    · subst e
      have : ¬ i < σ.length := fun z => hj ⟨h, z⟩
      rw [List.getElem?_eq_none (by rw [List.length_set]; omega), List.getElem?_eq_none (by omega)]
    · rw [List.getElem?_set_ne e]
def wipeD (ρ : DEnv) : List Nat → DEnv
  | [] => ρ
  | v :: vs => (wipeD ρ vs).set v none
theorem wipeD_length (ρ : DEnv) : ∀ vs : List Nat, (wipeD ρ vs).length = ρ.length
  | [] => rfl
  | v :: vs => by unfold wipeD; rw [List.length_set, wipeD_length ρ vs]
theorem RepEnv.wipe {K : PySem.W.Frag} {F : Addr → Prop} {H : Hp} {σ : L2.St} {ρ : DEnv} (e : RepEnv K F H σ ρ) : ∀ vs : List Nat, RepEnv K F H (L2.wipe σ vs) (wipeD ρ vs)
  | [] => e
  | v :: vs => by
    have ih := RepEnv.wipe e vs
    refine ⟨by rw [wipeD_length, wipe_length]; exact e.len, fun j d h => ?_⟩
    unfold wipeD at h
    by_cases hj : v = j
    · subst hj
      by_cases hl : v < (wipeD ρ vs).length
      · rw [List.getElem?_set_self hl] at h; cases h
      · rw [List.getElem?_eq_none (by rw [List.length_set]; omega)] at h; cases h
    · rw [List.getElem?_set_ne hj] at h
      obtain ⟨w, h1, h2⟩ := ih.get j d h
      refine ⟨w, ?_, h2⟩
      unfold L2.wipe
      rw [List.getElem?_set_ne hj]
      exact h1
section
variable {K : PySem.W.Frag} {F : Addr → Prop} {H : Hp}
mutual
/-- a pattern stores -/
theorem Pat.runs : ∀ (p : Pat) {d : D} {v : V} {σ : L2.St} {ρ ρ' : DEnv}, p.put d ρ = some ρ' → Rep K F H d v → RepEnv K F H σ ρ →
    ∃ σ', RepEnv K F H σ' ρ' ∧ (∀ vs : List Nat, (∀ i ∈ p.slots, i ∈ vs) → wipe σ' vs = wipe σ vs) ∧ ∀ Q : L2.St → Hp → Prop, Q σ' H → p.tg K v σ H Q
  | .nm i, d, v, σ, ρ, ρ', h, r, e => by
    simp only [Pat.put, Option.some.injEq] at h
    subst h
    refine ⟨_, e.set r i, fun vs hv => wipe_set (hv i (by simp [Pat.slots])), fun Q q => ?_⟩
    simp only [Pat.tg, gName]
    exact q
  | .tp ps, d, v, σ, ρ, ρ', h, r, e => by
    cases d with
    | tup xs =>
      simp only [Pat.put] at h
      obtain ⟨a, vs, ev, hq, rs⟩ := rep_tup r
      obtain ⟨σ', e', w, q⟩ := Pat.runss ps h rs e
      refine ⟨σ', e', fun vs hv => w vs (by simpa only [Pat.slots] using hv), fun Q hQ => ?_⟩
      simp only [Pat.tg, gTup]
      exact ⟨a, vs, ev, hq, by rw [← rs.length]; exact (Pat.puts_length ps h).symm, q Q hQ⟩
    | _ => simp [Pat.put] at h
theorem Pat.runss : ∀ (ps : List Pat) {xs : List D} {vs : List V} {σ : L2.St} {ρ ρ' : DEnv}, Pat.puts ps xs ρ = some ρ' → Reps K F H xs vs → RepEnv K F H σ ρ →
    ∃ σ', RepEnv K F H σ' ρ' ∧ (∀ ws : List Nat, (∀ i ∈ Pat.slotss ps, i ∈ ws) → wipe σ' ws = wipe σ ws) ∧ ∀ Q : L2.St → Hp → Prop, Q σ' H → Pat.tgs K ps vs σ H Q
  | [], xs, vs, σ, ρ, ρ', h, r, e => by
    cases xs with
    | nil =>
      simp only [Pat.puts, Option.some.injEq] at h
      subst h
      simp only [Reps] at r
      subst r
      refine ⟨σ, e, fun _ _ => rfl, fun Q q => ?_⟩
      show gNil [] σ H Q
      exact ⟨rfl, q⟩
    | cons _ _ => simp [Pat.puts] at h
  | p :: ps, xs, vs, σ, ρ, ρ', h, r, e => by
    cases xs with
    | nil => simp [Pat.puts] at h
    | cons x xs =>
      simp only [Pat.puts] at h
      split at h
      · rename_i ρ1 h1
        simp only [Reps] at r
        obtain ⟨v, vr, ev, r1, r2⟩ := r
        subst ev
        obtain ⟨σ1, e1, w1, q1⟩ := Pat.runs p h1 r1 e
        obtain ⟨σ2, e2, w2, q2⟩ := Pat.runss ps h r2 e1
        refine ⟨σ2, e2, fun ws hw => ?_, fun Q hQ => ?_⟩
        · simp only [Pat.slotss, List.mem_append] at hw
          rw [w2 ws fun i hi => hw i (.inr hi), w1 ws fun i hi => hw i (.inl hi)]
        · simp only [Pat.tgs, gCons]
          exact ⟨v, vr, rfl, q1 _ (q2 Q hQ)⟩
      · cases h
theorem Pat.puts_length : ∀ (ps : List Pat) {xs : List D} {ρ ρ' : DEnv}, Pat.puts ps xs ρ = some ρ' → ps.length = xs.length
  | [], [], _, _, _ => rfl
  | [], _ :: _, _, _, h => by simp [Pat.puts] at h
  | _ :: _, [], _, _, h => by simp [Pat.puts] at h
  | p :: ps, x :: xs, ρ, ρ', h => by
    simp only [Pat.puts] at h
    split at h
    · simp [Pat.puts_length ps h]
    · cases h
end
end
def sNext : DS := fun Δ ρ M => Δ.nx ρ M
def sSeq (t u : DS) : DS := fun Δ ρ M => t { Δ with nx := u Δ } ρ M
def sBreak : DS := fun Δ ρ M => Δ.bk ρ M
def sCont : DS := fun Δ ρ M => Δ.ct ρ M
def sDrop (t : DE) : DS := fun Δ ρ M => t ρ M fun _ M1 => Δ.nx ρ M1
def sRet (t : DE) : DS := fun Δ ρ M => t ρ M Δ.rt
def sRetN : DS := fun Δ _ M => Δ.rt .non M
def sIf (c : DT) (t u : DS) : DS := fun Δ ρ M => c ρ M fun b M1 => if b = true then t Δ ρ M1 else u Δ ρ M1
def sAsg (t : DE) (p : Pat) : DS := fun Δ ρ M => t ρ M fun x M1 => match p.put x ρ with
  | some ρ' => Δ.nx ρ' M1
  | none => False
section
variable {X : Cx} {st : Stmt} {rest : List Stmt} {t u : DS} {e : Expr} {te : DE} {pos : Pos}
variable {O : Og X.K}
theorem z_nil : PSs X [] (loS X.K O sNext) := PSs.imp pss_nil fun Y σ H h => by
  obtain ⟨F, M, ρ, Δ, A, h, k⟩ := h
  exact k.nx σ H F M ρ Lm.refl A h
theorem z_cons (h1 : PS X st (loS X.K O t)) (h2 : PSs X rest (loS X.K O u)) : PSs X (st :: rest) (loS X.K O (sSeq t u)) := PSs.imp (pss_cons h1 h2) fun Y σ H h => by
  obtain ⟨F, M, ρ, Δ, A, h, k⟩ := h
  exact ⟨F, M, ρ, { Δ with nx := u Δ }, A, h, ⟨fun σ' H' F' M' ρ' l A' q => ⟨F', M', ρ', Δ, A', q, k.le l⟩, k.rt, k.bk, k.ct⟩⟩
theorem z_expr (he : PE X e (lo X.K O te)) (hs : swapsWith e none pos.line X.env = pure false) : PS X (.Expr e pos) (loS X.K O (sDrop te)) := PS.imp (ps_expr he hs) fun Y σ H h => by
  obtain ⟨F, M, ρ, Δ, A, h, k⟩ := h
  exact ⟨F, M, ρ, _, A, h, fun v H1 ⟨F1, M1, x, l1, a1, r1, h1⟩ => k.nx σ H1 F1 M1 ρ l1 (A.go l1 a1) h1⟩
theorem z_ret (he : PE X e (lo X.K O te)) : PS X (.Return (some e) pos) (loS X.K O (sRet te)) := PS.imp (ps_ret he) fun Y σ H h => by
  obtain ⟨F, M, ρ, Δ, A, h, k⟩ := h
  exact ⟨F, M, ρ, _, A, h, fun v H1 q => k.rt v H1 q⟩
theorem z_if {c : Expr} {a b : List Stmt} {tc : DT} (hc : PT X c (loT X.K O tc)) (ha : PSs X a (loS X.K O t)) (hb : PSs X b (loS X.K O u)) : PS X (.If c a b pos) (loS X.K O (sIf tc t u)) := PS.imp (ps_if hc ha hb) fun Y σ H h => by
  obtain ⟨F, M, ρ, Δ, A, h, k⟩ := h
  refine ⟨F, M, ρ, _, A, h, fun c H1 F1 M1 l1 a1 h1 => ?_⟩
  cases c with
  | true => exact ⟨F1, M1, ρ, Δ, (A.go l1 a1), h1, k.le l1⟩
  | false => exact ⟨F1, M1, ρ, Δ, (A.go l1 a1), h1, k.le l1⟩
/-- target = value, the target a pattern -/
theorem z_asg {tg : Expr} {p : Pat} (he : PE X e (lo X.K O te)) (hg : PG X tg (p.tg X.K)) (hs : swapsWithSole [tg] e pos.line X.env = pure false) (hw : swappedStores [tg] e X.env = pure none)
    (h1 : (assignEach [tg] X.env).map (·.2) = [assign tg X.env]) : PS X (.Assign [tg] e pos) (loS X.K O (sAsg te p)) := PS.imp (ps_asg he hg hs hw h1) fun Y σ H h => by
  obtain ⟨F, M, ρ, Δ, A, h, k⟩ := h
  refine ⟨F, M, ρ, _, A, h, fun v H1 ⟨F1, M1, x, l1, a1, r1, h1⟩ => ?_⟩
  dsimp only at h1 ⊢
  split at h1
  · rename_i ρ' hp
    obtain ⟨σ', e', _, q⟩ := p.runs hp r1 (A.env.mono l1.le)
    exact q _ (k.nx σ' H1 F1 M1 ρ' l1 ⟨a1, e', O.cl A.og l1⟩ h1)
  · exact h1.elim
/-- name = value -/
theorem z_set {i : Nat} {x : Str} {pos' : Pos} (hN : X.N.Nodup) (hi : X.N[i]? = some x) (hx : Loc X.env.scope x) (he : PE X e (lo X.K O te)) (hs : swapsWith e (some (.Name x pos')) pos.line X.env = pure false) (hf : X.fn x = true ∨ X.env.scope.names.lookup x = some .local) :
    PS X (.Assign [.Name x pos'] e pos) (loS X.K O (sAsg te (.nm i))) := PS.imp (ps_set hN hi hx he hs hf) fun Y σ H h => by
  obtain ⟨F, M, ρ, Δ, A, h, k⟩ := h
  refine ⟨F, M, ρ, _, A, h, fun v H1 ⟨F1, M1, x, l1, a1, r1, h1⟩ => ?_⟩
  exact k.nx _ H1 F1 M1 _ l1 ((A.go l1 a1).set r1 i) h1
end
/-- at turn i an iterator of this kind yields the i-th item, as long as G holds -/
structure Src (K : PySem.W.Frag) (F : Addr → Prop) (H : Hp) (M : MS) (J : It) (items : List D) (G : MS → Prop) : Prop where
  go : ∀ i F' H' M', Lm K F H M F' H' M' → AbsM K F' H' M' → G M' → i < items.length → J.go i H'
  stop : ∀ F' H' M', Lm K F H M F' H' M' → AbsM K F' H' M' → G M' → J.stop items.length H'
  yld : ∀ i F' H' M' x H'', Lm K F H M F' H' M' → AbsM K F' H' M' → G M' → i < items.length → J.yld i H' x H'' → ∃ F'' d, Lm K F' H' M' F'' H'' M' ∧ AbsM K F'' H'' M' ∧ items[i]? = some d ∧ Rep K F'' H'' d x
abbrev DI := DEnv → MS → (List D → (MS → Prop) → MS → Prop) → Prop
def loI (K : PySem.W.Frag) (O : Og K) (t : DI) : TI := fun σ H R => ∃ F M ρ Ψ, Abs K O F H M σ ρ ∧ t ρ M Ψ ∧ ∀ J H' F' M' items G, Lm K F H M F' H' M' → AbsM K F' H' M' → Src K F' H' M' J items G → Ψ items G M' → R J H'
def forW (G : MS → Prop) (p : Pat) (body : DS) (Δ : DEnds) : List D → DEnv → MS → Prop
  | [], ρ, M => G M ∧ Δ.nx ρ M
  | d :: ds, ρ, M => G M ∧ (match p.put d ρ with
    | some ρ1 => body { nx := fun ρ' M' => forW G p body Δ ds ρ' M', rt := Δ.rt, bk := Δ.nx, ct := fun ρ' M' => forW G p body Δ ds ρ' M' } ρ1 M
    | none => False)
def sFor (ti : DI) (p : Pat) (body : DS) : DS := fun Δ ρ M => ti ρ M fun items G M1 => forW G p body Δ items ρ M1
section
variable {X : Cx} {pos : Pos}
variable {O : Og X.K}
theorem drop_get {α : Type} {l : List α} {i : Nat} {d : α} {ds : List α} (h : l.drop i = d :: ds) : l[i]? = some d ∧ l.drop (i + 1) = ds ∧ i < l.length := by
  have h1 : i < l.length := by
    by_cases hi : i < l.length
    · exact hi
    · rw [List.drop_eq_nil_of_le (by omega)] at h; cases h
  have h2 : l.drop i = l[i] :: l.drop (i + 1) := List.drop_eq_getElem_cons h1
  rw [h2] at h
  injection h with e1 e2
  exact ⟨by rw [List.getElem?_eq_getElem h1, e1], e2, h1⟩
theorem z_for {tg iter : Expr} {body : List Stmt} {ti : DI} {p : Pat} {tb : DS} (hp : PassesOwn (model X.prog X.w) X.A X.env X.xe) (hc : X.calm = true) (hi : PI X tg iter (loI X.K O ti)) (hg : PG X tg (p.tg X.K)) (hb : PSs X body (loS X.K O tb)) (hfs : ∀ x, foldedSetIterable iter X.env x = pure x) :
    PS X (.For tg iter body [] pos) (loS X.K O (sFor ti p tb)) := PS.imp (ps_for hp hc hi hg hb hfs) fun Y σ H h => by
  obtain ⟨F, M, ρ, Δ, A, h, k⟩ := h
  refine ⟨F, M, ρ, _, A, h, fun J H1 F1 M1 items G l1 a1 src h1 => ?_⟩
  refine ⟨fun i m σ' H' => m = items.length - i ∧ i ≤ items.length ∧ ∃ F' M' ρ', Lm X.K F1 H1 M1 F' H' M' ∧ Abs X.K O F' H' M' σ' ρ' ∧ forW G p tb Δ (items.drop i) ρ' M', ⟨items.length, by simp, Nat.zero_le _, F1, M1, ρ, Lm.refl, (A.go l1 a1), h1⟩, ?_⟩
  rintro i m σ' H' ⟨rfl, hil, F', M', ρ', l2, A', hw⟩
  cases hd : items.drop i with
  | nil =>
    rw [hd] at hw
    have hle : items.length ≤ i := by
      have := congrArg List.length hd
      simp at this; omega
    obtain rfl : i = items.length := Nat.le_antisymm hil hle
    exact .inl ⟨src.stop F' H' M' l2 A'.am hw.1, k.nx σ' H' F' M' ρ' (l1.trans l2) A' hw.2⟩
  | cons d ds =>
    rw [hd] at hw
    obtain ⟨g1, g2, g3⟩ := drop_get hd
    obtain ⟨hG, hw⟩ := hw
    refine .inr ⟨src.go i F' H' M' l2 A'.am hG g3, fun σ3 H3 => ∃ F3 M3 ρ3, Lm X.K F1 H1 M1 F3 H3 M3 ∧ Abs X.K O F3 H3 M3 σ3 ρ3 ∧ forW G p tb Δ ds ρ3 M3, ?_, ?_⟩
    · rintro σ3 H3 ⟨F3, M3, ρ3, l3, A3, h3⟩
      exact ⟨items.length - (i + 1), by omega, rfl, by omega, F3, M3, ρ3, l3, A3, by rw [g2]; exact h3⟩
    · intro x H'' hy
      obtain ⟨F'', d', l3, a3, e3, r3⟩ := src.yld i F' H' M' x H'' l2 A'.am hG g3 hy
      rw [g1] at e3; cases e3
      split at hw
      · rename_i ρ1 hput
        obtain ⟨σ2, e2, _, q⟩ := p.runs hput r3 (A'.env.mono l3.le)
        refine q _ ⟨F'', M', ρ1, _, ⟨a3, e2, O.cl A'.og l3⟩, hw, ⟨fun σ4 H4 F4 M4 ρ4 l4 A4 q4 => ⟨F4, M4, ρ4, (l2.trans l3).trans l4, A4, q4⟩, fun v H4 q4 => k.rt v H4 (((q4.le l3).le l2).le l1), fun σ4 H4 F4 M4 ρ4 l4 A4 q4 => k.nx σ4 H4 F4 M4 ρ4 (((l1.trans l2).trans l3).trans l4) A4 q4, fun σ4 H4 F4 M4 ρ4 l4 A4 q4 => ⟨F4, M4, ρ4, (l2.trans l3).trans l4, A4, q4⟩⟩⟩
      · exact hw.elim
end
def MS.del (M : MS) (a : Addr) : MS := { M with map := fun b => if b = a then none else M.map b }
def lcW (G : MS → Prop) (p : Pat) (tt : DT) (te : DE) (ρ : DEnv) : List D → List D → MS → (List D → MS → Prop) → Prop
  | [], acc, M, Φ => G M ∧ Φ acc M
  | d :: ds, acc, M, Φ => G M ∧ (match p.put d ρ with
    | some ρ1 => tt ρ1 M fun b M1 => if b = true then te ρ1 M1 fun y M2 => acc.length < 100000 ∧ lcW G p tt te ρ ds (acc ++ [y]) M2 Φ else lcW G p tt te ρ ds acc M1 Φ
    | none => False)
def dLc (ti : DI) (p : Pat) (vs : List Nat) (tt : DT) (te : DE) : DE := fun ρ M Φ => ti ρ M fun items G M1 => lcW G p tt te (wipeD ρ vs) items [] M1 fun ds M2 => Φ (.lst ds) M2
def dLcM (ti : DI) (p : Pat) (vs : List Nat) (tt : DT) (te : DE) : DE := fun ρ M Φ => ti ρ M fun items G M1 => lcW G p tt te (wipeD ρ vs) items [] M1 fun ds M2 => ∀ a, M2.map a = none → Φ (.ref a) (M2.put a (.lst ds))
theorem PTs.imp {X : Cx} {e : List Expr} {t t' : TT} (h : PTs X e t) (hi : ∀ σ H Q, t' σ H Q → t σ H Q) : PTs X e t' := ⟨fun pins s σ H Q I q => h.run pins s σ H Q I (hi _ _ _ q)⟩
def dYes : DT := fun _ M Φ => Φ true M
section
variable {X : Cx} {K : PySem.W.Frag}
variable {O : Og X.K}
theorem q_yes : PTs X [] (loT X.K O dYes) := PTs.imp pts_nil fun σ H Q h => by
  obtain ⟨F, M, ρ, Φ, A, h, k⟩ := h
  exact k true H F M Lm.refl A.am h
/-- the turns of a comprehension over the hand layer's reading -/
theorem lc_turns {O : Og K} {J : It} {items : List D} {G : MS → Prop} {p : Pat} {tt : DT} {te : DE} {vs : List Nat} {σ : L2.St} {ρ : DEnv} {F1 : Addr → Prop} {H1 : Hp} {M1 : MS} {Ψ : List D → MS → Prop} {L : Addr} {Q : VK}
    (src : Src K F1 H1 M1 J items G) (a1 : AbsM K F1 H1 M1) (en : RepEnv K F1 H1 σ ρ) (og : O.z F1 H1 M1) (hs : ∀ i ∈ p.slots, i ∈ vs) (hL : H1 L = none) (hw : lcW G p tt te (wipeD ρ vs) items [] M1 Ψ)
    (fin : ∀ F' H' M' ds ws, Lm K F1 H1 M1 F' H' M' → AbsM K F' H' M' → H' L = some (.lst ws) → ¬ F' L → M'.map L = none → Reps K F' H' ds ws → Ψ ds M' → Q (.ref L) H') :
    ∃ W : Nat → Nat → Hp → Prop, (∃ m, W 0 m (upd H1 L (.lst []))) ∧ ∀ i m H, W i m H → (J.stop i H ∧ Q (.ref L) H) ∨ (J.go i H ∧ ∃ Nx : Hp → Prop, (∀ H', Nx H' → ∃ m', m' < m ∧ W (i + 1) m' H') ∧
      ∀ x H', J.yld i H x H' → p.tg K x (wipe σ vs) H' fun σ2 H2 => wipe σ2 vs = wipe σ vs ∧ loT K O tt σ2 H2 fun b H3 =>
        if b = true then lo K O te σ2 H3 fun y H4 => ∃ acc, H4 L = some (.lst acc) ∧ acc.length < sizeLine ∧ Nx (upd H4 L (.lst (acc ++ [y]))) else Nx H3) := by
  have neL : ∀ a, H1 a ≠ none → a ≠ L := fun a ha e => ha (e ▸ hL)
  have hLm : ∀ {F' : Addr → Prop} {H' : Hp} {M' : MS} {ws ws' : List V}, Lm K F1 H1 M1 F' H' M' → AbsM K F' H' M' → (H' L = some (.lst ws) ∨ H' L = none) → ¬ F' L → M'.map L = none →
      Lm K F1 H1 M1 F' (upd H' L (.lst ws')) M' ∧ AbsM K F' (upd H' L (.lst ws')) M' ∧ Le K F' H' F' (upd H' L (.lst ws')) := by
    intro F' H' M' ws ws' l a e nf nm
    have l2 : Le K F' H' F' (upd H' L (.lst ws')) := by
      rcases e with e | e
      · exact Le.upd nf (fun _ => nord_lst e) (nofrz_lst e)
      · exact Le.upd nf (fun _ => nord_none e) (nofrz_none e)
    refine ⟨⟨l.le.trans l2, fun b hb f m => ?_⟩, ⟨fun b f => ?_, fun b o hb => ?_⟩, l2⟩
    · obtain ⟨x1, x2, x3⟩ := l.hid b hb f m
      exact ⟨x1, x2, (upd_ne (neL b hb)).trans x3⟩
    · have nb : b ≠ L := fun e => by subst e; exact nf f
      rw [upd_ne nb]
      exact a.fh b f
    · obtain ⟨n1, o1⟩ := a.mp b o hb
      have ne : ∀ c o', M'.map c = some o' → c ≠ L := fun c o' hc e => by rw [e, nm] at hc; cases hc
      exact ⟨n1, o1.keep l2 (upd_ne (ne b o hb)) (fun c hc => ⟨upd_ne (ne c _ hc), hc⟩) (Nat.le_refl _)⟩
  have hF1 : ¬ F1 L := fun f => a1.fh L f hL
  have hM1 : M1.map L = none := (a1.fresh hL).2
  let P : Nat → Hp → Prop := fun i H' => ∃ F' M' acc ws, Lm K F1 H1 M1 F' H' M' ∧ AbsM K F' H' M' ∧ H' L = some (.lst ws) ∧ ¬ F' L ∧ M'.map L = none ∧ Reps K F' H' acc ws ∧ lcW G p tt te (wipeD ρ vs) (items.drop i) acc M' Ψ
  refine ⟨fun i m H' => m = items.length - i ∧ i ≤ items.length ∧ P i H', ⟨items.length, by simp, Nat.zero_le _, ?_⟩, ?_⟩
  · obtain ⟨l0, a0, _⟩ := hLm (ws := []) (ws' := []) Lm.refl a1 (.inr hL) hF1 hM1
    exact ⟨F1, M1, [], [], l0, a0, upd_same, hF1, hM1, Reps.nil, hw⟩
  rintro i m H' ⟨rfl, hil, F', M', acc, ws, l2, a2, hl, nf, nm, rs, hw'⟩
  cases hd : items.drop i with
  | nil =>
    rw [hd] at hw'
    have hle : items.length ≤ i := by
      have := congrArg List.length hd
      simp at this; omega
    obtain rfl : i = items.length := Nat.le_antisymm hil hle
    exact .inl ⟨src.stop F' H' M' l2 a2 hw'.1, fin F' H' M' acc ws l2 a2 hl nf nm rs hw'.2⟩
  | cons d ds =>
    rw [hd] at hw'
    obtain ⟨g1, g2, g3⟩ := drop_get hd
    obtain ⟨hG, hw'⟩ := hw'
    refine .inr ⟨src.go i F' H' M' l2 a2 hG g3, P (i + 1), fun H3 p3 => ⟨items.length - (i + 1), by omega, rfl, by omega, p3⟩, fun x H'' hy => ?_⟩
    obtain ⟨F3, d', l3, a3, e3, r3⟩ := src.yld i F' H' M' x H'' l2 a2 hG g3 hy
    rw [g1] at e3; cases e3
    split at hw'
    · rename_i ρ1 hput
      obtain ⟨σ2, e2, w2, q⟩ := p.runs hput r3 ((en.wipe vs).mono (l2.trans l3).le)
      refine q _ ⟨?_, ?_⟩
      · rw [w2 vs hs]
        refine List.ext_getElem? fun j => ?_
        simp only [wipe_get, wipe_length]
        split <;> rfl
      · obtain ⟨h3a, h3b, h3c⟩ := l3.hid L (by rw [hl]; simp) nf nm
        refine ⟨F3, M', ρ1, _, ⟨a3, e2, O.cl og (l2.trans l3)⟩, hw', fun b H4 F4 M4 l4 a4 h4 => ?_⟩
        obtain ⟨h4a, h4b, h4c⟩ := l4.hid L (by rw [h3c, hl]; simp) h3a h3b
        have hl4 : H4 L = some (.lst ws) := by rw [h4c, h3c, hl]
        cases b with
        | true =>
          rw [if_pos rfl] at h4 ⊢
          refine ⟨F4, M4, ρ1, _, ⟨a4, e2.mono l4.le, O.cl og ((l2.trans l3).trans l4)⟩, h4, fun y H5 ⟨F5, M5, dy, l5, a5, r5, h5, h6⟩ => ?_⟩
          obtain ⟨h5a, h5b, h5c⟩ := l5.hid L (by rw [hl4]; simp) h4a h4b
          have hl5 : H5 L = some (.lst ws) := by rw [h5c, hl4]
          obtain ⟨l6, a6, m6⟩ := hLm (ws := ws) (ws' := ws ++ [y]) (((l2.trans l3).trans l4).trans l5) a5 (.inl hl5) h5a h5b
          have rall := (((rs.mono l3.le).mono l4.le).mono l5.le).append (Reps.cons r5 Reps.nil)
          refine ⟨ws, hl5, by rw [← rs.length]; exact Nat.lt_of_lt_of_le h5 (by decide), F5, M5, acc ++ [dy], ws ++ [y], l6, a6, upd_same, h5a, h5b, rall.mono m6, ?_⟩
          rw [g2]
          exact h6
        | false =>
          rw [if_neg Bool.false_ne_true] at h4 ⊢
          refine ⟨F4, M4, acc, ws, (l2.trans l3).trans l4, a4, hl4, h4a, h4b, (rs.mono l3.le).mono l4.le, ?_⟩
          rw [g2]
          exact h4
    · exact hw'.elim
end
section
variable {X : Cx} {elt tg iter : Expr} {ifs : List Expr} {scope : Scope} {own : List (Str × Nat)} {pos spos : Pos} {ti : DI} {p : Pat} {tt : DT} {te : DE}
variable {O : Og X.K}
theorem q_lc (hc : X.calm = true) (hN : X.N.Nodup) (hi : PI X tg iter (loI X.K O ti)) (ok : BlkOk X.N X.env.scope scope own)
    (hg : ∀ (s : Shared) (H : Hp) (C : Addr) (cl : List (Str × Addr)) (fp : List Addr), PG (X.blk s H scope (compEnvC scope cl C X.env) fp) tg (p.tg X.K))
    (ht : ∀ (s : Shared) (H : Hp) (C : Addr) (cl : List (Str × Addr)) (fp : List Addr), PTs (X.blk s H scope (compEnvC scope cl C X.env) fp) ifs (loT X.K O tt))
    (he : ∀ (s : Shared) (H : Hp) (C : Addr) (cl : List (Str × Addr)) (fp : List Addr), PE (X.blk s H scope (compEnvC scope cl C X.env) fp) elt (lo X.K O te)) (hfs : ∀ x, foldedSetIterable iter X.env x = pure x)
    (hs : ∀ i ∈ p.slots, i ∈ own.map (·.2)) : PE X (.ListComp elt [⟨tg, iter, ifs, 0⟩] scope pos) (lo X.K O (dLc ti p (own.map (·.2)) tt te)) :=
  PE.imp (pe_lc hc hN hi ok hg ht he hfs) fun σ H Q h => by
    obtain ⟨F, M, ρ, Φ, A, h, k⟩ := h
    refine ⟨F, M, ρ, _, A, h, fun J H1 F1 M1 items G l1 a1 src h1 L hL => lc_turns src a1 (A.env.mono l1.le) (O.cl A.og l1) hs hL h1 fun F' H' M' ds ws l2 a2 hl nf nm rs q => ?_⟩
    have y : Le X.K F' H' (fun b => F' b ∨ b = L) H' := Le.refl.grow fun _ f => .inl f
    refine k _ _ ⟨fun b => F' b ∨ b = L, M', .lst ds, (l1.trans ⟨l2.le.trans y, fun a ha f m => ?_⟩), ⟨fun b f => ?_, fun b o hb => ?_⟩, ?_, q⟩
    · obtain ⟨x1, x2, x3⟩ := l2.hid a ha f m
      exact ⟨fun z => z.elim x1 fun e => ha (e ▸ hL), x2, x3⟩
    · rcases f with f | f
      · exact a2.fh b f
      · subst f; rw [hl]; simp
    · obtain ⟨n1, o1⟩ := a2.mp b o hb
      refine ⟨fun z => z.elim n1 fun e => ?_, o1.keep y rfl (fun c hc => ⟨rfl, hc⟩) (Nat.le_refl _)⟩
      subst e; rw [nm] at hb; cases hb
    · simp only [Rep]
      exact ⟨L, ws, rfl, .inr rfl, hl, rs.mono y⟩
theorem dLcM_fin {K : PySem.W.Frag} {F1 F' : Addr → Prop} {H1 H' : Hp} {M1 M' : MS} {L : Addr} {ds : List D} {ws : List V} (hL : H1 L = none) (l2 : Lm K F1 H1 M1 F' H' M') (a2 : AbsM K F' H' M') (hl : H' L = some (.lst ws)) (nf : ¬ F' L) (nm : M'.map L = none) (rs : Reps K F' H' ds ws) :
    Lm K F1 H1 M1 F' H' (M'.put L (.lst ds)) ∧ AbsM K F' H' (M'.put L (.lst ds)) := by
  refine ⟨⟨l2.le, fun a ha f m => ?_⟩, ⟨a2.fh, fun b o hb => ?_⟩⟩
  · obtain ⟨x1, x2, x3⟩ := l2.hid a ha f m
    have ne : a ≠ L := fun e => ha (e ▸ hL)
    exact ⟨x1, by rw [MS.put_ne ne]; exact x2, x3⟩
  · by_cases e : b = L
    · subst e
      rw [MS.put_same] at hb; cases hb
      exact ⟨nf, ws, hl, rs⟩
    · rw [MS.put_ne e] at hb
      obtain ⟨n1, o1⟩ := a2.mp b o hb
      refine ⟨n1, o1.keep Le.refl rfl (fun c hc => ⟨rfl, ?_⟩) (Nat.le_refl _)⟩
      rw [MS.put_ne (fun e => by subst e; rw [nm] at hc; cases hc)]
      exact hc
theorem q_lcM (hc : X.calm = true) (hN : X.N.Nodup) (hi : PI X tg iter (loI X.K O ti)) (ok : BlkOk X.N X.env.scope scope own)
    (hg : ∀ (s : Shared) (H : Hp) (C : Addr) (cl : List (Str × Addr)) (fp : List Addr), PG (X.blk s H scope (compEnvC scope cl C X.env) fp) tg (p.tg X.K))
    (ht : ∀ (s : Shared) (H : Hp) (C : Addr) (cl : List (Str × Addr)) (fp : List Addr), PTs (X.blk s H scope (compEnvC scope cl C X.env) fp) ifs (loT X.K O tt))
    (he : ∀ (s : Shared) (H : Hp) (C : Addr) (cl : List (Str × Addr)) (fp : List Addr), PE (X.blk s H scope (compEnvC scope cl C X.env) fp) elt (lo X.K O te)) (hfs : ∀ x, foldedSetIterable iter X.env x = pure x)
    (hs : ∀ i ∈ p.slots, i ∈ own.map (·.2)) : PE X (.ListComp elt [⟨tg, iter, ifs, 0⟩] scope pos) (lo X.K O (dLcM ti p (own.map (·.2)) tt te)) :=
  PE.imp (pe_lc hc hN hi ok hg ht he hfs) fun σ H Q h => by
    obtain ⟨F, M, ρ, Φ, A, h, k⟩ := h
    refine ⟨F, M, ρ, _, A, h, fun J H1 F1 M1 items G l1 a1 src h1 L hL => lc_turns src a1 (A.env.mono l1.le) (O.cl A.og l1) hs hL h1 fun F' H' M' ds ws l2 a2 hl nf nm rs q => ?_⟩
    obtain ⟨l3, a3⟩ := dLcM_fin hL l2 a2 hl nf nm rs
    exact k _ _ ⟨F', _, .ref L, l1.trans l3, a3, rfl, q L nm⟩
/-- name = [..] on one line -/
theorem z_setLc {i : Nat} {y : Str} {py : Pos} (hc : X.calm = true) (hN : X.N.Nodup) (hy : X.N[i]? = some y) (hyl : X.env.scope.names.lookup y = some .local) (hsw : swapsWith (.ListComp elt [⟨tg, iter, ifs, 0⟩] scope pos) (some (.Name y py)) spos.line X.env = pure true)
    (hi : PI X tg iter (loI X.K O ti)) (ok : BlkOk X.N X.env.scope scope own)
    (hg : ∀ (s : Shared) (H : Hp) (C : Addr) (cl : List (Str × Addr)) (fp : List Addr), PG (X.blk s H scope (compEnvC scope cl C X.env) fp) tg (p.tg X.K))
    (ht : ∀ (s : Shared) (H : Hp) (C : Addr) (cl : List (Str × Addr)) (fp : List Addr), PTs (X.blk s H scope (compEnvC scope cl C X.env) fp) ifs (loT X.K O tt))
    (he : ∀ (s : Shared) (H : Hp) (C : Addr) (cl : List (Str × Addr)) (fp : List Addr), PE (X.blk s H scope (compEnvC scope cl C X.env) fp) elt (lo X.K O te)) (hfs : ∀ x, foldedSetIterable iter X.env x = pure x)
    (hs : ∀ i ∈ p.slots, i ∈ own.map (·.2)) (mu : Bool) : PS X (.Assign [.Name y py] (.ListComp elt [⟨tg, iter, ifs, 0⟩] scope pos) spos) (loS X.K O (sAsg (if mu = true then dLcM ti p (own.map (·.2)) tt te else dLc ti p (own.map (·.2)) tt te) (.nm i))) :=
  PS.imp (ps_setLc hc hN hy hyl hsw hi ok hg ht he hfs) fun Y σ H h => by
    obtain ⟨F, M, ρ, Δ, A, h, k⟩ := h
    cases mu with
    | true =>
      refine ⟨F, M, ρ, _, A, h, fun J H1 F1 M1 items G l1 a1 src h1 L hL => lc_turns (Q := fun x H1 => gName i x σ H1 Y.nx) src a1 (A.env.mono l1.le) (O.cl A.og l1) hs hL h1 fun F' H' M' ds ws l2 a2 hl nf nm rs q => ?_⟩
      obtain ⟨l3, a3⟩ := dLcM_fin hL l2 a2 hl nf nm rs
      exact k.nx _ _ _ _ _ (l1.trans l3) ((A.go (l1.trans l3) a3).set (d := .ref L) rfl i) (q L nm)
    | false =>
      refine ⟨F, M, ρ, _, A, h, fun J H1 F1 M1 items G l1 a1 src h1 L hL => lc_turns (Q := fun x H1 => gName i x σ H1 Y.nx) src a1 (A.env.mono l1.le) (O.cl A.og l1) hs hL h1 fun F' H' M' ds ws l2 a2 hl nf nm rs q => ?_⟩
      have y : Le X.K F' H' (fun b => F' b ∨ b = L) H' := Le.refl.grow fun _ f => .inl f
      have lm : Lm X.K F1 H1 M1 (fun b => F' b ∨ b = L) H' M' := ⟨l2.le.trans y, fun a ha f m => by
        obtain ⟨x1, x2, x3⟩ := l2.hid a ha f m
        exact ⟨fun z => z.elim x1 fun e => ha (e ▸ hL), x2, x3⟩⟩
      have am : AbsM X.K (fun b => F' b ∨ b = L) H' M' := ⟨fun b f => by
        rcases f with f | f
        · exact a2.fh b f
        · subst f; rw [hl]; simp, fun b o hb => by
        obtain ⟨n1, o1⟩ := a2.mp b o hb
        refine ⟨fun z => z.elim n1 fun e => ?_, o1.keep y rfl (fun c hc => ⟨rfl, hc⟩) (Nat.le_refl _)⟩
        subst e; rw [nm] at hb; cases hb⟩
      refine k.nx _ _ _ _ _ (l1.trans lm) ((A.go (l1.trans lm) am).set (d := .lst ds) ?_ i) q
      simp only [Rep]
      exact ⟨L, ws, rfl, .inr rfl, hl, rs.mono y⟩
end
end DL
namespace DL
open PySem PySem.Spec PyProof.Rows L2
def SqK (k : Bool) (K : PySem.W.Frag) (H : Hp) (a : Addr) (xs : List V) : Prop := match k with
  | true => SqL K H a xs
  | false => SqT K H a xs
def IsIt (k : Bool) (h : Heap) (it a : Addr) (i : Nat) : Prop := match k with
  | true => h.IsListIter it a i
  | false => h.IsTupleIter it a i
def IsSq (k : Bool) (h : Heap) (a : Addr) (its : Array Value) : Prop := match k with
  | true => h.IsList a its
  | false => h.IsTuple a its
section
variable {X : Cx} {pins : List (Addr × Obj)} {σ : L2.St} {H : Hp} {s : Shared} {a it : Addr} {xs ys : List V} {k : Bool}
variable {O : Og X.K}
theorem sqk_at (I : Inv X pins σ H s) (h : SqK k X.K H a xs) : ∃ its : List Value, Vals xs its ∧ IsSq k s.heap a its.toArray := by
  cases k with
  | true =>
    obtain ⟨its, r, p, _⟩ := I.list h
    exact ⟨its, r, p.isList⟩
  | false =>
    obtain ⟨its, r, p, _⟩ := I.tuple h
    exact ⟨its, r, p⟩
theorem sqk_inj (I : Inv X pins σ H s) (h : SqK k X.K H a xs) (h' : SqK k X.K H a ys) : xs = ys := by
  cases k with
  | true => exact I.list_inj h h'
  | false => exact I.tuple_inj h h'
theorem draws_k {P : Program} {w : World} {A : Around} (hh : A.handled = none) (hne : a ≠ it) (its : Array Value) :
    Draws P w A it [it, a] its.size (fun i v => its[i]? = some v) (fun i h => IsIt k h it a i ∧ IsSq k h a its) := by
  cases k with
  | true => exact Draws.list hh it a hne its
  | false => exact Draws.tuple hh it a hne its
theorem isIt_obj {h : Heap} {i : Nat} (x : IsIt k h it a i) : ∃ o, h.get? it = some o ∧ ∀ v, o.data ≠ .cell v := by
  cases k with
  | true => obtain ⟨o, e, c, d⟩ := x; exact ⟨o, e, fun v z => by rw [d] at z; cases z⟩
  | false => obtain ⟨o, e, c, d⟩ := x; exact ⟨o, e, fun v z => by rw [d] at z; cases z⟩
theorem isIt_keep {h h' : Heap} {i : Nat} (x : IsIt k h it a i) (hk : ∀ o, h.get? it = some o → h'.get? it = some o) : IsIt k h' it a i := by
  cases k with
  | true => exact Heap.IsListIter.at x hk
  | false => exact Heap.IsTupleIter.at x hk
end
/-- what a walk of new pairs yields: at turn i the pair of f i and g i, where go -/
def ItP (go : Nat → Hp → Prop) (f : Nat → Hp → V → V → Prop) (stop : Nat → Hp → Prop) : It :=
  ⟨go, fun i H v H' => ∃ T x y, v = .ref T ∧ H T = none ∧ H' = upd H T (.tup [x, y]) ∧ f i H x y, stop⟩
theorem turn_pairs {P : Program} {w : World} {K : PySem.W.Frag} {elts : List Expr} {kk : Nat} {tpos : Pos} {go : Nat → Hp → Prop} {f : Nat → Hp → V → V → Prop} {stop : Nat → Hp → Prop} {it : Addr} {fp wr : List Addr} {tn : Nat → Heap → Prop}
    (mem : it ∈ fp) (hwr : ∀ b ∈ wr, b ∈ fp) (obj : ∀ i h, tn i h → ∀ b ∈ fp, ∃ o, h.get? b = some o ∧ ∀ v, o.data ≠ .cell v)
    (keep : ∀ i h h', tn i h → (∀ b ∈ fp, ∀ o, h.get? b = some o → h'.get? b = some o) → tn i h')
    (walk : ∀ (X : Cx), X.prog = P → X.w = w → X.K = K → X.calm = true → ∀ (i : Nat) (pins : List (Addr × Obj)) (s : Shared) (σ : L2.St) (H : Hp), Inv X pins σ H s → tn i s.heap → (go i H ∨ stop i H) →
      ∃ (fp' : List Addr) (n : Nat) (Pt : Nat → Array Value → Prop) (St : Nat → Heap → Prop) (Mid : Nat → Addr → Heap → Prop), WalksT P w X.A it fp' wr n Pt St Mid ∧ St i s.heap ∧ (∀ j h, St j h → tn j h) ∧
        (go i H → i < n ∧ ∀ vals, Pt i vals → ∃ x y u v, vals = #[u, v] ∧ RelV x u ∧ RelV y v ∧ f i H x y) ∧ (stop i H → i = n))
    (self : ∀ (A : Around) (i : Nat) (s : Shared) (Q : Value → Shared → Prop) (E : Value → Shared → Prop), tn i s.heap → Q (.ref it) s → wpAny (model P w) A (pyIter (.ref it)) Q E s) :
    Turn P w K (.Tuple elts kk tpos) (ItP go f stop) fp it tn where
  mem := mem
  obj := obj
  keep := keep
  item := by
    intro X hP hw hK hc i pins s σ H E I hf st hg
    obtain ⟨fp', n, Pt, St, Mid, W, hst, hall, hgo, _⟩ := walk X hP hw hK hc i pins s σ H I st (.inl hg)
    obtain ⟨hi, hvals⟩ := hgo hg
    subst hP hw hK
    refine W.item i s _ _ hi hst fun T vals h' tk hPt hsz hT hmid hk => ?_
    refine ⟨_, rfl, W.go elts kk tpos i T _ _ _ hmid fun h'' hst' hk' => ?_⟩
    obtain ⟨x, y, u, v, rfl, rx, ry, hfy⟩ := hvals vals hPt
    have hTw := W.apart i T h' hmid
    have hT2 : h''.IsTuple T #[u, v] := hT.at fun o e => hk' T o hTw e
    obtain ⟨o, ho, hcl, m, hd⟩ := hT2
    have fT : H T = none := I.hok.fresh hsz
    have new : ObjOk X.prog X.w (upd H T (.tup [x, y])) h'' T (.tup [x, y]) :=
      ⟨by show 2 ≤ sizeLine; decide, [u, v], .cons rx (.cons ry .nil), ⟨o, ho, hcl, m, hd⟩⟩
    have I1 : Inv X pins σ (upd H T (.tup [x, y])) { s with heap := h'', toks := tk } :=
      I.turnedNew (ch := wr) (fun b ob hb q => hk' b ob hb (hk b ob hb q)) (fun b hb => hf b (hwr b hb)) hsz new
    refine ⟨.ref T, _, I1, rfl, ⟨T, x, y, rfl, fT, rfl, hfy⟩, hall _ _ hst', fun b hb => ?_⟩
    obtain ⟨ob, hob, _⟩ := obj i s.heap st b hb
    rw [upd_ne (Nat.ne_of_lt (Nat.lt_of_lt_of_le (Heap.lt_size hob) hsz))]
    exact (hf b hb).1
  done := by
    intro X hP hw hK hc i pins s σ H E I hf st hg
    obtain ⟨fp', n, Pt, St, Mid, W, hst, hall, _, hstop⟩ := walk X hP hw hK hc i pins s σ H I st (.inr hg)
    have hn := hstop hg
    subst hP hw hK hn
    refine W.done s _ _ hst fun h' tk hk => ⟨rfl, ?_⟩
    exact I.turnedL (ch := wr) hk (fun b hb => hf b (hwr b hb))
  self := self
/-- enumerate over a list, a tuple -/
def goE (k : Bool) (K : PySem.W.Frag) (a : Addr) : Nat → Hp → Prop := fun i H => ∃ (xs : List V) (x : V), SqK k K H a xs ∧ xs[i]? = some x
def fE (k : Bool) (K : PySem.W.Frag) (a : Addr) (c : Int) : Nat → Hp → V → V → Prop := fun i H x y => x = .int (c + (i : Int)) ∧ ∀ xs, SqK k K H a xs → xs[i]? = some y
def stopE (k : Bool) (K : PySem.W.Frag) (a : Addr) : Nat → Hp → Prop := fun i H => ∃ xs : List V, SqK k K H a xs ∧ xs.length = i
abbrev ItE (k : Bool) (K : PySem.W.Frag) (a : Addr) (c : Int) : It := ItP (goE k K a) (fE k K a c) (stopE k K a)
theorem turn_enumK {P : Program} {w : World} {K : PySem.W.Frag} {elts : List Expr} {kk : Nat} {tpos : Pos} (k : Bool) (c : Int) (a e it : Addr) (hei : e ≠ it) (hae : a ≠ e) (hai : a ≠ it) :
    Turn P w K (.Tuple elts kk tpos) (ItE k K a c) [e, it] e (fun i h => (∃ old, IsEnum h e it (c + (i : Int)) old) ∧ IsIt k h it a i) :=
  turn_pairs (wr := [e, it]) (by simp) (fun _ h => h)
    (fun i h st b hb => by
      obtain ⟨⟨old, he⟩, hi⟩ := st
      rcases (show b = e ∨ b = it by simpa using hb) with z | z
      · rw [z]; exact ⟨_, he, fun v q => nomatch q⟩
      · rw [z]; exact isIt_obj hi)
    (fun i h h' st hk => ⟨by obtain ⟨⟨old, he⟩, _⟩ := st; exact ⟨old, hk e (by simp) _ he⟩, isIt_keep st.2 fun o q => hk it (by simp) o q⟩)
    (by
      intro X hP hw hK hc i pins s σ H I st hgs
      subst hP hw hK
      obtain ⟨xs, hq⟩ : ∃ xs, SqK k X.K H a xs := by
        rcases hgs with ⟨xs, _, h, _⟩ | ⟨xs, h, _⟩ <;> exact ⟨xs, h⟩
      obtain ⟨its, rv, hsq⟩ := sqk_at I hq
      have D := draws_k (k := k) (P := X.prog) (w := X.w) (A := X.A.in1) (it := it) (I.ok.hd hc) hai its.toArray
      have hl := rv.length
      refine ⟨_, _, _, _, _, WalksT.enumFrom c D e hei (by simp [hei, Ne.symm hae]) (by simp), ⟨st.1, st.2, hsq⟩, fun j h q => ⟨q.1, q.2.1⟩, ?_, ?_⟩
      · rintro ⟨ys, y, h1, h2⟩
        have e := sqk_inj I h1 hq
        subst e
        have hi := (List.getElem?_eq_some_iff.mp h2).1
        refine ⟨by rw [List.size_toArray]; omega, ?_⟩
        rintro vals ⟨t, u, hu, rfl⟩
        obtain ⟨u', hu', ru⟩ := rv.get h2
        have : u' = u := by simpa [hu'] using hu
        subst this
        exact ⟨.int (c + (i : Int)), y, _, _, rfl, ⟨t, rfl⟩, ru, rfl, fun zs hz => by rw [sqk_inj I hz hq]; exact h2⟩
      · rintro ⟨ys, h1, h2⟩
        rw [List.size_toArray, ← hl, ← h2, sqk_inj I h1 hq])
    (fun A i s Q E st h => by obtain ⟨⟨_, he⟩, _⟩ := st; exact wpAny_pyIter_enum he h)
/-- zip over lists, tuples in any mix -/
def goZ (k1 k2 : Bool) (K : PySem.W.Frag) (a b : Addr) : Nat → Hp → Prop := fun i H => ∃ (xs ys : List V) (x y : V), SqK k1 K H a xs ∧ SqK k2 K H b ys ∧ xs[i]? = some x ∧ ys[i]? = some y
def fZ (k1 k2 : Bool) (K : PySem.W.Frag) (a b : Addr) : Nat → Hp → V → V → Prop := fun i H x y => (∀ xs, SqK k1 K H a xs → xs[i]? = some x) ∧ ∀ ys, SqK k2 K H b ys → ys[i]? = some y
def stopZ (k1 k2 : Bool) (K : PySem.W.Frag) (a b : Addr) : Nat → Hp → Prop := fun i H => ∃ xs ys : List V, SqK k1 K H a xs ∧ SqK k2 K H b ys ∧ i = min xs.length ys.length
abbrev ItZ (k1 k2 : Bool) (K : PySem.W.Frag) (a b : Addr) : It := ItP (goZ k1 k2 K a b) (fZ k1 k2 K a b) (stopZ k1 k2 K a b)
theorem turn_zipK {P : Program} {w : World} {K : PySem.W.Frag} {elts : List Expr} {kk : Nat} {tpos : Pos} (k1 k2 : Bool) (a b z TI TO i1 i2 : Addr) (S : ZipSep2 z TI TO i1 i2 [i1, a] [i2, b]) (ha1 : a ≠ i1) (hb2 : b ≠ i2) :
    Turn P w K (.Tuple elts kk tpos) (ItZ k1 k2 K a b) [z, TI, TO, i1, i2] z
      (fun i h => IsZip h z TI TO .none ∧ IsTupOf2 h TI (.ref i1) (.ref i2) ∧ (∃ a1 a2, IsTupOf2 h TO a1 a2) ∧ IsIt k1 h i1 a i ∧ IsIt k2 h i2 b i) :=
  turn_pairs (wr := [z, TO, i1, i2]) (by simp) (fun _ h => by simp at h ⊢; rcases h with h | h | h | h <;> simp [h])
    (fun i h st c hc => by
      obtain ⟨hz, hTI, ⟨a1, a2, hTO⟩, h1, h2⟩ := st
      rcases (show c = z ∨ c = TI ∨ c = TO ∨ c = i1 ∨ c = i2 by simpa using hc) with e | e | e | e | e
      · rw [e]; exact ⟨_, hz, fun v q => nomatch q⟩
      · rw [e]; exact ⟨_, hTI, fun v q => nomatch q⟩
      · rw [e]; exact ⟨_, hTO, fun v q => nomatch q⟩
      · rw [e]; exact isIt_obj h1
      · rw [e]; exact isIt_obj h2)
    (fun i h h' st hk => by
      obtain ⟨hz, hTI, ⟨a1, a2, hTO⟩, h1, h2⟩ := st
      exact ⟨hk z (by simp) _ hz, hk TI (by simp) _ hTI, ⟨a1, a2, hk TO (by simp) _ hTO⟩, isIt_keep h1 fun o q => hk i1 (by simp) o q, isIt_keep h2 fun o q => hk i2 (by simp) o q⟩)
    (by
      intro X hP hw hK hc i pins s σ H I st hgs
      subst hP hw hK
      obtain ⟨xs, ys, hq1, hq2⟩ : ∃ xs ys, SqK k1 X.K H a xs ∧ SqK k2 X.K H b ys := by
        rcases hgs with ⟨xs, ys, _, _, h, h', _⟩ | ⟨xs, ys, h, h', _⟩ <;> exact ⟨xs, ys, h, h'⟩
      obtain ⟨its1, rv1, hsq1⟩ := sqk_at I hq1
      obtain ⟨its2, rv2, hsq2⟩ := sqk_at I hq2
      have D1 := draws_k (k := k1) (P := X.prog) (w := X.w) (A := X.A.in1) (it := i1) (I.ok.hd hc) ha1 its1.toArray
      have D2 := draws_k (k := k2) (P := X.prog) (w := X.w) (A := X.A.in1) (it := i2) (I.ok.hd hc) hb2 its2.toArray
      have hl1 := rv1.length
      have hl2 := rv2.length
      obtain ⟨hz, hTI, hTO, h1, h2⟩ := st
      refine ⟨_, _, _, _, _, WalksT.zipD2 S D1 D2, ⟨hz, hTI, hTO, ⟨h1, hsq1⟩, ⟨h2, hsq2⟩⟩, fun j h q => ⟨q.1, q.2.1, q.2.2.1, q.2.2.2.1.1, q.2.2.2.2.1⟩, ?_, ?_⟩
      · rintro ⟨us, ws, x, y, g1, g2, g3, g4⟩
        have e1 := sqk_inj I g1 hq1
        have e2 := sqk_inj I g2 hq2
        subst e1 e2
        have hi1 := (List.getElem?_eq_some_iff.mp g3).1
        have hi2 := (List.getElem?_eq_some_iff.mp g4).1
        refine ⟨by simp only [List.size_toArray]; omega, ?_⟩
        rintro vals ⟨u, v, hu, hv, rfl⟩
        obtain ⟨u', hu', ru⟩ := rv1.get g3
        obtain ⟨v', hv', rv⟩ := rv2.get g4
        have : u' = u := by simpa [hu'] using hu
        subst this
        have : v' = v := by simpa [hv'] using hv
        subst this
        exact ⟨x, y, _, _, rfl, ru, rv, fun zs hz => by rw [sqk_inj I hz hq1]; exact g3, fun zs hz => by rw [sqk_inj I hz hq2]; exact g4⟩
      · rintro ⟨us, ws, g1, g2, g3⟩
        rw [g3, sqk_inj I g1 hq1, sqk_inj I g2 hq2]
        simp only [List.size_toArray, ← hl1, ← hl2])
    (fun A i s Q E st h => wpAny_pyIter_zip st.1 h)
def rangeD (lo : Int) (n : Nat) : List D := (List.range n).map fun (i : Nat) => D.int (lo + (i : Int))
def enumD : Int → List D → List D
  | _, [] => []
  | c, x :: xs => .tup [.int c, x] :: enumD (c + 1) xs
def zipD : List D → List D → List D
  | x :: xs, y :: ys => .tup [x, y] :: zipD xs ys
  | _, _ => []
def dSeq (te : DE) : DI := fun ρ M Ψ => te ρ M fun x M1 => match seqA M1 x with
  | some xs => Ψ xs (fun M2 => seqA M2 x = some xs) M1
  | none => False
def dRng1 (ta : DE) : DI := fun ρ M Ψ => ta ρ M fun x M1 => match x with
  | .int j => -(2 ^ 62) ≤ j ∧ j < 2 ^ 62 ∧ Ψ (rangeD 0 j.toNat) (fun _ => True) M1
  | _ => False
def dRng2 (ta tb : DE) : DI := fun ρ M Ψ => ta ρ M fun x M1 => tb ρ M1 fun y M2 => match x with
  | .int i => (match y with
    | .int j => (-(2 ^ 62) ≤ i ∧ i < 2 ^ 62 ∧ -(2 ^ 62) ≤ j ∧ j < 2 ^ 62) ∧ Ψ (rangeD i (j - i).toNat) (fun _ => True) M2
    | _ => False)
  | _ => False
def dEnum (c : Int) (te : DE) : DI := fun ρ M Ψ => te ρ M fun x M1 => match seqA M1 x with
  | some xs => Ψ (enumD c xs) (fun M2 => seqA M2 x = some xs) M1
  | none => False
def dZip (ta tb : DE) : DI := fun ρ M Ψ => ta ρ M fun x M1 => tb ρ M1 fun y M2 => match seqA M2 x, seqA M2 y with
  | some xs, some ys => Ψ (zipD xs ys) (fun M3 => seqA M3 x = some xs ∧ seqA M3 y = some ys) M2
  | _, _ => False
theorem enumD_length : ∀ (xs : List D) (c : Int), (enumD c xs).length = xs.length
  | [], _ => rfl
  | x :: xs, c => by simp [enumD, enumD_length xs]
theorem enumD_get : ∀ (xs : List D) (c : Int) (i : Nat), (enumD c xs)[i]? = (xs[i]?).map fun x => .tup [.int (c + (i : Int)), x]
  | [], _, i => by simp [enumD]
  | x :: xs, c, 0 => by simp [enumD]
  | x :: xs, c, i + 1 => by
    simp only [enumD, List.getElem?_cons_succ, enumD_get xs (c + 1) i]
    rw [show c + 1 + (i : Int) = c + ((i + 1 : Nat) : Int) by omega]
theorem zipD_length : ∀ (xs ys : List D), (zipD xs ys).length = min xs.length ys.length
  | [], _ => by simp [zipD]
  | _ :: _, [] => by simp [zipD]
  | x :: xs, y :: ys => by simp only [zipD, List.length_cons, zipD_length xs ys]; omega
theorem zipD_get : ∀ (xs ys : List D) (i : Nat) (x y : D), xs[i]? = some x → ys[i]? = some y → (zipD xs ys)[i]? = some (.tup [x, y])
  | [], _, i, _, _, h, _ => by simp at h
  | _ :: _, [], i, _, _, _, h => by simp at h
  | x :: xs, y :: ys, 0, _, _, h, h' => by simp at h h'; subst h h'; rfl
  | x :: xs, y :: ys, i + 1, a, b, h, h' => by
    simp only [zipD, List.getElem?_cons_succ]
    exact zipD_get xs ys i a b (by simpa using h) (by simpa using h')
section
variable {K : PySem.W.Frag} {F F' : Addr → Prop} {H H' : Hp} {M M' : MS} {x y : D} {v : V} {xs : List D} {a : Addr}
/-- false: a tuple -/
def kindD : D → Bool
  | .tup _ => false
  | _ => true
/-- as seqA_rep, by the kind -/
theorem seqK_rep (am : AbsM K F H M) (r : Rep K F H x v) (h : seqA M x = some xs) : ∃ a vs, v = .ref a ∧ SqK (kindD x) K H a vs ∧ Reps K F H xs vs := by
  cases x with
  | tup ys =>
    simp only [seqA, Option.some.injEq] at h
    subst h
    obtain ⟨a, vs, e, h1, h2⟩ := rep_tup r
    exact ⟨a, vs, e, h1, h2⟩
  | lst ys =>
    simp only [seqA, Option.some.injEq] at h
    subst h
    simp only [Rep] at r
    obtain ⟨a, vs, e, _, h1, h2⟩ := r
    exact ⟨a, vs, e, SqL.of h1, h2⟩
  | scr ns =>
    simp only [seqA, Option.some.injEq] at h
    subst h
    simp only [Rep] at r
    obtain ⟨a, e, h1⟩ := r
    exact ⟨a, _, e, h1.sq, Reps.ints ns⟩
  | ref a =>
    simp only [seqA] at h
    split at h
    · rename_i zs e
      cases h
      obtain ⟨_, vs, h1, h2⟩ := am.mp a _ e
      exact ⟨a, vs, r, SqL.of h1, h2⟩
    · cases h
  | _ => simp [seqA] at h
/-- two readings of one place -/
theorem seqK_at (am : AbsM K F H M) (r : Rep K F H x (.ref a)) (h : seqA M x = some xs) : ∃ vs, SqK (kindD x) K H a vs ∧ Reps K F H xs vs := by
  obtain ⟨b, vs, e, h1, h2⟩ := seqK_rep am r h
  cases e
  exact ⟨vs, h1, h2⟩
end
/-- what a sequence's items give to a walk -/
theorem src_seq {K : PySem.W.Frag} {F : Addr → Prop} {H : Hp} {M : MS} {x : D} {a : Addr} {xs : List D} (r : Rep K F H x (.ref a))
    {J : It} (hgo : ∀ i H, J.go i H ↔ ∃ (vs : List V) (y : V), SqK (kindD x) K H a vs ∧ vs[i]? = some y) (hst : ∀ i H (vs : List V), SqK (kindD x) K H a vs → vs.length = i → J.stop i H)
    (hy : ∀ i H y H', J.yld i H y H' → H' = H ∧ ∀ vs : List V, SqK (kindD x) K H a vs → vs[i]? = some y) : Src K F H M J xs (fun M' => seqA M' x = some xs) where
  go := fun i F' H' M' l am g hi => by
    obtain ⟨vs, h1, h2⟩ := seqK_at am (r.mono l.le) g
    obtain ⟨y, e, _⟩ := h2.get (List.getElem?_eq_getElem hi)
    exact (hgo i H').2 ⟨vs, y, h1, e⟩
  stop := fun F' H' M' l am g => by
    obtain ⟨vs, h1, h2⟩ := seqK_at am (r.mono l.le) g
    exact hst _ _ vs h1 h2.length.symm
  yld := fun i F' H' M' y H'' l am g hi q => by
    obtain ⟨rfl, e⟩ := hy _ _ _ _ q
    obtain ⟨vs, h1, h2⟩ := seqK_at am (r.mono l.le) g
    obtain ⟨y', e', ry⟩ := h2.get (List.getElem?_eq_getElem hi)
    rw [e vs h1] at e'
    cases e'
    exact ⟨F', _, Lm.refl, am, List.getElem?_eq_getElem hi, ry⟩
section
variable {X : Cx} {tg : Expr}
variable {O : Og X.K}
theorem pi_seq {e : Expr} {te : DE} (he : PE X e (lo X.K O te)) : PI X tg e (loI X.K O (dSeq te)) := by
  refine ⟨fun pins s σ H R I h => ?_⟩
  obtain ⟨F, M, ρ, Ψ, A, h, k⟩ := h
  refine thn (he.run pins s σ H (fun v H' => loQ X.K F H M _ v H') I ⟨F, M, ρ, _, A, h, fun v H' q => q⟩) fun v s1 ⟨x, H1, I1, r1, q1⟩ => ?_
  obtain ⟨F1, M1, d, l1, a1, rd, h1⟩ := q1
  split at h1
  · rename_i xs ex
    obtain ⟨a, vs, e, hq, rs⟩ := seqK_rep a1 rd ex
    subst e
    cases r1
    have nf : ∀ o, Inv X pins σ H1 { s1 with heap := s1.heap.push o } := fun o => I1.kept (t' := s1.toks) fun b o' e => Heap.get?_push_of_some _ e
    have fp : ∀ b ∈ [s1.heap.objs.size], FpOk X pins H1 b := fun b hb => by
      have e : b = s1.heap.objs.size := by simpa using hb
      subst e
      exact I1.fpOk (Nat.le_refl _) (I1.hok.fresh (Nat.le_refl _))
    cases hk : kindD d with
    | true =>
      rw [hk] at hq
      obtain ⟨its, rv, p, hz⟩ := I1.list hq
      refine wpAny_pyIter_list p.isList ⟨s1.heap.objs.size, [s1.heap.objs.size], _, _, H1, rfl, nf _, turn_list a _, ⟨_, Heap.get?_push_size _ rfl, rfl, rfl⟩, fp, ?_⟩
      refine k _ _ _ _ _ _ l1 a1 (src_seq rd (fun i H => ?_) (fun i H vs hv hl => ?_) (fun i H y H' hy => ?_)) h1
      · rw [hk]; exact Iff.rfl
      · rw [hk] at hv; exact ⟨vs, hv, Nat.le_of_eq hl⟩
      · rw [hk]; exact hy
    | false =>
      rw [hk] at hq
      obtain ⟨its, rv, p, hz⟩ := I1.tuple hq
      refine wpAny_pyIter_tuple (show s1.heap.IsTuple a its.toArray from p) ⟨s1.heap.objs.size, [s1.heap.objs.size], _, _, H1, rfl, nf _, turn_tuple a _, ⟨_, Heap.get?_push_size _ rfl, rfl, rfl⟩, fp, ?_⟩
      refine k _ _ _ _ _ _ l1 a1 (src_seq rd (fun i H => ?_) (fun i H vs hv hl => ?_) (fun i H y H' hy => ?_)) h1
      · rw [hk]; exact Iff.rfl
      · rw [hk] at hv; exact ⟨vs, hv, Nat.le_of_eq hl⟩
      · rw [hk]; exact hy
  · exact h1.elim
theorem PI.imp {e : Expr} {t t' : TI} (h : PI X tg e t) (hi : ∀ σ H R, t' σ H R → t σ H R) : PI X tg e t' := ⟨fun pins s σ H R I q => h.run pins s σ H R I (hi _ _ _ q)⟩
theorem src_rng {K : PySem.W.Frag} {F : Addr → Prop} {H : Hp} {M : MS} (lo : Int) (n : Nat) : Src K F H M (Itr lo n) (rangeD lo n) (fun _ => True) where
  go := fun i F' H' M' l am g hi => by
    show i < n
    simpa [rangeD] using hi
  stop := fun F' H' M' l am g => by
    show n ≤ (rangeD lo n).length
    simp [rangeD]
  yld := fun i F' H' M' y H'' l am g hi q => by
    obtain ⟨rfl, rfl⟩ := q
    refine ⟨F', .int (lo + i), Lm.refl, am, ?_, rfl⟩
    have hi' : i < n := by simpa [rangeD] using hi
    simp [rangeD, List.getElem?_map, List.getElem?_range hi']
theorem pi_rng1 {a : Expr} {ta : DE} {p pos : Pos} (hg : Gl X "range") (hm : X.mg "range" = none) (ha : PE X a (lo X.K O ta)) (hs : starEach [a] X.env = (false, eval a X.env) :: starEach [] X.env) (hs0 : starEach [a] X.env = [(false, eval a X.env)]) : PI X tg (.Call (.Name "range" p) [a] [] pos) (loI X.K O (dRng1 ta)) :=
  PI.imp (pi_range1 hg hm (pa_cons ha pa_nil hs) hs0) fun σ H R h => by
    obtain ⟨F, M, ρ, Ψ, A, h, k⟩ := h
    refine ⟨F, M, ρ, _, A, h, fun v H1 q => ?_⟩
    obtain ⟨F1, M1, d, l1, a1, rd, h1⟩ := q
    split at h1
    · rename_i j
      obtain ⟨g1, g2, h1⟩ := h1
      exact ⟨j, by rw [rep_int rd], g1, g2, k _ _ _ _ _ _ l1 a1 (src_rng 0 _) h1⟩
    · exact h1.elim
theorem pi_rng2 {a b : Expr} {ta tb : DE} {p pos : Pos} (hg : Gl X "range") (hm : X.mg "range" = none) (ha : PE X a (lo X.K O ta)) (hb : PE X b (lo X.K O tb)) (hs1 : starEach (a :: [b]) X.env = (false, eval a X.env) :: starEach [b] X.env) (hs3 : starEach [b] X.env = (false, eval b X.env) :: starEach [] X.env)
    (hs : starEach [a, b] X.env = [(false, eval a X.env), (false, eval b X.env)]) (hs2 : starEach [b] X.env = [(false, eval b X.env)]) :
    PI X tg (.Call (.Name "range" p) [a, b] [] pos) (loI X.K O (dRng2 ta tb)) :=
  PI.imp (pi_range2 hg hm (pa_cons ha (pa_cons hb pa_nil hs3) hs1) hs hs2) fun σ H R h => by
    obtain ⟨F, M, ρ, Ψ, A, h, k⟩ := h
    refine ⟨F, M, ρ, _, A, h, fun v H1 ⟨F1, M1, d, l1, a1, rd, h1⟩ => ⟨F1, M1, ρ, _, (A.go l1 a1), h1, fun w H2 ⟨F2, M2, e, l2, a2, re, h2⟩ => ?_⟩⟩
    cases d with
    | int i =>
      cases e with
      | int j =>
        dsimp only at h2
        exact ⟨i, j, by rw [rep_int rd, rep_int re], h2.1, k _ _ _ _ _ _ (l1.trans l2) a2 (src_rng i _) h2.2⟩
      | _ => exact h2.elim
    | _ => cases e <;> exact h2.elim
end
theorem meetsEnum1 {v : Value} {o : Obj} {H : Heap → Prop} (B : Begins v o H) :
    Meets (Builtin.«enumerate.__new__» ⟨[.type "enumerate", v], []⟩) (fun _ R s => H s.heap ∧ R (.ok (.ret (.ref (s.heap.push o).objs.size)))
      { s with heap := (s.heap.push o).push { cls := .type "enumerate", data := .fields #[.none, .bool false, .ref s.heap.objs.size, rawInt 0, .none, .none] } }) :=
  .of_wp fun prog w A R s h => by
    rcases s with ⟨hp, g, d, tk, os⟩
    rcases h with ⟨h1, h⟩
    have hse := sub_enumerate
    have qi : ∀ {A' : Around} {E' : Value → Shared → Prop} {Q' : Value → Shared → Prop}, Q' (.ref hp.objs.size) ⟨hp.push o, g, d, tk, os⟩ → wpAny (model prog w) A' (pyIter v) Q' E' ⟨hp, g, d, tk, os⟩ := fun q => B.iter prog w _ _ ⟨hp, g, d, tk, os⟩ _ h1 q
    wp_walk using qi
    refine wpAny_stack_any fun _ => wpAny_pure ?_
    split
    · rename_i c _ _ _ _ _
      cases (c == Value.type "enumerate") <;> (wp_walk using qi; exact ⟨_, rfl, h⟩)
    · wp_walk using qi
      exact ⟨_, rfl, h⟩
theorem begin_enum1 {prog : Program} {w : World} {A : Around} {E : Value → Shared → Prop} {s : Shared} {v : Value} {o : Obj} {H : Heap → Prop} {Q : Value → Shared → Prop} (B : Begins v o H) (h1 : H s.heap)
    (h : ∀ h', IsEnum h' (s.heap.objs.size + 1) s.heap.objs.size 0 .none → h'.get? s.heap.objs.size = some o → (∀ b o, s.heap.get? b = some o → h'.get? b = some o) → Q (.ref (s.heap.objs.size + 1)) { s with heap := h' }) :
    wpAny (model prog w) A (call (.type "enumerate") [v]) Q E s := by
  refine callType_new F.called_enumerate (by decide) (F.typeCall_enumerate_1 _) (F.newCall_enumerate_1 _) (fun obj => F.args_object_init_2 obj _) F.entry_enumerate_new (meetsEnum1 B) ⟨h1, ?_⟩
  have hz : (s.heap.push o).objs.size = s.heap.objs.size + 1 := Heap.size_push ..
  have he := Heap.get?_push_size (s.heap.push o) (o := { cls := .type "enumerate", data := .fields #[.none, .bool false, .ref s.heap.objs.size, rawInt 0, .none, .none] }) rfl
  show _ ∧ _
  rw [hz] at he ⊢
  refine ⟨⟨_, he, rfl⟩, ?_⟩
  exact h _ he (Heap.get?_push_of_some _ (Heap.get?_push_size _ B.free)) fun b o x => Heap.get?_push_of_some _ (Heap.get?_push_of_some _ x)
def objK (k : Bool) (a : Addr) : Obj := match k with
  | true => { cls := .type "list_iterator", data := .fields #[.ref a, .int 0 0] }
  | false => { cls := .type "tuple_iterator", data := .fields #[.ref a, .int 0 0] }
theorem beginsK (k : Bool) (a : Addr) (its : Array Value) : Begins (.ref a) (objK k a) (fun h => IsSq k h a its) := by
  cases k with
  | true => exact begins_list a its
  | false => exact begins_tuple a its
theorem isItK {k : Bool} {h : Heap} {it a : Addr} (e : h.get? it = some (objK k a)) : IsIt k h it a 0 := by
  cases k with
  | true => exact ⟨_, e, rfl, rfl⟩
  | false => exact ⟨_, e, rfl, rfl⟩
theorem isSq_lt {k : Bool} {h : Heap} {a : Addr} {its : Array Value} (e : IsSq k h a its) : a < h.objs.size := by
  cases k with
  | true => obtain ⟨o, e, _⟩ := e; exact Heap.lt_size e
  | false => obtain ⟨o, e, _⟩ := e; exact Heap.lt_size e
/-- a walk of pairs, over trees -/
theorem src_pairs {K : PySem.W.Frag} {F : Addr → Prop} {H : Hp} {M : MS} {go : Nat → Hp → Prop} {f : Nat → Hp → V → V → Prop} {stop : Nat → Hp → Prop} {items : List D} {G : MS → Prop}
    (hgo : ∀ i F' H' M', Lm K F H M F' H' M' → AbsM K F' H' M' → G M' → i < items.length → go i H')
    (hst : ∀ F' H' M', Lm K F H M F' H' M' → AbsM K F' H' M' → G M' → stop items.length H')
    (hf : ∀ i F' H' M' u v, Lm K F H M F' H' M' → AbsM K F' H' M' → G M' → i < items.length → f i H' u v → ∃ x y, items[i]? = some (.tup [x, y]) ∧ Rep K F' H' x u ∧ Rep K F' H' y v) : Src K F H M (ItP go f stop) items G where
  go := hgo
  stop := hst
  yld := fun i F' H' M' x H'' l am g hi q => by
    obtain ⟨T, u, v, rfl, hT, rfl, h1⟩ := q
    obtain ⟨a, b, e, ra, rb⟩ := hf i F' H' M' u v l am g hi h1
    have l2 := Lm.laid (o := .tup [u, v]) am hT
    refine ⟨F', .tup [a, b], l2, am.laid hT, e, ?_⟩
    simp only [Rep]
    exact ⟨T, [u, v], rfl, .inl (.inl upd_same), Reps.cons (ra.mono l2.le) (Reps.cons (rb.mono l2.le) Reps.nil)⟩
section
variable {X : Cx} {elts : List Expr} {kk : Nat} {tpos : Pos}
variable {O : Og X.K}
theorem pi_enumK {e : Expr} {te : DE} {p pos : Pos} (hg : Gl X "enumerate") (hm : X.mg "enumerate" = none) (he : PE X e (lo X.K O te)) (hs0 : starEach [e] X.env = (false, eval e X.env) :: starEach [] X.env) (hs : starEach [e] X.env = [(false, eval e X.env)]) :
    PI X (.Tuple elts kk tpos) (.Call (.Name "enumerate" p) [e] [] pos) (loI X.K O (dEnum 0 te)) := by
  refine ⟨fun pins s σ H R I h => ?_⟩
  obtain ⟨F, M, ρ, Ψ, A, h, k⟩ := h
  refine Call_ (ld_blt I hg hm boot_enumerate (PyProof.Rows.callWith_type1 (thn ((pa_cons he pa_nil hs0).run pos pins s σ H (fun vs H' => ∃ v, vs = [v] ∧ loQ X.K F H M _ v H') I ⟨F, M, ρ, _, A, h, fun v H' q => ⟨v, rfl, q⟩⟩) fun us s1 ⟨vs, H1, I1, r1, q1⟩ => ?_) hs rfl))
  obtain ⟨v, rfl, F1, M1, d, l1, a1, rd, h1⟩ := q1
  cases r1 with
  | cons r rr =>
  cases rr
  split at h1
  · rename_i xs ex
    obtain ⟨a, vs, e, hq, rs⟩ := seqK_rep a1 rd ex
    subst e
    cases r
    obtain ⟨its, rv, hsq⟩ := sqk_at I1 hq
    refine begin_enum1 (beginsK (kindD d) a its.toArray) hsq fun h' he hit hk => wpAny_pyIter_enum he ?_
    have I2 : Inv X pins σ H1 { s1 with heap := h' } := I1.kept (t' := s1.toks) hk
    have hal := isSq_lt hsq
    refine ⟨s1.heap.objs.size + 1, [s1.heap.objs.size + 1, s1.heap.objs.size], _, _, H1, rfl, I2, turn_enumK (kindD d) 0 a (s1.heap.objs.size + 1) s1.heap.objs.size (Nat.succ_ne_self _) (Nat.ne_of_lt (Nat.lt_succ_of_lt hal)) (Nat.ne_of_lt hal), ⟨⟨.none, he⟩, isItK hit⟩, fun b hb => ?_, ?_⟩
    · have e' : b = s1.heap.objs.size + 1 ∨ b = s1.heap.objs.size := by simpa using hb
      have hle : s1.heap.objs.size ≤ b := by
        rcases e' with z | z
        · rw [z]; exact Nat.le_add_right _ _
        · rw [z]; exact Nat.le_refl _
      exact I1.fpOk hle (I1.hok.fresh hle)
    · refine k _ _ _ _ _ _ l1 a1 (src_pairs (fun i F' H' M' l am g hi => ?_) (fun F' H' M' l am g => ?_) fun i F' H' M' u v l am g hi q => ?_) h1
      · obtain ⟨vs, z1, z2⟩ := seqK_at am (rd.mono l.le) g
        rw [enumD_length] at hi
        obtain ⟨y, ey, _⟩ := z2.get (List.getElem?_eq_getElem hi)
        exact ⟨vs, y, z1, ey⟩
      · obtain ⟨vs, z1, z2⟩ := seqK_at am (rd.mono l.le) g
        exact ⟨vs, z1, by rw [enumD_length]; exact z2.length.symm⟩
      · obtain ⟨vs, z1, z2⟩ := seqK_at am (rd.mono l.le) g
        rw [enumD_length] at hi
        obtain ⟨q1, q2⟩ := q
        obtain ⟨y, ey, ry⟩ := z2.get (List.getElem?_eq_getElem hi)
        rw [q2 vs z1] at ey
        cases ey
        exact ⟨.int (0 + (i : Int)), _, by rw [enumD_get, List.getElem?_eq_getElem hi]; rfl, q1, ry⟩
  · exact h1.elim
theorem pi_zipK {e e2 : Expr} {te te2 : DE} {p pos : Pos} (hg : Gl X "zip") (hm : X.mg "zip" = none) (he : PE X e (lo X.K O te)) (he2 : PE X e2 (lo X.K O te2)) (hs2 : starEach [e2] X.env = (false, eval e2 X.env) :: starEach [] X.env)
    (hs : starEach [e, e2] X.env = (false, eval e X.env) :: starEach [e2] X.env) (hpl : (backTo pos (starEach [e2] X.env)).any (·.1) = false) :
    PI X (.Tuple elts kk tpos) (.Call (.Name "zip" p) [e, e2] [] pos) (loI X.K O (dZip te te2)) := by
  refine ⟨fun pins s σ H R I h => ?_⟩
  obtain ⟨F, M, ρ, Ψ, A, h, k⟩ := h
  refine Call_ (ld_blt I hg hm PyProof.Rows.boot_zip (PyProof.Rows.callWith_type1 (thn ((pa_cons he (pa_cons he2 pa_nil hs2) hs).run pos pins s σ H
    (fun vs H' => ∃ v w F1 M1 d1 d2, vs = [v, w] ∧ Lm X.K F H M F1 H' M1 ∧ AbsM X.K F1 H' M1 ∧ Rep X.K F1 H' d1 v ∧ Rep X.K F1 H' d2 w ∧ (match seqA M1 d1, seqA M1 d2 with
      | some xs, some ys => Ψ (zipD xs ys) (fun M3 => seqA M3 d1 = some xs ∧ seqA M3 d2 = some ys) M1
      | _, _ => False)) I
    ⟨F, M, ρ, _, A, h, fun v H1 ⟨F1, M1, d1, l1, a1, rd1, h1⟩ => ⟨F1, M1, ρ, _, (A.go l1 a1), h1, fun w H2 ⟨F2, M2, d2, l2, a2, rd2, h2⟩ => ⟨v, w, F2, M2, d1, d2, rfl, l1.trans l2, a2, rd1.mono l2.le, rd2, h2⟩⟩⟩) fun us s1 ⟨vs, H1, I1, r1, q1⟩ => ?_) hs hpl))
  obtain ⟨v, w, F1, M1, d1, d2, rfl, l1, a1, rd1, rd2, h1⟩ := q1
  cases r1 with
  | cons r rr =>
  cases rr with
  | cons r' rr =>
  cases rr
  split at h1
  · rename_i xs ys ex ey
    obtain ⟨a, vs, e1, hq1, rs1⟩ := seqK_rep a1 rd1 ex
    obtain ⟨b, ws, e2, hq2, rs2⟩ := seqK_rep a1 rd2 ey
    subst e1
    subst e2
    cases r
    cases r'
    obtain ⟨its1, rv1, hsq1⟩ := sqk_at I1 hq1
    obtain ⟨its2, rv2, hsq2⟩ := sqk_at I1 hq2
    have ha := isSq_lt hsq1
    have hb := isSq_lt hsq2
    refine zip_begins2 (beginsK (kindD d1) a its1.toArray) (beginsK (kindD d2) b its2.toArray) hsq1 hsq2 fun h' hz hTI hTO hi1 hi2 hsz hk => wpAny_pyIter_zip hz ?_
    have I2 : Inv X pins σ H1 { s1 with heap := h' } := I1.kept (t' := s1.toks) hk
    have S : ZipSep2 (s1.heap.objs.size + 4) (s1.heap.objs.size + 2) (s1.heap.objs.size + 3) s1.heap.objs.size (s1.heap.objs.size + 1) [s1.heap.objs.size, a] [s1.heap.objs.size + 1, b] :=
      zip_sep2 (fun c hc => by rw [List.mem_singleton.mp hc]; exact ha) (fun c hc => by rw [List.mem_singleton.mp hc]; exact hb)
    refine ⟨s1.heap.objs.size + 4, [s1.heap.objs.size + 4, s1.heap.objs.size + 2, s1.heap.objs.size + 3, s1.heap.objs.size, s1.heap.objs.size + 1], _, _, H1, rfl, I2, turn_zipK (kindD d1) (kindD d2) a b _ _ _ _ _ S (Nat.ne_of_lt ha) (Nat.ne_of_lt (Nat.lt_succ_of_lt hb)), ⟨hz, hTI, ⟨_, _, hTO⟩, isItK hi1, isItK hi2⟩, fun c hc => ?_, ?_⟩
    · have e' : c = s1.heap.objs.size + 4 ∨ c = s1.heap.objs.size + 2 ∨ c = s1.heap.objs.size + 3 ∨ c = s1.heap.objs.size ∨ c = s1.heap.objs.size + 1 := by simpa using hc
      have hle : s1.heap.objs.size ≤ c := by
        rcases e' with z | z | z | z | z <;> rw [z]
        · exact Nat.le_add_right _ _
        · exact Nat.le_add_right _ _
        · exact Nat.le_add_right _ _
        · exact Nat.le_refl _
        · exact Nat.le_add_right _ _
      exact I1.fpOk hle (I1.hok.fresh hle)
    · refine k _ _ _ _ _ _ l1 a1 (src_pairs (fun i F' H' M' l am g hi => ?_) (fun F' H' M' l am g => ?_) fun i F' H' M' u v l am g hi q => ?_) h1
      · obtain ⟨vs, z1, z2⟩ := seqK_at am (rd1.mono l.le) g.1
        obtain ⟨ws, z3, z4⟩ := seqK_at am (rd2.mono l.le) g.2
        rw [zipD_length] at hi
        obtain ⟨y, ey, _⟩ := z2.get (List.getElem?_eq_getElem (show i < xs.length by omega))
        obtain ⟨y2, ey2, _⟩ := z4.get (List.getElem?_eq_getElem (show i < ys.length by omega))
        exact ⟨vs, ws, y, y2, z1, z3, ey, ey2⟩
      · obtain ⟨vs, z1, z2⟩ := seqK_at am (rd1.mono l.le) g.1
        obtain ⟨ws, z3, z4⟩ := seqK_at am (rd2.mono l.le) g.2
        exact ⟨vs, ws, z1, z3, by rw [zipD_length, z2.length, z4.length]⟩
      · obtain ⟨vs, z1, z2⟩ := seqK_at am (rd1.mono l.le) g.1
        obtain ⟨ws, z3, z4⟩ := seqK_at am (rd2.mono l.le) g.2
        rw [zipD_length] at hi
        obtain ⟨q1, q2⟩ := q
        obtain ⟨y, ey, ry⟩ := z2.get (List.getElem?_eq_getElem (show i < xs.length by omega))
        obtain ⟨y2, ey2, ry2⟩ := z4.get (List.getElem?_eq_getElem (show i < ys.length by omega))
        rw [q1 vs z1] at ey
        rw [q2 ws z3] at ey2
        cases ey
        cases ey2
        exact ⟨_, _, zipD_get _ _ _ _ _ (List.getElem?_eq_getElem (by omega)) (List.getElem?_eq_getElem (by omega)), ry, ry2⟩
  · exact h1.elim
end
end DL
namespace DL
open PySem PySem.Spec PyProof.Rows L2
section
variable {X : Cx} {a b c : Expr} {rest : List Expr} {ta tb tc : DE} {ua ub : DT} {pos : Pos}
variable {O : Og X.K}
theorem PW.imp {e : Expr} {t t' : TT} (h : PW X e t) (hi : ∀ σ H Q, t' σ H Q → t σ H Q) : PW X e t' := ⟨fun wh pins s σ H Q I q => h.run wh pins s σ H Q I (hi _ _ _ q)⟩
theorem q_and1 (ha : PT X a (loT X.K O ua)) : PW X (.BoolOp .And [a] pos) (loT X.K O ua) := pw_and1 ha
theorem q_or1 (ha : PT X a (loT X.K O ua)) : PW X (.BoolOp .Or [a] pos) (loT X.K O ua) := pw_or1 ha
theorem q_and (ha : PT X a (loT X.K O ua)) (hb : PW X (.BoolOp .And (b :: rest) pos) (loT X.K O ub)) : PW X (.BoolOp .And (a :: b :: rest) pos) (loT X.K O (dAnd ua ub)) :=
  PW.imp (pw_and ha hb) fun σ H Q h => by
    obtain ⟨F, M, ρ, Φ, A, h, k⟩ := h
    refine ⟨F, M, ρ, _, A, h, fun c H1 F1 M1 l1 a1 h1 => ?_⟩
    cases c with
    | true => exact ⟨F1, M1, ρ, Φ, (A.go l1 a1), h1, fun d H2 F2 M2 l2 a2 h2 => k d H2 F2 M2 (l1.trans l2) a2 h2⟩
    | false => exact k false H1 F1 M1 l1 a1 h1
theorem q_or (ha : PT X a (loT X.K O ua)) (hb : PW X (.BoolOp .Or (b :: rest) pos) (loT X.K O ub)) : PW X (.BoolOp .Or (a :: b :: rest) pos) (loT X.K O (dOr ua ub)) :=
  PW.imp (pw_or ha hb) fun σ H Q h => by
    obtain ⟨F, M, ρ, Φ, A, h, k⟩ := h
    refine ⟨F, M, ρ, _, A, h, fun c H1 F1 M1 l1 a1 h1 => ?_⟩
    cases c with
    | false => exact ⟨F1, M1, ρ, Φ, (A.go l1 a1), h1, fun d H2 F2 M2 l2 a2 h2 => k d H2 F2 M2 (l1.trans l2) a2 h2⟩
    | true => exact k true H1 F1 M1 l1 a1 h1
theorem q_one {op : BoolOp} (ha : PE X a (lo X.K O ta)) : PE X (.BoolOp op [a] pos) (lo X.K O ta) := pe_one ha
theorem q_andV (ha : PE X a (lo X.K O ta)) (hb : PE X (.BoolOp .And (b :: rest) pos) (lo X.K O tb)) : PE X (.BoolOp .And (a :: b :: rest) pos) (lo X.K O (dAndV ta tb)) :=
  PE.imp (pe_and ha hb) fun σ H Q h => by
    obtain ⟨F, M, ρ, Φ, A, h, k⟩ := h
    refine ⟨F, M, ρ, _, A, h, fun v H1 ⟨F1, M1, x, l1, a1, r1, h1⟩ => ?_⟩
    cases x with
    | bl c =>
      refine ⟨c, r1, ?_⟩
      cases c with
      | true => exact ⟨F1, M1, ρ, Φ, (A.go l1 a1), h1, fun d H2 q => k d H2 (q.le l1)⟩
      | false => exact k _ _ ((hB a1 h1).le l1)
    | _ => exact h1.elim
/-- not e as a value, e a bool -/
def dNotE (ta : DE) : DE := fun ρ M Φ => ta ρ M fun x M1 => match x with
  | .bl b => Φ (.bl (!b)) M1
  | _ => False
theorem q_notE (ha : PE X a (lo X.K O ta)) : PE X (.UnaryOp .Not a pos) (lo X.K O (dNotE ta)) :=
  PE.imp (pe_not ha) fun σ H Q h => by
    obtain ⟨F, M, ρ, Φ, A, h, k⟩ := h
    refine ⟨F, M, ρ, _, A, h, fun v H1 ⟨F1, M1, x, l1, a1, r1, h1⟩ => ?_⟩
    cases x with
    | bl c => exact ⟨c, r1, k _ _ ((hB a1 h1).le l1)⟩
    | _ => exact h1.elim
def dChain (R R' : D → D → MS → DQ → Prop) (ta tb tc : DE) : DE := fun ρ M Φ => ta ρ M fun x M1 => tb ρ M1 fun y M2 => R x y M2 fun z M3 => match z with
  | .bl k => if k = true then tc ρ M3 fun w M4 => R' y w M4 Φ else Φ (.bl false) M3
  | _ => False
theorem lo_chain {K : PySem.W.Frag} {O : Og K} {R R' : D → D → MS → DQ → Prop} : ∀ σ H Q, lo K O (dChain R R' ta tb tc) σ H Q → tChain (loR K R) (loR K R') (lo K O ta) (lo K O tb) (lo K O tc) σ H Q := by
  rintro σ H Q ⟨F, M, ρ, Φ, A, h, k⟩
  refine ⟨F, M, ρ, _, A, h, fun vx H1 ⟨F1, M1, x, l1, a1, r1, h1⟩ => ⟨F1, M1, ρ, _, (A.go l1 a1), h1, fun vy H2 ⟨F2, M2, y, l2, a2, r2, h2⟩ => ⟨F2, M2, x, y, _, a2, r1.mono l2.le, r2, h2, fun v H3 ⟨F3, M3, z, l3, a3, r3, h3⟩ => ?_⟩⟩⟩
  cases z with
  | bl c =>
    refine ⟨c, r3, ?_⟩
    cases c with
    | true =>
      rw [if_pos rfl]
      exact ⟨F3, M3, ρ, _, (A.go ((l1.trans l2).trans l3) a3), h3, fun vw H4 ⟨F4, M4, w, l4, a4, r4, h4⟩ => ⟨F4, M4, y, w, Φ, a4, r2.mono (l3.trans l4).le, r4, h4, fun u H5 q => k u H5 ((((q.le l4).le l3).le l2).le l1)⟩⟩
    | false =>
      rw [if_neg Bool.false_ne_true]
      exact k _ _ ((((hB a3 h3).le l3).le l2).le l1)
  | _ => exact h3.elim
theorem q_chain {op op' : CmpOp} {R R' : D → D → MS → DQ → Prop} (ho : OpR X (compareOp op) (loR X.K R)) (ho' : OpR X (compareOp op') (loR X.K R')) (ha : PE X a (lo X.K O ta)) (hb : PE X b (lo X.K O tb)) (hc : PE X c (lo X.K O tc))
    (hm : lastMarks [op, op'] [b, c] = false) : PE X (.Compare a [op, op'] [b, c] pos) (lo X.K O (dChain R R' ta tb tc)) := PE.imp (pe_chain ho ho' ha hb hc hm) lo_chain
theorem q_chainT {op op' : CmpOp} {R R' : D → D → MS → DQ → Prop} (ho : OpR X (compareOp op) (loR X.K R)) (ho' : OpR X (compareOp op') (loR X.K R')) (ha : PE X a (lo X.K O ta)) (hb : PE X b (lo X.K O tb)) (hc : PE X c (lo X.K O tc))
    (hm : lastMarks [op, op'] [b, c] = false) : PT X (.Compare a [op, op'] [b, c] pos) (loT X.K O (dTest (dChain R R' ta tb tc))) :=
  PT.imp (pt_chain ho ho' ha hb hc hm) fun σ H Q h => by
    obtain ⟨F, M, ρ, Φ, A, h, k⟩ := h
    refine lo_chain σ H _ ⟨F, M, ρ, _, A, h, fun v H1 q => ?_⟩
    obtain ⟨F1, M1, x, l1, a1, r1, h1⟩ := q
    cases x with
    | bl c => exact ⟨c, r1, k c H1 F1 M1 l1 a1 h1⟩
    | _ => exact h1.elim
end
def truD (M : MS) : D → Option Bool
  | .non => some false
  | .bl b => some b
  | .int i => some (i != 0)
  | .str z => if z.length ≤ 100000 then some ((z.length : Int) != 0) else none
  | .tup xs => some (!xs.isEmpty)
  | .lst xs => some (!xs.isEmpty)
  | .scr ns => some (!ns.isEmpty)
  | .ref a => (match M.map a with
    | some (.lst xs) => some (!xs.isEmpty)
    | _ => none)
  | .dic ks _ => some (!ks.isEmpty)
  | .ty _ => none
  | .obj _ _ _ _ => none
theorem reps_empty {K : PySem.W.Frag} {F : Addr → Prop} {H : Hp} {xs : List D} {vs : List V} (r : Reps K F H xs vs) : xs.isEmpty = vs.isEmpty := by
  have := r.length
  cases xs <;> cases vs <;> simp_all
theorem truD_ok {K : PySem.W.Frag} {F : Addr → Prop} {H : Hp} {M : MS} {x : D} {v : V} {b : Bool} (am : AbsM K F H M) (r : Rep K F H x v) (h : truD M x = some b) : TruV K v H b := by
  cases x with
  | non => simp only [truD, Option.some.injEq] at h; subst h; rw [show v = .non from r]; rfl
  | bl c => simp only [truD, Option.some.injEq] at h; subst h; rw [show v = .bl c from r]; rfl
  | int i => simp only [truD, Option.some.injEq] at h; subst h; rw [show v = .int i from r]; rfl
  | str z =>
    simp only [truD] at h
    split at h
    · rename_i hz
      cases h
      rw [show v = .str z from r]
      exact ⟨sz5 hz, rfl⟩
    · cases h
  | tup xs =>
    simp only [truD, Option.some.injEq] at h
    subst h
    obtain ⟨a, vs, e, h1, h2⟩ := rep_tup r
    subst e
    exact .inr (.inl ⟨vs, h1, by rw [reps_empty h2]⟩)
  | lst xs =>
    simp only [truD, Option.some.injEq] at h
    subst h
    simp only [Rep] at r
    obtain ⟨a, vs, e, _, h1, h2⟩ := r
    subst e
    exact .inl ⟨vs, SqL.of h1, by rw [reps_empty h2]⟩
  | scr ns =>
    simp only [truD, Option.some.injEq] at h
    subst h
    simp only [Rep] at r
    obtain ⟨a, e, h1⟩ := r
    subst e
    exact .inl ⟨_, h1.sq, by cases ns <;> rfl⟩
  | ref a =>
    simp only [truD] at h
    split at h
    · rename_i xs e
      cases h
      obtain ⟨_, vs, h1, h2⟩ := am.mp a _ e
      rw [show v = .ref a from r]
      exact .inl ⟨vs, SqL.of h1, by rw [reps_empty h2]⟩
    · cases h
  | dic ks xs =>
    simp only [truD, Option.some.injEq] at h
    subst h
    simp only [Rep] at r
    obtain ⟨a, vs, e, _, h1, h2, h3⟩ := r
    subst e
    refine .inr (.inr ⟨_, h1, ?_⟩)
    have := h3.length
    cases ks <;> cases vs <;> simp_all
  | obj _ _ _ _ => simp only [truD] at h; cases h
  | ty t => simp [truD] at h
def dTru (te : DE) : DT := fun ρ M Φ => te ρ M fun x M1 => match truD M1 x with
  | some b => Φ b M1
  | none => False
section
variable {X : Cx} {a : Expr} {ta : DE}
variable {O : Og X.K}
theorem q_tru (ha : PE X a (lo X.K O ta)) (he : ∀ whole, isTrue a X.env whole = (do let v ← whole; standAt a.pos; holding [v] (truthy v))) : PT X a (loT X.K O (dTru ta)) :=
  PT.imp (pt_truth ha he) fun σ H Q h => by
    obtain ⟨F, M, ρ, Φ, A, h, k⟩ := h
    refine ⟨F, M, ρ, _, A, h, fun v H1 ⟨F1, M1, x, l1, a1, r1, h1⟩ => ?_⟩
    dsimp only at h1
    split at h1
    · rename_i b e
      exact ⟨b, truD_ok a1 r1 e, k b H1 F1 M1 l1 a1 h1⟩
    · exact h1.elim
end
def rSet (x i y : D) (M : MS) (Φ : MS → Prop) : Prop := match x with
  | .ref a => (match i with
    | .int k => (match M.map a with
      | some (.lst ds) => (match ixN ds.length k with
        | some j => Φ (M.put a (.lst (ds.set j y)))
        | none => False)
      | _ => False)
    | _ => False)
  | _ => False
def sSetI (te to ti : DE) : DS := fun Δ ρ M => te ρ M fun y M1 => to ρ M1 fun x M2 => ti ρ M2 fun i M3 => rSet x i y M3 fun M4 => Δ.nx ρ M4
theorem set_rep {K : PySem.W.Frag} {F : Addr → Prop} {H : Hp} {M : MS} {x i y : D} {vx vi vy : V} {Φ : MS → Prop} {Q : Hp → Prop} (am : AbsM K F H M) (rx : Rep K F H x vx) (ri : Rep K F H i vi) (ry : Rep K F H y vy) (h : rSet x i y M Φ)
    (k : ∀ H' M', Lm K F H M F H' M' → AbsM K F H' M' → Φ M' → Q H') : rSetL vx vi vy H Q := by
  unfold rSet at h
  split at h
  · rename_i a
    split at h
    · rename_i j
      split at h
      · rename_i ds e
        split at h
        · rename_i n en
          obtain ⟨_, vs, h1, h2⟩ := am.mp a _ e
          refine ⟨a, vs, j, n, rx, ri, h1, by rw [← h2.length]; exact en, ?_⟩
          have r := h2.set ry n
          exact k _ _ (Lm.wrote am e r) (am.wrote e r).1 h
        · exact h.elim
      · exact h.elim
    · exact h.elim
  · exact h.elim
section
variable {X : Cx} {o i e : Expr} {to ti te : DE} {pos tpos : Pos}
variable {O : Og X.K}
theorem z_setI (he : PE X e (lo X.K O te)) (ho : PE X o (lo X.K O to)) (hi : PE X i (lo X.K O ti)) (ha : ∀ v, assign (.Subscript o i tpos) X.env v = (do
      let ov ← holding [v] (eval o X.env)
      let iv ← holding [v, ov] (eval i X.env)
      standAt tpos
      holding [v, ov, iv] (setItem ov iv v)
      release [v, ov, iv] [])) (hs : swapsWithSole [.Subscript o i tpos] e pos.line X.env = pure false) (hw : swappedStores [.Subscript o i tpos] e X.env = pure none)
    (h1 : (assignEach [.Subscript o i tpos] X.env).map (·.2) = [assign (.Subscript o i tpos) X.env]) : PS X (.Assign [.Subscript o i tpos] e pos) (loS X.K O (sSetI te to ti)) :=
  PS.imp (ps_asg he (pg_sub ho hi set_list ha) hs hw h1) fun Y σ H h => by
    obtain ⟨F, M, ρ, Δ, A, h, k⟩ := h
    exact ⟨F, M, ρ, _, A, h, fun vy H1 ⟨F1, M1, y, l1, a1, r1, h1⟩ => ⟨F1, M1, ρ, _, (A.go l1 a1), h1, fun vx H2 ⟨F2, M2, x, l2, a2, r2, h2⟩ => ⟨F2, M2, ρ, _, (A.go (l1.trans l2) a2), h2, fun vi H3 ⟨F3, M3, z, l3, a3, r3, h3⟩ =>
      set_rep a3 (r2.mono l3.le) r3 (r1.mono (l2.trans l3).le) h3 fun H4 M4 l4 a4 q => k.nx σ H4 F3 M4 ρ (((l1.trans l2).trans l3).trans l4) (A.go (((l1.trans l2).trans l3).trans l4) a4) q⟩⟩⟩
/-- i op= j -/
def rIp (f : Int → Int → Int) (x y : D) (M : MS) (Φ : DQ) : Prop := match x, y with
  | .int i, .int j => Φ (.int (f i j)) M
  | _, _ => False
theorem rIp_int {f : Int → Int → Int} {x y : D} {M : MS} {Φ : DQ} (h : rIp f x y M Φ) : ∃ i j, x = .int i ∧ y = .int j ∧ Φ (.int (f i j)) M := by
  unfold rIp at h
  split at h
  · exact ⟨_, _, rfl, rfl, h⟩
  · exact h.elim
def sAug (i : Nat) (te : DE) (f : Int → Int → Int) : DS := fun Δ ρ M => match ρ[i]? with
  | some (some x) => te ρ M fun y M1 => rIp f x y M1 fun z M2 => Δ.nx (ρ.set i (some z)) M2
  | _ => False
def getL (K : PySem.W.Frag) : V → V → Hp → VK → Prop := fun o i H Q => ∃ a xs k x, o = .ref a ∧ i = .int k ∧ SqL K H a xs ∧ atI xs k = some x ∧ Q x H
theorem getL_ok : PGet X (getL X.K) := by
  intro pins s σ H o i ov iv Q I ro ri h
  obtain ⟨a, xs, k, z, rfl, rfl, hq, he, q⟩ := h
  cases ro
  obtain ⟨t, rfl⟩ := ri
  obtain ⟨its, r, pl, hz⟩ := I.list hq
  obtain ⟨j, h1, h2, h3, h4, h5⟩ := atI_get he
  obtain ⟨w, ew, rw'⟩ := r.get h2
  have hl := r.length
  have hn := line63
  have fin : EP X pins σ Q w s := ⟨z, H, I, rw', q⟩
  by_cases h0 : 0 ≤ k
  · have hj : k.toNat = j := by
      rw [seqIndex_of h0 h5] at h1
      exact Option.some.inj h1
    exact wpAny_getItem_list pl.isList h0 (by omega) (by rw [hj]; simpa using ew) fin
  · have hj : (k + (its.toArray.size : Int)).toNat = j := by
      rw [seqIndex_neg (by omega) h4] at h1
      rw [List.size_toArray, ← hl]
      exact Option.some.inj h1
    exact wpAny_getItem_list_neg pl.isList (by omega) (by rw [List.size_toArray] <;> omega) (by omega) (by rw [hj]; simpa using ew) fin
def rGet (x y : D) (M : MS) (Φ : DQ) : Prop := match y with
  | .int i => (match seqL M x with
    | some xs => (match atI xs i with
      | some d => Φ d M
      | none => False)
    | none => False)
  | _ => False
theorem get_rep {K : PySem.W.Frag} {F : Addr → Prop} {H : Hp} {M : MS} {x y : D} {vx vy : V} {Φ : DQ} {Q : VK} (am : AbsM K F H M) (rx : Rep K F H x vx) (ry : Rep K F H y vy) (h : rGet x y M Φ) (k : ∀ v d, Rep K F H d v → Φ d M → Q v H) : getL K vx vy H Q := by
  unfold rGet at h
  split at h
  · rename_i i
    split at h
    · rename_i xs ex
      split at h
      · rename_i d ed
        obtain ⟨a, vs, rfl, hq, p⟩ := seqL_rep am rx ex
        obtain ⟨w, e1, rw⟩ := atI_rep p ed
        exact ⟨a, vs, i, w, rfl, ry, SqL.of hq, e1, k w d rw h⟩
      · exact h.elim
    · exact h.elim
  · exact h.elim
def sAugI (to ti te : DE) (f : Int → Int → Int) : DS := fun Δ ρ M => to ρ M fun x M1 => ti ρ M1 fun i M2 => rGet x i M2 fun y M3 => te ρ M3 fun z M4 => rIp f y z M4 fun w M5 => rSet x i w M5 fun M6 => Δ.nx ρ M6
theorem z_augI {op : Operator} {f : Int → Int → Int} (ho : PE X o (lo X.K O to)) (hi : PE X i (lo X.K O ti)) (he : PE X e (lo X.K O te)) (hp : PIp X op (ipI f))
    (ha : ∀ ov iv new, augStore i ov iv new = (do holding [new, ov, iv] (setItem ov iv new); release [new, ov, iv] []; pure .next)) : PS X (.AugAssign (.Subscript o i tpos) op e pos) (loS X.K O (sAugI to ti te f)) :=
  PS.imp (ps_augS ho hi getL_ok he hp set_list ha) fun Y σ H h => by
    obtain ⟨F, M, ρ, Δ, A, h, k⟩ := h
    refine ⟨F, M, ρ, _, A, h, fun vx H1 ⟨F1, M1, x, l1, a1, r1, h1⟩ => ⟨F1, M1, ρ, _, (A.go l1 a1), h1, fun vi H2 ⟨F2, M2, i, l2, a2, r2, h2⟩ => get_rep a2 (r1.mono l2.le) r2 h2 fun vy y ry h3 =>
      ⟨F2, M2, ρ, _, (A.go (l1.trans l2) a2), h3, fun vz H3 ⟨F3, M3, z, l3, a3, r3, h4⟩ => ?_⟩⟩⟩
    obtain ⟨p, q, rfl, rfl, h5⟩ := rIp_int h4
    refine ⟨p, q, rep_int ry, rep_int r3, set_rep a3 (r1.mono (l2.trans l3).le) (r2.mono l3.le) (show Rep X.K F3 H3 (.int (f p q)) (.int (f p q)) from rfl) h5 fun H4 M4 l4 a4 q => k.nx σ H4 F3 M4 ρ (((l1.trans l2).trans l3).trans l4) (A.go (((l1.trans l2).trans l3).trans l4) a4) q⟩
end
def rApp (x : D) (ys : List D) (M : MS) (Φ : DQ) : Prop := match x with
  | .ref a => (match ys with
    | [y] => (match M.map a with
      | some (.lst ds) => ds.length < 100000 ∧ Φ .non (M.put a (.lst (ds ++ [y])))
      | _ => False)
    | _ => False)
  | _ => False
def rExtd (x : D) (ys : List D) (M : MS) (Φ : DQ) : Prop := match x with
  | .ref a => (match ys with
    | [y] => (match M.map a, seqL M y with
      | some (.lst ds), some es => ds.length + es.length ≤ 100000 ∧ Φ .non (M.put a (.lst (ds ++ es)))
      | _, _ => False)
    | _ => False)
  | _ => False
/-- o.m(..), o a list that may change -/
def isL (M : MS) : D → Prop
  | .ref a => (match M.map a with
    | some (.lst _) => True
    | _ => False)
  | _ => False
def dMt (R : D → List D → MS → DQ → Prop) (to : DE) (ta : DAs) : DE := fun ρ M Φ => to ρ M fun x M1 => isL M1 x ∧ ta ρ M1 fun ys M2 => R x ys M2 Φ
theorem dMt_ok {K : PySem.W.Frag} {F : Addr → Prop} {H : Hp} {M : MS} {x : D} {v : V} (am : AbsM K F H M) (r : Rep K F H x v) (h : isL M x) : tyV K "list" v H := by
  cases x with
  | ref a =>
    simp only [isL] at h
    split at h
    · rename_i ds e
      obtain ⟨_, vs, h1, h2⟩ := am.mp a _ e
      rw [show v = .ref a from r]
      exact .inl ⟨rfl, vs, SqL.of h1⟩
    · exact h.elim
  | _ => exact h.elim
theorem app_rep {K : PySem.W.Frag} {F : Addr → Prop} {H : Hp} {M : MS} {x : D} {ys : List D} {v : V} {us : List V} {Φ : DQ} {Q : VK} (am : AbsM K F H M) (r : Rep K F H x v) (rs : Reps K F H ys us) (h : rApp x ys M Φ) (k : ∀ v H', loQ K F H M Φ v H' → Q v H') : rAppend v us H Q := by
  unfold rApp at h
  split at h
  · rename_i a
    split at h
    · rename_i y
      split at h
      · rename_i ds e
        obtain ⟨_, vs, h1, h2⟩ := am.mp a _ e
        simp only [Reps] at rs
        obtain ⟨w, t, rfl, rw', rfl⟩ := rs
        have r2 := h2.append (Reps.cons rw' Reps.nil)
        exact ⟨a, vs, w, r, rfl, h1, by rw [← h2.length]; exact Nat.lt_of_lt_of_le h.1 (sz5 (Nat.le_refl _)), k _ _ ⟨F, _, .non, Lm.wrote am e r2, (am.wrote e r2).1, rfl, h.2⟩⟩
      · exact h.elim
    · exact h.elim
  · exact h.elim
theorem extd_rep {K : PySem.W.Frag} {F : Addr → Prop} {H : Hp} {M : MS} {x : D} {ys : List D} {v : V} {us : List V} {Φ : DQ} {Q : VK} (am : AbsM K F H M) (r : Rep K F H x v) (rs : Reps K F H ys us) (h : rExtd x ys M Φ) (k : ∀ v H', loQ K F H M Φ v H' → Q v H') : rExtend v us H Q := by
  unfold rExtd at h
  split at h
  · rename_i a
    split at h
    · rename_i y
      split at h
      · rename_i ds es e ee
        obtain ⟨_, vs, h1, h2⟩ := am.mp a _ e
        simp only [Reps] at rs
        obtain ⟨w, t, rfl, rw', rfl⟩ := rs
        obtain ⟨b, zs, rfl, g1, g2⟩ := seqL_rep am rw' ee
        have r2 := h2.append g2
        exact ⟨a, b, vs, zs, r, rfl, h1, g1, by rw [← h2.length, ← g2.length]; exact sz5 h.1, k _ _ ⟨F, _, .non, Lm.wrote am e r2, (am.wrote e r2).1, rfl, h.2⟩⟩
      · exact h.elim
    · exact h.elim
  · exact h.elim
section
variable {X : Cx} {o e : Expr} {to te : DE} {apos cpos : Pos}
variable {O : Og X.K}
theorem q_append (ho : PE X o (lo X.K O to)) (ha : PE X e (lo X.K O te)) (hbase : attributeBase o "append" X.env (eval o X.env) = eval o X.env)
    (hfew : ((backTo cpos (starEach [e] X.env)).all (fun x => !x.1) && (backToKw cpos (keywordEach [] X.env)).all (fun x => x.1.isSome)
      && decide ([e].length + ([] : List Keyword).length + (if ([] : List Keyword).isEmpty then 0 else 1) < 30)) = true)
    (hline : (apos.endLine == cpos.line) = true) (hs : starEach [e] X.env = (false, eval e X.env) :: starEach [] X.env) (hplain : (backTo cpos (starEach [] X.env)).any (·.1) = false) :
    PE X (.Call (.Attribute o "append" apos) [e] [] cpos) (lo X.K O (dMt rApp to (dCons te dNil))) :=
  PE.imp (pe_bm PySem.F.plainAttrs_list PySem.F.slot_list_append PySem.F.type_list_append mt_append ho (q_cons ha q_nil hs) hbase hfew hline hs hplain) fun σ H Q h => by
    obtain ⟨F, M, ρ, Φ, A, h, k⟩ := h
    exact ⟨F, M, ρ, _, A, h, fun v H1 ⟨F1, M1, x, l1, a1, r1, h0, h1⟩ => ⟨dMt_ok a1 r1 h0, F1, M1, ρ, _, (A.go l1 a1), h1, fun vs H2 F2 M2 ds l2 a2 r2 h2 => app_rep a2 (r1.mono l2.le) r2 h2 fun v H' q => k v H' ((q.le l2).le l1)⟩⟩
theorem q_extend (ho : PE X o (lo X.K O to)) (ha : PE X e (lo X.K O te)) (hbase : attributeBase o "extend" X.env (eval o X.env) = eval o X.env)
    (hfew : ((backTo cpos (starEach [e] X.env)).all (fun x => !x.1) && (backToKw cpos (keywordEach [] X.env)).all (fun x => x.1.isSome)
      && decide ([e].length + ([] : List Keyword).length + (if ([] : List Keyword).isEmpty then 0 else 1) < 30)) = true)
    (hline : (apos.endLine == cpos.line) = true) (hs : starEach [e] X.env = (false, eval e X.env) :: starEach [] X.env) (hplain : (backTo cpos (starEach [] X.env)).any (·.1) = false) :
    PE X (.Call (.Attribute o "extend" apos) [e] [] cpos) (lo X.K O (dMt rExtd to (dCons te dNil))) :=
  PE.imp (pe_bm PySem.F.plainAttrs_list PySem.F.slot_list_extend PySem.F.type_list_extend mt_extend ho (q_cons ha q_nil hs) hbase hfew hline hs hplain) fun σ H Q h => by
    obtain ⟨F, M, ρ, Φ, A, h, k⟩ := h
    exact ⟨F, M, ρ, _, A, h, fun v H1 ⟨F1, M1, x, l1, a1, r1, h0, h1⟩ => ⟨dMt_ok a1 r1 h0, F1, M1, ρ, _, (A.go l1 a1), h1, fun vs H2 F2 M2 ds l2 a2 r2 h2 => extd_rep a2 (r1.mono l2.le) r2 h2 fun v H' q => k v H' ((q.le l2).le l1)⟩⟩
end
def sPar (i j : Nat) (ta : DAs) : DS := fun Δ ρ M => ta ρ M fun ds M1 => match ds with
  | [v, w] => Δ.nx ((ρ.set i (some v)).set j (some w)) M1
  | _ => False
def sPar3 (i j l : Nat) (ta : DAs) : DS := fun Δ ρ M => ta ρ M fun ds M1 => match ds with
  | [u, v, w] => Δ.nx (((ρ.set i (some u)).set j (some v)).set l (some w)) M1
  | _ => False
section
variable {X : Cx} {pos : Pos}
variable {O : Og X.K}
theorem z_par {i j : Nat} {x y : Str} {a b : Expr} {ta : DAs} {px py pt : Pos} {kt k2 pt2} (hc : X.calm = true) (hN : X.N.Nodup) (hi : X.N[i]? = some x) (hj : X.N[j]? = some y) (hij : i ≠ j)
    (hx : X.env.scope.names.lookup x = some .local) (hy : X.env.scope.names.lookup y = some .local) (ha : PA X [a, b] (loA X.K O ta))
    (hw : swappedStores [.Tuple [.Name x px, .Name y py] kt pt] (.Tuple [a, b] k2 pt2) X.env = pure (some [x, y]))
    (hs : swapsWithSole [.Tuple [.Name x px, .Name y py] kt pt] (.Tuple [a, b] k2 pt2) pos.line X.env = pure false) :
    PS X (.Assign [.Tuple [.Name x px, .Name y py] kt pt] (.Tuple [a, b] k2 pt2) pos) (loS X.K O (sPar i j ta)) :=
  PS.imp (ps_par hc hN hi hj hij hx hy ha hw hs) fun Y σ H h => by
    obtain ⟨F, M, ρ, Δ, A, h, k⟩ := h
    refine ⟨F, M, ρ, _, A, h, fun vs H1 F1 M1 ds l1 a1 r1 h1 => ?_⟩
    split at h1
    · rename_i d e
      simp only [Reps] at r1
      obtain ⟨v, t, rfl, rv, w, u, rfl, rw', rfl⟩ := r1
      exact ⟨v, w, rfl, k.nx _ H1 F1 M1 _ l1 (((A.go l1 a1).set rv i).set rw' j) h1⟩
    · exact h1.elim
theorem z_par3 {i j l : Nat} {x y z : Str} {a b c : Expr} {ta : DAs} {px py pz pt : Pos} {kt k2 pt2} (hc : X.calm = true) (hN : X.N.Nodup) (hi : X.N[i]? = some x) (hj : X.N[j]? = some y) (hl : X.N[l]? = some z) (hij : i ≠ j) (hil : i ≠ l) (hjl : j ≠ l)
    (hx : X.env.scope.names.lookup x = some .local) (hy : X.env.scope.names.lookup y = some .local) (hz : X.env.scope.names.lookup z = some .local) (ha : PA X [a, b, c] (loA X.K O ta))
    (hw : swappedStores [.Tuple [.Name x px, .Name y py, .Name z pz] kt pt] (.Tuple [a, b, c] k2 pt2) X.env = pure (some [x, y, z]))
    (hs : swapsWithSole [.Tuple [.Name x px, .Name y py, .Name z pz] kt pt] (.Tuple [a, b, c] k2 pt2) pos.line X.env = pure false) :
    PS X (.Assign [.Tuple [.Name x px, .Name y py, .Name z pz] kt pt] (.Tuple [a, b, c] k2 pt2) pos) (loS X.K O (sPar3 i j l ta)) :=
  PS.imp (ps_par3 hc hN hi hj hl hij hil hjl hx hy hz ha hw hs) fun Y σ H h => by
    obtain ⟨F, M, ρ, Δ, A, h, k⟩ := h
    refine ⟨F, M, ρ, _, A, h, fun vs H1 F1 M1 ds l1 a1 r1 h1 => ?_⟩
    split at h1
    · simp only [Reps] at r1
      obtain ⟨u, t, rfl, ru, v, t2, rfl, rv, w, t3, rfl, rw', rfl⟩ := r1
      exact ⟨u, v, w, rfl, k.nx _ H1 F1 M1 _ l1 ((((A.go l1 a1).set ru i).set rv j).set rw' l) h1⟩
    · exact h1.elim
end
/-- a hidden object is written and stands from now on -/
theorem AbsM.fix {K : PySem.W.Frag} {F F1 : Addr → Prop} {H H1 : Hp} {M M1 : MS} {p : Addr} {o : HO} (h0 : H p = none) (l : Lm K F H M F1 H1 M1) (a : AbsM K F1 H1 M1) (nf : ¬ F1 p) (nm : M1.map p = none) (ht : ∀ vs, ¬ Rd H1 p (.tup vs)) (hs : ∀ ob u, H1 p ≠ some (.frz ob u)) :
    Lm K F H M (fun b => F1 b ∨ b = p) (upd H1 p o) M1 ∧ AbsM K (fun b => F1 b ∨ b = p) (upd H1 p o) M1 := by
  have l2 : Le K F1 H1 F1 (upd H1 p o) := Le.upd nf ht hs
  have l3 : Le K F1 H1 (fun b => F1 b ∨ b = p) (upd H1 p o) := l2.grow fun _ f => .inl f
  have ne : ∀ c o', M1.map c = some o' → c ≠ p := fun c o' hc e => by rw [e, nm] at hc; cases hc
  refine ⟨⟨l.le.trans l3, fun b hb f m => ?_⟩, ⟨fun b f => ?_, fun b o' hb => ?_⟩⟩
  · obtain ⟨x1, x2, x3⟩ := l.hid b hb f m
    have nb : b ≠ p := fun e => hb (e ▸ h0)
    exact ⟨fun z => z.elim x1 nb, x2, (upd_ne nb).trans x3⟩
  · by_cases e : b = p
    · subst e; rw [upd_same]; simp
    · rw [upd_ne e]
      exact a.fh b (f.resolve_right e)
  · obtain ⟨n1, o1⟩ := a.mp b o' hb
    exact ⟨fun z => z.elim n1 (ne b o' hb), o1.keep l3 (upd_ne (ne b o' hb)) (fun c hc => ⟨upd_ne (ne c _ hc), hc⟩) (Nat.le_refl _)⟩
def dDic0 : DE := fun _ M Φ => Φ (.dic [] []) M
def keyD : D → Option Key
  | .int i => some (.inl i)
  | .str z => some (.inr z)
  | _ => none
def dDic1 (tk tv : DE) : DE := fun ρ M Φ => tk ρ M fun x M1 => tv ρ M1 fun y M2 => match keyD x with
  | some k => Φ (.dic [k] [y]) M2
  | none => False
end DL
namespace DL
open PySem PySem.Spec PyProof.Rows L2
section
variable {X : Cx} {pos p : Pos} {j : Nat} {x : Str}
variable {O : Og X.K}
theorem q_int {i : Int} : PE X (.Constant (.int i) j pos) (lo X.K O (dC (.int i))) := q_c pe_int fun _ _ => rfl
theorem q_bl {b : Bool} : PE X (.Constant (.bool b) j pos) (lo X.K O (dC (.bl b))) := q_c pe_bl fun _ _ => rfl
theorem q_non : PE X (.Constant .none j pos) (lo X.K O (dC .non)) := q_c pe_non fun _ _ => rfl
theorem q_str {z : Str} : PE X (.Constant (.str z) j pos) (lo X.K O (dC (.str z))) := q_c pe_str fun _ _ => rfl
theorem q_gint {i : Int} (hg : Gl X x) (hm : ∃ t, X.mg x = some (.int i t)) (hd : (x == ("__debug__" : Str)) = false) : PE X (.Name x p) (lo X.K O (dC (.int i))) := by
  obtain ⟨t, hm⟩ := hm
  exact q_c (v := .int i) ⟨fun pins s σ H Q I h => ld_glob I hg hm ⟨.int i, H, I, ⟨t, rfl⟩, h⟩ hd⟩ fun _ _ => rfl
theorem q_ty (t : Ty) (hg : Gl X x) (hm : X.mg x = none) (hv : bootBuiltins x = some (.type t.name)) (hn : x ≠ "__name__") (hd : (x == ("__debug__" : Str)) = false) : PE X (.Name x p) (lo X.K O (dC (.ty t))) :=
  q_c (v := .ty t.name) ⟨fun pins s σ H Q I h => ld_blt I hg hm hv ⟨.ty t.name, H, I, rfl, h⟩ hn hd⟩ fun _ _ => rfl
end
theorem bt_int : bootBuiltins "int" = some (.type "int") := by decide +kernel
theorem bt_str : bootBuiltins "str" = some (.type "str") := by decide +kernel
theorem bt_bool : bootBuiltins "bool" = some (.type "bool") := by decide +kernel
theorem bt_list : bootBuiltins "list" = some (.type "list") := by decide +kernel
theorem bt_tuple : bootBuiltins "tuple" = some (.type "tuple") := by decide +kernel
theorem bt_len : bootBuiltins "len" = some (.builtin "len") := by decide +kernel
theorem bt_abs : bootBuiltins "abs" = some (.builtin "abs") := by decide +kernel
theorem bt_isinstance : bootBuiltins "isinstance" = some (.builtin "isinstance") := by decide +kernel
theorem bt_max : bootBuiltins "max" = some (.builtin "max") := by decide +kernel
theorem bt_sum : bootBuiltins "sum" = some (.builtin "sum") := by decide +kernel
theorem bt_all : bootBuiltins "all" = some (.builtin "all") := by decide +kernel
section
variable {X : Cx} {pos : Pos}
variable {O : Og X.K}
theorem g_nm {i : Nat} {x : Str} (hN : X.N.Nodup) (hi : X.N[i]? = some x) (hx : Loc X.env.scope x) (hf : X.fn x = true ∨ X.env.scope.names.lookup x = some .local) : PG X (.Name x pos) ((Pat.nm i).tg X.K) := pg_name hN hi hx hf
theorem gs_nil : PGs X [] (Pat.tgs X.K []) := pgs_nil
theorem gs_cons {e : Expr} {es : List Expr} {p : Pat} {ps : List Pat} (h1 : PG X e (p.tg X.K)) (h2 : PGs X es (Pat.tgs X.K ps)) (hs : (assignEach (e :: es) X.env).map (·.2) = assign e X.env :: (assignEach es X.env).map (·.2)) : PGs X (e :: es) (Pat.tgs X.K (p :: ps)) := by
  simp only [Pat.tgs]
  exact pgs_cons h1 h2 hs
theorem g_tp {es : List Expr} {k : Nat} {ps : List Pat} (hc : X.calm = true) (h : PGs X es (Pat.tgs X.K ps)) (hn : (assignEach es X.env).length = ps.length) (hst : (assignEach es X.env).findIdx? (·.1) = none) : PG X (.Tuple es k pos) ((Pat.tp ps).tg X.K) := by
  simp only [Pat.tg]
  exact pg_tup hc h hn hst
end
/-- the def at x keeps the promise sp, n parameters -/
structure Callee (P : Program) (w : World) (K : PySem.W.Frag) (mg : Str → Option Value) (base : Heap) (k : Nat) (x : Str) (n : Nat) (sp : DSp) : Prop where
  ex : ∃ (f : Addr) (fd : FuncData) (ps : List Str), ps.length = n ∧ mg x = some (.ref f) ∧ PySem.W.keepIn K (.ref f) = true ∧ Binds K fd ps [] ∧ FnG P w K mg base CX0 k f fd ps (loSp K sp n)
theorem _root_.L2.Room.u64 {k : Nat} {A : Around} (r : Room k A) : A.units + 64 < cLine := by have := r.un; omega
section
variable {X : Cx} {k j n : Nat} {x : Str} {p pos : Pos} {e : Expr} {es : List Expr} {ta : DAs} {sp : DSp}
variable {O : Og X.K}
theorem q_call (C : Callee X.prog X.w X.K X.mg X.base j x n sp) (hr : Room k X.A) (hjk : j ≤ k) (hgd : X.A.guards = some []) (hg : Gl X x) (ha : PA X (e :: es) (loA X.K O ta)) (hdb : (x == ("__debug__" : Str)) = false) (he : starEach (e :: es) X.env = (false, eval e X.env) :: starEach es X.env)
    (hpl : (backTo pos (starEach es X.env)).any (·.1) = false) : PE X (.Call (.Name x p) (e :: es) [] pos) (lo X.K O (dCall n sp ta)) := by
  obtain ⟨f, fd, ps, hl, hm, hk, hb, F⟩ := C.ex
  exact lo_call (pe_callG (E := fun _ _ _ => False) F (hr.mono hjk) hgd hg hm hk hb .nil (fun _ _ _ _ _ _ _ h => h.elim) ha hdb he hpl)
end
def startD (m : Nat) (ds : List D) : DEnv := ds.map some ++ List.replicate (m - ds.length) none
theorem repEnv_start {K : PySem.W.Frag} {F : Addr → Prop} {H : Hp} {ds : List D} {vs : List V} {N : List Str} (r : Reps K F H ds vs) : RepEnv K F H (L2.start N vs) (startD N.length ds) := by
  unfold L2.start startD
  refine ⟨by simp [r.length], fun i d h => ?_⟩
  by_cases hi : i < ds.length
  · rw [List.getElem?_append_left (by simpa using hi), List.getElem?_map, List.getElem?_eq_getElem hi] at h
    simp only [Option.map_some, Option.some.injEq] at h
    subst h
    obtain ⟨v, e, rv⟩ := r.get (List.getElem?_eq_getElem hi)
    refine ⟨v, ?_, rv⟩
    rw [List.getElem?_append_left (by simpa [← r.length] using hi), List.getElem?_map, e]
    rfl
  · rw [List.getElem?_append_right (by simpa using hi)] at h
    have := List.getElem?_eq_some_iff.mp h
    obtain ⟨_, e⟩ := this
    simp at e
section
variable {P : Program} {w : World} {K : PySem.W.Frag} {mg : Str → Option Value} {base : Heap} {x qual : Str} {params : Arguments} {body : List Stmt} {scope : Scope} {f : Addr} {fd : FuncData} {N ps : List Str} {k n : Nat} {sp : DSp} {t : DS}
/-- a def by its reading -/
theorem fnR (F : FunD K x qual params body scope [] [] f fd) (S : FnScope N ps scope) (hn : ps.length = n)
    (hbody : ∀ (cdv : Value) (A : Around) (outer : List Env) (s : Shared) (H : Hp) (E : XK), Room k (A.deeper (envOfC qual scope s.heap.objs.size f cdv)) → (A.deeper (envOfC qual scope s.heap.objs.size f cdv)).guards = some [] →
      PSs (cxOf CX0 P w K mg base N qual scope f cdv A outer s H E).nox body (loS K Og.top t))
    (hsp : ∀ ds M Φ, ds.length = n → sp ds M Φ noX → t { nx := fun _ M' => Φ .non M', rt := Φ } (startD N.length ds) M) : FnG P w K mg base CX0 (k + 1) f fd ps (loSp K sp n) := by
  refine FunD.okG F S (fun vs H Q E h => ?_) fun cdv A outer s H vs Q E hr hg h => ⟨_, PSs.nox (hbody cdv A outer s H E hr hg), ?_⟩
  · obtain ⟨_, _, ds, _, hl, _, r, _⟩ := h
    rw [← r.length, hl, hn]
  · obtain ⟨F', M, ds, Φ, hl, am, r, h, k⟩ := h
    refine ⟨F', M, _, _, ⟨am, repEnv_start r, trivial⟩, hsp ds M Φ hl h, ⟨fun σ' H' F2 M' ρ' l A' q => k _ _ ⟨F2, M', .non, l, A'.am, rfl, q⟩, fun v H' q => k v H' q, fun _ _ _ _ _ _ _ q => q.elim, fun _ _ _ _ _ _ _ q => q.elim⟩⟩
theorem fnD (F : FunD K x qual params body scope [] [] f fd) (S : FnScope N ps scope) (hm : mg x = some (.ref f)) (hb : Binds K fd ps []) (hn : ps.length = n)
    (hbody : ∀ (cdv : Value) (A : Around) (outer : List Env) (s : Shared) (H : Hp) (E : XK), Room k (A.deeper (envOfC qual scope s.heap.objs.size f cdv)) → (A.deeper (envOfC qual scope s.heap.objs.size f cdv)).guards = some [] →
      PSs (cxOf CX0 P w K mg base N qual scope f cdv A outer s H E).nox body (loS K Og.top t))
    (hsp : ∀ ds M Φ, ds.length = n → sp ds M Φ noX → t { nx := fun _ M' => Φ .non M', rt := Φ } (startD N.length ds) M) : Callee P w K mg base (k + 1) x n sp :=
  ⟨f, fd, ps, hn, hm, F.kp, hb, fnR F S hn hbody hsp⟩
end
section
variable {X : Cx} {elt tg iter : Expr} {ifs : List Expr} {scope : Scope} {own : List (Str × Nat)} {pos spos : Pos} {ti : DI} {p : Pat} {tt : DT} {te : DE}
variable {O : Og X.K}
theorem z_setLc0 {i : Nat} {y : Str} {py : Pos} (hc : X.calm = true) (hN : X.N.Nodup) (hy : X.N[i]? = some y) (hyl : X.env.scope.names.lookup y = some .local) (hsw : swapsWith (.ListComp elt [⟨tg, iter, ifs, 0⟩] scope pos) (some (.Name y py)) spos.line X.env = pure true)
    (hi : PI X tg iter (loI X.K O ti)) (ok : BlkOk X.N X.env.scope scope own)
    (hg : ∀ (s : Shared) (H : Hp) (C : Addr) (cl : List (Str × Addr)) (fp : List Addr), PG (X.blk s H scope (compEnvC scope cl C X.env) fp) tg (p.tg X.K))
    (ht : ∀ (s : Shared) (H : Hp) (C : Addr) (cl : List (Str × Addr)) (fp : List Addr), PTs (X.blk s H scope (compEnvC scope cl C X.env) fp) ifs (loT X.K O tt))
    (he : ∀ (s : Shared) (H : Hp) (C : Addr) (cl : List (Str × Addr)) (fp : List Addr), PE (X.blk s H scope (compEnvC scope cl C X.env) fp) elt (lo X.K O te)) (hfs : ∀ x, foldedSetIterable iter X.env x = pure x)
    (hs : ∀ i ∈ p.slots, i ∈ own.map (·.2)) : PS X (.Assign [.Name y py] (.ListComp elt [⟨tg, iter, ifs, 0⟩] scope pos) spos) (loS X.K O (sAsg (dLc ti p (own.map (·.2)) tt te) (.nm i))) :=
  z_setLc hc hN hy hyl hsw hi ok hg ht he hfs hs false
end
end DL
namespace DL
open PySem PySem.Spec PyProof.Rows L2
def okKey : Key → Bool
  | .inl i => decide (i.natAbs.log2 < 1920)
  | .inr z => z.cps.all (· < 4294967296)
def keyWt : Key → Nat
  | .inl _ => 1921
  | .inr z => 10 * z.length + 2
mutual
def okl : D → Bool
  | .int i => decide (i.natAbs.log2 < 1920)
  | .str z => z.cps.all (· < 4294967296)
  | .tup xs => okls xs
  | .lst xs => okls xs
  | .dic ks xs => ks.all okKey && okls xs
  | .ref _ => false
  | .scr _ => false
  | .ty _ => false
  | .obj _ _ _ _ => false
  | .non => true
  | .bl _ => true
def okls : List D → Bool
  | [] => true
  | x :: xs => okl x && okls xs
end
mutual
def wt : D → Nat
  | .int _ => 1921
  | .str z => 10 * z.length + 2
  | .tup xs => wts xs + 3
  | .lst xs => wts xs + 3
  | .dic ks xs => (ks.map fun k => keyWt k + 2).sum + wts xs + 3
  | _ => 5
def wts : List D → Nat
  | [] => 0
  | x :: xs => wt x + 2 + wts xs
end
/-- may be shown and compared, with room -/
structure Fine (x : D) (w : Nat) : Prop where
  st : still x = true
  dp : dep x ≤ 30
  ok : okl x = true
  wt : wt x ≤ w
  dc : hasDic x = true → noLst x = true
theorem Fine.mono {x : D} {w w' : Nat} (h : Fine x w) (hw : w ≤ w') : Fine x w' := ⟨h.st, h.dp, h.ok, Nat.le_trans h.wt hw, h.dc⟩
mutual
theorem snap_still {M : MS} : ∀ x : D, still x = true → snap M x = x
  | .non, _ => rfl
  | .bl _, _ => rfl
  | .int _, _ => rfl
  | .str _, _ => rfl
  | .tup xs, h => by simp only [snap]; rw [snaps_still xs (by simpa only [still] using h)]
  | .lst xs, h => by simp only [snap]; rw [snaps_still xs (by simpa only [still] using h)]
  | .dic ks xs, h => by
    have h' : (stills xs && (ks.length == xs.length)) = true := by simpa only [still] using h
    rw [Bool.and_eq_true] at h'
    simp only [snap]; rw [snaps_still xs h'.1]
  | .ref _, h => by simp [still] at h
  | .scr _, h => by simp [still] at h
  | .ty _, h => by simp [still] at h
  | .obj _ _ _ _, h => by simp [still] at h
theorem snaps_still {M : MS} : ∀ xs : List D, stills xs = true → snaps M xs = xs
  | [], _ => rfl
  | x :: xs, h => by
    simp only [stills, Bool.and_eq_true] at h
    simp only [snaps, snap_still x h.1, snaps_still xs h.2]
end
/-- as Fine, of lists with dicts within too -/
structure Fin2 (x : D) (w : Nat) : Prop where
  st : still x = true
  dp : dep x ≤ 30
  ok : okl x = true
  wt : wt x ≤ w
theorem rEq_still {x y : D} {M : MS} {Φ : DQ} (hx : plain x = true) (dx : dep x ≤ 60) (hy : plain y = true) (dy : dep y ≤ 60) (q : Φ (.bl (eqd x y)) M) : rEq x y M Φ := by
  unfold rEq
  rw [snap_still x (still_of_plain x hx), snap_still y (still_of_plain y hy)]
  exact .inr (.inl ⟨⟨hx, dx⟩, ⟨hy, dy⟩, q⟩)
theorem rNe_still {x y : D} {M : MS} {Φ : DQ} (hx : plain x = true) (dx : dep x ≤ 60) (hy : plain y = true) (dy : dep y ≤ 60) (q : Φ (.bl (!eqd x y)) M) : rNe x y M Φ := by
  unfold rNe
  rw [snap_still x (still_of_plain x hx), snap_still y (still_of_plain y hy)]
  exact .inr (.inl ⟨⟨hx, dx⟩, ⟨hy, dy⟩, q⟩)
theorem rEq_len {x y : D} {xs ys : List D} {M : MS} {Φ : DQ} (hx : seqL M x = some xs) (hy : seqL M y = some ys) (hn : xs.length ≠ ys.length) (q : Φ (.bl false) M) : rEq x y M Φ := .inr (.inr ⟨xs, ys, hx, hy, hn, q⟩)
theorem rEq_i {i j : Int} {M : MS} {Φ : DQ} (q : Φ (.bl (i == j)) M) : rEq (.int i) (.int j) M Φ := rEq_still rfl (Nat.zero_le _) rfl (Nat.zero_le _) q
theorem rNe_i {i j : Int} {M : MS} {Φ : DQ} (q : Φ (.bl (!(i == j))) M) : rNe (.int i) (.int j) M Φ := rNe_still rfl (Nat.zero_le _) rfl (Nat.zero_le _) q
theorem rEq_s {a b : Str} {M : MS} {Φ : DQ} (q : Φ (.bl (a == b)) M) : rEq (.str a) (.str b) M Φ := .inl ⟨a, b, rfl, rfl, q⟩
theorem rNe_s {a b : Str} {M : MS} {Φ : DQ} (q : Φ (.bl (!(a == b))) M) : rNe (.str a) (.str b) M Φ := .inl ⟨a, b, rfl, rfl, q⟩
theorem forW_inv {G : MS → Prop} {p : Pat} {body : DS} {Δ : DEnds} (I : List D → DEnv → MS → Prop) (hG : ∀ ds ρ M, I ds ρ M → G M) (h0 : ∀ ρ M, I [] ρ M → Δ.nx ρ M)
    (hs : ∀ d ds ρ M (Nx : DEnv → MS → Prop), I (d :: ds) ρ M → (∀ ρ' M', I ds ρ' M' → Nx ρ' M') → ∃ ρ1, p.put d ρ = some ρ1 ∧ body { nx := Nx, rt := Δ.rt, bk := Δ.nx, ct := Nx } ρ1 M) :
    ∀ (ds : List D) (ρ : DEnv) (M : MS), I ds ρ M → forW G p body Δ ds ρ M
  | [], ρ, M, h => ⟨hG _ _ _ h, h0 _ _ h⟩
  | d :: ds, ρ, M, h => by
    obtain ⟨ρ1, e, b⟩ := hs d ds ρ M (fun ρ' M' => forW G p body Δ ds ρ' M') h fun ρ' M' q => forW_inv I hG h0 hs ds ρ' M' q
    refine ⟨hG _ _ _ h, ?_⟩
    rw [e]
    exact b
theorem lcW_inv {G : MS → Prop} {p : Pat} {tt : DT} {te : DE} {ρ : DEnv} {Φ : List D → MS → Prop} (I : List D → List D → MS → Prop) (hG : ∀ ds acc M, I ds acc M → G M) (h0 : ∀ acc M, I [] acc M → Φ acc M)
    (hs : ∀ d ds acc M (Nx : List D → MS → Prop), I (d :: ds) acc M → (∀ acc' M', I ds acc' M' → Nx acc' M') → ∃ ρ1, p.put d ρ = some ρ1 ∧ tt ρ1 M fun b M1 => if b = true then te ρ1 M1 fun y M2 => acc.length < 100000 ∧ Nx (acc ++ [y]) M2 else Nx acc M1) :
    ∀ (ds acc : List D) (M : MS), I ds acc M → lcW G p tt te ρ ds acc M Φ
  | [], acc, M, h => ⟨hG _ _ _ h, h0 _ _ h⟩
  | d :: ds, acc, M, h => by
    obtain ⟨ρ1, e, b⟩ := hs d ds acc M (fun acc' M' => lcW G p tt te ρ ds acc' M' Φ) h fun acc' M' q => lcW_inv I hG h0 hs ds acc' M' q
    refine ⟨hG _ _ _ h, ?_⟩
    rw [e]
    exact b
/-- a comprehension that computes f of each item, nothing else -/
theorem lcW_map {G : MS → Prop} {p : Pat} {tt : DT} {te : DE} {ρ : DEnv} {Φ : List D → MS → Prop} {M : MS} (f : D → Option D) (items : List D) (hG : G M) (hl : items.length ≤ 100000)
    (hs : ∀ d ∈ items, ∃ ρ1, p.put d ρ = some ρ1 ∧ ∀ (acc : List D) (Nx : List D → MS → Prop), acc.length < 100000 → Nx (acc ++ (f d).toList) M → tt ρ1 M fun b M1 => if b = true then te ρ1 M1 fun y M2 => acc.length < 100000 ∧ Nx (acc ++ [y]) M2 else Nx acc M1)
    (h : Φ (items.filterMap f) M) : lcW G p tt te ρ items [] M Φ := by
  refine lcW_inv (fun ds acc M' => M' = M ∧ (∀ d ∈ ds, d ∈ items) ∧ acc.length + ds.length ≤ 100000 ∧ Φ (acc ++ ds.filterMap f) M) (fun _ _ _ h => h.1 ▸ hG) (fun acc M' q => ?_) (fun d ds acc M' Nx q k => ?_) items [] M ⟨rfl, fun _ h => h, by simpa using hl, h⟩
  · obtain ⟨rfl, _, _, q⟩ := q
    simpa using q
  · obtain ⟨rfl, hi, hl, q⟩ := q
    obtain ⟨ρ1, e, b⟩ := hs d (hi d (List.mem_cons_self ..))
    have hl' : acc.length + (ds.length + 1) ≤ 100000 := by simpa using hl
    refine ⟨ρ1, e, b acc Nx (by omega) (k _ _ ⟨rfl, fun x hx => hi x (List.mem_cons_of_mem _ hx), ?_, ?_⟩)⟩
    · cases hf : f d <;> simp <;> omega
    · rw [List.filterMap_cons] at q
      cases hf : f d with
      | none => rw [hf] at q; simpa using q
      | some y => rw [hf] at q; simpa using q
end DL
namespace DL
open PySem PySem.Spec PyProof.Rows L2
section
variable {M : MS} {Φ : DQ} {x y d : D} {xs ds : List D} {i j : Int} {a : Addr} {n : Nat}
theorem atI_n {α : Type} (xs : List α) (n : Nat) : atI xs (n : Int) = xs[n]? := by
  unfold atI
  by_cases h : n < xs.length
  · have e : ixN xs.length (n : Int) = some n := by
      unfold ixN
      rw [if_pos (by omega), if_pos (by omega)]; simp
    rw [e]; rfl
  · have e : ixN xs.length (n : Int) = none := by
      unfold ixN
      rw [if_pos (by omega), if_neg (by omega)]
    rw [e, List.getElem?_eq_none (by omega)]; rfl
theorem atI_t {α : Type} (xs : List α) (i : Int) (h : 0 ≤ i) : atI xs i = xs[i.toNat]? := by
  have := atI_n xs i.toNat
  rwa [show ((i.toNat : Nat) : Int) = i by omega] at this
theorem at0 {α : Type} (xs : List α) : atI xs 0 = xs[0]? := atI_n xs 0
theorem at1 {α : Type} (xs : List α) : atI xs 1 = xs[1]? := atI_n xs 1
theorem at2 {α : Type} (xs : List α) : atI xs 2 = xs[2]? := atI_n xs 2
theorem at3 {α : Type} (xs : List α) : atI xs 3 = xs[3]? := atI_n xs 3
theorem ixN_t (n : Nat) (i : Int) (h : 0 ≤ i) (h2 : i < n) : ixN n i = some i.toNat := by
  unfold ixN
  rw [if_pos h, if_pos h2]
theorem rIx_seq (h : seqA M x = some xs) (e : atI xs i = some d) (q : Φ d M) : rIx x (.int i) M Φ := by
  unfold rIx
  simp only [h, e]
  exact q
theorem rSet_ref {k : MS → Prop} (h : M.map a = some (.lst ds)) (e : ixN ds.length i = some n) (q : k (M.put a (.lst (ds.set n y)))) : rSet (.ref a) (.int i) y M k := by
  unfold rSet
  simp only [h, e]
  exact q
theorem seqA_ref (h : M.map a = some (.lst ds)) : seqA M (.ref a) = some ds := by simp only [seqA, h]
theorem rLen_seq (hx : ∀ z, x ≠ .str z) (h : seqA M x = some xs) (q : Φ (.int xs.length) M) : rLen [x] M Φ := by
  unfold rLen
  split
  · rename_i z e
    injection e with e
    exact absurd e (hx z)
  · rename_i y _ e
    injection e with e
    subst e
    simp only [h]
    exact q
  · rename_i h1 h2
    exact absurd rfl (h2 x)
theorem rAdd_i (q : Φ (.int (i + j)) M) : rAdd (.int i) (.int j) M Φ := q
theorem rAdd_t {ys : List D} (h : xs.length + ys.length ≤ 100000) (q : Φ (.tup (xs ++ ys)) M) : rAdd (.tup xs) (.tup ys) M Φ := ⟨h, q⟩
theorem rAdd_l {ys : List D} (h : xs.length + ys.length ≤ 100000) (q : Φ (.lst (xs ++ ys)) M) : rAdd (.lst xs) (.lst ys) M Φ := ⟨h, q⟩
theorem rSub_i (q : Φ (.int (i - j)) M) : rSub (.int i) (.int j) M Φ := q
theorem rNeg_i (q : Φ (.int (-i)) M) : rNeg (.int i) M Φ := q
theorem rCmp_i {f : Int → Int → Bool} (q : Φ (.bl (f i j)) M) : rCmp f (.int i) (.int j) M Φ := q
theorem rMod_i (h : 0 < j) (q : Φ (.int (i % j)) M) : rMod (.int i) (.int j) M Φ := ⟨h, q⟩
theorem rDiv_i (h : 0 < j) (h2 : j < 1073741824) (q : Φ (.int (i / j)) M) : rDiv (.int i) (.int j) M Φ := ⟨h, h2, q⟩
theorem rPow_i (h : CPow i j) (q : Φ (.int (i ^ j.toNat)) M) : rPow (.int i) (.int j) M Φ := ⟨h, q⟩
theorem rMul_i (h : CMul i j) (q : Φ (.int (i * j)) M) : rMul (.int i) (.int j) M Φ := ⟨h, q⟩
end
/-- the deck: at least k draws are left -/
structure Dk (M : MS) (a c : Addr) (k : Nat) : Prop where
  ne : a ≠ c
  ex : ∃ (n : Int) (cells : List Int), M.map a = some (.lst [.ref c, .int n]) ∧ M.map c = some (.lst (cells.map D.int)) ∧ 0 ≤ n ∧ n + k ≤ 2 ^ 40 ∧ cells.length ≤ 63 ∧ ∀ x ∈ cells, 0 ≤ x
def Kp (a c : Addr) (M M' : MS) : Prop := ∀ b, b ≠ a → b ≠ c → M.map b ≠ none → M'.map b = M.map b
theorem Dk.mono {M : MS} {a c : Addr} {k k' : Nat} (h : Dk M a c k) (hk : k' ≤ k) : Dk M a c k' := by
  obtain ⟨n, cells, h1, h2, h3, h4, h5, h6⟩ := h.ex
  exact ⟨h.ne, n, cells, h1, h2, h3, by omega, h5, h6⟩
theorem Kp.refl {a c : Addr} {M : MS} : Kp a c M M := fun _ _ _ _ => rfl
theorem Kp.trans {a c : Addr} {M M1 M2 : MS} (h : Kp a c M M1) (h' : Kp a c M1 M2) : Kp a c M M2 := fun b h1 h2 h3 => by
  rw [h' b h1 h2 (by rw [h b h1 h2 h3]; exact h3), h b h1 h2 h3]
theorem Dk.a_ne {M : MS} {a c p : Addr} {k : Nat} (h : Dk M a c k) (hp : M.map p = none) : p ≠ a := fun e => by
  obtain ⟨n, cells, h1, _⟩ := h.ex
  rw [← e, hp] at h1; cases h1
theorem Dk.c_ne {M : MS} {a c p : Addr} {k : Nat} (h : Dk M a c k) (hp : M.map p = none) : p ≠ c := fun e => by
  obtain ⟨n, cells, _, h1, _⟩ := h.ex
  rw [← e, hp] at h1; cases h1
/-- another place is written -/
theorem Dk.put {M : MS} {a c p : Addr} {k : Nat} {o : MO} (h : Dk M a c k) (ha : p ≠ a) (hc : p ≠ c) : Dk (M.put p o) a c k := by
  obtain ⟨n, cells, h1, h2, h3⟩ := h.ex
  exact ⟨h.ne, n, cells, by rw [MS.put_ne (Ne.symm ha)]; exact h1, by rw [MS.put_ne (Ne.symm hc)]; exact h2, h3⟩
theorem Kp.new {M : MS} {a c p : Addr} {o : MO} (hp : M.map p = none) : Kp a c M (M.put p o) := fun b _ _ h => MS.put_ne fun e => by subst e; exact h hp
def isTup : D → Bool
  | .tup _ => true
  | _ => false
theorem rIsi_tup {M : MS} {Φ : DQ} {d : D} (h : still d = true) (q : Φ (.bl (isTup d)) M) : rIsi [d, .ty .tuple] M Φ := by
  unfold rIsi
  cases d <;> first
    | exact ⟨by decide, q⟩
    | simp [still] at h
/-- no promise at all (under a recursion) -/
def spNo : DSp := fun _ _ _ _ => False
theorem FnG.no {P : Program} {w : World} {K : PySem.W.Frag} {mg : Str → Option Value} {base : Heap} {CX : CXT} {k n : Nat} {f : Addr} {fd : FuncData} {ps : List Str} : FnG P w K mg base CX k f fd ps (loSp K spNo n) :=
  ⟨fun _ _ _ _ ⟨_, _, _, _, _, _, _, h, _⟩ => h.elim, fun _ _ _ _ _ _ _ _ _ _ _ _ _ _ ⟨_, _, _, _, _, _, _, h, _⟩ => h.elim⟩
end DL
namespace DL
open PySem PySem.Spec PyProof.Rows L2
def scrO (vs : List Value) (ns : List Int) : HO := .frz { cls := .type "list", data := .seq vs.toArray } (.lst (ns.map V.int))
def scrH (K : PySem.W.Frag) (a : Addr) (vs : List Value) (ns : List Int) : Hp := fun b => if b = a ∧ K.lookup a = none then some (scrO vs ns) else none
section
variable {P : Program} {w : World} {K : PySem.W.Frag} {mg mb : Str → Option Value} {k : Nat} {fa a : Addr} {fd : FuncData} {x : Str} {sp : DSp} {s : Shared} {vs : List Value} {ns : List Int}
theorem scrH_some {b : Addr} {u : HO} (h : scrH K a vs ns b = some u) : b = a ∧ K.lookup a = none ∧ u = scrO vs ns := by
  unfold scrH at h
  by_cases z : b = a ∧ K.lookup a = none
  · rw [if_pos z] at h
    exact ⟨z.1, z.2, (Option.some.inj h).symm⟩
  · rw [if_neg z] at h
    cases h
theorem callG (KX : K.In s.heap) (G : s.heap.Ns mainGlobals mg) (B : s.heap.Ns builtinsNs mb) (hmb : ∀ y : Str, y ≠ "__name__" → mb y = bootBuiltins y) (lim : s.heap.NoLimit) (gn : s.gens = #[])
    (ho : s.heap.get? a = some { cls := .type "list", data := .seq vs.toArray }) (hints : IntsAre vs ns) (hl : ns.length ≤ sizeLine) (room : Room k callerA)
    (hF : ∀ base : Heap, K.In base → base.Ns mainGlobals mg → FnG P w K mg base CX0 k fa fd [x] (loSp K sp 1)) (hb : ∀ (s : Shared) (u : Value), BindsTo s fd ⟨[u], []⟩ [(x, u)])
    (hs : ∀ M Φ, (∀ M', Φ (.bl true) M') → sp [.scr ns] M Φ noX) :
    codeAny (model P w) callerA (.call (.ref fa) ⟨[.ref a], []⟩) (fun r s' => r = .ok (.ret (.bool true)) ∧ OldK s.heap s'.heap ∧ s'.os = s.os ∧ AllBare s'.gens) s := by
  have rv : Vals (ns.map V.int) vs := vals_ints hints
  have hlen : vs.length = ns.length := hints.length
  -- what stands in the heap and is not tracked stands in the base
  have inB : ∀ {b : Addr} {o : Obj}, s.heap.get? b = some o → (b = a → K.lookup a ≠ none) → (hidT s.heap (scrH K a vs ns)).get? b = some o := fun {b o} e hba =>
    hidT_get e (if_neg fun z => hba z.1 z.2)
  have notDict : ∀ {b : Addr} {o : Obj} {es : Array DictEntry} {ep : Nat}, s.heap.get? b = some o → o.data = .dict es ep → b ≠ a := fun {b o es ep} e d z => by
    subst z
    have : o = { cls := .type "list", data := .seq vs.toArray } := Option.some.inj (e.symm.trans ho)
    subst this
    exact nomatch d
  have nsB : ∀ {b : Addr} {m : Str → Option Value}, s.heap.Ns b m → (hidT s.heap (scrH K a vs ns)).Ns b m := by
    rintro b m ⟨o, es, ep, e, d, r⟩
    exact ⟨o, es, ep, inB e fun z => absurd z (notDict e d), d, r⟩
  have KB : K.In (hidT s.heap (scrH K a vs ns)) := fun b o e => inB (KX b o e) fun z => by rw [← z, e]; simp
  obtain ⟨mc, lc1, lc2⟩ := lim
  have okB : HOk P w (scrH K a vs ns) s.heap := by
    intro b u hbu
    obtain ⟨e1, _, e3⟩ := scrH_some hbu
    subst e1 e3
    exact ⟨ho, by rw [List.length_map]; exact hl, vs, _, rv, ho⟩
  have E0' : Env0 P w K mg (hidT s.heap (scrH K a vs ns)) callerA [] s (scrH K a vs ns) :=
    { frames := rfl, mod := ⟨KB, nsB G, ⟨mb, nsB B, hmb⟩, ⟨mc, nsB lc1, lc2⟩⟩, bs := fun b o e => of_hidT e, bsz := Nat.le_of_eq (hidT_size _ _), funs := trivial,
      frf := fun b hbm => absurd (show b ∈ ([] : List Addr) from hbm) List.not_mem_nil, hok := okB, bare := .of_eq gn }
  have sq : SqS K (scrH K a vs ns) a (ns.map V.int) := by
    cases hk : K.lookup a with
    | none => exact .inl ⟨_, if_pos ⟨rfl, hk⟩⟩
    | some o =>
      have eo : o = { cls := .type "list", data := .seq vs.toArray } := Option.some.inj ((KX a o hk).symm.trans ho)
      subst eo
      exact .inr (.inr ⟨_, vs.toArray, _, hk, rfl, rfl, rfl, by rw [List.size_toArray, hlen]; exact hl, by simpa using rv⟩)
  have start : loSp K sp 1 [.ref a] (scrH K a vs ns) (fun v _ => v = .bl true) fun _ _ _ => False := by
    refine ⟨fun _ => False, ⟨fun _ => none, 0⟩, [.scr ns], fun d _ => d = .bl true, rfl, ⟨fun _ f => f.elim, fun _ _ e => nomatch e⟩, Reps.cons ?_ Reps.nil, hs _ _ fun _ => rfl, fun v H' q => ?_⟩
    · simp only [Rep]
      exact ⟨a, rfl, sq⟩
    · obtain ⟨_, _, d, _, _, r, e⟩ := q
      subst e
      exact r
  refine codeAny_mono ((hF _ KB (nsB G)).run callerA [] s (scrH K a vs ns) ⟨[.ref a], []⟩ [.ref a] [.ref a] _ _ room rfl E0' (hb s (.ref a)) (.cons rfl .nil) start) ?_
  intro r s' hr
  match r, hr with
  | .error e, hr => exact hr.elim
  | .ok .next, hr => exact hr.elim
  | .ok .brk, hr => exact hr.elim
  | .ok .cont, hr => exact hr.elim
  | .ok (.ret u), hr =>
    obtain ⟨v, H', eos, bare, un, ok', rvu, ev⟩ := hr
    have ev' : v = .bl true := ev
    subst ev'
    have eu : u = Value.bool true := rvu
    subst eu
    refine ⟨rfl, OldK.of_keep fun b o e => ?_, eos, bare⟩
    cases hbH : scrH K a vs ns b with
    | none => exact un.keep b o e hbH (fun z => absurd (show b ∈ ([] : List Addr) from z) List.not_mem_nil) (by simp)
    | some u =>
      obtain ⟨e1, _, e3⟩ := scrH_some hbH
      subst e3
      obtain ⟨g1, _⟩ := okB b _ hbH
      obtain ⟨g2, _⟩ := ok' b _ (un.frzs b _ _ hbH)
      rw [Option.some.inj (e.symm.trans g1)]
      exact g2
end
/-- the end over a head by facts, the law's def read over trees -/
theorem walkG {l : PySem.W.OpenLaw} {n k : Nat} {q : Program} {loose : List Str} {XP : (Str → Option Value) → Heap → Prop} {YP : World → Heap → Prop} {d : DefRec} {x : Str} {sp : DSp}
    (hn : l.most = some n) (hsz : n ≤ sizeLine) (hdf : d.params.defaults = []) (room : Room k callerA) (hs : ∀ ns M Φ, (∀ M', Φ (.bl true) M') → sp [.scr ns] M Φ noX)
    (hF : ∀ (w : World) (mg : Str → Option Value) (fa : Addr) (h : Heap), YP w h → h.Ns mainGlobals mg → mg d.name = some (.ref fa) →
      ∃ (K : PySem.W.Frag) (fd : FuncData), K.In h ∧ (∀ (s : Shared) (u : Value), BindsTo s fd ⟨[u], []⟩ [(x, u)]) ∧ ∀ base : Heap, K.In base → base.Ns mainGlobals mg → FnG l.prog w K mg base CX0 k fa fd [x] (loSp K sp 1)) :
    PySem.W.WalkO q loose XP YP l.row.toRowW d [] (fun f vs => PySem.call f vs) := by
  refine Att.attach_call hn hdf ?_
  intro w s₀ s₁ mg mb fa o pm cd doc a vs ns G Y _ _ _ hm ho hints hlen hgn
  obtain ⟨K, fd, KX, hb, F⟩ := hF w mg fa _ Y G.T.g hm
  exact callG KX G.T.g G.T.b G.T.builtins G.T.nolimit hgn ho hints (Nat.le_trans hlen hsz) room F hb (hs ns)
end DL
namespace DL
open PySem PySem.Spec PyProof.Rows L2
def dDicT0 : DE := fun _ M Φ => ∀ p o, M.map p = none → Φ (.ref p) (M.put p (.dT [] o))
/-- {k: True} -/
def dDicT1 (tk tv : DE) : DE := fun ρ M Φ => tk ρ M fun x M1 => tv ρ M1 fun y M2 => y = .bl true ∧ ∃ k : List Int, x = .tup (k.map D.int) ∧ ∀ p o, M2.map p = none → Φ (.ref p) (M2.put p (.dT [k] o))
def rPutT (x i y : D) (M : MS) (Φ : MS → Prop) : Prop := y = .bl true ∧ ∃ (a : Addr) (ks : List (List Int)) (o : Obj) (k : List Int), x = .ref a ∧ M.map a = some (.dT ks o) ∧ i = .tup (k.map D.int) ∧ ks.length ≤ 100000 ∧
  ∀ o', (k ∈ ks → Φ (M.put a (.dT ks o'))) ∧ (k ∉ ks → Φ (M.put a (.dT (ks ++ [k]) o')))
def sPutT (te to ti : DE) : DS := fun Δ ρ M => te ρ M fun y M1 => to ρ M1 fun x M2 => ti ρ M2 fun i M3 => rPutT x i y M3 fun M4 => Δ.nx ρ M4
def tupK (k : List Int) : D := .tup (k.map D.int)
def dKeysT (te : DE) : DI := fun ρ M Ψ => te ρ M fun x M1 => ∃ (a : Addr) (ks : List (List Int)) (o : Obj), x = .ref a ∧ M1.map a = some (.dT ks o) ∧ Ψ (ks.map tupK) (fun M' => M'.map a = some (.dT ks o)) M1
end DL
namespace DL
open PySem PySem.Spec PyProof.Rows L2
def sAsgL (te : DE) (ps : List Pat) : DS := fun Δ ρ M => te ρ M fun x M1 => match seqL M1 x with
  | some xs => (match Pat.puts ps xs ρ with
    | some ρ' => Δ.nx ρ' M1
    | none => False)
  | none => False
end DL
namespace DL
open PySem PySem.Spec PyProof.Rows L2
end DL
namespace DL
open PySem PySem.Spec PyProof.Rows L2
end DL
namespace DL
open PySem PySem.Spec PyProof.Rows L2
section
variable {prog : Program} {w : World} {A : Around} {E : Value → Shared → Prop} {s : Shared}
theorem rev_places (n : Nat) : Builtin.Slice.slicePlaces ((n : Int) - 1) (-1) (-1) = n := by
  unfold Builtin.Slice.slicePlaces
  rw [if_neg (by decide)]
  by_cases h : n = 0
  · subst h; rfl
  · rw [if_pos (by omega), show (-(-1) : Int) = 1 by decide, Int.ediv_one]
    omega
theorem rev_applied {sl : Addr} {vl vu vs : Value} {n : Nat} {Q : Int × Int × Nat → Shared → Prop} (hs : s.heap.IsSliceOf sl vl vu vs) (pl : IsPart vl none) (pu : IsPart vu none) (ps : IsPart vs (some (-1))) (h : Q ((n : Int) - 1, -1, n) s) :
    wpAny (model prog w) A (Builtin.Slice.sliceApplied (.ref sl) (pure (n : Int))) Q E s := by
  obtain ⟨os, e1, e2, e3⟩ := id hs
  unfold Builtin.Slice.sliceApplied
  unfold Builtin.Slice.sliceFields
  refine wpAny_bind (wpAny_bind (wpAny_field e1 e3 (x := vl) rfl ?_))
  refine wpAny_bind (wpAny_field e1 e3 (x := vu) rfl ?_)
  refine wpAny_bind (wpAny_field e1 e3 (x := vs) rfl (wpAny_pure ?_))
  refine wpAny_bind (HT.slicePart_ ps ?_)
  show wpAny _ _ (if ((-1 : Int) == 0) = true then _ else _) _ _ s
  rw [if_neg (by decide)]
  refine wpAny_bind (HT.slicePart_ pl (wpAny_bind (HT.slicePart_ pu ?_)))
  refine wpAny_bind (wpAny_pure ?_)
  show wpAny _ _ (pure ((n : Int) - 1, (-1 : Int), Builtin.Slice.slicePlaces ((n : Int) - 1) (-1) (-1))) _ _ s
  rw [rev_places]
  exact wpAny_pure h
theorem rev_pick (xs : Array Value) : ((List.range xs.size).filterMap fun (k : Nat) => xs[(((xs.size : Nat) : Int) - 1 + (k : Int) * (-1)).toNat]?) = xs.toList.reverse := by
  have e : (List.range xs.size).filterMap (fun (k : Nat) => xs[(((xs.size : Nat) : Int) - 1 + (k : Int) * (-1)).toNat]?) = ((List.range xs.size).map fun k => xs.size - 1 - k).filterMap (xs[·]?) := by
    rw [List.filterMap_map]
    have c : ∀ (l : List Nat), (∀ k ∈ l, k < xs.size) → l.filterMap (fun (k : Nat) => xs[(((xs.size : Nat) : Int) - 1 + (k : Int) * (-1)).toNat]?) = l.filterMap ((xs[·]?) ∘ fun k => xs.size - 1 - k) := by
      intro l
      induction l with
      | nil => intro _; rfl
      | cons k l ih =>
        intro hl
        have hk := hl k (List.mem_cons_self ..)
        have e : (((xs.size : Nat) : Int) - 1 + (k : Int) * (-1)).toNat = xs.size - 1 - k := by omega
        rw [List.filterMap_cons, List.filterMap_cons, ih fun k' h' => hl k' (List.mem_cons_of_mem _ h'), e]
        rfl
    exact c _ fun k hk => List.mem_range.mp hk
  rw [e, PySem.W.krv_range, List.filterMap_reverse, PySem.W.krv_all]
theorem getItem_rev {t sl : Addr} {items : Array Value} {vl vu vs : Value} {Q : Value → Shared → Prop} (ht : IsTup s.heap t items) (hs : s.heap.IsSliceOf sl vl vu vs) (pl : IsPart vl none) (pu : IsPart vu none) (ps : IsPart vs (some (-1))) (hz : items.size ≤ sizeLine)
    (h : Q (.ref s.heap.objs.size) { s with heap := s.heap.push { cls := .type "tuple", data := .seq items.toList.reverse.toArray } }) : wpAny (model prog w) A (getItem (.ref t) (.ref sl)) Q E s := by
  have hk : sizeOk (.seq items.toList.reverse.toArray) := by
    show items.toList.reverse.toArray.size ≤ sizeLine
    simpa using hz
  obtain ⟨os, e1, e2, e3⟩ := id hs
  have hT : s.TypeIs (.ref sl) "slice" := ⟨os, e1, e2⟩
  unfold getItem
  try with_reducible refine wpAny_holding ?_
  first | refine wpAny_bind (wpAny_pure ?_) | skip
  refine wpAny_bind (wpAny_sequenceKey ht.typeIs (by decide) ?_)
  refine wpAny_bind ?_
  refine wpAny_callSpecial?_slot (name := Str.ofString "__getitem__") ht.typeIs PyProof.Rows.slot_tuple_getitem ?_
  refine wpAny_call_entry PyProof.Rows.slot_tuple_getitem ht.typeIs PyProof.Rows.entry_tuple_getitem ?_ (PyProof.Rows.args_tuple_getitem _ _)
  show wpAny _ _ (Builtin.Tuple.tupleItemsOf (.ref t) >>= fun xs => _) _ _ s
  refine wpAny_bind (PyProof.Rows.tupleItemsOf_ ht ?_)
  refine wpAny_bind (wpAny_typeOf hT ?_)
  rw [if_pos (by decide)]
  refine wpAny_bind (rev_applied hs pl pu ps ?_)
  have hno : ¬ (((((items.size : Nat) : Int) - 1 == 0) && ((-1 : Int) == 1) && (items.size == items.size)) = true) := by simp
  show wpAny _ _ (if ((((items.size : Nat) : Int) - 1 == 0) && ((-1 : Int) == 1) && (items.size == items.size)) = true then _ else _) _ _ s
  rw [if_neg hno, rev_pick]
  first
    | exact wpAny_bind (m := Builtin.Tuple.tupleExact _) (wpAny_newObj_type (wpAny_pure ⟨_, rfl, wpAny_pure h⟩) hk)
    | exact wpAny_bind (m := Builtin.Tuple.tupleExact _) (wpAny_newObj_type (wpAny_bind (wpAny_pure (wpAny_pure ⟨_, rfl, wpAny_pure h⟩))) hk)
    | exact wpAny_bind (wpAny_bind (m := Builtin.Tuple.tupleExact _) (wpAny_newObj_type (wpAny_pure (wpAny_pure ⟨_, rfl, wpAny_pure h⟩)) hk))
end
def dRev (te : DE) : DE := fun ρ M Φ => te ρ M fun x M1 => match x with
  | .tup xs => Φ (.tup xs.reverse) M1
  | x => (match seqA M1 x with
    | some xs => Φ (.lst xs.reverse) M1
    | none => False)
section
variable {X : Cx} {pos : Pos}
variable {O : Og X.K}
/-- the slice [::-1] is made, then taken -/
theorem rev_core {e : Expr} {te : TE} {R : V → Hp → VK → Prop} {k : Nat} {p1 p2 p3 : Pos} (he : PE X e te)
    (hr : ∀ (pins : List (Addr × Obj)) (s : Shared) (σ : L2.St) (H : Hp) (x : V) (v vl vu vs : Value) (sl : Addr) (Q : VK), Inv X pins σ H s → RelV x v → s.heap.IsSliceOf sl vl vu vs → IsPart vl none → IsPart vu none → IsPart vs (some (-1)) → R x H Q →
      ∃ T id, typeLookup (.type T) "__getitem__" = pure (some (.builtin id)) ∧ s.TypeIs v T ∧ wpAny (model X.prog X.w) X.A (getItem v (.ref sl)) (EP X pins σ Q) X.xe s) :
    PE X (.Subscript e (.Slice none none (some (.UnaryOp .USub (.Constant (.int 1) k p1) p2)) p3) pos) (fun σ H Q => te σ H fun x H1 => R x H1 Q) := by
  refine ⟨fun pins s σ H Q I h => ?_⟩
  refine Subscript_ (thn (he.run pins s σ H _ I h) fun v s1 ⟨x, H1, I1, r1, q1⟩ => ?_)
  have hst : PO X (some (.UnaryOp .USub (.Constant (.int 1) k p1) p2)) (tPart (tUn (rU fun i => .int (-i)) (tC (.int 1)))) := po_some (pe_un un_neg pe_int)
  refine wpAny_Slice (thn (po_none.run pins s1 σ H1 (fun o H2 => o = none ∧ H2 = H1) I1 ⟨rfl, rfl⟩) fun vl s2 q2 => ?_)
  obtain ⟨l, H2, I2, pl, el, e2⟩ := q2
  subst el e2
  refine thn (po_none.run pins s2 σ H2 (fun o H3 => o = none ∧ H3 = H2) I2 ⟨rfl, rfl⟩) fun vu s3 q3 => ?_
  obtain ⟨u, H3, I3, pu, eu, e3⟩ := q3
  subst eu e3
  refine thn (hst.run pins s3 σ H3 (fun o H4 => o = some (-1) ∧ H4 = H3) I3 ⟨1, rfl, -1, rfl, rfl, rfl⟩) fun vs s4 q4 => ?_
  obtain ⟨o, H4, I4, ps, eo, e4⟩ := q4
  subst eo e4
  have I5 : Inv X pins σ H4 { s4 with heap := s4.heap.push { cls := .type "slice", data := .fields #[vl, vu, vs] } } := I4.kept (t' := s4.toks) fun b ob q => Heap.get?_push_of_some _ q
  obtain ⟨T, id, hl, hT, run⟩ := hr pins _ σ H4 x v vl vu vs _ Q I5 r1 (Heap.IsSliceOf.new _ vl vu vs) pl pu ps q1
  exact tail_any (ops := [v, .ref s4.heap.objs.size]) hT hl run (by with_unfolding_all rfl)
theorem q_rev {e : Expr} {te : DE} {k : Nat} {p1 p2 p3 : Pos} (he : PE X e (lo X.K O te)) : PE X (.Subscript e (.Slice none none (some (.UnaryOp .USub (.Constant (.int 1) k p1) p2)) p3) pos) (lo X.K O (dRev te)) := by
  refine PE.imp (rev_core (R := fun vx H Q => ∃ F M x Φ, AbsM X.K F H M ∧ Rep X.K F H x vx ∧ (match x with
    | .tup xs => Φ (.tup xs.reverse) M
    | x => (match seqA M x with
      | some xs => Φ (.lst xs.reverse) M
      | none => False)) ∧ ∀ v H', loQ X.K F H M Φ v H' → Q v H') he ?_) ?_
  · rintro pins s σ H vx v vl vu vs sl Q I rv hs pl pu ps ⟨F, M, x, Φ, am, rx, h, k⟩
    have lists : ∀ {xs : List D} {a : Addr} {ws : List V}, vx = .ref a → SqL X.K H a ws → Reps X.K F H xs ws → Φ (.lst xs.reverse) M → ∃ T id, typeLookup (.type T) "__getitem__" = pure (some (.builtin id)) ∧ s.TypeIs v T ∧ wpAny (model X.prog X.w) X.A (getItem v (.ref sl)) (EP X pins σ Q) X.xe s := by
      intro xs a ws e hq p q
      subst e
      cases rv
      obtain ⟨its, r, ht, hz⟩ := I.list hq
      have hlen := r.length
      refine ⟨"list", _, PySem.slot_list_getitem.lookup, ht.isList.typeIs, wpAny_getItem_list_slice ht.isList hs pl pu ps (by decide) ?_ (by rw [List.size_toArray]; omega)⟩
      rw [PySem.W.krv_pick]
      refine ⟨.ref _, _, I.laid (t' := s.toks) (o := .lst ws.reverse) (fun b ob q => Heap.get?_push_of_some _ q) (Nat.le_refl _) ?_, rfl, k _ _ (new_lst am p.reverse q (I.hok.fresh (Nat.le_refl _)))⟩
      refine ⟨?_, _, 0, r.reverse, Heap.get?_push_size _ rfl⟩
      rw [List.length_reverse]
      exact hz
    cases x with
    | tup xs =>
      obtain ⟨a, ws, rfl, hq, p⟩ := rep_tup rx
      cases rv
      obtain ⟨its, r, ht, hz⟩ := I.tuple hq
      have hlen := r.length
      refine ⟨"tuple", _, PyProof.Rows.slot_tuple_getitem.lookup, ht.typeIs, getItem_rev ht hs pl pu ps (by rw [List.size_toArray]; omega) ?_⟩
      refine ⟨.ref _, _, I.laid (t' := s.toks) (o := .tup ws.reverse) (fun b ob q => Heap.get?_push_of_some _ q) (Nat.le_refl _) ?_, rfl, k _ _ (new_tup am p.reverse h (I.hok.fresh (Nat.le_refl _)))⟩
      refine ⟨?_, _, r.reverse, IsTup.new _ _⟩
      rw [List.length_reverse]
      exact hz
    | lst xs =>
      simp only [Rep] at rx
      obtain ⟨a, ws, e, _, h1, h2⟩ := rx
      exact lists e (SqL.of h1) h2 h
    | scr ns =>
      simp only [Rep] at rx
      obtain ⟨a, e, h1⟩ := rx
      exact lists e h1.sq (Reps.ints ns) h
    | ref a =>
      simp only [seqA] at h
      split at h
      · rename_i ys e
        split at e
        · rename_i zs e2
          cases e
          obtain ⟨_, ws, h1, h2⟩ := am.mp a _ e2
          exact lists rx (SqL.of h1) h2 h
        · cases e
      · exact h.elim
    | _ => exact h.elim
  · intro σ H Q h
    obtain ⟨F, M, ρ, Φ, A, h, k⟩ := h
    exact ⟨F, M, ρ, _, A, h, fun v H1 ⟨F1, M1, x, l1, a1, r1, h1⟩ => ⟨F1, M1, x, Φ, a1, r1, h1, fun v H' q => k v H' (q.le l1)⟩⟩
end
theorem nums_rep {K : PySem.W.Frag} {F : Addr → Prop} {H : Hp} {M : MS} {x : D} {v : V} {ns : List Int} (am : AbsM K F H M) (r : Rep K F H x v) (h : (seqA M x).bind asInts = some ns) : ∃ a, v = .ref a ∧ (SqL K H a (ns.map V.int) ∨ SqT K H a (ns.map V.int)) := by
  obtain ⟨xs, h1, h2⟩ := Option.bind_eq_some_iff.mp h
  obtain ⟨a, vs, e, hq, p⟩ := seqA_rep am r h1
  rw [asInts_eq h2] at p
  rw [reps_ints p] at hq
  exact ⟨a, e, hq⟩
theorem holdAll_ints {h : Heap} : ∀ {its : List Value} {ns : List Int}, IntsAre its ns → PySem.W.HoldAll h its ns
  | _, _, .nil => PySem.W.HoldAll.nil
  | _, _, .cons n t r => PySem.W.HoldAll.cons (PySem.W.holds_int n t) (holdAll_ints r)
theorem maxOf_mx : ∀ (r : List Int) (x : Int), PySem.W.maxOf x r = r.foldl max x
  | [], _ => rfl
  | y :: r, x => by
    have ih := maxOf_mx r (max x y)
    unfold PySem.W.maxOf at ih ⊢
    rw [List.foldl_cons, List.foldl_cons, ← ih]
    congr 1
    show (if decide (x < y) = true then y else x) = max x y
    by_cases h : x < y
    · rw [if_pos (decide_eq_true h)]; omega
    · rw [if_neg (by simpa using h)]; omega
def rMaxA (args : List D) (M : MS) (Φ : DQ) : Prop := match args with
  | [x] => (match (seqA M x).bind asInts with
    | some ns => 0 < ns.length ∧ Φ (.int (mxI ns)) M
    | none => False)
  | _ => False
theorem holds_val {h : Heap} {v : Value} {n : Int} (q : PySem.W.Holds h v n) : ∃ t, v = .int n t := by
  obtain ⟨as, r⟩ := q
  cases r with
  | int _ t => exact ⟨t, rfl⟩
section
variable {X : Cx}
variable {O : Og X.K}
theorem c_sum (hc : X.calm = true) : CallR X (.builtin "sum") (loC X.K rSum) := by
  rintro pins s σ H vs us Q I r ⟨F, M, ds, Φ, am, rs, h, k⟩
  unfold rSum at h
  split at h
  · simp only [Reps] at rs
    obtain ⟨v, _, e, rx, rfl⟩ := rs
    subst e
    split at h
    · rename_i ns ex
      obtain ⟨a, rfl, hq⟩ := nums_rep am rx ex
      rcases hq with hq | hq
      · exact cr_sum hc pins s σ H _ us Q I r ⟨a, ns, rfl, hq, k _ _ (hI am h)⟩
      · obtain ⟨its, rv, ht, _⟩ := I.tuple hq
        rw [Vals.ref1 r]
        have hi : IntsAre its ns := rv.ints
        obtain ⟨xs, e⟩ := hi.allInts.items
        have hn : numsOf (intItems xs).toList = ns := by rw [← e]; exact hi.numsOf
        rw [nums_intItems] at hn
        rw [e] at ht
        refine PySem.W.ktm_sumG (I.ok.hd hc) ht fun h' tk t' hk => ?_
        rw [preSum_eq, List.take_of_length_le (by simp), hn]
        exact ⟨.int _, H, I.kept hk, ⟨_, rfl⟩, k _ _ (hI am h)⟩
    · exact h.elim
  · exact h.elim
theorem c_maxA (hc : X.calm = true) (hu : X.A.units + 64 < cLine) : CallR X (.builtin "max") (loC X.K rMaxA) := by
  rintro pins s σ H vs us Q I r ⟨F, M, ds, Φ, am, rs, h, k⟩
  unfold rMaxA at h
  split at h
  · simp only [Reps] at rs
    obtain ⟨v, _, e, rx, rfl⟩ := rs
    subst e
    split at h
    · rename_i ns ex
      obtain ⟨a, rfl, hq⟩ := nums_rep am rx ex
      rcases hq with hq | hq
      · refine cr_max hc pins s σ H _ us Q I r ⟨a, ns, rfl, hq, h.1, fun m hm hle => ?_⟩
        obtain ⟨h1, h2⟩ := mxI_mem h.1
        have e : m = mxI ns := Int.le_antisymm (h2 m hm) (hle _ h1)
        rw [e]
        exact k _ _ (hI am h.2)
      · obtain ⟨its, rv, ht, _⟩ := I.tuple hq
        rw [Vals.ref1 r]
        have hi : IntsAre its ns := rv.ints
        cases ns with
        | nil => exact absurd h.1 (by decide)
        | cons x xs =>
          refine PySem.W.max_tuple_datum (I.ok.hd hc) ht (x := x) (xs := xs) (holdAll_ints hi) (by show X.A.units + 1 + 0 < cLine; omega) fun i v h' tk _ hv hk => ?_
          obtain ⟨t, rfl⟩ := holds_val hv
          rw [maxOf_mx]
          exact ⟨.int _, H, I.kept hk, ⟨_, rfl⟩, k _ _ (hI am h.2)⟩
    · exact h.elim
  · exact h.elim
end
end DL
namespace DL
open PySem PySem.Spec PyProof.Rows L2
/-- the items of *x -/
def dStar (t : DE) (r : DAs) : DAs := fun ρ M Φ => t ρ M fun x M1 => match x with
  | .tup xs => r ρ M1 fun ys M2 => Φ (xs ++ ys) M2
  | .lst xs => r ρ M1 fun ys M2 => Φ (xs ++ ys) M2
  | _ => False
section
variable {X : Cx} {te : DE}
variable {O : Og X.K}
theorem q_star {e : Expr} {es : List Expr} {tr : DAs} {p : Pos} (he : PE X e (lo X.K O te)) (hr : PA X es (loA X.K O tr)) (hs : starEach (.Starred e p :: es) X.env = (true, eval e X.env) :: starEach es X.env) : PA X (.Starred e p :: es) (loA X.K O (dStar te tr)) :=
  PA.imp (StX.pa_star he hr hs) fun σ H Q h => by
    obtain ⟨F, M, ρ, Φ, A, h, k⟩ := h
    refine ⟨F, M, ρ, _, A, h, fun vx H1 ⟨F1, M1, x, l1, a1, r1, h1⟩ => ?_⟩
    have go : ∀ xs, seqA M1 x = some xs → (tr ρ M1 fun ys M2 => Φ (xs ++ ys) M2) → ∃ p xs, vx = V.ref p ∧ (SqT X.K H1 p xs ∨ SqL X.K H1 p xs) ∧ loA X.K O tr σ H1 fun ys H2 => Q (xs ++ ys) H2 := fun xs hx h1 => by
      obtain ⟨a, vs, e, hq, p⟩ := seqA_rep a1 r1 hx
      exact ⟨a, vs, e, hq.symm, F1, M1, ρ, _, (A.go l1 a1), h1, fun ws H2 F2 M2 ys l2 a2 r2 h2 => k (vs ++ ws) H2 F2 M2 (xs ++ ys) (l1.trans l2) a2 ((p.mono l2.le).append r2) h2⟩
    cases x with
    | tup xs => exact go xs rfl h1
    | lst xs => exact go xs rfl h1
    | _ => exact h1.elim
end
end DL
namespace DL
open PySem PySem.Spec PyProof.Rows L2
section
variable {X : Cx}
variable {O : Og X.K}
/-- tuple(range(i, j)) -/
def dTupRg (ta tb : DE) : DE := fun ρ M Φ => ta ρ M fun x M1 => tb ρ M1 fun y M2 => match x, y with
  | .int i, .int j => 0 ≤ i ∧ i ≤ 16777216 ∧ 0 ≤ j ∧ j ≤ 16777216 ∧ Φ (.tup ((List.range (j - i).toNat).map fun k => D.int (i + (k : Nat)))) M2
  | _, _ => False
end
end DL
namespace DL
open PySem PySem.Spec PyProof.Rows
/-- as gs to one who looks, but no run goes on from it -/
def deadOf : GenState → GenState
  | .suspended _ l c p fs cl => .suspended (fun _ => .unsupported "dead") l c p fs cl
  | x => x
def sleeps : GenState → Bool
  | .suspended .. => true
  | _ => false
theorem deadOf_seen (x : GenState) : (deadOf x).seen = x.seen := by cases x <;> rfl
theorem deadOf_bare (x : GenState) : (deadOf x).bare = x.bare := by cases x <;> rfl
/-- T: what sleeps at the places; the first table: dead there -/
structure Dead (T : Nat → Option GenState) (G G' : Array GenState) : Prop where
  size : G.size = G'.size
  at_ : ∀ (i : Nat) (x : GenState), T i = some x → sleeps x = true ∧ G'[i]? = some x ∧ G[i]? = some (deadOf x)
  off : ∀ i : Nat, T i = none → G[i]? = G'[i]? ∧ ∀ k l c p fs cl, G[i]? = some (.suspended k l c p fs cl) → splitAtGen fs = none
section
variable {M : Model} {T : Nat → Option GenState} {G G' : Array GenState}
theorem split_append : ∀ {fs hs : List Frame}, splitAtGen fs = none → splitAtGen hs = none → splitAtGen (fs ++ hs) = none
  | [], _, _, h => h
  | .gen .. :: _, _, h, _ => by cases h
  | .ret .. :: fs, hs, h, h' => by
    have e : splitAtGen fs = none := by
      cases q : splitAtGen fs with
      | none => rfl
      | some x => simp only [splitAtGen, q, Option.map_some] at h; cases h
    show (splitAtGen (fs ++ hs)).map _ = none
    rw [split_append e h']
    rfl
theorem split_tail {F : Frame} {fs : List Frame} (h : splitAtGen (F :: fs) = none) : splitAtGen fs = none := by
  cases F with
  | gen => cases h
  | ret k hd g l c p kp =>
    cases q : splitAtGen fs with
    | none => rfl
    | some x => simp only [splitAtGen, q, Option.map_some] at h; cases h
theorem Dead.setGen (d : Dead T G G') {g : Nat} {x : GenState} (hg : T g = none) (hx : ∀ k l c p fs cl, x = .suspended k l c p fs cl → splitAtGen fs = none) : Dead T (G.setIfInBounds g x) (G'.setIfInBounds g x) := by
  refine ⟨by simp [d.size], fun i y hi => ?_, fun i hi => ?_⟩
  · obtain ⟨h1, h2, h3⟩ := d.at_ i y hi
    have ne : g ≠ i := fun e => by subst e; rw [hg] at hi; cases hi
    exact ⟨h1, by rw [Array.getElem?_setIfInBounds_ne ne]; exact h2, by rw [Array.getElem?_setIfInBounds_ne ne]; exact h3⟩
  · by_cases e : g = i
    · subst e
      by_cases hb : g < G.size
      · have hb' : g < G'.size := by rw [← d.size]; exact hb
        refine ⟨by simp [hb, hb'], fun k l c p fs cl z => ?_⟩
        rw [Array.getElem?_setIfInBounds_self_of_lt hb] at z
        exact hx k l c p fs cl (Option.some.inj z)
      · have hb' : ¬ g < G'.size := by rw [← d.size]; exact hb
        refine ⟨by simp [hb, hb'], fun k l c p fs cl z => ?_⟩
        simp [hb] at z
    · rw [Array.getElem?_setIfInBounds_ne e, Array.getElem?_setIfInBounds_ne e]
      exact d.off i hi
theorem Dead.push (d : Dead T G G') (c : Code) : Dead T (G.push (.fresh c)) (G'.push (.fresh c)) := by
  refine ⟨by simp [d.size], fun i y hi => ?_, fun i hi => ?_⟩
  · obtain ⟨h1, h2, h3⟩ := d.at_ i y hi
    have l2 : i < G'.size := (Array.getElem?_eq_some_iff.mp h2).1
    have l3 : i < G.size := (Array.getElem?_eq_some_iff.mp h3).1
    exact ⟨h1, by rw [Array.getElem?_push_lt l2, ← Array.getElem?_eq_getElem l2]; exact h2, by rw [Array.getElem?_push_lt l3, ← Array.getElem?_eq_getElem l3]; exact h3⟩
  · by_cases hb : i < G.size
    · have hb' : i < G'.size := by rw [← d.size]; exact hb
      obtain ⟨o1, o2⟩ := d.off i hi
      rw [Array.getElem?_push_lt hb, Array.getElem?_push_lt hb', ← Array.getElem?_eq_getElem hb, ← Array.getElem?_eq_getElem hb']
      exact ⟨o1, o2⟩
    · by_cases he : i = G.size
      · subst he
        refine ⟨by rw [Array.getElem?_push_size, d.size, Array.getElem?_push_size], fun k l c' p fs cl z => ?_⟩
        rw [Array.getElem?_push_size] at z
        cases z
      · have h1 : (G.push (.fresh c))[i]? = none := by rw [Array.getElem?_eq_none]; rw [Array.size_push]; omega
        have h2 : (G'.push (.fresh c))[i]? = none := by rw [Array.getElem?_eq_none]; rw [Array.size_push, ← d.size]; omega
        rw [h1, h2]
        exact ⟨rfl, fun _ _ _ _ _ _ z => by cases z⟩
theorem no_run {Γ : PySem.Ctx} {p : Pos} {z : String} : ∀ {fs : List Frame} {s s' : Shared} {e : End}, ¬ Runs M Γ p (.unsupported z) fs s e s' := by
  have h0 : ∀ {Γ : PySem.Ctx} {s s' : Shared} {e : End}, ¬ Runs M Γ p (.unsupported z) [] s e s' := fun h => by cases h
  intro fs s s' e h
  cases h with
  | segRet h _ => exact h0 h
  | segGen h _ => exact h0 h
  | segSuspOut _ h => exact h0 h
  | segSuspGen _ h _ _ => exact h0 h
/-- the end of a segment left no frame of another generator -/
def OkEnd : End → Prop
  | .ret _ => True
  | .susp _ _ _ _ _ _ fs => splitAtGen fs = none
theorem OkEnd.gen {e : End} (h : OkEnd e) : ∀ k l c p fs cl, e.genState = .suspended k l c p fs cl → splitAtGen fs = none := fun k l c p fs cl z => by
  cases e with
  | ret r => cases z
  | susp v g l' k' c' p' fs' => cases z; exact h
theorem Dead.none_of (d : Dead T G G') {g : Nat} {x : GenState} (h : G[g]? = some x) (hx : sleeps x = false) : T g = none := by
  cases q : T g with
  | none => rfl
  | some y =>
    obtain ⟨h1, _, h3⟩ := d.at_ g y q
    rw [h] at h3
    cases h3
    cases y <;> simp_all [sleeps, deadOf]
theorem runs_dead {Γ : PySem.Ctx} {p : Pos} {t : Sem PySem.Fin} {fs : List Frame} {s s' : Shared} {e : End} (h : Runs M Γ p t fs s e s') :
    splitAtGen fs = none → ∀ G', Dead T s.gens G' → ∃ G2, Runs M Γ p t fs { s with gens := G' } e { s' with gens := G2 } ∧ Dead T s'.gens G2 ∧ OkEnd e := by
  induction h with
  | done => intro _ G' d; exact ⟨G', .done, d, trivial⟩
  | raise => intro _ G' d; exact ⟨G', .raise, d, trivial⟩
  | again hq _ ih => intro hf G' d; obtain ⟨G2, r, d2, o⟩ := ih hf G' d; exact ⟨G2, .again hq r, d2, o⟩
  | rule _ ih => intro hf G' d; obtain ⟨G2, r, d2, o⟩ := ih hf G' d; exact ⟨G2, .rule r, d2, o⟩
  | «at» _ ih => intro hf G' d; obtain ⟨G2, r, d2, o⟩ := ih hf G' d; exact ⟨G2, .at r, d2, o⟩
  | load ho _ ih => intro hf G' d; obtain ⟨G2, r, d2, o⟩ := ih hf G' d; exact ⟨G2, .load ho r, d2, o⟩
  | update ho _ ih => intro hf G' d; obtain ⟨G2, r, d2, o⟩ := ih hf G' d; exact ⟨G2, .update ho r, d2, o⟩
  | loadIfAlive _ ih => intro hf G' d; obtain ⟨G2, r, d2, o⟩ := ih hf G' d; exact ⟨G2, .loadIfAlive r, d2, o⟩
  | point _ ih => intro hf G' d; obtain ⟨G2, r, d2, o⟩ := ih hf G' d; exact ⟨G2, .point r, d2, o⟩
  | alloc _ ih => intro hf G' d; obtain ⟨G2, r, d2, o⟩ := ih hf G' d; exact ⟨G2, .alloc r, d2, o⟩
  | fresh _ ih => intro hf G' d; obtain ⟨G2, r, d2, o⟩ := ih hf G' d; exact ⟨G2, .fresh r, d2, o⟩
  | ask _ ih => intro hf G' d; obtain ⟨G2, r, d2, o⟩ := ih hf G' d; exact ⟨G2, .ask r, d2, o⟩
  | choose hn _ ih => intro hf G' d; obtain ⟨G2, r, d2, o⟩ := ih hf G' d; exact ⟨G2, .choose hn r, d2, o⟩
  | os _ ih => intro hf G' d; obtain ⟨G2, r, d2, o⟩ := ih hf G' d; exact ⟨G2, .os r, d2, o⟩
  | handled _ ih => intro hf G' d; obtain ⟨G2, r, d2, o⟩ := ih hf G' d; exact ⟨G2, .handled r, d2, o⟩
  | genState hg _ ih =>
    rename_i g st _ _ _ _ _ _ _
    intro hf G' d
    obtain ⟨G2, r, d2, o⟩ := ih hf G' d
    cases q : T g with
    | none => exact ⟨G2, .genState (by rw [← (d.off g q).1]; exact hg) r, d2, o⟩
    | some x =>
      obtain ⟨_, h2, h3⟩ := d.at_ g x q
      rw [hg] at h3
      cases h3
      exact ⟨G2, .genState (st := x) h2 (by rw [← deadOf_seen]; exact r), d2, o⟩
  | stack _ ih => intro hf G' d; obtain ⟨G2, r, d2, o⟩ := ih hf G' d; exact ⟨G2, .stack r, d2, o⟩
  | thread _ ih => intro hf G' d; obtain ⟨G2, r, d2, o⟩ := ih hf G' d; exact ⟨G2, .thread r, d2, o⟩
  | newGen _ ih =>
    intro hf G' d
    obtain ⟨G2, r, d2, o⟩ := ih hf _ (d.push _)
    rw [d.size] at r
    exact ⟨G2, .newGen r, d2, o⟩
  | call _ _ ih1 ih2 =>
    intro hf G' d
    obtain ⟨G2, r, d2, _⟩ := ih1 rfl G' d
    obtain ⟨G3, r', d3, o⟩ := ih2 rfl G2 d2
    exact ⟨G3, .call r r', d3, o⟩
  | callSusp _ ih =>
    intro hf G' d
    obtain ⟨G2, r, d2, o⟩ := ih rfl G' d
    exact ⟨G2, .callSusp r, d2, split_append o rfl⟩
  | yield => intro _ G' d; exact ⟨G', .yield, d, rfl⟩
  | resumeFresh hg _ hq _ ih1 ih2 =>
    intro hf G' d
    have hT := d.none_of hg rfl
    obtain ⟨G2, r, d2, o1⟩ := ih1 rfl _ (d.setGen hT (x := .running) fun _ _ _ _ _ _ z => by cases z)
    obtain ⟨G3, r', d3, o⟩ := ih2 rfl _ (d2.setGen hT o1.gen)
    exact ⟨G3, .resumeFresh (by rw [← (d.off _ hT).1]; exact hg) r hq r', d3, o⟩
  | @resumeSuspended Γ p g r l k s k₀ l₀ c₀ p₀ fs cl e₁ s₁ e s' hg h1 hq _ ih1 ih2 =>
    intro hf G' d
    cases hT : T g with
    | some x =>
      obtain ⟨h2, _, h3⟩ := d.at_ g x hT
      rw [hg] at h3
      cases x with
      | suspended => cases h3; exact absurd h1 no_run
      | _ => cases h2
    | none =>
      obtain ⟨o1, o2⟩ := d.off g hT
      obtain ⟨G2, r, d2, o3⟩ := ih1 (o2 _ _ _ _ _ _ hg) _ (d.setGen hT (x := .running) fun _ _ _ _ _ _ z => by cases z)
      obtain ⟨G3, r', d3, o⟩ := ih2 rfl _ (d2.setGen hT o3.gen)
      exact ⟨G3, .resumeSuspended (by rw [← o1]; exact hg) r hq r', d3, o⟩
  | resumeJustStarted hg hv _ ih =>
    intro hf G' d
    have hT := d.none_of hg rfl
    obtain ⟨G2, r, d2, o⟩ := ih hf G' d
    exact ⟨G2, .resumeJustStarted (by rw [← (d.off _ hT).1]; exact hg) hv r, d2, o⟩
  | resumeThrowFresh hg _ ih =>
    intro hf G' d
    have hT := d.none_of hg rfl
    obtain ⟨G2, r, d2, o⟩ := ih hf _ (d.setGen hT (x := .finished) fun _ _ _ _ _ _ z => by cases z)
    exact ⟨G2, .resumeThrowFresh (by rw [← (d.off _ hT).1]; exact hg) r, d2, o⟩
  | resumeRunning hg _ ih =>
    intro hf G' d
    have hT := d.none_of hg rfl
    obtain ⟨G2, r, d2, o⟩ := ih hf G' d
    exact ⟨G2, .resumeRunning (by rw [← (d.off _ hT).1]; exact hg) r, d2, o⟩
  | resumeFinished hg _ ih =>
    intro hf G' d
    have hT := d.none_of hg rfl
    obtain ⟨G2, r, d2, o⟩ := ih hf G' d
    exact ⟨G2, .resumeFinished (by rw [← (d.off _ hT).1]; exact hg) r, d2, o⟩
  | segRet _ _ ih1 ih2 =>
    intro hf G' d
    obtain ⟨G2, r, d2, _⟩ := ih1 rfl G' d
    obtain ⟨G3, r', d3, o⟩ := ih2 (split_tail hf) G2 d2
    exact ⟨G3, .segRet r r', d3, o⟩
  | segGen _ _ _ _ => intro hf; cases hf
  | segSuspOut hs _ ih =>
    intro hf G' d
    obtain ⟨G2, r, d2, o⟩ := ih rfl G' d
    exact ⟨G2, .segSuspOut hs r, d2, split_append o hf⟩
  | segSuspGen hs _ _ _ _ _ => intro hf; rw [hf] at hs; cases hs
theorem wp_dead {α : Type} {Γ : PySem.Ctx} (t : Sem α) : ∀ {Q : α → Pos → Shared → Prop} {E : Value → Pos → Shared → Prop} {p : Pos} {s : Shared}, Sem.wp M Γ t Q E p s → ∀ G', Dead T s.gens G' →
    Sem.wp M Γ t (fun a p' s' => ∃ G2, Dead T G2 s'.gens ∧ Q a p' { s' with gens := G2 }) (fun e p' s' => ∃ G2, Dead T G2 s'.gens ∧ E e p' { s' with gens := G2 }) p { s with gens := G' } := by
  induction t with
  | pure a => intro Q E p s h G' d; exact ⟨s.gens, d, h⟩
  | raise e => intro Q E p s h G' d; exact ⟨s.gens, d, h⟩
  | unsupported _ => intro Q E p s h; exact h.elim
  | finish _ => intro Q E p s h; exact h.elim
  | rule _ k ih => intro Q E p s h G' d; exact ih () h G' d
  | «at» p' k ih => intro Q E p s h G' d; exact ih () h G' d
  | load a _ k ih => intro Q E p s h G' d; obtain ⟨o, ho, h⟩ := h; exact ⟨o, ho, ih o h G' d⟩
  | update a _ f k ih => intro Q E p s h G' d; exact ⟨h.1, ih () h.2 G' d⟩
  | loadIfAlive a k ih => intro Q E p s h G' d; exact ih _ h G' d
  | point _ k ih => intro Q E p s h G' d; exact ih () h G' d
  | register _ _ => intro Q E p s h; exact h.elim
  | alloc o k ih => intro Q E p s h G' d; exact ih _ (s := { s with heap := s.heap.push o }) h G' d
  | fresh k ih => intro Q E p s h G' d; exact ih _ (s := { s with toks := s.toks + 1 }) h G' d
  | ask k ih => intro Q E p s h G' d; exact ih _ h G' d
  | choose src m k ih => intro Q E p s h G' d; exact ⟨h.1, ih _ (s := { s with drawn := s.drawn.bump src }) h.2 G' d⟩
  | os q _ k ih => intro Q E p s h G' d; exact ih _ (s := { s with os := (Os.step s.os q).1 }) h G' d
  | call c hd _ _ k ih =>
    intro Q E p s h G' d
    obtain ⟨r, s1, hr, h⟩ := h
    obtain ⟨G2, r2, d2, _⟩ := runs_dead hr rfl G' d
    exact ⟨r, _, r2, ih r h G2 d2⟩
  | handled own k ih => intro Q E p s h G' d; exact ih _ h G' d
  | genState g k ih =>
    intro Q E p s h G' d
    obtain ⟨st, hg, h⟩ := h
    cases q : T g with
    | none => exact ⟨st, by rw [← (d.off g q).1]; exact hg, ih _ h G' d⟩
    | some x =>
      obtain ⟨_, h2, h3⟩ := d.at_ g x q
      rw [hg] at h3
      cases h3
      exact ⟨x, h2, by rw [← deadOf_seen]; exact ih _ h G' d⟩
  | newGen c k ih =>
    intro Q E p s h G' d
    have := ih _ (s := { s with gens := s.gens.push (.fresh c) }) h _ (d.push c)
    show Sem.wp M Γ (k G'.size) _ _ _ _
    rw [← d.size]
    exact this
  | resume g r l k ih =>
    intro Q E p s h G' d
    obtain ⟨res, s1, hw, h⟩ := h
    have key : ∃ G2, Wakes M Γ p g r { s with gens := G' } res { s1 with gens := G2 } ∧ Dead T s1.gens G2 := by
      unfold Wakes at hw
      cases hT : T g with
      | some x =>
        obtain ⟨h2, h4, h3⟩ := d.at_ g x hT
        rw [h3] at hw
        cases x with
        | suspended => obtain ⟨_, _, hr, _⟩ := hw; exact absurd hr no_run
        | _ => cases h2
      | none =>
        obtain ⟨o1, o2⟩ := d.off g hT
        cases hg : s.gens[g]? with
        | none => rw [hg] at hw; exact hw.elim
        | some x =>
          have hg' : ({ s with gens := G' } : Shared).gens[g]? = some x := o1.symm.trans hg
          rw [hg] at hw
          cases x with
          | fresh c =>
            cases r with
            | throw x => exact ⟨G'.setIfInBounds g .finished, by unfold Wakes; rw [hg']; exact ⟨hw.1, by rw [hw.2]; rfl⟩, by rw [hw.2]; exact d.setGen hT (x := .finished) fun _ _ _ _ _ _ z => by cases z⟩
            | send v =>
              cases v with
              | none =>
                obtain ⟨e1, s2, hr, hq, h1, h2⟩ := hw
                obtain ⟨G2, r2, d2, o⟩ := runs_dead hr rfl _ (d.setGen hT (x := .running) fun _ _ _ _ _ _ z => by cases z)
                exact ⟨G2.setIfInBounds g e1.genState, by unfold Wakes; rw [hg']; exact ⟨e1, _, r2, hq, h1, by rw [h2]; rfl⟩, by rw [h2]; exact d2.setGen hT o.gen⟩
              | _ => exact ⟨G', by unfold Wakes; rw [hg']; exact ⟨hw.1, by rw [hw.2]⟩, by rw [hw.2]; exact d⟩
          | suspended k₀ l₀ c₀ p₀ fs cl =>
            obtain ⟨e1, s2, hr, hq, h1, h2⟩ := hw
            obtain ⟨G2, r2, d2, o⟩ := runs_dead hr (o2 _ _ _ _ _ _ hg) _ (d.setGen hT (x := .running) fun _ _ _ _ _ _ z => by cases z)
            exact ⟨G2.setIfInBounds g e1.genState, by unfold Wakes; rw [hg']; exact ⟨e1, _, r2, hq, h1, by rw [h2]; rfl⟩, by rw [h2]; exact d2.setGen hT o.gen⟩
          | running => exact ⟨G', by unfold Wakes; rw [hg']; exact ⟨hw.1, by rw [hw.2]⟩, by rw [hw.2]; exact d⟩
          | finished => exact ⟨G', by unfold Wakes; rw [hg']; exact ⟨hw.1, by rw [hw.2]⟩, by rw [hw.2]; exact d⟩
    obtain ⟨G2, hw2, d2⟩ := key
    exact ⟨res, _, hw2, ih res h G2 d2⟩
  | yield _ _ _ _ => intro Q E p s h; exact h.elim
  | stack k ih => intro Q E p s h G' d; exact ih _ h G' d
  | fork _ _ => intro Q E p s h; exact h.elim
  | thread k ih => intro Q E p s h G' d; exact ih _ h G' d
  | await _ _ _ _ _ => intro Q E p s h; exact h.elim
end
def Keeps (s s' : Shared) : Prop := ∀ (g : Nat) (x : GenState), s.gens[g]? = some x → sleeps x = true → s'.gens[g]? = some x
theorem Keeps.refl {s : Shared} : Keeps s s := fun _ _ h _ => h
theorem Keeps.trans {s s1 s2 : Shared} (a : Keeps s s1) (b : Keeps s1 s2) : Keeps s s2 := fun g x h hx => b g x (a g x h hx) hx
/-- the table with all that sleeps dead -/
def deadG (G : Array GenState) : Array GenState := G.map deadOf
def sleptT (G : Array GenState) : Nat → Option GenState := fun i => match G[i]? with
  | some x => if sleeps x = true then some x else none
  | none => none
theorem dead_all (G : Array GenState) : Dead (sleptT G) (deadG G) G := by
  refine ⟨by simp [deadG], fun i x h => ?_, fun i h => ?_⟩
  · unfold sleptT at h
    cases q : G[i]? with
    | none => rw [q] at h; cases h
    | some y =>
      rw [q] at h
      simp only at h
      split at h
      · rename_i hy
        cases h
        exact ⟨hy, rfl, by simp [deadG, Array.getElem?_map, q]⟩
      · cases h
  · unfold sleptT at h
    cases q : G[i]? with
    | none => exact ⟨by simp [deadG, Array.getElem?_map, q], fun _ _ _ _ _ _ z => by simp [deadG, Array.getElem?_map, q] at z⟩
    | some y =>
      rw [q] at h
      simp only at h
      have hy : sleeps y = false := by
        cases e : sleeps y with
        | false => rfl
        | true => rw [e] at h; simp at h
      have e : deadOf y = y := by cases y <;> first | rfl | cases hy
      refine ⟨by simp [deadG, Array.getElem?_map, q, e], fun k l c p fs cl z => ?_⟩
      simp only [deadG, Array.getElem?_map, q, Option.map_some, e, Option.some.injEq] at z
      subst z
      cases hy
theorem deadG_bare {G : Array GenState} (h : AllBare G) : AllBare (deadG G) := fun x hx => by
  obtain ⟨y, hy, e⟩ := Array.mem_map.mp hx
  rw [← e, deadOf_bare]
  exact h y hy
theorem Dead.bare {T : Nat → Option GenState} {G G' : Array GenState} (d : Dead T G G') (h : AllBare G) : AllBare G' := fun x hx => by
  obtain ⟨i, hi, e⟩ := Array.mem_iff_getElem.mp hx
  have hi' : i < G.size := by rw [d.size]; exact hi
  have e' : G'[i]? = some x := by rw [Array.getElem?_eq_getElem hi, e]
  cases q : T i with
  | none =>
    obtain ⟨o, _⟩ := d.off i q
    rw [e'] at o
    exact h x (Array.mem_of_getElem? o)
  | some y =>
    obtain ⟨_, h2, h3⟩ := d.at_ i y q
    rw [e'] at h2
    cases h2
    rw [← deadOf_bare]
    exact h _ (Array.mem_of_getElem? h3)
def At (T : Nat → Option GenState) (s : Shared) (Q : Shared → Prop) : Prop := ∃ G2, Dead T G2 s.gens ∧ Q { s with gens := G2 }
theorem wpAny_deadT {α : Type} {M : Model} {A : Around} {t : Sem α} {T : Nat → Option GenState} {Q : α → Shared → Prop} {E : Value → Shared → Prop} {s : Shared} {G2 : Array GenState} (d : Dead T G2 s.gens) (h : wpAny M A t Q E { s with gens := G2 }) :
    wpAny M A t (fun a s' => At T s' (Q a)) (fun e s' => At T s' (E e)) s := fun Γ p hΓ => wp_dead (T := T) t (h Γ p hΓ) s.gens d
theorem At.keeps {s s' : Shared} {Q : Shared → Prop} (h : At (sleptT s.gens) s' Q) : Keeps s s' := fun g x hg hx => by
  obtain ⟨G2, d, _⟩ := h
  have e : sleptT s.gens g = some x := by unfold sleptT; rw [hg]; simp [hx]
  exact (d.at_ g x e).2.1
end DL
namespace DL
open PySem PySem.Spec PyProof.Rows L2 PySem.W.X GenW
section
variable {P : Program} {w : World} {A : Around} {c : Code} {fs : List Frame} {s : Shared} {Z : End → Shared → Prop}
theorem sx_wrap {α : Type} {m : Sem α} {K : α → Sem PySem.Fin} {J : Value → Sem PySem.Fin} {gd : Bool → Bool} {lv : List Value → List Value}
    (h : wpAny (model P w) (A.over c fs) m (fun a s' => SegX (model P w) A c (K a) fs s' Z) (fun x s' => SegX (model P w) A c (J x) fs s' Z) s) :
    SegX (model P w) A c (m.wrap K J gd lv) fs s Z := by
  intro Γ p hc hΓ
  subst hc
  obtain ⟨e, s', q1, q2, q3⟩ := runs_wrap_of_wp (Φ := fun e s' => e.quiet = true ∧ Z e s') K J gd lv m (h (Γ.over fs) p (hΓ.over fs)) (fun a p' s' z => z Γ p' rfl hΓ) (fun x p' s' z => z Γ p' rfl hΓ)
  exact ⟨e, s', q1, q2, q3⟩
theorem sx_bindw {α β : Type} {m : Sem α} {f : α → Sem β} {K : β → Sem PySem.Fin} {J : Value → Sem PySem.Fin} {gd : Bool → Bool} {lv : List Value → List Value}
    (h : wpAny (model P w) (A.over c fs) m (fun a s' => SegX (model P w) A c ((f a).wrap K J gd lv) fs s' Z) (fun x s' => SegX (model P w) A c (J x) fs s' Z) s) :
    SegX (model P w) A c ((m >>= f).wrap K J gd lv) fs s Z := by
  rw [Sem.bind_eq_wrap', Sem.wrap_wrap]
  exact sx_wrap h
theorem sx_cons {st : Stmt} {rest : List Stmt} {env : Env} {K : Flow → Sem PySem.Fin} {J : Value → Sem PySem.Fin} {gd : Bool → Bool} {lv : List Value → List Value}
    (h : SegX (model P w) A c ((exec st env).wrap (fun f => match f with | .next => (execs rest env).wrap K J gd lv | f => K f) J gd lv) fs s Z) :
    SegX (model P w) A c ((execs (st :: rest) env).wrap K J gd lv) fs s Z := by
  rw [execs_cons_wrap]
  exact h
theorem sx_end {r : Result} (h : Z (.ret r) s) : SegX (model P w) A c (leafOf r) [] s Z := s_end P w A c Z s r _ rfl h
/-- a yield as a statement -/
theorem sx_yield {env : Env} {e : Expr} {yp pos : Pos} {K : Flow → Sem PySem.Fin} {J : Value → Sem PySem.Fin} {gd : Bool → Bool} {lv : List Value → List Value} (hfs : splitAtGen fs = none) (hgd : gd false = false) (hfg : fs.any Frame.guarded = false)
    (h : wpAny (model P w) (A.over c fs) (eval e env) (fun v s' => ∀ (l : List Value) (k : Resume → Sem PySem.Fin) (p : Pos), (∀ (s2 : Shared) (Z' : End → Shared → Prop), SegX (model P w) A c (K .next) fs s2 Z' → SegX (model P w) A c (k (.send .none)) fs s2 Z') → Z (.susp v false l k c p fs) s')
      (fun x s' => SegX (model P w) A c (J x) fs s' Z) s) (hco : env.scope.isCoroutine = false) (hi : interactive env = false) :
    SegX (model P w) A c ((exec (.Expr (.Yield (some e) yp) pos) env).wrap K J gd lv) fs s Z := by
  have hy : ∀ v, yieldOut env v = yieldValue v := fun v => by unfold yieldOut; rw [hco]; rfl
  rw [exec_Expr env _ pos hi rfl]
  refine sx_bindw (wpAny_standAt ?_)
  show SegX _ A c (((eval e env >>= fun v => (standAt yp >>= fun _ => yieldOut env v)) >>= fun x => dropValue (.Yield (some e) yp) pos x).wrap K J gd lv) fs s Z
  simp only [hy]
  rw [Sem.bind_eq_wrap', Sem.wrap_wrap, Sem.bind_eq_wrap', Sem.wrap_wrap]
  refine sx_wrap (wpAny_mono h (fun v s' z => ?_) fun _ _ x => x)
  refine sx_bindw (wpAny_standAt ?_)
  show SegX _ A c (.yield v (gd false) _ _) fs s' Z
  rw [hgd]
  refine s_yield P w A c fs Z s' v _ _ hfs hfg fun p => z _ _ p fun s2 Z' q => ?_
  exact q
/-- a loop's code -/
theorem sx_for {env : Env} {tg iter : Expr} {body : List Stmt} {pos : Pos} {K : Flow → Sem PySem.Fin} {J : Value → Sem PySem.Fin} {gd : Bool → Bool} {lv : List Value → List Value} (hfd : ∀ x, foldedSetIterable iter env x = pure x)
    (h : wpAny (model P w) (A.over c fs) (eval iter env) (fun x s1 => wpAny (model P w) (A.over c fs) (pyIter x) (fun it s2 => ∀ (p : Pos) (l : List Value) (kp : List Value) (k : Result → Sem PySem.Fin), (∀ f, k (.ok f) = K f) → 
        SegX (model P w) A (.forLoop tg it body [] env) ((model P w).den (.forLoop tg it body [] env)) (.ret k none (gd false) l c p kp :: fs) s2 Z)
      (fun x s' => SegX (model P w) A c (J x) fs s' Z) s1) (fun x s' => SegX (model P w) A c (J x) fs s' Z) s) :
    SegX (model P w) A c ((exec (.For tg iter body [] pos) env).wrap K J gd lv) fs s Z := by
  rw [exec_For]
  refine sx_bindw (wpAny_standAt ?_)
  refine sx_bindw (wpAny_mono h (fun x s1 h1 => ?_) fun _ _ q => q)
  refine sx_bindw (wpAny_of_eq (hfd x) ?_)
  refine sx_bindw (wpAny_standAt ?_)
  refine sx_bindw (wpAny_holding (wpAny_mono h1 (fun it s2 h2 => ?_) fun _ _ q => q))
  refine s_call P w A c fs Z s2 _ _ _ _ _ fun p => ?_
  exact h2 p _ _ _ fun f => rfl
/-- a turn of it -/
theorem sx_turn {env : Env} {tg : Expr} {it : Value} {body : List Stmt} {kk : Result → Sem PySem.Fin} {g : Bool} {l kp : List Value} {c0 : Code} {p0 : Pos}
    (h : wpAny (model P w) (A.over (.forLoop tg it body [] env) (.ret kk none g l c0 p0 kp :: fs)) (pyNext it) (fun r s1 => match r with
      | none => SegX (model P w) A c0 (kk (.ok .next)) fs s1 Z
      | some v => wpAny (model P w) (A.over (.forLoop tg it body [] env) (.ret kk none g l c0 p0 kp :: fs)) (letOwnedTupleGo tg it v) (fun _ s2 =>
          wpAny (model P w) (A.over (.forLoop tg it body [] env) (.ret kk none g l c0 p0 kp :: fs)) (assign tg env v) (fun _ s3 => ∀ (K : Flow → Sem PySem.Fin) (J : Value → Sem PySem.Fin) (gd : Bool → Bool) (lv : List Value → List Value), gd false = false →
            (∀ (s4 : Shared) (Z' : End → Shared → Prop), SegX (model P w) A (.forLoop tg it body [] env) ((model P w).den (.forLoop tg it body [] env)) (.ret kk none g l c0 p0 kp :: fs) s4 Z' → SegX (model P w) A (.forLoop tg it body [] env) (K .next) (.ret kk none g l c0 p0 kp :: fs) s4 Z') →
            (∀ (s4 : Shared) (Z' : End → Shared → Prop), SegX (model P w) A (.forLoop tg it body [] env) ((model P w).den (.forLoop tg it body [] env)) (.ret kk none g l c0 p0 kp :: fs) s4 Z' → SegX (model P w) A (.forLoop tg it body [] env) (K .cont) (.ret kk none g l c0 p0 kp :: fs) s4 Z') →
            (∀ (s4 : Shared) (Z' : End → Shared → Prop), SegX (model P w) A c0 (kk (.ok .next)) fs s4 Z' → SegX (model P w) A (.forLoop tg it body [] env) (K .brk) (.ret kk none g l c0 p0 kp :: fs) s4 Z') →
            (∀ (u : Value) (s4 : Shared) (Z' : End → Shared → Prop), SegX (model P w) A c0 (kk (.ok (.ret u))) fs s4 Z' → SegX (model P w) A (.forLoop tg it body [] env) (K (.ret u)) (.ret kk none g l c0 p0 kp :: fs) s4 Z') →
            SegX (model P w) A (.forLoop tg it body [] env) ((execs body env).wrap K J gd lv) (.ret kk none g l c0 p0 kp :: fs) s3 Z) (fun _ _ => False) s2) (fun _ _ => False) s1) (fun _ _ => False) s) :
    SegX (model P w) A (.forLoop tg it body [] env) ((model P w).den (.forLoop tg it body [] env)) (.ret kk none g l c0 p0 kp :: fs) s Z := by
  show SegX _ A _ ((forTurn tg it body [] env).onRaise (fun x => do noteFrame x env; theTreesLotGoes x)) _ _ _
  rw [Sem.onRaise_eq_wrap]
  unfold forTurn
  refine sx_bindw (wpAny_standAt ?_)
  refine sx_bindw (wpAny_onRaise (wpAny_mono h (fun r s1 h1 => ?_) fun _ _ q => q.elim))
  cases r with
  | none =>
    refine s_again P w A _ _ Z s1 (.block [] env) rfl ?_
    exact s_pop P w A _ _ Z s1 (.ok .next) _ rfl _ _ _ _ _ _ _ h1
  | some v =>
    refine sx_bindw (wpAny_mono h1 (fun _ s2 h2 => ?_) fun _ _ q => q.elim)
    refine sx_bindw (wpAny_mono h2 (fun _ s3 h3 => ?_) fun _ _ q => q.elim)
    rw [Sem.bind_eq_wrap', Sem.wrap_wrap]
    refine h3 _ _ _ _ rfl (fun s4 Z' q => ?_) (fun s4 Z' q => ?_) (fun s4 Z' q => ?_) fun u s4 Z' q => ?_
    · exact s_again P w A _ _ Z' s4 _ rfl q
    · exact s_again P w A _ _ Z' s4 _ rfl q
    · exact s_pop P w A _ _ Z' s4 (.ok .next) _ rfl _ _ _ _ _ _ _ q
    · exact s_pop P w A _ _ Z' s4 (.ok (.ret u)) _ rfl _ _ _ _ _ _ _ q
/-- a def's body -/
theorem sx_func {body : List Stmt} {env : Env} 
    (h : ∀ (K : Flow → Sem PySem.Fin) (J : Value → Sem PySem.Fin) (gd : Bool → Bool) (lv : List Value → List Value), gd false = false → (K .next = leafOf (.ok (.ret .none))) → (∀ v, K (.ret v) = leafOf (.ok (.ret v))) → 
      SegX (model P w) A (.func body env) ((execs body env).wrap K J gd lv) fs s Z) :
    SegX (model P w) A (.func body env) ((model P w).den (.func body env)) fs s Z := by
  show SegX _ A _ (.point [] fun _ => ((execs body env).onRaise (leaving env)) >>= _) fs s Z
  have y : SegX (model P w) A (.func body env) (point.wrap (fun _ => ((execs body env).onRaise (leaving env)) >>= fun f => match f with | .ret v => ret v | _ => ret .none) .raise id (fun _ => [])) fs s Z := by
    refine sx_wrap (wpAny_point ?_)
    rw [Sem.onRaise_eq_wrap, Sem.bind_eq_wrap', Sem.wrap_wrap]
    exact h _ _ _ _ rfl rfl fun _ => rfl
  exact y
end
/-- the code that stands in a state that has not ended -/
def Opens (gs : GenState) (c : Code) (t : Sem PySem.Fin) (fs : List Frame) : Prop :=
  (gs = .fresh c ∧ t = denote table c ∧ fs = []) ∨ ∃ k l p cl, gs = .suspended k l c p fs cl ∧ t = k (.send .none)
section
variable {P : Program} {w : World} {A : Around} {s : Shared} {E : Value → Shared → Prop}
theorem next_x {a : Addr} {g : Nat} {gs : GenState} {c : Code} {t : Sem PySem.Fin} {fs : List Frame} {Q : Option Value → Shared → Prop} (hh : A.handled = none) (hl : s.heap.NoLimit) (hroom : A.depth < recursionLimit) (hg : s.heap.IsGen a g) (hgs : s.gens[g]? = some gs)
    (ho : Opens gs c t fs)
    (x : SegX (model P w) A.in1 c t fs (s.setGen g .running) fun e s₁ => match e with
      | .ret r => (r = .ok (.ret .none) ∨ r = .ok .next) ∧ ∀ h', (∀ b o, s₁.heap.get? b = some o → h'.get? b = some o) → Q none { s₁.setGen g .finished with heap := h' }
      | .susp v g0 l k c p fs => Q (some v) (s₁.setGen g (End.susp v g0 l k c p fs).genState)) :
    wpAny (model P w) A (pyNext (.ref a)) Q E s := by
  unfold pyNext
  refine wpAny_bind (wpAny_attempt (wpAny_callSpecial?_slot (name := Str.ofString "__next__") hg.typeIs slot_gen_next (wpAny_call_entry slot_gen_next hg.typeIs entry_gen_next ?_ (args_gen_next _))))
  show wpAny _ A.in1 (Builtin.Generator.genWake (.ref a) (.send .none)) _ _ s
  unfold Builtin.Generator.genWake
  refine wpAny_bind (wpAny_holding (wpAny_genNumber hg (wpAny_bind (wpAny_genState hgs ?_))))
  have st : gs.status = .fresh ∨ gs.status = .suspended := by
    rcases ho with ⟨rfl, _⟩ | ⟨_, _, _, _, rfl, _⟩
    · exact .inl rfl
    · exact .inr rfl
  have go : ∀ {α : Type} {k : GenResult → Sem α} {Q' : α → Shared → Prop} {E' : Value → Shared → Prop}, SegX (model P w) A.in1 c t fs (s.setGen g .running) (fun e s₁ => wpAny (model P w) A.in1 (k e.result) Q' E' (s₁.setGen g e.genState)) →
      wpAny (model P w) A.in1 (.resume g (.send .none) [] k) Q' E' s := fun {α k Q' E'} h =>
    wake_any α P w hgs (by
      rcases ho with ⟨h1, h2, h3⟩ | ⟨k0, l0, p0, cl, h1, h2⟩
      · exact .inl ⟨h1, rfl, h2, h3⟩
      · exact .inr ⟨k0, l0, p0, cl, h1, h2⟩) (fun Γ => Γ.In A.in1) (fun _ z => z) (h.mono fun e s' z Γ p hΓ => z Γ p hΓ)
  rcases st with e | e
  all_goals
    rw [e]
    refine wpAny_bind (wpAny_roomToWake hl hroom ?_)
    show wpAny _ A.in1 (.resume g (.send .none) [] _) _ _ s
    refine go (x.mono fun e s₁ hx => ?_)
    cases e with
    | ret r =>
      obtain ⟨hr, hp⟩ := hx
      have hres : End.result (.ret r) = .returned .none := by rcases hr with rfl | rfl <;> rfl
      rw [hres]
      show wpAny _ A.in1 (newExc (.type "StopIteration") [] >>= _) _ _ _
      refine wpAny_bind ?_
      simp only [newExc, newTuple]
      refine wpAny_bind (wpAny_newObj_type ?_ (by size_fits))
      refine wpAny_bind (m := firstArgMember _ _) (wpAny_of_eq (a := Value.none) (by first | rfl | (simp only [firstArgMember]; rfl)) ?_)
      refine wpAny_newObj_type ?_ (by size_fits)
      simp only [raiseNew]
      refine wpAny_bind (wpAny_bind (wpAny_handled ?_))
      first | rw [show A.in1.handled = none from hh] | rw [hh]
      refine wpAny_throw ?_
      refine wpAny_bind (wpAny_isInstance (T := "StopIteration") (b := true) ⟨_, Heap.get?_push_size _ rfl, rfl⟩ isSubtype_stop ?_)
      exact wpAny_pure (hp _ fun b o hb => Heap.get?_push_of_some _ (Heap.get?_push_of_some _ hb))
    | susp v g0 l k c p fs => exact wpAny_pure ⟨v, rfl, wpAny_pure hx⟩
end
end DL
namespace DL
open PySem PySem.Spec PyProof.Rows L2 PySem.W.X
def tr (n : Nat) (s : Shared) : Shared := { s with heap := ⟨s.heap.objs.extract 0 n, s.heap.life⟩ }
section
variable {n : Nat} {s : Shared}
theorem tr_size (h : n ≤ s.heap.objs.size) : (tr n s).heap.objs.size = n := by
  show (s.heap.objs.extract 0 n).size = n
  rw [Array.size_extract]; omega
theorem tr_get {b : Addr} (hb : b < n) : (tr n s).heap.get? b = s.heap.get? b := by
  have e : (s.heap.objs.extract 0 n)[b]? = s.heap.objs[b]? := by
    rw [Array.getElem?_extract]
    by_cases h : b < min n s.heap.objs.size - 0
    · rw [if_pos h, Nat.zero_add]
    · rw [if_neg h, Array.getElem?_eq_none]
      refine Nat.le_of_not_lt fun z => h ?_
      rw [Nat.sub_zero]
      exact Nat.lt_min.mpr ⟨hb, z⟩
  show (match (s.heap.objs.extract 0 n)[b]? with | some ⟨_, _, .freed, _⟩ => none | o => o) = (match s.heap.objs[b]? with | some ⟨_, _, .freed, _⟩ => none | o => o)
  rw [e]
theorem tr_lt {b : Addr} {o : Obj} (h : (tr n s).heap.get? b = some o) : b < n := by
  have h1 := Heap.lt_size h
  have h2 : (tr n s).heap.objs.size ≤ n := by
    show (s.heap.objs.extract 0 n).size ≤ n
    rw [Array.size_extract]; omega
  exact Nat.lt_of_lt_of_le h1 h2
theorem tr_of {b : Addr} {o : Obj} (h : (tr n s).heap.get? b = some o) : s.heap.get? b = some o := by
  rw [← tr_get (tr_lt h)]; exact h
theorem tr_frames {base : Heap} : ∀ {l : List Env}, s.heap.FunFrames base l → (∀ b ∈ frs l, b < n) → (tr n s).heap.FunFrames base l
  | [], _, _ => trivial
  | env :: rest, h, hb => by
    obtain ⟨hk, ⟨L, o, hf, h1, h2, h3⟩, h4⟩ := h
    have e : frs (env :: rest) = L :: frs rest := by unfold frs; rw [List.filterMap_cons, hf]
    have hL : L < n := hb L (by rw [e]; exact List.mem_cons_self)
    exact ⟨hk, ⟨L, o, hf, h1, by rw [tr_get hL]; exact h2, h3⟩, tr_frames h4 fun b z => hb b (by rw [e]; exact List.mem_cons_of_mem _ z)⟩
end
mutual
def pureD : D → Bool
  | .tup xs => pures xs
  | .lst _ => false
  | .dic _ _ => false
  | .ref _ => false
  | .scr _ => false
  | .obj _ _ _ _ => false
  | .non => true
  | .bl _ => true
  | .int _ => true
  | .str _ => true
  | .ty _ => true
def pures : List D → Bool
  | [] => true
  | x :: xs => pureD x && pures xs
end
mutual
theorem Rep.pure {K : PySem.W.Frag} {F F' : Addr → Prop} {H H' : Hp} (hm : ∀ a vs, SqT K H a vs → SqT K H' a vs) : ∀ {d : D} {v : V}, pureD d = true → Rep K F H d v → Rep K F' H' d v
  | .non, _, _, h => h
  | .bl _, _, _, h => h
  | .int _, _, _, h => h
  | .str _, _, _, h => h
  | .ty _, _, _, h => h
  | .obj _ _ _ _, _, h, _ => absurd (show false = true from h) Bool.false_ne_true
  | .lst _, _, p, _ => by simp [pureD] at p
  | .dic _ _, _, p, _ => by simp [pureD] at p
  | .ref _, _, p, _ => by simp [pureD] at p
  | .scr _, _, p, _ => by simp [pureD] at p
  | .tup xs, v, p, h => by
    simp only [Rep] at h ⊢
    obtain ⟨a, vs, e, s, r⟩ := h
    exact ⟨a, vs, e, hm a vs s, Reps.pure hm (by simpa only [pureD] using p) r⟩
theorem Reps.pure {K : PySem.W.Frag} {F F' : Addr → Prop} {H H' : Hp} (hm : ∀ a vs, SqT K H a vs → SqT K H' a vs) : ∀ {ds : List D} {vs : List V}, pures ds = true → Reps K F H ds vs → Reps K F' H' ds vs
  | [], _, _, h => h
  | x :: xs, vs, p, h => by
    simp only [pures, Bool.and_eq_true] at p
    simp only [Reps] at h ⊢
    obtain ⟨v, r, e, h1, h2⟩ := h
    exact ⟨v, r, e, Rep.pure hm p.1 h1, Reps.pure hm p.2 h2⟩
end
def purE (ρ : DEnv) : DEnv := ρ.map fun o => match o with
  | some d => if pureD d = true then some d else none
  | none => none
def fz (n : Nat) (pv : List Addr) (s : Shared) (H : Hp) : Hp := fun b => match H b with
  | some u => some u
  | none => if n ≤ b ∧ b ∉ pv then (s.heap.get? b).map fun o => .frz o (.ext fun _ => True) else none
def unfz (H Hf H' : Hp) : Hp := fun b => if (H b).isNone = true ∧ (Hf b).isSome = true then none else H' b
section
variable {n : Nat} {pv : List Addr} {s : Shared} {H H' : Hp} {b : Addr} {P : Program} {w : World} {K : PySem.W.Frag}
theorem fz_some {u : HO} (h : H b = some u) : fz n pv s H b = some u := by unfold fz; rw [h]
theorem fz_none {u : HO} (h : H b = none) (h' : fz n pv s H b = some u) : ∃ o, s.heap.get? b = some o ∧ u = .frz o (.ext fun _ => True) ∧ n ≤ b ∧ b ∉ pv := by
  unfold fz at h'
  rw [h] at h'
  simp only at h'
  split at h'
  · rename_i hb
    cases q : s.heap.get? b with
    | none => rw [q] at h'; cases h'
    | some o => rw [q] at h'; cases h'; exact ⟨o, rfl, rfl, hb⟩
  · cases h'
theorem fz_lt (hb : b < n) : fz n pv s H b = H b := by
  unfold fz
  cases q : H b with
  | some u => rfl
  | none => simp only; rw [if_neg (fun z => absurd hb (Nat.not_lt.mpr z.1))]
theorem fz_pv (hb : b ∈ pv) : fz n pv s H b = H b := by
  unfold fz
  cases q : H b with
  | some u => rfl
  | none => simp only; rw [if_neg (fun z => z.2 hb)]
theorem fz_new {o : Obj} (h : s.heap.get? b = some o) (hn : n ≤ b) (hp : b ∉ pv) : fz n pv s H b ≠ none := by
  unfold fz
  cases q : H b with
  | some u => simp
  | none => simp only; rw [if_pos ⟨hn, hp⟩, h]; simp
theorem fz_sq {a : Addr} {vs : List V} (h : SqT K H a vs) : SqT K (fz n pv s H) a vs := by
  rcases h with (h | ⟨o, h⟩) | h
  · exact .inl (.inl (fz_some h))
  · exact .inl (.inr ⟨o, fz_some h⟩)
  · exact .inr h
theorem fz_ok (h : HOk P w H s.heap) : HOk P w (fz n pv s H) s.heap := fun b u e => by
  cases q : H b with
  | some u' =>
    rw [fz_some q] at e; cases e
    exact (h b _ q).stay (fun _ _ _ z => z) (fun c z => fz_some z) fun c xs z => fz_some z
  | none =>
    obtain ⟨o, ho, rfl, _⟩ := fz_none q e
    exact ⟨ho, trivial, ⟨o, ho⟩, fun _ _ _ _ => trivial⟩
theorem ObjOk.there {h : Heap} {a : Addr} : ∀ {o : HO}, ObjOk P w H h a o → ∃ ob, h.get? a = some ob
  | .lst xs, x => by obtain ⟨_, _, _, _, e⟩ := x; exact ⟨_, e⟩
  | .tup xs, x => by obtain ⟨_, _, _, o, e, _⟩ := x; exact ⟨o, e⟩
  | .dK kvs, x => by obtain ⟨_, _, _, _, o, _, _, e, _⟩ := x; exact ⟨o, e⟩
  | .dT kvs, x => by obtain ⟨_, _, _, _, o, _, _, e, _⟩ := x; exact ⟨o, e⟩
  | .set S n, x => by obtain ⟨o, _, _, _, e, _⟩ := x; exact ⟨o, e⟩
  | .ins C dx fs, x => by obtain ⟨_, _, _, e, _⟩ := x; exact ⟨_, e⟩
  | .own y, x => x
  | .xd fs, x => by obtain ⟨_, ⟨o, _, _, e, _⟩, _⟩ := x; exact ⟨o, e⟩
  | .rng lo hi, x => by obtain ⟨_, _, _, e⟩ := x; exact ⟨_, e⟩
  | .frz ob u, x => by obtain ⟨e, _⟩ := x; exact ⟨_, e⟩
  | .tbl ps, x => ⟨_, x⟩
  | .met f y, x => ⟨_, x⟩
  | .ext φ, x => by obtain ⟨_, e, _⟩ := x; exact e
/-- taken back -/
theorem unfz_old (h : H b ≠ none) : unfz H (fz n pv s H) H' b = H' b := by
  unfold unfz
  rw [if_neg]
  intro z
  cases q : H b with
  | none => exact h q
  | some u => rw [q] at z; cases z.1
theorem unfz_drop (h : H b = none) (h' : fz n pv s H b ≠ none) : unfz H (fz n pv s H) H' b = none := by
  unfold unfz
  rw [if_pos]
  refine ⟨by rw [h]; rfl, ?_⟩
  cases q : fz n pv s H b with
  | none => exact absurd q h'
  | some u => rfl
theorem unfz_keep (h : fz n pv s H b = none) : unfz H (fz n pv s H) H' b = H' b := by
  unfold unfz
  rw [if_neg]
  intro z
  rw [h] at z
  cases z.2
/-- what is neither a frozen thing stays -/
theorem unfz_kind {u : HO} (hid : ∀ a, fz n pv s H a ≠ none → H' a = fz n pv s H a) (h : H' b = some u) (hu : ∀ o, u ≠ .frz o (.ext fun _ => True)) : unfz H (fz n pv s H) H' b = some u := by
  cases q : fz n pv s H b with
  | none => rw [unfz_keep q]; exact h
  | some z =>
    cases q2 : H b with
    | some y => rw [unfz_old (by rw [q2]; simp)]; exact h
    | none =>
      obtain ⟨o, _, rfl, _⟩ := fz_none q2 q
      rw [hid b (by rw [q]; simp), q] at h
      cases h
      exact absurd rfl (hu o)
theorem unfz_ok {h : Heap} (hid : ∀ a, fz n pv s H a ≠ none → H' a = fz n pv s H a) (x : HOk P w H' h) : HOk P w (unfz H (fz n pv s H) H') h := fun b u e => by
  have e' : H' b = some u := by
    unfold unfz at e
    split at e
    · cases e
    · exact e
  exact (x b u e').stay (fun _ _ _ z => z) (fun c z => unfz_kind hid z fun o q => by cases q) fun c xs z => unfz_kind hid z fun o q => by cases q
theorem unfz_sq {a : Addr} {vs : List V} (hid : ∀ a, fz n pv s H a ≠ none → H' a = fz n pv s H a) (h : SqT K H' a vs) : SqT K (unfz H (fz n pv s H) H') a vs := by
  rcases h with (h | ⟨o, h⟩) | h
  · exact .inl (.inl (unfz_kind hid h fun o q => by cases q))
  · exact .inl (.inr ⟨o, unfz_kind hid h fun o q => by cases q⟩)
  · exact .inr h
end
structure GD where
  P : Program
  w : World
  K : PySem.W.Frag
  mg : Str → Option Value
  base : Heap
  N : List Str
  qual : Str
  scope : Scope
  n0 : Addr
  f : Addr
  cdv : Value
  outer : List Env
  g : Nat
abbrev GD.env (G : GD) : Env := envOfC G.qual G.scope G.n0 G.f G.cdv
def GD.cx (G : GD) (A : Around) (s0 : Shared) (H0 : Hp) : Cx where
  prog := G.P
  w := G.w
  K := G.K
  mg := G.mg
  base := G.base
  A := A.deeper G.env
  N := G.N
  s_0 := s0
  H_0 := H0
  env := G.env
  outer := G.outer
  stack := G.env :: G.outer
  ex := []
  calm := true
  fn := fun _ => true
  pn := []
  xe := fun _ _ => False
def emM : MS := ⟨fun _ => none, 0⟩
/-- from a frame's wake on: nothing that was there has changed -/
def LmG (K : PySem.W.Frag) (Hb : Hp) (F : Addr → Prop) (H : Hp) (M : MS) : Prop := ∃ F0, Lm K F0 Hb emM F H M
theorem LmG.refl {K : PySem.W.Frag} {Hb : Hp} {F : Addr → Prop} : LmG K Hb F Hb emM := ⟨F, Lm.refl⟩
theorem LmG.trans {K : PySem.W.Frag} {Hb : Hp} {F F' : Addr → Prop} {H H' : Hp} {M M' : MS} (l : LmG K Hb F H M) (k : Lm K F H M F' H' M') : LmG K Hb F' H' M' := ⟨l.choose, l.choose_spec.trans k⟩
/-- from a yield to the next wake: what the waker did -/
structure Wk (G : GD) (pv : List Addr) (s1 : Shared) (H1 : Hp) (s : Shared) (H : Hp) : Prop where
  os : s.os = s1.os
  bare : AllBare s.gens
  base : ∀ b o, G.base.get? b = some o → s.heap.get? b = some o ∧ H b = none
  funs : s.heap.FunFrames G.base G.outer
  frf : ∀ b ∈ frs G.outer, H b = none
  hok : HOk G.P G.w H s.heap
  pv : ∀ b ∈ pv, H b = none ∧ ∀ o, s1.heap.get? b = some o → s.heap.get? b = some o
  tups : ∀ a vs, SqT G.K H1 a vs → SqT G.K H a vs
  gens : ∀ (i : Nat) (x : GenState), i ≠ G.g → s1.gens[i]? = some x → sleeps x = true → s.gens[i]? = some x
theorem Wk.trans {G : GD} {pv : List Addr} {s1 s2 s3 : Shared} {H1 H2 H3 : Hp} (a : Wk G pv s1 H1 s2 H2) (b : Wk G pv s2 H2 s3 H3) : Wk G pv s1 H1 s3 H3 :=
  ⟨b.os.trans a.os, b.bare, b.base, b.funs, b.frf, b.hok, fun c hc => ⟨(b.pv c hc).1, fun o q => (b.pv c hc).2 o ((a.pv c hc).2 o q)⟩, fun c vs q => b.tups c vs (a.tups c vs q), fun i x hi q hx => b.gens i x hi (a.gens i x hi q hx) hx⟩
/-- from a wake to the next yield, or to the end: what the generator did -/
structure Stp (G : GD) (pv : List Addr) (s : Shared) (H : Hp) (pv' : List Addr) (s2 : Shared) (H' : Hp) : Prop where
  os : s2.os = s.os
  bare : AllBare s2.gens
  un : Un (frs G.outer) pv H H' s.heap s2.heap
  hok : HOk G.P G.w H' s2.heap
  fix : ∀ b, H b ≠ none → H' b = H b
  pv : ∀ b ∈ pv', G.n0 ≤ b ∧ (b ∈ pv ∨ s.heap.get? b = none) ∧ H' b = none ∧ ∃ o, s2.heap.get? b = some o ∧ ∀ v, o.data ≠ .cell v
/-- the end of a segment that began at s, H: these items are still to come -/
def GPE (G : GD) (A : Around) : List D → Shared → Hp → List Addr → End → Shared → Prop
  | [], s, H, pv, e, s2 => (e = .ret (.ok (.ret .none)) ∨ e = .ret (.ok .next)) ∧ ∃ H', Stp G pv s H [] s2 H'
  | d :: rest, s, H, pv, e, s2 => ∃ v vv g0 l k c p fs pv' H', e = .susp v g0 l k c p fs ∧ Stp G pv s H pv' s2 H' ∧ RelV vv v ∧ Rep G.K (fun _ => False) H' d vv ∧
      ∀ s' H'', Wk G pv' s2 H' s' H'' → SegX (model G.P G.w) A c (k (.send .none)) fs (s'.setGen G.g .running) (GPE G A rest s' H'' pv')
/-- what is known of a wake -/
structure WOk (G : GD) (pv : List Addr) (sw : Shared) (Hw : Hp) : Prop where
  n0 : G.n0 ∈ pv
  frs : ∀ b ∈ frs G.outer, b < G.n0 ∧ Hw b = none
  cells : G.env.cells = []
  hok : HOk G.P G.w Hw sw.heap
  sz : G.n0 ≤ sw.heap.objs.size
section
variable {G : GD} {A : Around} {pv : List Addr} {sw s : Shared} {Hw H : Hp} {ip : List (Addr × Obj)} {σ : L2.St} {F : Addr → Prop} {M : MS}
theorem lm_id (l : LmG G.K (fz G.n0 pv sw Hw) F H M) : ∀ a, fz G.n0 pv sw Hw a ≠ none → H a = fz G.n0 pv sw Hw a := fun a h => by
  obtain ⟨F0, l⟩ := l
  by_cases hf : F0 a
  · exact l.le.frz a hf
  · exact (l.hid a h hf rfl).2.2
theorem stp_of (I : Inv (G.cx A (tr G.n0 sw) (fz G.n0 pv sw Hw)) ip σ H s) (l : LmG G.K (fz G.n0 pv sw Hw) F H M) (W : WOk G pv sw Hw) (hip : ∀ p ∈ ip, G.n0 ≤ p.1) :
    Stp G pv sw Hw (G.n0 :: ip.map (·.1)) s (unfz Hw (fz G.n0 pv sw Hw) H) := by
  have hid := lm_id l
  have kept : ∀ b o, sw.heap.get? b = some o → b ∉ pv → G.n0 ≤ b → Hw b = none → s.heap.get? b = some o := fun b o e hb hn q => by
    have hf := fz_new (H := Hw) e hn hb
    cases q2 : fz G.n0 pv sw Hw b with
    | none => exact absurd q2 hf
    | some u =>
      obtain ⟨o', ho', rfl, _⟩ := fz_none q q2
      rw [e] at ho'; cases ho'
      exact (I.hok b _ ((hid b hf).trans q2)).1
  have old : ∀ b, b < G.n0 → Hw b = none → fz G.n0 pv sw Hw b = none := fun b hb q => (fz_lt hb).trans q
  refine ⟨I.os, I.bare, ⟨fun b o e q hb hp => ?_, fun b o e q hb hp => ?_, fun b o e q hp => ?_, fun b o e hp => ?_, fun b xs e => ?_, fun b o u e => ?_, fun b ps e => ⟨#[], ?_⟩⟩, unfz_ok hid I.hok, fun b h => ?_, fun b hb => ?_⟩
  · by_cases hn : b < G.n0
    · exact I.base.keep b o (by rw [show (G.cx A (tr G.n0 sw) (fz G.n0 pv sw Hw)).s_0 = tr G.n0 sw from rfl, tr_get hn]; exact e) (old b hn q) hb (by intro z; cases z)
    · exact kept b o e hp (Nat.le_of_not_lt hn) q
  · have hn := (W.frs b hb).1
    exact I.base.slot b o (by rw [show (G.cx A (tr G.n0 sw) (fz G.n0 pv sw Hw)).s_0 = tr G.n0 sw from rfl, tr_get hn]; exact e) (old b hn q) hb (by intro z; cases z)
  · by_cases hn : b < G.n0
    · rw [unfz_keep (old b hn q)]
      exact I.base.free b o (by rw [show (G.cx A (tr G.n0 sw) (fz G.n0 pv sw Hw)).s_0 = tr G.n0 sw from rfl, tr_get hn]; exact e) (old b hn q) (by intro z; cases z)
    · exact unfz_drop q (fz_new e (Nat.le_of_not_lt hn) hp)
  · by_cases hn : b < G.n0
    · exact I.base.there b o (by rw [show (G.cx A (tr G.n0 sw) (fz G.n0 pv sw Hw)).s_0 = tr G.n0 sw from rfl, tr_get hn]; exact e) (by intro z; cases z)
    · have hf := fz_new (H := Hw) e (Nat.le_of_not_lt hn) hp
      cases q2 : fz G.n0 pv sw Hw b with
      | none => exact absurd q2 hf
      | some u => exact ObjOk.there (I.hok b u ((hid b hf).trans q2))
  · have q : Hw b ≠ none := by rw [e]; simp
    rw [unfz_old q, hid b (by rw [fz_some e]; simp), fz_some e]
  · have q : Hw b ≠ none := by rw [e]; simp
    rw [unfz_old q, hid b (by rw [fz_some e]; simp), fz_some e]
  · have q : Hw b ≠ none := by rw [e]; simp
    rw [unfz_old q, hid b (by rw [fz_some e]; simp), fz_some e, Array.append_empty]
  · cases q : Hw b with
    | none => exact absurd q h
    | some u => rw [unfz_old h, hid b (by rw [fz_some q]; simp), fz_some q]
  · have free : ∀ b, H b = none → unfz Hw (fz G.n0 pv sw Hw) H b = none ∧ (G.n0 ≤ b → b ∈ pv ∨ sw.heap.get? b = none) := fun b q => by
      refine ⟨by unfold unfz; split <;> first | rfl | exact q, fun hn => ?_⟩
      by_cases hp : b ∈ pv
      · exact .inl hp
      · cases q2 : sw.heap.get? b with
        | none => exact .inr rfl
        | some o =>
          have hf := fz_new (H := Hw) q2 hn hp
          exact absurd ((hid b hf).symm.trans q) hf
    rcases List.mem_cons.mp hb with e | hb
    · subst e
      obtain ⟨m, ⟨o, es, ep, ho, hd, _⟩, _⟩ := I.loc
      exact ⟨Nat.le_refl _, .inl W.n0, (free _ I.free).1, o, ho, fun v z => by rw [hd] at z; cases z⟩
    · obtain ⟨p, hp, rfl⟩ := List.mem_map.mp hb
      obtain ⟨h1, h2, _, _, h5⟩ := I.pin p (List.mem_append_right _ hp)
      obtain ⟨f1, f2⟩ := free _ h2
      exact ⟨hip p hp, f2 (hip p hp), f1, p.2, h1, h5⟩
/-- a wake: the frame stands as it stood -/
theorem rebase {A A' : Around} {s0 s1 s2 : Shared} {H0 H H1 H2 : Hp} {pv' : List Addr} (I : Inv (G.cx A s0 H0) ip σ H s1) (hs0 : s0.heap.objs.size = G.n0) (k : Wk G pv' s1 H1 s2 H2) (hn : G.n0 ∈ pv') (hip : ∀ p ∈ ip, p.1 ∈ pv') (hc : G.env.cells = [])
    (hf : ∀ b ∈ frs G.outer, b < G.n0) (hh : A'.handled = none) (hfr : A'.frames = some G.outer) : Inv (G.cx A' (tr G.n0 s2) (fz G.n0 pv' s2 H2)) ip σ (fz G.n0 pv' s2 H2) (s2.setGen G.g .running) := by
  obtain ⟨m, hns, hl⟩ := id I.loc
  have hns2 : s2.heap.Ns G.n0 m := by
    obtain ⟨o, es, ep, ho, r⟩ := hns
    exact ⟨o, es, ep, (k.pv _ hn).2 o ho, r⟩
  have hsz : G.n0 ≤ s2.heap.objs.size := Nat.le_of_lt hns2.lt
  have bz : G.base.objs.size ≤ G.n0 := by
    have h1 := I.ok.bsz
    have h2 : (G.cx A s0 H0).s_0 = s0 := rfl
    rw [h2, hs0] at h1
    exact h1
  have inB : ∀ b o, G.base.get? b = some o → b < G.n0 := fun b o e => Nat.lt_of_lt_of_le (Heap.lt_size e) bz
  have nx : ∀ b : Addr, b ∉ (G.cx A' (tr G.n0 s2) (fz G.n0 pv' s2 H2)).ex := fun b z => absurd (show b ∈ ([] : List Addr) from z) (by simp)
  have frame : frs (G.env :: G.outer) = G.n0 :: frs G.outer := rfl
  refine ⟨⟨I.ok.mod, I.ok.kind, I.ok.glob, I.ok.blt, ?_, I.ok.inj, I.ok.has, fun x c _ e => ?_, fun _ => hh, Around.frames_deeper hfr, .inr ⟨rfl, rfl⟩, fun b z => absurd z (nx b), fun b o e => ?_, ?_, fun b _ _ => nx b, fun b z => absurd z (nx b), ?_, fun b hb => ?_⟩,
    rfl, allBare_setGen k.bare rfl, ⟨fun b o e _ _ _ => tr_of e, fun b o e _ _ _ => ⟨o.slots, tr_of e⟩, fun _ _ _ z _ => z, fun b o e _ => ⟨o, tr_of e⟩, fun _ _ z => z, fun _ _ _ z => z, fun b ps z => ⟨#[], by rw [Array.append_empty]; exact z⟩⟩,
    ⟨m, hns2, fun i x v e1 e2 e3 => ?_⟩, fun x c e => ?_, ?_, fun x c e => ?_, fun p hp => ?_, fz_ok k.hok, I.len⟩
  · show (tr G.n0 s2).heap.objs.size ≤ G.n0
    rw [tr_size hsz]; exact Nat.le_refl _
  · rw [show (G.cx A' (tr G.n0 s2) (fz G.n0 pv' s2 H2)).env.cells = [] from hc] at e; cases e
  · obtain ⟨h1, h2⟩ := k.base b o e
    exact ⟨by show (tr G.n0 s2).heap.get? b = some o; rw [tr_get (inB b o e)]; exact h1, (fz_lt (inB b o e)).trans h2⟩
  · show _ ≤ (tr G.n0 s2).heap.objs.size
    rw [tr_size hsz]; exact bz
  · exact tr_frames k.funs hf
  · exact (fz_lt (hf b hb)).trans (k.frf b hb)
  · obtain ⟨u, r, q⟩ := hl i x v e1 e2 e3
    refine ⟨u, r, ?_⟩
    rcases q with q | ⟨_, c, e, _⟩
    · exact .inl q
    · rw [show (G.cx A s0 H0).env.cells = [] from hc] at e; cases e
  · rw [show (G.cx A' (tr G.n0 s2) (fz G.n0 pv' s2 H2)).env.cells = [] from hc] at e; cases e
  · exact (fz_pv hn).trans (k.pv _ hn).1
  · rw [show (G.cx A' (tr G.n0 s2) (fz G.n0 pv' s2 H2)).env.cells = [] from hc] at e; cases e
  · have hp' : p ∈ ip := by
      rcases List.mem_append.mp hp with z | z
      · exact absurd (show p ∈ ([] : List (Addr × Obj)) from z) (by simp)
      · exact z
    obtain ⟨h1, _, h3, h4, h5⟩ := I.pin p (List.mem_append_right _ hp')
    obtain ⟨k1, k2⟩ := k.pv p.1 (hip p hp')
    exact ⟨k2 _ h1, (fz_pv (hip p hp')).trans k1, h3, h4, h5⟩
end
end DL
namespace DL
open PySem PySem.Spec PyProof.Rows L2 PySem.W.X
/-- behind a statement: the items still to come -/
structure GE where
  nx : List D → DEnv → MS → Prop
  rt : List D → Prop
  bk : List D → DEnv → MS → Prop := fun _ _ _ => False
  ct : List D → DEnv → MS → Prop := fun _ _ _ => False
abbrev DG := GE → List D → DEnv → MS → Prop
def GE.at (Δ : GE) (xs : List D) : DEnds := { nx := Δ.nx xs, rt := fun d _ => d = .non ∧ Δ.rt xs, bk := Δ.bk xs, ct := Δ.ct xs }
def gPlain (t : DS) : DG := fun Δ xs ρ M => t (Δ.at xs) ρ M
def gNil : DG := fun Δ xs ρ M => Δ.nx xs ρ M
def gSeq (t u : DG) : DG := fun Δ xs ρ M => t { Δ with nx := u Δ } xs ρ M
def gYield (te : DE) : DG := fun Δ xs ρ M => te ρ M fun x _ => pureD x = true ∧ ∃ rest, xs = x :: rest ∧ Δ.nx rest (purE ρ) emM
abbrev DIP := DEnv → MS → (List D → MS → Prop) → Prop
def gforW (p : Pat) (body : DG) (Δ : GE) : List D → List D → DEnv → MS → Prop
  | [], xs, ρ, M => Δ.nx xs ρ M
  | d :: ds, xs, ρ, M => match p.put d ρ with
    | some ρ1 => body { nx := fun xs' ρ' M' => gforW p body Δ ds xs' ρ' M', rt := Δ.rt, bk := Δ.nx, ct := fun xs' ρ' M' => gforW p body Δ ds xs' ρ' M' } xs ρ1 M
    | none => False
def gFor (ti : DIP) (p : Pat) (body : DG) : DG := fun Δ xs ρ M => ti ρ M fun items M1 => gforW p body Δ items xs ρ M1
theorem inv_gens {X : Cx} {pins : List (Addr × Obj)} {σ : L2.St} {H : Hp} {s : Shared} {G2 : Array GenState} (I : Inv X pins σ H s) (h : AllBare G2) : Inv X pins σ H { s with gens := G2 } :=
  ⟨I.ok, I.os, h, I.base, I.loc, I.cell, I.free, I.freeC, I.pin, I.hok, I.len⟩
/-- what stays for as long as a loop runs: generators that sleep, tuples -/
structure GKeep where
  gens : List (Nat × GenState)
  tk : Addr → List V → Prop
structure GRun (G : GD) (A : Around) (sw : Shared) (Hw : Hp) (pv : List Addr) (ip : List (Addr × Obj)) (gp : GKeep) (ρ : DEnv) (M : MS) (s : Shared) : Prop where
  run : ∃ σ F H, Inv (G.cx A (tr G.n0 sw) (fz G.n0 pv sw Hw)) ip σ H s ∧ Abs G.K Og.top F H M σ ρ ∧ LmG G.K (fz G.n0 pv sw Hw) F H M ∧ ∀ a vs, gp.tk a vs → SqT G.K H a vs
  here : WOk G pv sw Hw
  ipok : ∀ p ∈ ip, G.n0 ≤ p.1
  gens : ∀ q ∈ gp.gens, sleeps q.2 = true ∧ s.gens[q.1]? = some q.2 ∧ q.1 ≠ G.g
structure GA (G : GD) (k : Nat) (A : Around) : Prop where
  room : Room k (A.deeper G.env)
  gd : (A.deeper G.env).guards = some []
  fr : A.frames = some G.outer
structure GC0 (G : GD) (A : Around) (c : Code) (fs : List Frame) (gd : Bool → Bool) : Prop where
  over : A.over c fs = A.deeper G.env
  split : splitAtGen fs = none
  guard : fs.any Frame.guarded = false
  gd : gd false = false
def GPost (G : GD) (A : Around) (xs : List D) (sw : Shared) (Hw : Hp) (pv : List Addr) (ip : List (Addr × Obj)) (gp : GKeep) (Δ : GE) (f : Flow) (s : Shared) : Prop := match f with
  | .next => ∃ ρ M, GRun G A sw Hw pv ip gp ρ M s ∧ Δ.nx xs ρ M
  | .brk => ∃ ρ M, GRun G A sw Hw pv ip gp ρ M s ∧ Δ.bk xs ρ M
  | .cont => ∃ ρ M, GRun G A sw Hw pv ip gp ρ M s ∧ Δ.ct xs ρ M
  | .ret u => u = .none ∧ ∃ ρ M, GRun G A sw Hw pv ip gp ρ M s ∧ Δ.rt xs
/-- for all that runs in the frame: a piece m of the generator's code -/
structure GSm (G : GD) (k : Nat) (m : Sem Flow) (t : DG) : Prop where
  run : ∀ (A : Around) (c : Code) (fs : List Frame) (K : Flow → Sem PySem.Fin) (J : Value → Sem PySem.Fin) (gd : Bool → Bool) (lv : List Value → List Value) (xs : List D) (sw : Shared) (Hw : Hp) (pv : List Addr) (ip : List (Addr × Obj)) (gp : GKeep) (ρ : DEnv) (M : MS) (s : Shared) (Δ : GE),
    GA G k A → GC0 G A c fs gd → GRun G A sw Hw pv ip gp ρ M s → t Δ xs ρ M →
    (∀ (xs' : List D) (sw' : Shared) (Hw' : Hp) (pv' : List Addr) (f : Flow) (s' : Shared), GPost G A xs' sw' Hw' pv' ip gp Δ f s' → SegX (model G.P G.w) A c (K f) fs s' (GPE G A xs' sw' Hw' pv')) →
    SegX (model G.P G.w) A c (m.wrap K J gd lv) fs s (GPE G A xs sw Hw pv)
abbrev GSx (G : GD) (k : Nat) (st : Stmt) (t : DG) : Prop := GSm G k (exec st G.env) t
abbrev GSxs (G : GD) (k : Nat) (sts : List Stmt) (t : DG) : Prop := GSm G k (execs sts G.env) t
section
variable {G : GD} {k : Nat} {A : Around} {sw s : Shared} {Hw : Hp} {pv : List Addr} {ip : List (Addr × Obj)} {gp : GKeep} {ρ : DEnv} {M : MS}
theorem GRun.dead (R : GRun G A sw Hw pv ip gp ρ M s) : ∃ σ F H, Inv (G.cx A (tr G.n0 sw) (fz G.n0 pv sw Hw)) ip σ H { s with gens := deadG s.gens } ∧ Abs G.K Og.top F H M σ ρ ∧ LmG G.K (fz G.n0 pv sw Hw) F H M ∧ ∀ a vs, gp.tk a vs → SqT G.K H a vs := by
  obtain ⟨σ, F, H, I, a, l⟩ := R.run
  exact ⟨σ, F, H, inv_gens I (deadG_bare I.bare), a, l⟩
theorem GRun.on (R : GRun G A sw Hw pv ip gp ρ M s) {s' : Shared} {Q : Shared → Prop} {ρ' : DEnv} {M' : MS} {σ : L2.St} {F : Addr → Prop} {H : Hp} {ip' : List (Addr × Obj)} (t : At (sleptT s.gens) s' Q) (hq : ∀ s2, Q s2 → Inv (G.cx A (tr G.n0 sw) (fz G.n0 pv sw Hw)) ip' σ H s2)
    (a : Abs G.K Og.top F H M' σ ρ') (l : LmG G.K (fz G.n0 pv sw Hw) F H M') (tk : ∀ a vs, gp.tk a vs → SqT G.K H a vs) (hip : ∀ p ∈ ip', G.n0 ≤ p.1) : GRun G A sw Hw pv ip' gp ρ' M' s' := by
  obtain ⟨G2, d, q⟩ := id t
  have I := hq _ q
  refine ⟨⟨σ, F, H, ?_, a, l, tk⟩, R.here, hip, fun q hq => ?_⟩
  · have := inv_gens I (d.bare I.bare)
    exact this
  · obtain ⟨h1, h2, h3⟩ := R.gens q hq
    exact ⟨h1, t.keeps q.1 q.2 h2 h1, h3⟩
theorem GRun.weak {gq : GKeep} (R : GRun G A sw Hw pv ip gp ρ M s) (h1 : ∀ q ∈ gq.gens, q ∈ gp.gens) (h2 : ∀ a vs, gq.tk a vs → gp.tk a vs) : GRun G A sw Hw pv ip gq ρ M s := by
  obtain ⟨⟨σ, F, H, I, a, l, tk⟩, h, hip, hg⟩ := R
  exact ⟨⟨σ, F, H, I, a, l, fun a vs q => tk a vs (h2 a vs q)⟩, h, hip, fun q hq => hg q (h1 q hq)⟩
theorem GRun.onK {gq : GKeep} (R : GRun G A sw Hw pv ip gp ρ M s) {s' : Shared} {Q : Shared → Prop} {ρ' : DEnv} {M' : MS} {σ : L2.St} {F : Addr → Prop} {H : Hp} {ip' : List (Addr × Obj)} (hgs : gq.gens = gp.gens) (t : At (sleptT s.gens) s' Q) (hq : ∀ s2, Q s2 → Inv (G.cx A (tr G.n0 sw) (fz G.n0 pv sw Hw)) ip' σ H s2)
    (a : Abs G.K Og.top F H M' σ ρ') (l : LmG G.K (fz G.n0 pv sw Hw) F H M') (tk : ∀ a vs, gq.tk a vs → SqT G.K H a vs) (hip : ∀ p ∈ ip', G.n0 ≤ p.1) : GRun G A sw Hw pv ip' gq ρ' M' s' := by
  have R2 : GRun G A sw Hw pv ip' ⟨gp.gens, fun _ _ => False⟩ ρ' M' s' := GRun.on (gp := ⟨gp.gens, fun _ _ => False⟩) (R.weak (gq := ⟨gp.gens, fun _ _ => False⟩) (fun _ z => z) fun _ _ z => z.elim) t hq a l (fun _ _ z => z.elim) hip
  obtain ⟨G2, d, q⟩ := t
  have I := hq _ q
  refine ⟨⟨σ, F, H, ?_, a, l, tk⟩, R2.here, hip, fun q hq => R2.gens q (hgs ▸ hq)⟩
  have := inv_gens I (d.bare I.bare)
  exact this
theorem blank_env {K : PySem.W.Frag} {F : Addr → Prop} {H : Hp} {σ : L2.St} : RepEnv K F H σ (List.replicate σ.length none) := by
  refine ⟨by simp, fun i d h => ?_⟩
  rw [List.getElem?_replicate] at h
  split at h <;> cases h
theorem gx_of {m : Sem Flow} {t : DS} (h : ∀ A s0 H0, GA G k A → s0.heap.objs.size = G.n0 → ∀ (pins : List (Addr × Obj)) (s : Shared) (σ : L2.St) (H : Hp) (D : Ends), Inv (G.cx A s0 H0) pins σ H s → loS G.K Og.top t D σ H → wpAny (model G.P G.w) (G.cx A s0 H0).A m (SP (G.cx A s0 H0) pins D) (G.cx A s0 H0).xe s) :
    GSm G k m (gPlain t) := by
  refine ⟨fun A c fs K J gd lv xs sw Hw pv ip gp ρ M s Δ a g R ht kk => ?_⟩
  refine sx_wrap ?_
  rw [g.over]
  obtain ⟨σ, F, H, I, ab, l, tk⟩ := R.dead
  let Y : Ends := {
    nx := fun σ' H' => ∃ F' M' ρ', Lm G.K F H M F' H' M' ∧ Abs G.K Og.top F' H' M' σ' ρ' ∧ Δ.nx xs ρ' M'
    rt := fun v H' => v = .non ∧ Δ.rt xs ∧ ∃ F' M', Lm G.K F H M F' H' M' ∧ AbsM G.K F' H' M'
    bk := fun σ' H' => ∃ F' M' ρ', Lm G.K F H M F' H' M' ∧ Abs G.K Og.top F' H' M' σ' ρ' ∧ Δ.bk xs ρ' M'
    ct := fun σ' H' => ∃ F' M' ρ', Lm G.K F H M F' H' M' ∧ Abs G.K Og.top F' H' M' σ' ρ' ∧ Δ.ct xs ρ' M' }
  have hw := h A (tr G.n0 sw) (fz G.n0 pv sw Hw) a (tr_size R.here.sz) ip _ σ H Y I ⟨F, M, ρ, Δ.at xs, ab, ht,
    ⟨fun σ' H' F' M' ρ' l' a' q => ⟨F', M', ρ', l', a', q⟩, fun v H' q => by
      obtain ⟨F', M', d, l', a', r, e, q⟩ := q
      subst e
      exact ⟨r, q, F', M', l', a'⟩, fun σ' H' F' M' ρ' l' a' q => ⟨F', M', ρ', l', a', q⟩, fun σ' H' F' M' ρ' l' a' q => ⟨F', M', ρ', l', a', q⟩⟩⟩
  refine wpAny_mono (wpAny_deadT (dead_all s.gens) hw) (fun f s' z => kk xs sw Hw pv f s' ?_) fun x s' z => ?_
  · cases f with
    | next =>
      obtain ⟨G2, d, σ', H', I', F', M', ρ', l', a', q⟩ := z
      exact ⟨ρ', M', R.on (Q := fun s2 => Inv (G.cx A (tr G.n0 sw) (fz G.n0 pv sw Hw)) ip σ' H' s2) ⟨G2, d, I'⟩ (fun _ q => q) a' (l.trans l') (fun a vs q => l'.le.tup a vs (tk a vs q)) R.ipok, q⟩
    | brk =>
      obtain ⟨G2, d, σ', H', I', F', M', ρ', l', a', q⟩ := z
      exact ⟨ρ', M', R.on (Q := fun s2 => Inv (G.cx A (tr G.n0 sw) (fz G.n0 pv sw Hw)) ip σ' H' s2) ⟨G2, d, I'⟩ (fun _ q => q) a' (l.trans l') (fun a vs q => l'.le.tup a vs (tk a vs q)) R.ipok, q⟩
    | cont =>
      obtain ⟨G2, d, σ', H', I', F', M', ρ', l', a', q⟩ := z
      exact ⟨ρ', M', R.on (Q := fun s2 => Inv (G.cx A (tr G.n0 sw) (fz G.n0 pv sw Hw)) ip σ' H' s2) ⟨G2, d, I'⟩ (fun _ q => q) a' (l.trans l') (fun a vs q => l'.le.tup a vs (tk a vs q)) R.ipok, q⟩
    | ret u =>
      obtain ⟨G2, d, v, σ', H', I', rv, hv, q, F', M', l', a'⟩ := z
      subst hv
      exact ⟨rv, _, M', R.on (Q := fun s2 => Inv (G.cx A (tr G.n0 sw) (fz G.n0 pv sw Hw)) ip σ' H' s2) ⟨G2, d, I'⟩ (fun _ q => q) ⟨a', blank_env, trivial⟩ (l.trans l') (fun a vs q => l'.le.tup a vs (tk a vs q)) R.ipok, q⟩
  · obtain ⟨_, _, q⟩ := z
    exact q.elim
theorem gx_plain {st : Stmt} {t : DS} (h : ∀ A s0 H0, GA G k A → s0.heap.objs.size = G.n0 → PS (G.cx A s0 H0) st (loS G.K Og.top t)) : GSx G k st (gPlain t) := gx_of fun A s0 H0 a hs => (h A s0 H0 a hs).run
theorem gxs_nil : GSxs G k [] gNil := ⟨fun A c fs K J gd lv xs sw Hw pv ip gp ρ M s Δ a g R ht kk => kk xs sw Hw pv .next s ⟨ρ, M, R, ht⟩⟩
theorem gxs_cons {st : Stmt} {rest : List Stmt} {t u : DG} (h1 : GSx G k st t) (h2 : GSxs G k rest u) : GSxs G k (st :: rest) (gSeq t u) := by
  refine ⟨fun A c fs K J gd lv xs sw Hw pv ip gp ρ M s Δ a g R ht kk => ?_⟩
  refine sx_cons (h1.run A c fs _ J gd lv xs sw Hw pv ip gp ρ M s { Δ with nx := u Δ } a g R ht fun xs' sw' Hw' pv' f s' q => ?_)
  cases f with
  | next =>
    obtain ⟨ρ', M', R', q⟩ := q
    exact h2.run A c fs K J gd lv xs' sw' Hw' pv' ip gp ρ' M' s' Δ a g R' q kk
  | brk => exact kk xs' sw' Hw' pv' .brk s' q
  | cont => exact kk xs' sw' Hw' pv' .cont s' q
  | ret u => exact kk xs' sw' Hw' pv' (.ret u) s' q
/-- the frame at a wake -/
theorem GRun.wake {σ : L2.St} {F : Addr → Prop} {H H2 : Hp} {s2 : Shared} {A' : Around} (W : WOk G pv sw Hw) (I : Inv (G.cx A (tr G.n0 sw) (fz G.n0 pv sw Hw)) ip σ H s) (ab : Abs G.K Og.top F H M σ ρ) (l : LmG G.K (fz G.n0 pv sw Hw) F H M)
    (tk : ∀ a vs, gp.tk a vs → SqT G.K H a vs) (hip : ∀ p ∈ ip, G.n0 ≤ p.1) (hgp : ∀ q ∈ gp.gens, sleeps q.2 = true ∧ s.gens[q.1]? = some q.2 ∧ q.1 ≠ G.g) (k : Wk G (G.n0 :: ip.map (·.1)) s (unfz Hw (fz G.n0 pv sw Hw) H) s2 H2) (hh : A'.handled = none) (hfr : A'.frames = some G.outer) :
    GRun G A' s2 H2 (G.n0 :: ip.map (·.1)) ip gp (purE ρ) emM (s2.setGen G.g .running) := by
  have I2 := rebase (A' := A') I (tr_size W.sz) k List.mem_cons_self (fun p hp => List.mem_cons_of_mem _ (List.mem_map_of_mem hp)) W.cells (fun b hb => (W.frs b hb).1) hh hfr
  have hsq : ∀ a vs, SqT G.K H a vs → SqT G.K (fz G.n0 (G.n0 :: ip.map (·.1)) s2 H2) a vs := fun a vs q => fz_sq (k.tups a vs (unfz_sq (lm_id l) q))
  refine ⟨⟨σ, fun _ => False, _, I2, ⟨⟨fun _ z => z.elim, fun a o z => by cases z⟩, ⟨?_, fun i d e => ?_⟩, trivial⟩, LmG.refl, fun a vs q => hsq a vs (tk a vs q)⟩, ⟨List.mem_cons_self, fun b hb => ⟨(W.frs b hb).1, k.frf b hb⟩, W.cells, k.hok, ?_⟩, hip, fun q hq => ?_⟩
  · unfold purE
    rw [List.length_map]
    exact ab.env.len
  · unfold purE at e
    rw [List.getElem?_map] at e
    cases q : ρ[i]? with
    | none => rw [q] at e; cases e
    | some o =>
      rw [q] at e
      cases o with
      | none => cases e
      | some d' =>
        simp only [Option.map_some, Option.some.injEq] at e
        split at e
        · rename_i hp
          cases e
          obtain ⟨v, e1, r⟩ := ab.env.get i d q
          exact ⟨v, e1, r.pure hsq hp⟩
        · cases e
  · obtain ⟨m, hn, _⟩ := I2.loc
    exact Nat.le_of_lt hn.lt
  · obtain ⟨h1, h2, h3⟩ := hgp q hq
    refine ⟨h1, ?_, h3⟩
    show (s2.gens.setIfInBounds G.g .running)[q.1]? = _
    rw [Array.getElem?_setIfInBounds_ne (Ne.symm h3)]
    exact k.gens q.1 q.2 h3 h2 h1
theorem gx_yield {e : Expr} {te : DE} {yp pos : Pos} (he : ∀ A s0 H0, GA G k A → s0.heap.objs.size = G.n0 → PE (G.cx A s0 H0) e (lo G.K Og.top te)) (hco : G.scope.isCoroutine = false) : GSx G k (.Expr (.Yield (some e) yp) pos) (gYield te) := by
  refine ⟨fun A c fs K J gd lv xs sw Hw pv ip gp ρ M s Δ a g R ht kk => ?_⟩
  obtain ⟨σ, F, H, I, ab, l, tk⟩ := R.dead
  refine sx_yield g.split g.gd g.guard ?_ hco I.quiet
  rw [g.over]
  have hw := (he A (tr G.n0 sw) (fz G.n0 pv sw Hw) a (tr_size R.here.sz)).run ip _ σ H (fun v H' => loQ G.K F H M (fun x _ => pureD x = true ∧ ∃ rest, xs = x :: rest ∧ Δ.nx rest (purE ρ) emM) v H') I ⟨F, M, ρ, _, ab, ht, fun v H' q => q⟩
  refine wpAny_mono (wpAny_deadT (dead_all s.gens) hw) (fun v s' z => ?_) fun x s' z => ?_
  · intro l0 k0 p0 hc
    have z' := z
    obtain ⟨G2, d, vv, H', I', rv, F', M', x, l', a', r, px, rest, hx, hn⟩ := z
    subst hx
    have I1 : Inv (G.cx A (tr G.n0 sw) (fz G.n0 pv sw Hw)) ip σ H' s' := by
      have := inv_gens I' (d.bare I'.bare)
      exact this
    have lt := l.trans l'
    refine ⟨v, vv, false, l0, k0, c, p0, fs, G.n0 :: ip.map (·.1), _, rfl, stp_of I1 lt R.here R.ipok, rv, r.pure (fun a vs q => unfz_sq (lm_id lt) q) px, fun s2 H2 wk => ?_⟩
    refine hc _ _ (kk rest s2 H2 _ .next _ ⟨purE ρ, emM, ?_, hn⟩)
    refine GRun.wake R.here I1 ⟨a', ab.env.mono l'.le, trivial⟩ lt (fun a vs q => l'.le.tup a vs (tk a vs q)) R.ipok (fun q hq => ?_) wk a.room.hd a.fr
    obtain ⟨h1, h2, h3⟩ := R.gens q hq
    exact ⟨h1, z'.keeps q.1 q.2 h2 h1, h3⟩
  · obtain ⟨_, _, q⟩ := z
    exact q.elim
end
end DL
namespace DL
open PySem PySem.Spec PyProof.Rows L2 PySem.W.X
/-- at turn i an iterator of this kind yields the i-th item, wherever the tuples stand -/
def SrcP (K : PySem.W.Frag) (H0 : Hp) (J : It) (items : List D) : Prop := ∀ (F' : Addr → Prop) (H' : Hp) (M' : MS), AbsM K F' H' M' → (∀ a vs, SqT K H0 a vs → SqT K H' a vs) →
  (∀ i, i < items.length → J.go i H') ∧ J.stop items.length H' ∧ ∀ i v H'', i < items.length → J.yld i H' v H'' → ∃ F'' d, Lm K F' H' M' F'' H'' M' ∧ AbsM K F'' H'' M' ∧ items[i]? = some d ∧ Rep K F'' H'' d v
def loIP (K : PySem.W.Frag) (O : Og K) (t : DIP) : TI := fun σ H R => ∃ F M ρ Ψ, Abs K O F H M σ ρ ∧ t ρ M Ψ ∧ ∀ J H' F' M' items, Lm K F H M F' H' M' → AbsM K F' H' M' → SrcP K H' J items → Ψ items M' → R J H'
def dTupP (te : DE) : DIP := fun ρ M Ψ => te ρ M fun x M1 => match x with
  | .tup xs => pures xs = true ∧ Ψ xs M1
  | _ => False
def dRngP (ta tb : DE) : DIP := fun ρ M Ψ => ta ρ M fun x M1 => tb ρ M1 fun y M2 => match x with
  | .int i => (match y with
    | .int j => (-(2 ^ 62) ≤ i ∧ i < 2 ^ 62 ∧ -(2 ^ 62) ≤ j ∧ j < 2 ^ 62) ∧ Ψ (rangeD i (j - i).toNat) M2
    | _ => False)
  | _ => False
section
variable {X : Cx} {tg : Expr}
variable {O : Og X.K}
theorem pip_tup {e : Expr} {te : DE} (he : PE X e (lo X.K O te)) : PI X tg e (loIP X.K O (dTupP te)) :=
  PI.imp (pi_tup he) fun σ H R h => by
    obtain ⟨F, M, ρ, Ψ, A, h, k⟩ := h
    refine ⟨F, M, ρ, _, A, h, fun v H1 q => ?_⟩
    obtain ⟨F1, M1, d, l1, a1, rd, h1⟩ := q
    split at h1
    · rename_i xs
      obtain ⟨hp, h1⟩ := h1
      obtain ⟨a, vs, e, ht, rs⟩ := rep_tup rd
      refine ⟨a, e, ⟨vs, ht⟩, k _ _ _ _ _ l1 a1 ?_ h1⟩
      intro F' H' M' am hm
      have ht' := hm a vs ht
      have rs' : Reps X.K F' H' xs vs := rs.pure hm hp
      refine ⟨fun i hi => ?_, ⟨vs, ht', Nat.le_of_eq rs.length.symm⟩, fun i v H'' hi hy => ?_⟩
      · obtain ⟨y, e, _⟩ := rs'.get (List.getElem?_eq_getElem hi)
        exact ⟨vs, y, ht', e⟩
      · obtain ⟨rfl, hy⟩ := hy
        obtain ⟨y, e, ry⟩ := rs'.get (List.getElem?_eq_getElem hi)
        rw [hy vs ht'] at e
        cases e
        exact ⟨F', _, Lm.refl, am, List.getElem?_eq_getElem hi, ry⟩
    · exact h1.elim
end
section
variable {G : GD} {k : Nat} {A : Around} {sw s : Shared} {Hw : Hp} {pv : List Addr} {ip : List (Addr × Obj)} {gp : GKeep} {ρ : DEnv} {M : MS}
theorem GRun.unpin {pl : List (Addr × Obj)} (R : GRun G A sw Hw pv (ip ++ pl) gp ρ M s) : GRun G A sw Hw pv ip gp ρ M s := by
  obtain ⟨⟨σ, F, H, I, a, l⟩, h, hip, hg⟩ := R
  exact ⟨⟨σ, F, H, I.unpinned, a, l⟩, h, fun p hp => hip p (List.mem_append_left _ hp), hg⟩
theorem GPost.unpin {pl : List (Addr × Obj)} {xs : List D} {Δ : GE} {f : Flow} (h : GPost G A xs sw Hw pv (ip ++ pl) gp Δ f s) : GPost G A xs sw Hw pv ip gp Δ f s := by
  cases f with
  | next => obtain ⟨ρ, M, R, q⟩ := h; exact ⟨ρ, M, R.unpin, q⟩
  | brk => obtain ⟨ρ, M, R, q⟩ := h; exact ⟨ρ, M, R.unpin, q⟩
  | cont => obtain ⟨ρ, M, R, q⟩ := h; exact ⟨ρ, M, R.unpin, q⟩
  | ret u => obtain ⟨e, ρ, M, R, q⟩ := h; exact ⟨e, ρ, M, R.unpin, q⟩
/-- the iterator's own objects, of one frame at all its wakes -/
structure FpG (G : GD) (ip : List (Addr × Obj)) (b : Addr) : Prop where
  loc : b ≠ G.n0
  fs : b ∉ frs G.outer
  ge : G.n0 ≤ b
  ip : ∀ p ∈ ip, p.1 ≠ b
theorem fpG_of {H : Hp} {b : Addr} {H0 : Hp} {s0 : Shared} (hs0 : s0.heap.objs.size = G.n0) (h : FpOk (G.cx A s0 H0) ip H b) : FpG G ip b ∧ H b = none := by
  obtain ⟨h1, h2, h3, h4, _, h6⟩ := h
  refine ⟨⟨h2, h3, ?_, fun p hp => h6 p (List.mem_append_right _ hp)⟩, h1⟩
  rcases h4 with z | z
  · exact absurd (show b ∈ ([] : List Addr) from z) (by simp)
  · have e : (G.cx A s0 H0).s_0 = s0 := rfl
    rw [e, hs0] at z
    exact z
theorem FpG.ok {H : Hp} {b : Addr} {H0 : Hp} {s0 : Shared} (hs0 : s0.heap.objs.size = G.n0) (hc : G.env.cells = []) (h : FpG G ip b) (hb : H b = none) : FpOk (G.cx A s0 H0) ip H b := by
  refine ⟨hb, h.loc, h.fs, .inr ?_, fun x c e => ?_, fun p hp => ?_⟩
  · have e : (G.cx A s0 H0).s_0 = s0 := rfl
    rw [e, hs0]; exact h.ge
  · rw [show (G.cx A s0 H0).env.cells = [] from hc] at e; cases e
  · rcases List.mem_append.mp hp with z | z
    · exact absurd (show p ∈ ([] : List (Addr × Obj)) from z) (by simp)
    · exact h.ip p z
theorem gx_for {tg iter : Expr} {body : List Stmt} {pos : Pos} {ti : DIP} {p : Pat} {tb : DG} (hi : ∀ A s0 H0, GA G k A → s0.heap.objs.size = G.n0 → PI (G.cx A s0 H0) tg iter (loIP G.K Og.top ti))
    (hg : ∀ A s0 H0, GA G k A → s0.heap.objs.size = G.n0 → PG (G.cx A s0 H0) tg (p.tg G.K)) (hb : GSxs G k body tb) (hfd : ∀ x, foldedSetIterable iter G.env x = pure x) : GSx G k (.For tg iter body [] pos) (gFor ti p tb) := by
  refine ⟨fun A c fs K J gd lv xs sw Hw pv ip gp ρ M s Δ a g R ht kk => ?_⟩
  refine sx_for hfd ?_
  rw [g.over]
  obtain ⟨σ, F, H, I, ab, l, tk⟩ := R.dead
  have hw := (hi A (tr G.n0 sw) (fz G.n0 pv sw Hw) a (tr_size R.here.sz)).run ip _ σ H (fun J H' => ∃ F' M' items, Lm G.K F H M F' H' M' ∧ AbsM G.K F' H' M' ∧ SrcP G.K H' J items ∧ gforW p tb Δ items xs ρ M') I
    ⟨F, M, ρ, _, ab, ht, fun J H' F' M' items l' a' sp q => ⟨F', M', items, l', a', sp, q⟩⟩
  refine wpAny_mono (wpAny_deadT (dead_all s.gens) hw) (fun v s1 z => ?_) fun x s' z => by obtain ⟨_, _, q⟩ := z; exact q.elim
  obtain ⟨G2, d2, z⟩ := z
  refine wpAny_mono (wpAny_deadT d2 z) (fun itv s2 z => ?_) fun x s' z => by obtain ⟨_, _, q⟩ := z; exact q.elim
  intro p0 l0 kp0 kf hkf
  have z0 := z
  obtain ⟨G3, d3, it, fp, tn, Ji, H2, hit, I2, T, st2, f2, F2, M2, items, l2, a2, sp, hw2⟩ := z
  subst hit
  have hs0 := tr_size R.here.sz
  have fpg : ∀ b ∈ fp, FpG G ip b := fun b hb => (fpG_of hs0 (f2 b hb)).1
  let gq : GKeep := ⟨gp.gens, fun a vs => gp.tk a vs ∨ SqT G.K H2 a vs⟩
  have back : ∀ {sw : Shared} {Hw : Hp} {pv : List Addr} {ip : List (Addr × Obj)} {ρ : DEnv} {M : MS} {s : Shared}, GRun G A sw Hw pv ip gq ρ M s → GRun G A sw Hw pv ip gp ρ M s := fun R => R.weak (fun _ z => z) fun _ _ z => .inl z
  have gover : ∀ {k1 : Result → Sem PySem.Fin} {l1 kp1 : List Value} {p1 : Pos}, A.over (.forLoop tg (.ref it) body [] G.env) (.ret k1 none (gd false) l1 c p1 kp1 :: fs) = A.deeper G.env := (GenW.over_loop rfl rfl).trans g.over
  -- one turn, and those behind it
  have loop : ∀ (ds : List D) (i : Nat) (xs : List D) (sw : Shared) (Hw : Hp) (pv : List Addr) (ρ : DEnv) (M : MS) (s : Shared) (hp : Heap), items.drop i = ds → i ≤ items.length → GRun G A sw Hw pv (ip ++ pinsAt fp hp) gq ρ M s → tn i hp →
      gforW p tb Δ ds xs ρ M →
      SegX (model G.P G.w) A (.forLoop tg (.ref it) body [] G.env) ((model G.P G.w).den (.forLoop tg (.ref it) body [] G.env)) (.ret kf none (gd false) l0 c p0 kp0 :: fs) s (GPE G A xs sw Hw pv) := by
    intro ds
    induction ds with
    | nil =>
      intro i xs sw Hw pv ρ M s hp hd hil R htn hw
      have hi' : i = items.length := by
        have := congrArg List.length hd
        simp at this; omega
      subst hi'
      have hs := tr_size R.here.sz
      obtain ⟨σ3, F3, H3, I3, ab3, l3, tk3⟩ := R.dead
      have pin : ∀ b ∈ fp, ∃ o, hp.get? b = some o ∧ s.heap.get? b = some o ∧ H3 b = none := fun b hb => by
        obtain ⟨o, ho, _⟩ := T.obj _ _ htn b hb
        obtain ⟨q1, q2, _⟩ := I3.pin (b, o) (List.mem_append_right _ (List.mem_append_right _ (mem_pinsAt hb ho)))
        exact ⟨o, ho, q1, q2⟩
      have tns : tn items.length s.heap := T.keep _ _ _ htn fun b hb o ho => by
        obtain ⟨o', h1, h2, _⟩ := pin b hb
        rw [h1] at ho; cases ho; exact h2
      have J := sp F3 H3 M ab3.am fun a vs q => tk3 a vs (.inr q)
      have hdone := T.done (G.cx A (tr G.n0 sw) (fz G.n0 pv sw Hw)) rfl rfl rfl rfl items.length ip _ σ3 H3 (fun _ _ => False) I3.unpinned (fun b hb => (fpg b hb).ok hs R.here.cells (pin b hb).choose_spec.2.2) tns J.2.1
      refine sx_turn ?_
      rw [gover]
      refine wpAny_mono (wpAny_deadT (dead_all s.gens) hdone) (fun r s1 z => ?_) fun x s' z => by obtain ⟨_, _, q⟩ := z; exact q.elim
      obtain ⟨G4, d4, hr, I4⟩ := z
      subst hr
      rw [hkf]
      refine kk xs sw Hw pv .next s1 ⟨ρ, M, back ?_, hw⟩
      exact R.on (Q := fun s2 => Inv (G.cx A (tr G.n0 sw) (fz G.n0 pv sw Hw)) ip σ3 H3 s2) ⟨G4, d4, I4⟩ (fun _ q => q) ab3 l3 tk3 fun p hp => R.ipok p (List.mem_append_left _ hp)
    | cons d ds ih =>
      intro i xs sw Hw pv ρ M s hp hd hil R htn hw
      obtain ⟨g1, g2, g3⟩ := drop_get hd
      have hs := tr_size R.here.sz
      obtain ⟨σ3, F3, H3, I3, ab3, l3, tk3⟩ := R.dead
      have pin : ∀ b ∈ fp, ∃ o, hp.get? b = some o ∧ s.heap.get? b = some o ∧ H3 b = none := fun b hb => by
        obtain ⟨o, ho, _⟩ := T.obj _ _ htn b hb
        obtain ⟨q1, q2, _⟩ := I3.pin (b, o) (List.mem_append_right _ (List.mem_append_right _ (mem_pinsAt hb ho)))
        exact ⟨o, ho, q1, q2⟩
      have tns : tn i s.heap := T.keep _ _ _ htn fun b hb o ho => by
        obtain ⟨o', h1, h2, _⟩ := pin b hb
        rw [h1] at ho; cases ho; exact h2
      have J := sp F3 H3 M ab3.am fun a vs q => tk3 a vs (.inr q)
      have hitem := T.item (G.cx A (tr G.n0 sw) (fz G.n0 pv sw Hw)) rfl rfl rfl rfl i ip _ σ3 H3 (fun _ _ => False) I3.unpinned (fun b hb => (fpg b hb).ok hs R.here.cells (pin b hb).choose_spec.2.2) tns (J.1 i g3)
      have hw' : ∃ ρ1, p.put d ρ = some ρ1 ∧ tb { nx := fun xs' ρ' M' => gforW p tb Δ ds xs' ρ' M', rt := Δ.rt, bk := Δ.nx, ct := fun xs' ρ' M' => gforW p tb Δ ds xs' ρ' M' } xs ρ1 M := by
        unfold gforW at hw
        split at hw
        · rename_i ρ1 e; exact ⟨ρ1, e, hw⟩
        · exact hw.elim
      obtain ⟨ρ1, hput, hw'⟩ := hw'
      refine sx_turn ?_
      rw [gover]
      refine wpAny_mono (wpAny_deadT (dead_all s.gens) hitem) (fun r s1 z => ?_) fun x s' z => by obtain ⟨_, _, q⟩ := z; exact q.elim
      obtain ⟨G4, d4, u, hr, z⟩ := z
      subst hr
      refine wpAny_mono (wpAny_deadT d4 z) (fun _ s2 z => ?_) fun x s' z => by obtain ⟨_, _, q⟩ := z; exact q.elim
      obtain ⟨G5, d5, x, H5, I5, rx, y5, tn5, fr5⟩ := z
      obtain ⟨F5, d', l5, a5, e5, r5⟩ := J.2.2 i x H5 g3 y5
      rw [g1] at e5; cases e5
      have fo5 : ∀ b ∈ fp, FpOk (G.cx A (tr G.n0 sw) (fz G.n0 pv sw Hw)) ip H5 b := fun b hb => (fpg b hb).ok hs R.here.cells (fr5 b hb)
      have I5p := I5.pinned fo5 (T.obj _ _ tn5)
      obtain ⟨σ2, en2, _, q2⟩ := p.runs hput r5 (ab3.env.mono l5.le)
      have hasg := (hg A (tr G.n0 sw) (fz G.n0 pv sw Hw) a hs).run _ _ σ3 H5 x u (fun σ' H' => σ' = σ2 ∧ H' = H5) I5p rx (q2 _ ⟨rfl, rfl⟩)
      refine wpAny_mono (wpAny_deadT d5 hasg) (fun _ s3 z => ?_) fun x s' z => by obtain ⟨_, _, q⟩ := z; exact q.elim
      obtain ⟨G6, d6, σ6, H6, I6, rfl, rfl⟩ := z
      intro K1 J1 gd1 lv1 hgd1 c1 c2 c3 c4
      have R6 : GRun G A sw Hw pv (ip ++ pinsAt fp s2.heap) gq ρ1 M s3 := R.on (Q := fun s2' => Inv (G.cx A (tr G.n0 sw) (fz G.n0 pv sw Hw)) (ip ++ pinsAt fp s2.heap) σ6 H6 s2') ⟨G6, d6, I6⟩ (fun _ q => q) ⟨a5, en2, trivial⟩ (l3.trans l5) (fun a vs q => l5.le.tup a vs (tk3 a vs q)) fun p hp' => by
        rcases List.mem_append.mp hp' with z | z
        · exact R.ipok p (List.mem_append_left _ z)
        · exact (fpg p.1 (of_pinsAt z).1).ge
      refine hb.run A _ _ K1 J1 gd1 lv1 xs sw Hw pv (ip ++ pinsAt fp s2.heap) gq ρ1 M s3 _ a ⟨gover, ?_, ?_, hgd1⟩ R6 hw' fun xs' sw' Hw' pv' f s' post => ?_
      · show (splitAtGen fs).map _ = none
        rw [g.split]; rfl
      · show (gd false || fs.any Frame.guarded) = false
        rw [g.gd, g.guard]; rfl
      · cases f with
        | next =>
          obtain ⟨ρ', M', R', q⟩ := post
          exact c1 s' _ (ih (i + 1) xs' sw' Hw' pv' ρ' M' s' s2.heap g2 (by omega) R' tn5 q)
        | cont =>
          obtain ⟨ρ', M', R', q⟩ := post
          exact c2 s' _ (ih (i + 1) xs' sw' Hw' pv' ρ' M' s' s2.heap g2 (by omega) R' tn5 q)
        | brk =>
          obtain ⟨ρ', M', R', q⟩ := post
          refine c3 s' _ ?_
          rw [hkf]
          exact kk xs' sw' Hw' pv' .next s' ⟨ρ', M', back R'.unpin, q⟩
        | ret u =>
          obtain ⟨e, ρ', M', R', q⟩ := post
          refine c4 u s' _ ?_
          rw [hkf]
          exact kk xs' sw' Hw' pv' (.ret u) s' ⟨e, ρ', M', back R'.unpin, q⟩
  refine loop items 0 xs sw Hw pv ρ M2 s2 s2.heap rfl (Nat.zero_le _) ?_ st2 hw2
  refine R.onK (gq := gq) (Q := fun s3 => Inv (G.cx A (tr G.n0 sw) (fz G.n0 pv sw Hw)) (ip ++ pinsAt fp s2.heap) σ H2 s3) rfl ⟨G3, d3, I2.pinned f2 (T.obj _ _ st2)⟩ (fun _ q => q) (ab.go l2 a2) (l.trans l2) (fun a vs q => ?_) fun p hp => ?_
  · rcases q with q | q
    · exact l2.le.tup a vs (tk a vs q)
    · exact q
  · rcases List.mem_append.mp hp with z | z
    · exact R.ipok p z
    · exact (fpg p.1 (of_pinsAt z).1).ge
end
end DL
namespace DL
open PySem PySem.Spec PyProof.Rows L2 PySem.W.X
abbrev GSp := List D → List D → Prop
/-- a generator that has not begun; s, H: the call; xs: what it will hand out -/
structure GMd (P : Program) (w : World) (K : PySem.W.Frag) (mg : Str → Option Value) (base : Heap) (k : Nat) (outer : List Env) (s : Shared) (H : Hp) (xs : List D) (u : Value) (s' : Shared) (G : GD) (a : Addr) (c : Code) : Prop where
  eq : ∃ N qual scope f cdv g, G = ⟨P, w, K, mg, base, N, qual, scope, s.heap.objs.size, f, cdv, outer, g⟩
  val : u = .ref a
  gen : s'.heap.IsGen a G.g
  at_ : s'.gens[G.g]? = some (.fresh c)
  os : s'.os = s.os
  bare : AllBare s'.gens
  keep : ∀ b o, s.heap.get? b = some o → s'.heap.get? b = some o
  lt : s.heap.objs.size < a
  gens : ∀ (i : Nat) (x : GenState), s.gens[i]? = some x → s'.gens[i]? = some x
  loc : ∃ o, s'.heap.get? s.heap.objs.size = some o ∧ ∀ v, o.data ≠ .cell v
  wake : ∀ A', Room k A' → A'.frames = some outer → A'.guards = some [] → ∀ s2 H2, Wk G [s.heap.objs.size] s' H s2 H2 → (∀ b, H b ≠ none → H2 b = H b) → SegX (model P w) A' c (denote table c) [] (s2.setGen G.g .running) (GPE G A' xs s2 H2 [s.heap.objs.size])
structure GFn (P : Program) (w : World) (K : PySem.W.Frag) (mg : Str → Option Value) (base : Heap) (k : Nat) (f : Addr) (fd : FuncData) (ps : List Str) (n : Nat) (sp : GSp) : Prop where
  len : ps.length = n
  run : ∀ (A : Around) (outer : List Env) (s : Shared) (H : Hp) (args : Args) (us : List Value) (vs : List V) (F : Addr → Prop) (M : MS) (ds xs : List D), Room k A → Env0 P w K mg base A outer s H → BindsTo s fd args (ps.zip us) → Vals vs us → AbsM K F H M → Reps K F H ds vs → ds.length = n → pures ds = true → sp ds xs →
    codeAny (model P w) A (.call (.ref f) args) (fun r s' => ∃ u G a c, r = .ok (.ret u) ∧ GMd P w K mg base k outer s H xs u s' G a c) s
structure GCallee (P : Program) (w : World) (K : PySem.W.Frag) (mg : Str → Option Value) (base : Heap) (k : Nat) (x : Str) (n : Nat) (sp : GSp) : Prop where
  ex : ∃ (f : Addr) (fd : FuncData) (ps : List Str), mg x = some (.ref f) ∧ PySem.W.keepIn K (.ref f) = true ∧ Binds K fd ps [] ∧ GFn P w K mg base k f fd ps n sp
section
variable {P : Program} {w : World} {K : PySem.W.Frag} {mg : Str → Option Value} {base : Heap} {x qual : Str} {params : Arguments} {body : List Stmt} {scope : Scope} {f : Addr} {fd : FuncData} {N ps : List Str} {k n : Nat} {sp : GSp} {t : DG}
theorem gfnD (F : FunD K x qual params body scope [] [] f fd) (S : GScope N ps scope) (hn : ps.length = n) (hcl : ∀ m, cellsFrom m scope.names [] = [])
    (hbody : ∀ (n0 : Addr) (cdv : Value) (outer : List Env) (g : Nat), GSxs ⟨P, w, K, mg, base, N, qual, scope, n0, f, cdv, outer, g⟩ k body t)
    (hsp : ∀ ds xs, ds.length = n → pures ds = true → sp ds xs → t { nx := fun ys _ _ => ys = [], rt := fun ys => ys = [] } xs (startD N.length ds) emM) : GFn P w K mg base (k + 1) f fd ps n sp := by
  obtain ⟨oc, od, dV, kV, doc, pm, an, cdv, ct, osl, rfl, lk, hcd, _, _⟩ := F.ex
  refine ⟨hn, fun A outer s H args us vs F0 M0 ds xs hr e0 hbt rv am rds hdl hpu hs => ?_⟩
  have inK : K.In s.heap := e0.mod.kin.keeps fun b o e => (e0.bs b o e).1
  have noL : s.heap.NoLimit := e0.mod.nolimit.keeps fun b o e => (e0.bs b o e).1
  have hvl : vs.length = ps.length := by rw [← rds.length, hdl, hn]
  have kinds : ∀ y ∈ ps.zip us, scope.names.lookup y.1 = some .local ∨ (scope.names.lookup y.1 = some .cell ∧ ((cellsFrom (s.heap.objs.size + 1) scope.names []).lookup y.1).isSome = true) := by
    rintro ⟨m, v⟩ hy
    rcases S.par m (List.of_mem_zip hy).1 with h | h
    · exact .inl h
    · exact .inr ⟨h, PySem.W.cellsFrom_some _ _ _ (.inl h)⟩
  refine codeAny_call_generator (R := fun r s' => ∃ u G a c, r = .ok (.ret u) ∧ GMd P w K mg base (k + 1) outer s H xs u s' G a c) hr.depth (inK _ _ lk) rfl S.co S.gen rfl (PySem.W.codeRec_of inK hcd) (hbt _ _ _ _ ?_)
  refine wpAny_newFunctionEnv_cells S.kind kinds fun env henv s1 inC => ?_
  subst henv
  obtain ⟨h1, tk, es1, hk1⟩ := inC.done
  have kp1 : ∀ b o, s.heap.get? b = some o → s1.heap.get? b = some o := inC.toInCall.keep
  have os1 : s1.os = s.os := by rw [es1]
  have gs1 : s1.gens = s.gens := by rw [es1]
  have lt1 : s.heap.objs.size < s1.heap.objs.size := inC.toInCall.ns.lt
  have nl1 : s1.heap.NoLimit := noL.keeps kp1
  refine ⟨nl1, ?_⟩
  let go : Obj := { cls := .type "generator", data := .fields #[.int s1.gens.size 0, .str x s1.toks, .str qual (s1.toks + 1)] }
  have pushed : (s1.heap.push go).get? s1.heap.objs.size = some go := Heap.get?_push_size _ rfl
  have kp2 : ∀ b o, s1.heap.get? b = some o → (s1.heap.push go).get? b = some o := fun b o e => Heap.get?_push_of_some _ e
  have I1 := (inv_startG (E := fun _ _ _ => False) (N := N) (cd := cdv) (f := f) (qual := qual) S hr.hd e0 hvl rv inC).wish (fun _ _ => False)
  let G : GD := ⟨P, w, K, mg, base, N, qual, scope, s.heap.objs.size, f, cdv, outer, s1.gens.size⟩
  have I1' : Inv (G.cx A s H) [] (start N vs) H s1 := I1
  obtain ⟨m1, ⟨oL, esL, epL, hoL, hdL, _⟩, _⟩ := id I1'.loc
  have hfs : ∀ b ∈ frs outer, b < s.heap.objs.size := fun b hb => by
    obtain ⟨_, o, ho, _⟩ := e0.funs.mem hb
    exact Heap.lt_size ho
  refine ⟨.ref s1.heap.objs.size, G, s1.heap.objs.size, .func body G.env, rfl, ⟨_, _, _, _, _, _, rfl⟩, rfl, ⟨go, _, _, pushed, rfl, rfl, rfl⟩, Array.getElem?_push_size .., os1, AllBare.push (by rw [gs1]; exact e0.bare) rfl, fun b o e => kp2 b o (kp1 b o e), lt1, fun i y e => ?_,
    ⟨oL, kp2 _ _ hoL, fun v z => by rw [hdL] at z; cases z⟩, fun A' hr' hfr' hgd' s2 H2 wk _ => ?_⟩
  · rw [← gs1] at e
    have hi : i < s1.gens.size := (Array.getElem?_eq_some_iff.mp e).1
    show (s1.gens.push _)[i]? = some y
    rw [Array.getElem?_push_lt hi, ← Array.getElem?_eq_getElem hi]
    exact e
  · have wk1 : Wk G [G.n0] s1 H s2 H2 := ⟨wk.os, wk.bare, wk.base, wk.funs, wk.frf, wk.hok, fun b hb => ⟨(wk.pv b hb).1, fun o e => (wk.pv b hb).2 o (kp2 b o e)⟩, wk.tups, fun i y hi e hy => wk.gens i y hi (by
      have hlt : i < s1.gens.size := (Array.getElem?_eq_some_iff.mp e).1
      show (s1.gens.push _)[i]? = some y
      rw [Array.getElem?_push_lt hlt, ← Array.getElem?_eq_getElem hlt]
      exact e) hy⟩
    have hcells : G.env.cells = [] := hcl _
    have I2 := rebase (A' := A') I1' rfl wk1 List.mem_cons_self (fun p hp => by cases hp) hcells hfs hr'.hd hfr'
    have hsq : ∀ a vs, SqT K H a vs → SqT K (fz G.n0 [G.n0] s2 H2) a vs := fun a vs q => fz_sq (wk.tups a vs q)
    have hsz : G.n0 ≤ s2.heap.objs.size := by
      obtain ⟨m, hm, _⟩ := I2.loc
      exact Nat.le_of_lt hm.lt
    refine sx_func fun K1 J1 gd1 lv1 hg1 hk1 hk2 => ?_
    refine (hbody s.heap.objs.size cdv outer s1.gens.size).run A' _ [] K1 J1 gd1 lv1 xs s2 H2 [G.n0] [] ⟨[], fun _ _ => False⟩ (startD N.length ds) emM _ { nx := fun ys _ _ => ys = [], rt := fun ys => ys = [] } ⟨hr'.deeper _, hgd', hfr'⟩ ⟨GenW.over_func, rfl, rfl, hg1⟩
      ⟨⟨start N vs, fun _ => False, _, I2, ⟨⟨fun _ z => z.elim, fun a o z => by cases z⟩, repEnv_start (rds.pure hsq hpu), trivial⟩, LmG.refl, fun _ _ z => z.elim⟩, ⟨List.mem_cons_self, fun b hb => ⟨hfs b hb, wk.frf b hb⟩, hcells, wk.hok, hsz⟩, fun p hp => (by cases hp), fun q hq => (by cases hq)⟩ (hsp ds xs hdl hpu hs) fun ys sw' Hw' pv' fl s' post => ?_
    have fin : ∀ {ρ : DEnv} {M : MS}, GRun G A' sw' Hw' pv' [] ⟨[], fun _ _ => False⟩ ρ M s' → ∃ H', Stp G pv' sw' Hw' [] s' H' := fun {ρ M} R => by
      obtain ⟨σ, F, H3, I, ab, l, _⟩ := R.run
      have st := stp_of I l R.here R.ipok
      exact ⟨_, st.os, st.bare, st.un, st.hok, st.fix, fun b hb => by cases hb⟩
    cases fl with
    | next =>
      obtain ⟨ρ', M', R, rfl⟩ := post
      rw [hk1]
      exact sx_end ⟨.inl rfl, fin R⟩
    | brk => obtain ⟨_, _, _, q⟩ := post; exact q.elim
    | cont => obtain ⟨_, _, _, q⟩ := post; exact q.elim
    | ret u =>
      obtain ⟨rfl, ρ', M', R, rfl⟩ := post
      rw [hk2]
      exact sx_end ⟨.inl rfl, fin R⟩
theorem gcal (F : FunD K x qual params body scope [] [] f fd) (hm : mg x = some (.ref f)) (hb : Binds K fd ps []) (h : GFn P w K mg base k f fd ps n sp) : GCallee P w K mg base k x n sp := ⟨f, fd, ps, hm, F.kp, hb, h⟩
end
end DL
namespace DL
open PySem PySem.Spec PyProof.Rows L2 PySem.W.X GenW
structure Gone (s s' : Shared) : Prop where
  sz : s.heap.objs.size ≤ s'.heap.objs.size
  no : ∀ b, b < s.heap.objs.size → s.heap.get? b = none → s'.heap.get? b = none
theorem Gone.refl {s : Shared} : Gone s s := ⟨Nat.le_refl _, fun _ _ h => h⟩
theorem Gone.trans {a b c : Shared} (h : Gone a b) (h' : Gone b c) : Gone a c := ⟨Nat.le_trans h.sz h'.sz, fun x hx hn => h'.no x (Nat.lt_of_lt_of_le hx h.sz) (h.no x hx hn)⟩
theorem gone_push {s : Shared} {o : Obj} : Gone s { s with heap := s.heap.push o } := by
  refine ⟨by show _ ≤ (s.heap.push o).objs.size; rw [Heap.size_push]; exact Nat.le_succ _, fun b hb hn => ?_⟩
  show (match (s.heap.objs.push o)[b]? with | some ⟨_, _, .freed, _⟩ => none | o => o) = none
  rw [Array.getElem?_push_lt hb, ← Array.getElem?_eq_getElem hb]
  exact hn
theorem gone_upd {s : Shared} {a : Addr} {f : Obj → Obj} (h : (s.heap.get? a).isSome = true) : Gone s { s with heap := s.heap.update a f } := by
  refine ⟨Nat.le_of_eq (by show _ = (s.heap.objs.modify a f).size; rw [Array.size_modify]), fun b hb hn => ?_⟩
  have ne : a ≠ b := fun e => by subst e; rw [hn] at h; cases h
  exact (Heap.get?_update_other _ _ ne).trans hn
section
variable {M : Model}
theorem runs_gone {Γ : PySem.Ctx} {p : Pos} {t : Sem PySem.Fin} {fs : List Frame} {s s' : Shared} {e : End} (h : Runs M Γ p t fs s e s') : Gone s s' := by
  have sg : ∀ {s s' : Shared} {g : Nat} {x : GenState}, Gone (s.setGen g x) s' → Gone s s' := fun h => ⟨h.sz, h.no⟩
  induction h with
  | done => exact .refl
  | raise => exact .refl
  | yield => exact .refl
  | update ho _ ih => exact (gone_upd ho).trans ih
  | alloc _ ih => exact gone_push.trans ih
  | call _ _ i1 i2 => exact i1.trans i2
  | resumeFresh _ _ _ _ i1 i2 => exact (sg i1).trans (sg i2)
  | resumeSuspended _ _ _ _ i1 i2 => exact (sg i1).trans (sg i2)
  | resumeThrowFresh _ _ ih => exact sg ih
  | segRet _ _ i1 i2 => exact i1.trans i2
  | segGen _ _ i1 i2 => exact i1.trans (sg i2)
  | segSuspOut _ _ ih => exact ih
  | segSuspGen _ _ _ _ i1 i2 => exact i1.trans (sg i2)
  | callSusp _ ih => exact ih
  | fresh _ ih => exact ⟨ih.sz, ih.no⟩
  | choose _ _ ih => exact ⟨ih.sz, ih.no⟩
  | os _ ih => exact ⟨ih.sz, ih.no⟩
  | newGen _ ih => exact ⟨ih.sz, ih.no⟩
  | _ => assumption
end
theorem segx_gone {M : Model} {A : Around} {c : Code} {t : Sem PySem.Fin} {fs : List Frame} {s : Shared} {Z : End → Shared → Prop} (x : SegX M A c t fs s Z) : SegX M A c t fs s fun e s' => e.quiet = true ∧ Gone s s' ∧ Z e s' := fun Γ p hc hΓ => by
  obtain ⟨e, s', hr, hq, hp⟩ := x Γ p hc hΓ
  exact ⟨e, s', hr, hq, hq, runs_gone hr, hp⟩
structure Slp (A : Around) (G : GD) (pv : List Addr) (xs : List D) (s : Shared) (H : Hp) (fr : Bool) : Prop where
  st : ∃ gs c t fs, s.gens[G.g]? = some gs ∧ (fr = false → sleeps gs = true) ∧ Opens gs c t fs ∧ ∀ s2 H2, Wk G pv s H s2 H2 → (fr = true → ∀ b, H b ≠ none → H2 b = H b) → SegX (model G.P G.w) A c t fs (s2.setGen G.g .running) (GPE G A xs s2 H2 pv)
  pv : ∀ b ∈ pv, ∃ o, s.heap.get? b = some o ∧ ∀ v, o.data ≠ .cell v
/-- the frame of ours and theirs -/
structure Fit (X : Cx) (G : GD) : Prop where
  P : G.P = X.prog
  w : G.w = X.w
  K : G.K = X.K
  base : G.base = X.base
  outer : G.outer = X.stack
section
variable {X : Cx} {pins : List (Addr × Obj)} {σ : L2.St} {H : Hp} {s : Shared} {G : GD} {pv : List Addr} {xs : List D} {F : Addr → Prop} {M : MS} {ρ : DEnv}
variable {O : Og X.K}
theorem wk_of {s1 : Shared} {H1 : Hp} (f : Fit X G) (os : s.os = s1.os) (I : Inv X pins σ H s) (hp : ∀ b ∈ pv, H b = none ∧ ∀ o, s1.heap.get? b = some o → s.heap.get? b = some o) (ht : ∀ a vs, SqT X.K H1 a vs → SqT X.K H a vs) (hg : ∀ (i : Nat) (x : GenState), i ≠ G.g → s1.gens[i]? = some x → sleeps x = true → s.gens[i]? = some x) : Wk G pv s1 H1 s H :=
  ⟨os, I.bare, fun b o e => I.bs b o (f.base ▸ e), by rw [f.base, f.outer]; exact I.stack, fun b hb => I.stkFree b (f.outer ▸ hb), by rw [f.P, f.w]; exact I.hok, hp, fun a vs q => by rw [f.K] at q ⊢; exact ht a vs q, hg⟩
/-- behind a body that kept it -/
theorem Slp.on {A : Around} {fr : Bool} {s5 : Shared} {H5 : Hp} (f : Fit X G) (h : Slp A G pv xs s5 H5 fr) (hfr : fr = false) (os : s.os = s5.os) (I : Inv X pins σ H s) (hp : ∀ b ∈ pv, H b = none ∧ ∀ o, s5.heap.get? b = some o → s.heap.get? b = some o) (ht : ∀ a vs, SqT X.K H5 a vs → SqT X.K H a vs) (hk : Keeps s5 s) : Slp A G pv xs s H false := by
  obtain ⟨⟨gs, c, t, fs, h1, h2, h3, h4⟩, h5⟩ := h
  refine ⟨⟨gs, c, t, fs, hk _ _ h1 (h2 hfr), fun _ => h2 hfr, h3, fun s2 H2 w2 _ => h4 s2 H2 ((wk_of f os I hp ht fun i x _ e hx => hk i x e hx).trans w2) fun z => by rw [hfr] at z; cases z⟩, fun b hb => ?_⟩
  obtain ⟨o, e, d⟩ := h5 b hb
  exact ⟨o, (hp b hb).2 o e, d⟩
theorem lm_fix {H' : Hp} (am : AbsM X.K F H M) (fix : ∀ b, H b ≠ none → H' b = H b) : Lm X.K F H M F H' M ∧ AbsM X.K F H' M := by
  have nn : ∀ {b : Addr} {u : HO}, H b = some u → H' b = some u := fun {b u} e => by rw [fix b (by rw [e]; simp)]; exact e
  have le : Le X.K F H F H' := by
    refine ⟨fun a vs h => ?_, fun _ h => h, fun a h => fix a (am.fh a h), fun a vs h => ?_⟩
    · rcases h with (h | ⟨o, h⟩) | h
      · exact .inl (.inl (nn h))
      · exact .inl (.inr ⟨o, nn h⟩)
      · exact .inr h
    · rcases h with ⟨o, h⟩ | h
      · exact .inl ⟨o, nn h⟩
      · exact .inr h
  refine ⟨⟨le, fun a h1 h2 h3 => ⟨h2, h3, fix a h1⟩⟩, ⟨fun a h => by rw [fix a (am.fh a h)]; exact am.fh a h, fun a o e => ?_⟩⟩
  obtain ⟨n1, o1⟩ := am.mp a o e
  exact ⟨n1, o1.keep le (fix a o1.there) (fun c hc => ⟨fix c (am.mp c _ hc).2.there, hc⟩) (Nat.le_refl _)⟩
/-- the generator's object is pinned -/
theorem isGen_pin {a : Addr} {oa : Obj} (I : Inv X pins σ H s) (hp : (a, oa) ∈ pins) (ho : ∃ nm qn, oa.cls = .type "generator" ∧ oa.data = .fields #[.int G.g 0, nm, qn] ∧ oa.slots = #[]) : s.heap.IsGen a G.g := by
  obtain ⟨nm, qn, h1, h2, h3⟩ := ho
  exact ⟨oa, nm, qn, (I.pin (a, oa) (List.mem_append_right _ hp)).1, h1, h2, h3⟩
theorem turnG {a : Addr} {fr : Bool} {E : Value → Shared → Prop} (f : Fit X G) (hn : X.s_0.heap.objs.size ≤ s.heap.objs.size) (hh : X.A.handled = none) (hd : X.A.depth < recursionLimit) (I : Inv X pins σ H s) (am : AbsM X.K F H M) (hg : s.heap.IsGen a G.g) (hf : ∀ b ∈ pv, FpOk X pins H b) (h : Slp X.A.in1 G pv xs s H fr) :
    wpAny (model X.prog X.w) X.A (pyNext (.ref a)) (fun r s1 => match xs with
      | [] => r = none ∧ ∃ H1, Inv X pins σ H1 s1 ∧ Lm X.K F H M F H1 M ∧ AbsM X.K F H1 M
      | d :: rest => ∃ u v H1 pv', r = some u ∧ Inv X pins σ H1 s1 ∧ Lm X.K F H M F H1 M ∧ AbsM X.K F H1 M ∧ RelV v u ∧ Rep X.K F H1 d v ∧ Slp X.A.in1 G pv' rest s1 H1 false ∧ ∀ b ∈ pv', FpOk X pins H1 b) E s := by
  obtain ⟨⟨gs, c, t, fs, h1, _, h3, h4⟩, h5⟩ := h
  have hgl : G.g < s.gens.size := (Array.getElem?_eq_some_iff.mp h1).1
  have x := segx_gone (h4 s H (wk_of f rfl I (fun b hb => ⟨(hf b hb).1, fun o e => e⟩) (fun _ _ q => q) fun _ _ _ e _ => e) fun _ _ _ => rfl)
  rw [f.P, f.w] at x
  have after : ∀ {s1 : Shared} {H1 : Hp} {pv' : List Addr} {G1 : Array GenState} {h' : Heap}, Stp G pv s H pv' s1 H1 → AllBare G1 → (∀ b o, s1.heap.get? b = some o → h'.get? b = some o) → Inv X pins σ H1 { s1 with gens := G1, heap := h' } ∧ Lm X.K F H M F H1 M ∧ AbsM X.K F H1 M := fun {s1 H1 pv' G1 h'} st hb hk => by
    refine ⟨I.call' (s' := { s1 with gens := G1, heap := h' }) (ch := pv) st.os ?_ ?_ hb fun b hb => ?_, lm_fix am st.fix⟩
    · have := st.un.trans (Un.kept hk)
      rw [f.outer] at this
      exact this
    · have := st.hok.kept hk
      rw [f.P, f.w] at this
      exact this
    · obtain ⟨_, q2, _, q4, q5, q6⟩ := hf b hb
      exact ⟨q4, q2, q5, q6⟩
  refine wpAny_gsz (n := G.g + 1) hgl (next_x hh I.nolimit hd hg h1 h3 (x.mono fun e s1 z => ?_))
  obtain ⟨hqt, gn, z⟩ := z
  cases xs with
  | nil =>
    obtain ⟨he, H1, st⟩ := z
    have fin : ∀ h', (∀ b o, s1.heap.get? b = some o → h'.get? b = some o) → (none : Option Value) = none ∧ ∃ H1, Inv X pins σ H1 { s1.setGen G.g .finished with heap := h' } ∧ Lm X.K F H M F H1 M ∧ AbsM X.K F H1 M := fun h' hk => by
      obtain ⟨q1, q2, q3⟩ := after st (allBare_setGen (s := s1) (g := G.g) (x := .finished) st.bare rfl) hk
      exact ⟨rfl, H1, q1, q2, q3⟩
    rcases he with rfl | rfl
    · exact ⟨.inl rfl, fun h' hk _ => fin h' hk⟩
    · exact ⟨.inr rfl, fun h' hk _ => fin h' hk⟩
  | cons d rest =>
    obtain ⟨v, vv, g0, l, k, c', p, fs', pv', H1, rfl, st, rv, rp, nxt⟩ := z
    intro hsz
    have hbare : (End.susp v g0 l k c' p fs').genState.bare = true := End.bare_of_quiet hqt
    have hsz1 : G.g < s1.gens.size := by
      have q : (s1.setGen G.g (End.susp v g0 l k c' p fs').genState).gens.size = s1.gens.size := setGen_size _ _ _
      have hsz' : G.g + 1 ≤ (s1.setGen G.g (End.susp v g0 l k c' p fs').genState).gens.size := hsz
      omega
    obtain ⟨q1, q2, q3⟩ := after (G1 := (s1.setGen G.g (End.susp v g0 l k c' p fs').genState).gens) (h' := s1.heap) st (allBare_setGen (s := s1) st.bare hbare) fun _ _ e => e
    refine ⟨v, vv, H1, pv', rfl, q1, q2, q3, rv, ?_, ⟨⟨_, c', _, fs', setGen_at hsz1, fun _ => rfl, .inr ⟨k, l, p, _, rfl, rfl⟩, fun s2 H2 w2 _ => ?_⟩, fun b hb => (st.pv b hb).2.2.2⟩, fun b hb => ?_⟩
    · rw [f.K] at rp
      exact rp.mono ⟨fun _ _ z => z, fun _ z => z.elim, fun _ _ => rfl, fun _ _ z => z⟩
    · have := nxt s2 H2 ⟨w2.os, w2.bare, w2.base, w2.funs, w2.frf, w2.hok, w2.pv, w2.tups, fun i y hi e hy => w2.gens i y hi (by
        show (s1.gens.setIfInBounds G.g _)[i]? = some y
        rw [Array.getElem?_setIfInBounds_ne (Ne.symm hi)]
        exact e) hy⟩
      exact this
    · obtain ⟨_, p2, p3, o, p4, _⟩ := st.pv b hb
      rcases p2 with z | z
      · exact ⟨p3, (hf b z).2⟩
      · refine I.fpOk (Nat.le_of_not_lt fun hlt => ?_) p3
        have := gn.no b hlt z
        rw [this] at p4
        cases p4
end
def dCallG (n : Nat) (sp : GSp) (ta : DAs) : DIP := fun ρ M Ψ => ta ρ M fun ds M1 => ds.length = n ∧ pures ds = true ∧ ∃ xs, sp ds xs ∧ Ψ xs M1
structure PGn (X : Cx) (O : Og X.K) (k : Nat) (e : Expr) (t : DIP) : Prop where
  run : ∀ (pins : List (Addr × Obj)) (s : Shared) (σ : L2.St) (H : Hp) (F : Addr → Prop) (M : MS) (ρ : DEnv) (Ψ : List D → MS → Prop), Inv X pins σ H s → Abs X.K O F H M σ ρ → t ρ M Ψ → wpAny (model X.prog X.w) X.A (eval e X.env)
    (fun u s' => ∃ sc H1 F1 M1 xs G a c, Inv X pins σ H1 sc ∧ Lm X.K F H M F1 H1 M1 ∧ AbsM X.K F1 H1 M1 ∧ Ψ xs M1 ∧ GMd X.prog X.w X.K X.mg X.base k X.stack sc H1 xs u s' G a c) X.xe s
section
variable {X : Cx} {k j n : Nat} {x : Str} {p pos : Pos} {e : Expr} {es : List Expr} {ta : DAs} {sp : GSp}
variable {O : Og X.K}
theorem g_call (C : GCallee X.prog X.w X.K X.mg X.base j x n sp) (hr : Room j X.A) (hg : Gl X x) (ha : PA X (e :: es) (loA X.K O ta)) (hdb : (x == ("__debug__" : Str)) = false) (he : starEach (e :: es) X.env = (false, eval e X.env) :: starEach es X.env)
    (hpl : (backTo pos (starEach es X.env)).any (·.1) = false) : PGn X O j (.Call (.Name x p) (e :: es) [] pos) (dCallG n sp ta) := by
  obtain ⟨f, fd, ps, hm, hk, hb, C⟩ := C.ex
  refine ⟨fun pins s σ H F M ρ Ψ I ab h => ?_⟩
  refine wpAny_Call_Name_kw (ld_glob I hg hm ?_ hdb)
  refine PySem.W.callWith_K (h₀ := X.base) I.ok.mod.kin hk (thn (ha.run pos pins s σ H (fun vs H' => ∃ F' M' ds, Lm X.K F H M F' H' M' ∧ AbsM X.K F' H' M' ∧ Reps X.K F' H' ds vs ∧ ds.length = n ∧ pures ds = true ∧ ∃ xs, sp ds xs ∧ Ψ xs M') I
    ⟨F, M, ρ, _, ab, h, fun vs H' F' M' ds l' a' rs q => ⟨F', M', ds, l', a', rs, q⟩⟩) fun us s1 ⟨vs, H1, I1, rv, F1, M1, ds, l1, a1, rs, hdl, hpu, xs, hsp, hΨ⟩ => ⟨I1.kIn, ?_⟩) he hpl
  have hlen : us.length = ps.length := by rw [← rv.length, ← rs.length, hdl, C.len]
  have hbt := hb s1 us I1.kIn (by simpa using hlen)
  rw [List.append_nil] at hbt
  refine wpAny_call (codeAny_mono (C.run X.A X.stack s1 H1 ⟨us, []⟩ us vs F1 M1 ds xs hr I1.env0 hbt rv a1 rs hdl hpu hsp) fun res s' hq => ?_)
  obtain ⟨u, G, a, c, rfl, hq⟩ := hq
  exact ⟨s1, H1, F1, M1, xs, G, a, c, I1, l1, a1, hΨ, hq⟩
end
theorem GMd.fit {X : Cx} {k : Nat} {sc s' : Shared} {H : Hp} {xs : List D} {u : Value} {G : GD} {a : Addr} {c : Code} (h : GMd X.prog X.w X.K X.mg X.base k X.stack sc H xs u s' G a c) : Fit X G ∧ G.n0 = sc.heap.objs.size := by
  obtain ⟨_, _, _, _, _, _, rfl⟩ := h.eq
  exact ⟨⟨rfl, rfl, rfl, rfl, rfl⟩, rfl⟩
section
variable {X : Cx} {k : Nat} {pins : List (Addr × Obj)} {σ : L2.St} {sc s' : Shared} {H : Hp} {xs : List D} {u : Value} {G : GD} {a : Addr} {c : Code}
variable {O : Og X.K}
/-- ours and theirs, at the start -/
theorem GMd.begin (I : Inv X pins σ H sc) (h : GMd X.prog X.w X.K X.mg X.base k X.stack sc H xs u s' G a c) (hr : Room k X.A.in1) (hfr : X.A.in1.frames = some X.stack) (hgd : X.A.in1.guards = some []) :
    ∃ oa, (∃ nm qn, oa.cls = .type "generator" ∧ oa.data = .fields #[.int G.g 0, nm, qn] ∧ oa.slots = #[]) ∧ s'.heap.get? a = some oa ∧ Inv X (pins ++ [(a, oa)]) σ H s' ∧ (∀ b ∈ [G.n0], FpOk X (pins ++ [(a, oa)]) H b) ∧ Slp X.A.in1 G [G.n0] xs s' H true := by
  obtain ⟨f, hn0⟩ := h.fit
  obtain ⟨oa, nm, qn, ho, h1, h2, h3⟩ := id h.gen
  have I1 : Inv X pins σ H s' := I.call' (ch := []) h.os (Un.kept h.keep) (I.hok.kept h.keep) h.bare fun b z => by cases z
  have hna : H a = none := I.hok.fresh (Nat.le_of_lt h.lt)
  have hnn : H G.n0 = none := by rw [hn0]; exact I.hok.fresh (Nat.le_refl _)
  have fa : FpOk X pins H a := I.fpOk (Nat.le_of_lt h.lt) hna
  have fn : FpOk X pins H G.n0 := I.fpOk (by rw [hn0]; exact Nat.le_refl _) hnn
  have ne : a ≠ G.n0 := by rw [hn0]; exact Nat.ne_of_gt h.lt
  refine ⟨oa, ⟨nm, qn, h1, h2, h3⟩, ho, I1.pins_of fun p hp => ?_, fun b hb => ?_, ⟨⟨_, c, _, [], h.at_, (fun z => by cases z), .inl ⟨rfl, rfl, rfl⟩, fun s2 H2 w2 he => ?_⟩, fun b hb => ?_⟩⟩
  · rcases List.mem_append.mp hp with z | z
    · exact I1.pin p (List.mem_append_right _ z)
    · rw [List.mem_singleton.mp z]
      exact ⟨ho, hna, fa.2.1, fa.2.2.1, fun v q => by rw [h2] at q; cases q⟩
  · rw [List.mem_singleton.mp hb]
    obtain ⟨q1, q2, q3, q4, q5, q6⟩ := fn
    refine ⟨q1, q2, q3, q4, q5, fun p hp => ?_⟩
    rw [← List.append_assoc] at hp
    rcases List.mem_append.mp hp with z | z
    · exact q6 p z
    · rw [List.mem_singleton.mp z]; exact ne
  · have := h.wake X.A.in1 hr hfr hgd s2 H2 (by rw [← hn0]; exact w2) (he rfl)
    rw [f.P, f.w, hn0]
    exact this
  · rw [List.mem_singleton.mp hb, hn0]
    exact h.loc
end
end DL
namespace DL
open PySem PySem.Spec PyProof.Rows L2 PySem.W.X GenW
def sForG (t : DIP) (p : Pat) (body : DS) : DS := fun Δ ρ M => t ρ M fun xs M1 => forW (fun _ => True) p body Δ xs ρ M1
end DL
namespace DL
open PySem PySem.Spec PyProof.Rows L2 PySem.W.X GenW
def dLcG (t : DIP) (p : Pat) (vs : List Nat) (tt : DT) (te : DE) : DE := fun ρ M Φ => t ρ M fun xs M1 => lcW (fun _ => True) p tt te (wipeD ρ vs) xs [] M1 fun ds M2 => Φ (.lst ds) M2
section
variable {X : Cx} {k : Nat} {elt tg iter : Expr} {ifs : List Expr} {scope : Scope} {own : List (Str × Nat)} {pos spos : Pos} {t : DIP} {p : Pat} {tt : DT} {te : DE}
variable {O : Og X.K}
/-- the list under way, one item more -/
theorem acc_more {K : PySem.W.Frag} {F1 F' : Addr → Prop} {H1 H' : Hp} {M1 M' : MS} {L : Addr} {ws ws' : List V} (hL : H1 L = none) (l : Lm K F1 H1 M1 F' H' M') (am : AbsM K F' H' M') (e : H' L = some (.lst ws)) (nf : ¬ F' L) (nm : M'.map L = none) :
    Lm K F1 H1 M1 F' (upd H' L (.lst ws')) M' ∧ AbsM K F' (upd H' L (.lst ws')) M' ∧ Le K F' H' F' (upd H' L (.lst ws')) := by
  have l2 : Le K F' H' F' (upd H' L (.lst ws')) := Le.upd nf (fun _ => nord_lst e) (nofrz_lst e)
  refine ⟨⟨l.le.trans l2, fun b hb f m => ?_⟩, ⟨fun b f => ?_, fun b o hb => ?_⟩, l2⟩
  · obtain ⟨x1, x2, x3⟩ := l.hid b hb f m
    have ne : b ≠ L := fun z => hb (by rw [z]; exact hL)
    exact ⟨x1, x2, (upd_ne ne).trans x3⟩
  · have ne : b ≠ L := fun z => nf (by rw [← z]; exact f)
    rw [upd_ne ne]
    exact am.fh b f
  · obtain ⟨n1, o1⟩ := am.mp b o hb
    have ne : ∀ c o', M'.map c = some o' → c ≠ L := fun c o' hc z => by rw [z, nm] at hc; cases hc
    exact ⟨n1, o1.keep l2 (upd_ne (ne b o hb)) (fun c hc => ⟨upd_ne (ne c _ hc), hc⟩) (Nat.le_refl _)⟩
theorem lcG_core {pins : List (Addr × Obj)} {s : Shared} {σ : L2.St} {H : Hp} {F : Addr → Prop} {M : MS} {ρ : DEnv} {Ψ : List D → MS → Prop} {pos' : Pos} {use : Option (Value → Sem Unit)} {Qf : Value → Shared → Prop}
    (hc : X.calm = true) (hN : X.N.Nodup) (hr : Room (k + 1) X.A) (hgd : X.A.guards = some []) (I : Inv X pins σ H s) (A : Abs X.K O F H M σ ρ) (hi : PGn X O k iter t) (ok : BlkOk X.N X.env.scope scope own)
    (hg : ∀ (s : Shared) (H : Hp) (C : Addr) (cl : List (Str × Addr)) (fp : List Addr), PG (X.blk s H scope (compEnvC scope cl C X.env) fp) tg (p.tg X.K))
    (ht : ∀ (s : Shared) (H : Hp) (C : Addr) (cl : List (Str × Addr)) (fp : List Addr), PTs (X.blk s H scope (compEnvC scope cl C X.env) fp) ifs (loT X.K O tt))
    (he : ∀ (s : Shared) (H : Hp) (C : Addr) (cl : List (Str × Addr)) (fp : List Addr), PE (X.blk s H scope (compEnvC scope cl C X.env) fp) elt (lo X.K O te)) (hfs : ∀ x, foldedSetIterable iter X.env x = pure x)
    (hs : ∀ i ∈ p.slots, i ∈ own.map (·.2))
    (h : t ρ M fun xs M1 => lcW (fun _ => True) p tt te (wipeD ρ (own.map (·.2))) xs [] M1 Ψ)
    (fin : ∀ (L C : Addr) (s' : Shared) (m : Str → Option Value) (F1 F' : Addr → Prop) (H1 H' : Hp) (M1 M' : MS) (ds : List D) (ws : List V), Inv X pins σ H' s' → Lm X.K F H M F1 H1 M1 → H1 L = none → Lm X.K F1 H1 M1 F' H' M' → AbsM X.K F' H' M' → H' L = some (.lst ws) → ¬ F' L → M'.map L = none → Reps X.K F' H' ds ws → Ψ ds M' → s'.heap.Ns C m → FpOk X pins H' C →
      compPost (model X.prog X.w) X.A X.xe use Qf (.ref L) C (.ok .next) s') :
    wpAny (model X.prog X.w) X.A (comprehension (.ListComp elt [⟨tg, iter, ifs, 0⟩] scope pos) scope X.env pos' (newList []) false (eval iter X.env) use) Qf X.xe s := by
  have hfree : ∀ y ∈ scope.names, y.2 = .free → ∃ c, X.env.cells.lookup y.1 = some c := fun y hy e => (ok.free y hy e).elim (fun z => I.ok.has _ (.inl z)) fun z => I.ok.has _ (.inr z)
  refine wpAny_comprehension_free (use := use) rfl hfs (closure_ok hfree) ok.kind (fun y hy e => (ok.uniq y hy).trans (by rw [e]))
    (thn (hi.run pins s σ H F M ρ _ I A h) fun u s1 ⟨sc, H1, F1, M1, xs, G, a, c, I1, l1, a1, hw, gm⟩ => ?_)
  obtain ⟨fit, hn0⟩ := gm.fit
  have f0n : FpOk X pins H1 G.n0 := I1.fpOk (by rw [hn0]; exact Nat.le_refl _) (by rw [hn0]; exact I1.hok.fresh (Nat.le_refl _))
  have hna : H1 a = none := I1.hok.fresh (Nat.le_of_lt gm.lt)
  obtain ⟨oa, hoa, ha, I2p, fp2, sl⟩ := gm.begin I1 hr.in1 I1.ok.frames hgd
  have I2 : Inv X pins σ H1 s1 := I2p.unpinned
  have hu := gm.val
  subst hu
  refine wpAny_pyIter_gen gm.gen ?_
  refine wpAny_newObj_type (newEnv_comp ?_) (Nat.zero_le sizeLine)
  generalize hL : s1.heap.objs.size = L
  have hL1 : H1 L = none := I2.hok.fresh (Nat.le_of_eq hL)
  generalize hs3 : ({ s1 with heap := s1.heap.push { cls := .type "list", data := .seq ([] : List Value).toArray } } : Shared) = s3
  have kp3 : ∀ b o, s1.heap.get? b = some o → s3.heap.get? b = some o := fun b o q => by rw [← hs3]; exact Heap.get?_push_of_some _ q
  have sz3 : s3.heap.objs.size = L + 1 := by rw [← hs3, ← hL]; exact Heap.size_push ..
  have J3 : Inv X (pins ++ [(a, oa)]) σ (upd H1 L (.lst [])) s3 := by
    rw [← hs3]
    refine I2p.laid (t' := s1.toks) (fun b o q => Heap.get?_push_of_some _ q) (Nat.le_of_eq hL) ⟨Nat.zero_le _, [], 0, .nil, ?_⟩
    rw [← hL]
    exact Heap.get?_push_size _ rfl
  have I3 := J3.unpinned
  have nlt : G.n0 < L := by rw [← hL]; obtain ⟨o, q, _⟩ := sl.pv G.n0 (List.mem_singleton.mpr rfl); exact Heap.lt_size q
  have alt : a < L := by rw [← hL]; exact Heap.lt_size ha
  have f3 : ∀ b ∈ [G.n0], FpOk X pins (upd H1 L (.lst [])) b ∧ b < s3.heap.objs.size := fun b hb => by
    rw [List.mem_singleton.mp hb]
    refine ⟨⟨?_, f0n.2⟩, by rw [sz3]; exact Nat.lt_succ_of_lt nlt⟩
    rw [upd_ne (Nat.ne_of_lt nlt)]
    exact f0n.1
  have I4 := block_start I3 ok hN f3
  have pg := hg s3 (upd H1 L (.lst [])) s3.heap.objs.size (cellsFrom (s3.heap.objs.size + 1) scope.names (cloFrom X.env.cells scope.names [])) [G.n0]
  have pt := ht s3 (upd H1 L (.lst [])) s3.heap.objs.size (cellsFrom (s3.heap.objs.size + 1) scope.names (cloFrom X.env.cells scope.names [])) [G.n0]
  have pe := he s3 (upd H1 L (.lst [])) s3.heap.objs.size (cellsFrom (s3.heap.objs.size + 1) scope.names (cloFrom X.env.cells scope.names [])) [G.n0]
  show codeAny _ _ (.compStart (.ListComp elt [⟨tg, iter, ifs, 0⟩] scope pos) 0 (.ref a) (.ref L) (compEnvC scope (cellsFrom (s3.heap.objs.size + 1) scope.names (cloFrom X.env.cells scope.names [])) s3.heap.objs.size X.env)) (compPost _ _ _ use Qf (.ref L) s3.heap.objs.size) { s3 with heap := pushCells (s3.heap.push { cls := .type "dict", data := .dict #[] }) scope.names }
  generalize hce : compEnvC scope (cellsFrom (s3.heap.objs.size + 1) scope.names (cloFrom X.env.cells scope.names [])) s3.heap.objs.size X.env = ce at I4 pg pt pe ⊢
  have cL : ce.locals = s3.heap.objs.size := by subst hce; rfl
  have kp4 : ∀ b o, s3.heap.get? b = some o → (pushCells (s3.heap.push { cls := .type "dict", data := .dict #[] }) scope.names).get? b = some o := fun b o q => pushCells_keeps _ _ _ _ (Heap.get?_push_of_some _ q)
  generalize hH3 : upd H1 L (.lst []) = H3 at I3 J3 I4 pg pt pe f3
  have os34 : ({ s3 with heap := pushCells (s3.heap.push { cls := .type "dict", data := .dict #[] }) scope.names } : Shared).gens = s1.gens := by rw [← hs3]
  generalize hs4 : ({ s3 with heap := pushCells (s3.heap.push { cls := .type "dict", data := .dict #[] }) scope.names } : Shared) = s4 at I4 os34 ⊢
  have kp14 : ∀ b o, s1.heap.get? b = some o → s4.heap.get? b = some o := fun b o q => by rw [← hs4]; exact kp4 b o (kp3 b o q)
  let B : Cx := X.blk s3 H3 scope ce [G.n0]
  have fitB : Fit B G := ⟨fit.P, fit.w, fit.K, fit.base, fit.outer⟩
  have hH3a : H3 a = none := by rw [← hH3, upd_ne (Nat.ne_of_lt alt)]; exact hna
  have hH3n : H3 G.n0 = none := by rw [← hH3, upd_ne (Nat.ne_of_lt nlt)]; exact f0n.1
  have ane : a ≠ ce.locals := by rw [cL, sz3]; exact Nat.ne_of_lt (Nat.lt_succ_of_lt alt)
  have afs : a ∉ frs X.stack := fun z => by
    have q := I2.stkSub a z
    obtain ⟨_, _, n3, n4, _⟩ := I2p.pin (a, oa) (List.mem_append_right _ (List.mem_append_right _ (List.mem_singleton.mpr rfl)))
    rcases List.mem_cons.mp q with y | y
    · exact n3 y
    · exact n4 y
  have I5 : Inv B [(a, oa)] (wipe σ (own.map (·.2))) H3 s4 := I4.pins_of fun q hq => by
    rw [List.mem_singleton.mp hq]
    obtain ⟨nm, qn, _, hd2, _⟩ := hoa
    exact ⟨kp14 a oa ha, hH3a, ane, afs, fun v z => by rw [hd2] at z; cases z⟩
  have fB : ∀ b ∈ [G.n0], FpOk B [(a, oa)] H3 b := fun b hb => by
    rw [List.mem_singleton.mp hb]
    refine ⟨hH3n, (I4.ok.exf G.n0 (List.mem_singleton.mpr rfl)).1, I4.ok.exfs G.n0 (List.mem_singleton.mpr rfl), .inl (List.mem_singleton.mpr rfl), fun y c e => (I4.ok.exf G.n0 (List.mem_singleton.mpr rfl)).2 y c e, fun q hq => ?_⟩
    have hq' : q ∈ [(a, oa)] := hq
    rw [List.mem_singleton.mp hq']
    have := gm.lt
    rw [← hn0] at this
    exact Nat.ne_of_gt this
  have slB : Slp X.A.in1 G [G.n0] xs s4 H3 true := by
    obtain ⟨⟨gs, c', t', fs', q1, q2, q3, q4⟩, q5⟩ := sl
    refine ⟨⟨gs, c', t', fs', by rw [os34]; exact q1, q2, q3, fun s2 H2 w2 he => q4 s2 H2 ?_ fun _ b hb => ?_⟩, fun b hb => ?_⟩
    · refine Wk.trans ⟨?_, I5.bare, fun b o e => I5.bs b o (fitB.base ▸ e), ?_, fun b hb => I5.stkFree b (fitB.outer ▸ hb), ?_, fun b hb => ⟨(fB b hb).1, fun o e => kp14 b o e⟩, fun d vs q => ?_, fun i y _ e _ => by rw [os34]; exact e⟩ w2
      · rw [← hs4, ← hs3]
      · rw [fitB.base, fitB.outer]; exact I5.stack
      · rw [fitB.P, fitB.w]; exact I5.hok
      · rw [← hH3]
        rcases q with (q | ⟨o, q⟩) | q
        · exact .inl (.inl (by rw [upd_ne (fun z => by rw [z, hL1] at q; cases q)]; exact q))
        · exact .inl (.inr ⟨o, by rw [upd_ne (fun z => by rw [z, hL1] at q; cases q)]; exact q⟩)
        · exact .inr q
    · have e3 : H3 b = H1 b := by
        rw [← hH3]
        exact upd_ne fun z => hb (by rw [z]; exact hL1)
      rw [← e3]
      exact he rfl b (by rw [e3]; exact hb)
    · obtain ⟨o, e, d⟩ := q5 b hb
      exact ⟨o, kp14 b o e, d⟩
  have nfL : ¬ F1 L := fun z => a1.fh L z hL1
  have nmL : M1.map L = none := (a1.fresh hL1).2
  have hgen4 : s4.heap.IsGen a G.g := isGen_pin I5 (List.mem_singleton.mpr rfl) hoa
  have hdp : X.A.depth < recursionLimit := hr.depth
  have start3 : Lm X.K F1 H1 M1 F1 H3 M1 ∧ AbsM X.K F1 H3 M1 := by
    rw [← hH3]
    have l0 : Le X.K F1 H1 F1 (upd H1 L (.lst [])) := Le.upd nfL (fun _ => nord_none hL1) (nofrz_none hL1)
    exact ⟨⟨l0, fun b hb f m => ⟨f, m, upd_ne fun z => hb (by rw [z]; exact hL1)⟩⟩, a1.laid hL1⟩
  have en1 : RepEnv X.K F1 H3 (wipe σ (own.map (·.2))) (wipeD ρ (own.map (·.2))) := (A.env.wipe _).mono (l1.le.trans start3.1.le)
  have loop : codeAny (model X.prog X.w) X.A (.compLoop (.ListComp elt [⟨tg, iter, ifs, 0⟩] scope pos) 0 (.ref a) (.ref L) ce) (compPost (model X.prog X.w) X.A X.xe use Qf (.ref L) s3.heap.objs.size) s4 := by
    refine compLoop_any (fun m s' => ∃ xs pv H' F' M' acc ws fr, m = xs.length ∧ Inv B [(a, oa)] (wipe σ (own.map (·.2))) H' s' ∧ Lm X.K F1 H1 M1 F' H' M' ∧ AbsM X.K F' H' M' ∧ Le X.K F1 H3 F' H' ∧ H' L = some (.lst ws) ∧ ¬ F' L ∧ M'.map L = none ∧ Reps X.K F' H' acc ws ∧
      lcW (fun _ => True) p tt te (wipeD ρ (own.map (·.2))) xs acc M' Ψ ∧ Slp X.A.in1 G pv xs s' H' fr ∧ ∀ b ∈ pv, FpOk B [(a, oa)] H' b) ?_ xs.length
      ⟨xs, _, H3, F1, M1, [], [], true, rfl, I5, start3.1, start3.2, Le.refl, by rw [← hH3]; exact upd_same, nfL, nmL, Reps.nil, hw, slB, fB⟩
    rintro m s5 ⟨xs, pv, H5, F5, M5, acc, ws, fr, rfl, I5, l5, a5, le5, hl5, nf5, nm5, rs5, w5, sl5, fp5⟩
    refine wpAny_mono (turnG (X := B) (E := fun _ _ => False) fitB I5.sz (I5.ok.hd hc) hdp I5 a5 (isGen_pin I5 (List.mem_singleton.mpr rfl) hoa) fp5 sl5) (fun r s6 z => ?_) fun _ _ q => q.elim
    cases xs with
    | nil =>
      obtain ⟨rfl, H6, I6, l6, a6⟩ := z
      have i6 : Inv X pins σ H6 s6 := I3.call' (ch := [G.n0]) I6.os I6.base I6.hok I6.bare fun b hb => ⟨(f3 b hb).1.2.2.2.1, (f3 b hb).1.2.1, (f3 b hb).1.2.2.2.2.1, (f3 b hb).1.2.2.2.2.2⟩
      have nC : H6 s3.heap.objs.size = none := by
        have y : H6 ce.locals = none := I6.free
        rw [cL] at y
        exact y
      obtain ⟨m, hm, _⟩ := I6.loc
      have hm' : s6.heap.Ns ce.locals m := hm
      rw [cL] at hm'
      obtain ⟨x1, x2, x3⟩ := l6.hid L (by rw [hl5]; simp) nf5 nm5
      exact fin L _ s6 m F1 F5 H1 H6 M1 M5 acc ws i6 l1 hL1 (l5.trans l6) a6 (x3.trans hl5) x1 x2 (rs5.mono l6.le) w5.2 hm' (I3.fpOk (Nat.le_refl _) nC)
    | cons d rest =>
      obtain ⟨u, v, H6, pv', rfl, I6, l6, a6, rv, rd, sl6, fp6⟩ := z
      have hoa2 := hoa
      obtain ⟨nm, qn, hc1, hc2, hc3⟩ := hoa
      refine go_of (I6.pin (a, oa) (List.mem_append_right _ (List.mem_singleton.mpr rfl))).1 hc1 hc2 (by decide) ?_
      obtain ⟨_, w6⟩ := w5
      split at w6
      · rename_i ρ1 hput
        obtain ⟨σ2, en2, wp2, q2⟩ := p.runs hput rd (en1.mono (le5.trans l6.le))
        have hw2 : wipe σ2 (own.map (·.2)) = wipe σ (own.map (·.2)) := by
          rw [wp2 _ hs]
          refine List.ext_getElem? fun j => ?_
          simp only [wipe_get, wipe_length]
          split <;> rfl
        have I6p := I6.pinned fp6 sl6.pv
        refine wpAny_mono (wpAny_deadT (dead_all s6.gens) (pg.run _ { s6 with gens := deadG s6.gens } _ H6 v u (fun σ' H' => σ' = σ2 ∧ H' = H6) (inv_gens I6p (deadG_bare I6p.bare)) rv (q2 _ ⟨rfl, rfl⟩))) (fun _ s7 z => ?_) fun _ _ ⟨_, _, q⟩ => q.elim
        obtain ⟨G7, d7, σ7, H7, I7, rfl, rfl⟩ := z
        refine wpAny_mono (wpAny_deadT d7 (pt.run _ _ σ7 H7 (fun b H' => ∃ F' M', Lm X.K F5 H7 M5 F' H' M' ∧ AbsM X.K F' H' M' ∧ if b = true then te ρ1 M' (fun y M2 => acc.length < 100000 ∧ lcW (fun _ => True) p tt te (wipeD ρ (own.map (·.2))) rest (acc ++ [y]) M2 Ψ) else lcW (fun _ => True) p tt te (wipeD ρ (own.map (·.2))) rest acc M' Ψ) I7
          ⟨F5, M5, ρ1, _, ⟨a6, en2, O.cl (O.cl (O.cl A.og l1) l5) l6⟩, w6, fun b H' F' M' l' a' q => ⟨F', M', l', a', q⟩⟩)) (fun b s8 z => ?_) fun _ _ ⟨_, _, q⟩ => q.elim
        have z8 := z
        obtain ⟨G8, d8, H8, I8, F8, M8, l8, a8, w8⟩ := z
        obtain ⟨y1, y2, y3⟩ := l6.hid L (by rw [hl5]; simp) nf5 nm5
        have hl6 : H7 L = some (.lst ws) := y3.trans hl5
        obtain ⟨y4, y5, y6⟩ := l8.hid L (by rw [hl6]; simp) y1 y2
        have hl8 : H8 L = some (.lst ws) := y6.trans hl6
        -- the turn's end
        have done : ∀ {s' : Shared} {G' : Array GenState} {H' : Hp} {F' : Addr → Prop} {M' : MS} {acc' : List D} {ws' : List V}, Dead (sleptT s6.gens) G' s'.gens → Keeps s6 s' → Inv B ([(a, oa)] ++ pinsAt pv' s6.heap) σ7 H' { s' with gens := G' } → Lm X.K F1 H1 M1 F' H' M' → AbsM X.K F' H' M' → Le X.K F5 H7 F' H' → H' L = some (.lst ws') → ¬ F' L → M'.map L = none → Reps X.K F' H' acc' ws' →
            lcW (fun _ => True) p tt te (wipeD ρ (own.map (·.2))) rest acc' M' Ψ → ∃ m, m < (d :: rest).length ∧ ∃ xs pv H' F' M' acc ws fr, m = xs.length ∧ Inv B [(a, oa)] (wipe σ (own.map (·.2))) H' s' ∧ Lm X.K F1 H1 M1 F' H' M' ∧ AbsM X.K F' H' M' ∧ Le X.K F1 H3 F' H' ∧ H' L = some (.lst ws) ∧ ¬ F' L ∧ M'.map L = none ∧ Reps X.K F' H' acc ws ∧
      lcW (fun _ => True) p tt te (wipeD ρ (own.map (·.2))) xs acc M' Ψ ∧ Slp X.A.in1 G pv xs s' H' fr ∧ ∀ b ∈ pv, FpOk B [(a, oa)] H' b := by
          intro s' G' H' F' M' acc' ws' dd kp J lj aj lej hlj nfj nmj rsj wj
          have pin : ∀ b ∈ pv', ∃ o, s6.heap.get? b = some o ∧ s'.heap.get? b = some o ∧ H' b = none := fun b hb => by
            obtain ⟨o, ho, _⟩ := sl6.pv b hb
            obtain ⟨q1, q2, _⟩ := J.pin (b, o) (List.mem_append_right _ (List.mem_append_right _ (mem_pinsAt hb ho)))
            exact ⟨o, ho, q1, q2⟩
          have hl : (wipe σ (own.map (·.2))).length = σ7.length := by rw [← hw2, wipe_length]
          have J1 : Inv B [(a, oa)] (wipe σ (own.map (·.2))) H' s' := by
            have := inv_gens (J.unpinned (pins := [(a, oa)])) (dd.bare J.bare)
            have q : Inv B [(a, oa)] σ7 H' s' := this
            refine q.weak hl fun j v' e => ?_
            rw [← hw2] at e
            exact (wipe_some e).1
          refine ⟨rest.length, by simp, rest, pv', H', F', M', acc', ws', false, rfl, J1, lj, aj, (le5.trans l6.le).trans lej, hlj, nfj, nmj, rsj, wj, sl6.on fitB rfl (J1.os.trans I6.os.symm) J1 (fun b hb => ?_) (fun d vs q => lej.tup d vs q) kp, fun b hb => ?_⟩
          · obtain ⟨o, h1, h2, h3⟩ := pin b hb
            exact ⟨h3, fun o' e => by rw [h1] at e; cases e; exact h2⟩
          · obtain ⟨o, h1, h2, h3⟩ := pin b hb
            exact ⟨h3, (fp6 b hb).2⟩
        cases b with
        | false =>
          rw [if_neg Bool.false_ne_true] at w8 ⊢
          exact done d8 z8.keeps I8 ((l5.trans l6).trans l8) a8 l8.le hl8 y4 y5 ((rs5.mono l6.le).mono l8.le) w8
        | true =>
          rw [if_pos rfl] at w8 ⊢
          refine wpAny_mono (wpAny_deadT d8 (pe.run _ _ σ7 H8 (fun y H' => loQ X.K F8 H8 M8 (fun y M2 => acc.length < 100000 ∧ lcW (fun _ => True) p tt te (wipeD ρ (own.map (·.2))) rest (acc ++ [y]) M2 Ψ) y H') I8 ⟨F8, M8, ρ1, _, ⟨a8, en2.mono l8.le, O.cl (O.cl (O.cl (O.cl A.og l1) l5) l6) l8⟩, w8, fun y H' q => q⟩)) (fun y s9 z => ?_) fun _ _ ⟨_, _, q⟩ => q.elim
          obtain ⟨G9, d9, yv, H9, I9, ry, F9, M9, yd, l9, a9, ryd, hacc, w9⟩ := z
          obtain ⟨x4, x5, x6⟩ := l9.hid L (by rw [hl8]; simp) y4 y5
          have hl9 : H9 L = some (.lst ws) := x6.trans hl8
          have wl : acc.length = ws.length := rs5.length
          obtain ⟨lA, aA, leA⟩ := acc_more (ws' := ws ++ [yv]) hL1 (((l5.trans l6).trans l8).trans l9) a9 hl9 x4 x5
          have app := app_ok (X := B) (E := fun _ _ => False) (Q := fun _ s' => Inv B ([(a, oa)] ++ pinsAt pv' s6.heap) σ7 (upd H9 L (.lst (ws ++ [yv]))) s') I9 hl9 (by rw [← wl]; exact Nat.lt_of_lt_of_le hacc (by decide)) ry fun s' J => J
          refine wpAny_mono (wpAny_deadT d9 app) (fun _ s10 z => ?_) fun _ _ ⟨_, _, q⟩ => q.elim
          have z10 := z
          obtain ⟨G10, d10, J⟩ := z
          exact done d10 z10.keeps J lA aA ((l8.le.trans l9.le).trans leA) upd_same x4 x5 ((((rs5.mono l6.le).mono l8.le).mono l9.le).append (Reps.cons ryd Reps.nil) |>.mono leA) w9
      · exact w6.elim
  exact codeAny_compStart_list loop (wpAny_pyIter_gen hgen4 loop)
theorem q_lcG (hc : X.calm = true) (hN : X.N.Nodup) (hr : Room (k + 1) X.A) (hgd : X.A.guards = some []) (hi : PGn X O k iter t) (ok : BlkOk X.N X.env.scope scope own)
    (hg : ∀ (s : Shared) (H : Hp) (C : Addr) (cl : List (Str × Addr)) (fp : List Addr), PG (X.blk s H scope (compEnvC scope cl C X.env) fp) tg (p.tg X.K))
    (ht : ∀ (s : Shared) (H : Hp) (C : Addr) (cl : List (Str × Addr)) (fp : List Addr), PTs (X.blk s H scope (compEnvC scope cl C X.env) fp) ifs (loT X.K O tt))
    (he : ∀ (s : Shared) (H : Hp) (C : Addr) (cl : List (Str × Addr)) (fp : List Addr), PE (X.blk s H scope (compEnvC scope cl C X.env) fp) elt (lo X.K O te)) (hfs : ∀ x, foldedSetIterable iter X.env x = pure x)
    (hs : ∀ i ∈ p.slots, i ∈ own.map (·.2)) : PE X (.ListComp elt [⟨tg, iter, ifs, 0⟩] scope pos) (lo X.K O (dLcG t p (own.map (·.2)) tt te)) := by
  refine ⟨fun pins s σ H Q I h => ?_⟩
  obtain ⟨F, M, ρ, Φ, A, h, kq⟩ := h
  rw [eval_ListComp]
  refine lcG_core hc hN hr hgd I A hi ok hg ht he hfs hs h fun L C s' m F1 F' H1 H' M1 M' ds ws I' l1 hL l2 a2 hl nf nm rs q hn f => ⟨m, hn, fun h2 sb => ?_⟩
  obtain ⟨f0, f1, f2, f3, f4, f5⟩ := f
  refine ⟨.ref L, H', I'.turned (t' := s'.toks) (fun b o hb e => (sb.2 b hb).trans e) f0 f1 f3 f4 f5, rfl, ?_⟩
  have y : Le X.K F' H' (fun b => F' b ∨ b = L) H' := Le.refl.grow fun _ z => .inl z
  refine kq _ _ ⟨fun b => F' b ∨ b = L, M', .lst ds, (l1.trans ⟨l2.le.trans y, fun a ha f m => ?_⟩), ⟨fun b f => ?_, fun b o hb => ?_⟩, ?_, q⟩
  · obtain ⟨x1, x2, x3⟩ := l2.hid a ha f m
    exact ⟨fun z => z.elim x1 fun e => ha (by rw [e]; exact hL), x2, x3⟩
  · rcases f with f | f
    · exact a2.fh b f
    · rw [f, hl]; simp
  · obtain ⟨n1, o1⟩ := a2.mp b o hb
    refine ⟨fun z => z.elim n1 fun e => ?_, o1.keep y rfl (fun c hc => ⟨rfl, hc⟩) (Nat.le_refl _)⟩
    rw [e, nm] at hb; cases hb
  · simp only [Rep]
    exact ⟨L, ws, rfl, .inr rfl, hl, rs.mono y⟩
end
end DL
namespace DL
open PySem PySem.Spec PyProof.Rows L2
theorem put_nm {i : Nat} {d : D} {ρ : DEnv} : (Pat.nm i).put d ρ = some (ρ.set i (some d)) := rfl
theorem put_tp {ps : List Pat} {xs : List D} {ρ : DEnv} : (Pat.tp ps).put (.tup xs) ρ = Pat.puts ps xs ρ := rfl
theorem puts_nil {ρ : DEnv} : Pat.puts [] [] ρ = some ρ := rfl
theorem puts_cons {p : Pat} {ps : List Pat} {x : D} {xs : List D} {ρ : DEnv} : Pat.puts (p :: ps) (x :: xs) ρ = (match p.put x ρ with
  | some ρ' => Pat.puts ps xs ρ'
  | none => none) := rfl
end DL
namespace DL
open PySem PySem.Spec PyProof.Rows L2
def asStrs : List D → Option (List Str)
  | [] => some []
  | .str z :: r => (asStrs r).map (z :: ·)
  | _ => none
theorem asStrs_eq : ∀ {xs : List D} {ys : List Str}, asStrs xs = some ys → xs = ys.map D.str
  | [], ys, h => by simp only [asStrs, Option.some.injEq] at h; subst h; rfl
  | x :: xs, ys, h => by
    cases x with
    | str z =>
      simp only [asStrs, Option.map_eq_some_iff] at h
      obtain ⟨ms, h1, h2⟩ := h
      subst h2
      rw [asStrs_eq h1]; rfl
    | _ => simp [asStrs] at h
theorem asStrs_map : ∀ ys : List Str, asStrs (ys.map D.str) = some ys
  | [] => rfl
  | n :: ns => by simp only [List.map_cons, asStrs, asStrs_map ns, Option.map_some]
theorem reps_strs {K : PySem.W.Frag} {F : Addr → Prop} {H : Hp} : ∀ {ys : List Str} {vs : List V}, Reps K F H (ys.map D.str) vs → vs = ys.map V.str
  | [], vs, h => by simpa [Reps] using h
  | n :: ns, vs, h => by
    simp only [List.map_cons, Reps, Rep] at h
    obtain ⟨v, r, e, rfl, h2⟩ := h
    rw [e, reps_strs h2]
    rfl
def dJoin (to te : DE) : DE := fun ρ M Φ => to ρ M fun x M1 => match x with
  | .str a => te ρ M1 fun y M2 => (match (seqA M2 y).bind asStrs with
    | some ys => (ys.map (·.length)).sum + ys.length * a.length ≤ 16777216 ∧ Φ (.str (Txt.join a ys)) M2
    | none => False)
  | _ => False
def dFmt (te : DE) : DE := fun ρ M Φ => te ρ M fun x M1 => match x with
  | .str y => y.length ≤ 1000000 ∧ Φ (.str y) M1
  | .int i => i.natAbs.log2 < 1920 ∧ Φ (.str (toString i)) M1
  | _ => False
def dJsA : List DE → Str → DE
  | [], acc => fun _ M Φ => Φ (.str acc) M
  | t :: ts, acc => fun ρ M Φ => t ρ M fun x M1 => match x with
    | .str y => (acc ++ y).length ≤ 1000000 ∧ dJsA ts (acc ++ y) ρ M1 Φ
    | _ => False
section
variable {X : Cx} {x : Str} {p pos apos : Pos} {o e : Expr} {to te : DE}
variable {O : Og X.K}
theorem q_gstr {z : Str} (hg : Gl X x) (hm : ∃ t, X.mg x = some (.str z t)) (hd : (x == ("__debug__" : Str)) = false) : PE X (.Name x p) (lo X.K O (dC (.str z))) := by
  obtain ⟨t, hm⟩ := hm
  exact q_c (v := .str z) ⟨fun pins s σ H Q I h => ld_glob I hg hm ⟨.str z, H, I, ⟨t, rfl⟩, h⟩ hd⟩ fun _ _ => rfl
theorem q_join (ho : PE X o (lo X.K O to)) (he : PE X e (lo X.K O te)) (hs : starEach [e] X.env = [(false, eval e X.env)]) (hbase : attributeBase o "join" X.env (eval o X.env) = eval o X.env) (hline : (apos.endLine == pos.line) = true) :
    PE X (.Call (.Attribute o "join" apos) [e] [] pos) (lo X.K O (dJoin to te)) :=
  PE.imp (pe_join ho he hs hbase hline) fun σ H Q h => by
    obtain ⟨F, M, ρ, Φ, A, h, k⟩ := h
    refine ⟨F, M, ρ, _, A, h, fun v H1 ⟨F1, M1, x, l1, a1, r1, h1⟩ => ?_⟩
    dsimp only at h1
    split at h1
    · rename_i a
      obtain rfl : v = .str a := r1
      refine ⟨⟨a, rfl⟩, F1, M1, ρ, _, (A.go l1 a1), h1, fun w H2 ⟨F2, M2, y, l2, a2, r2, h2⟩ => ?_⟩
      dsimp only at h2
      split at h2
      · rename_i ys ey
        obtain ⟨xs, e1, e2⟩ := Option.bind_eq_some_iff.mp ey
        obtain ⟨q, vs, rfl, hq, rs⟩ := seqK_rep a2 r2 e1
        rw [asStrs_eq e2] at rs
        rw [reps_strs rs] at hq
        refine ⟨a, q, ys, rfl, rfl, ?_, h2.1, k _ _ ⟨F2, M2, .str _, l1.trans l2, a2, rfl, h2.2⟩⟩
        cases hk : kindD y with
        | true => rw [hk] at hq; exact .inl hq
        | false => rw [hk] at hq; exact .inr hq
      · exact h2.elim
    · exact h1.elim
theorem q_fmt (he : PE X e (lo X.K O te)) : PE X (.FormattedValue e (-1) none pos) (lo X.K O (dFmt te)) :=
  PE.imp (pe_fmt he) fun σ H Q h => by
    obtain ⟨F, M, ρ, Φ, A, h, k⟩ := h
    refine ⟨F, M, ρ, _, A, h, fun v H1 ⟨F1, M1, x, l1, a1, r1, h1⟩ => ?_⟩
    dsimp only at h1
    split at h1
    · rename_i y
      exact .inl ⟨y, r1, Nat.le_trans h1.1 (by decide), k _ _ ⟨F1, M1, .str _, l1, a1, rfl, h1.2⟩⟩
    · rename_i i
      exact .inr ⟨i, r1, h1.1, k _ _ ⟨F1, M1, .str _, l1, a1, rfl, h1.2⟩⟩
    · exact h1.elim
inductive PJD (X : Cx) (O : Og X.K) : List Expr → List DE → Prop where
  | nil : PJD X O [] []
  | cons {e : Expr} {t : DE} {es : List Expr} {ts : List DE} (h : PE X e (lo X.K O t)) (r : PJD X O es ts) : PJD X O (e :: es) (t :: ts)
theorem PJD.pj {es : List Expr} {ts : List DE} (h : PJD X O es ts) : PJ X es (ts.map (lo X.K O)) := by
  induction h with
  | nil => exact .nil
  | cons h r ih => exact .cons h ih
theorem js_run {K : PySem.W.Frag} {O : Og K} : ∀ (ts : List DE) (acc : Str) (σ : L2.St) (H : Hp) (F : Addr → Prop) (M : MS) (ρ : DEnv) (Φ : DQ) (Q : Str → Hp → Prop), Abs K O F H M σ ρ → dJsA ts acc ρ M Φ →
    (∀ z H' F' M', Lm K F H M F' H' M' → AbsM K F' H' M' → Φ (.str z) M' → Q z H') → tJs (ts.map (lo K O)) acc σ H Q
  | [], acc, σ, H, F, M, ρ, Φ, Q, A, h, k => k acc H F M Lm.refl A.am h
  | t :: ts, acc, σ, H, F, M, ρ, Φ, Q, A, h, k => by
    refine ⟨F, M, ρ, _, A, h, fun v H1 ⟨F1, M1, x, l1, a1, r1, h1⟩ => ?_⟩
    dsimp only at h1
    split at h1
    · rename_i y
      exact ⟨y, r1, Nat.le_trans h1.1 (by decide), js_run ts (acc ++ y) σ H1 F1 M1 ρ Φ Q (A.go l1 a1) h1.2 fun z H' F' M' l a q => k z H' F' M' (l1.trans l) a q⟩
    · exact h1.elim
theorem q_joined {v1 v2 : Expr} {rest : List Expr} {ts : List DE} (h : PJD X O (v1 :: v2 :: rest) ts) : PE X (.JoinedStr (v1 :: v2 :: rest) pos) (lo X.K O (dJsA ts Str.empty)) :=
  PE.imp (pe_joined h.pj) fun σ H Q h => by
    obtain ⟨F, M, ρ, Φ, A, h, k⟩ := h
    exact js_run ts Str.empty σ H F M ρ Φ _ A h fun z H' F' M' l a q => k _ _ ⟨F', M', .str z, l, a, rfl, q⟩
end
end DL
namespace DL
open PySem PySem.Spec PyProof.Rows L2
open PySem.Sem (wp)
end DL
namespace DL
open PySem PySem.Spec PyProof.Rows L2
end DL
namespace DL
open PySem PySem.Spec PyProof.Rows L2
end DL
namespace PyProof.Rows
open PySem PySem.SeqAt
end PyProof.Rows
namespace DL
open PySem PySem.Spec PyProof.Rows L2
end DL
namespace DL
open PySem PySem.Spec PyProof.Rows L2
def insD (M : MS) : D → Option (Str × List (Str × D))
  | .obj .ins n ks xs => some (n, ks.zip xs)
  | .ref a => match M.map a with
    | some (.ins n fs) => some (n, fs)
    | _ => none
  | _ => none
def putD (f : Str) (v : D) : List (Str × D) → List (Str × D)
  | [] => [(f, v)]
  | (g, x) :: r => if g = f then (g, v) :: r else (g, x) :: putD f v r
def rFld (f : Str) (x : D) (M : MS) (Φ : DQ) : Prop := ∃ n fs d, insD M x = some (n, fs) ∧ f ∈ fieldsT n ∧ fs.lookup f = some d ∧ Φ d M
section
variable {X : Cx} {e o value : Expr} {te ta tv : DE} {f m : Str} {pos pos' apos : Pos}
variable {O : Og X.K}
/-- o.f = value -/
def sFld (f : Str) (ta tv : DE) : DS := fun Δ ρ M => tv ρ M fun y M1 => ta ρ M1 fun x M2 => ∃ a n fs, x = .ref a ∧ M2.map a = some (.ins n fs) ∧ f ∈ fieldsT n ∧ fs.length < 100 ∧ Δ.nx ρ (M2.put a (.ins n (putD f y fs)))
/-- o.f += value, numbers -/
def sFldAug (f : Str) (ta tv : DE) : DS := fun Δ ρ M => ta ρ M fun x M1 => ∃ n fs0 i, insD M1 x = some (n, fs0) ∧ f ∈ fieldsT n ∧ fs0.lookup f = some (.int i) ∧ tv ρ M1 fun y M2 => ∃ j a fs, y = .int j ∧ x = .ref a ∧ M2.map a = some (.ins n fs) ∧ fs.length < 100 ∧ Δ.nx ρ (M2.put a (.ins n (putD f (.int (i + j)) fs)))
end
end DL
namespace DL
open PySem PySem.Spec PyProof.Rows L2
/-- class n, its own dict at d, its fields -/
def ERep (K : PySem.W.Frag) (F : Addr → Prop) (H : Hp) (n : Str) (fs : List (Str × D)) (cls : Value) (d : Option Addr) : Prop :=
  cexcB K n = true ∧ cls = .ref (He.ga K n) ∧ ((d = none ∧ fs = []) ∨ ∃ dd fs', d = some dd ∧ F dd ∧ H dd = some (.xd fs') ∧ fs.map (·.1) = fs'.map (·.1) ∧ Reps K F H (fs.map (·.2)) (fs'.map (·.2)))
def loE (K : PySem.W.Frag) (F : Addr → Prop) (H : Hp) (M : MS) (ξ : DX) : XK := fun cls d H' => ∃ F' M' n fs, Lm K F H M F' H' M' ∧ AbsM K F' H' M' ∧ ERep K F' H' n fs cls d ∧ ξ n fs M'
def loSpX (K : PySem.W.Frag) (sp : DSp) (n : Nat) : Sp := fun vs H Q E => ∃ F M ds Φ ξ, ds.length = n ∧ AbsM K F H M ∧ Reps K F H ds vs ∧ sp ds M Φ ξ ∧ (∀ v H', loQ K F H M Φ v H' → Q v H') ∧ ∀ cls d H', loE K F H M ξ cls d H' → E cls d H'
/-- a body's wish about what is raised, by its slots -/
abbrev DXs := DEnv → DX
def noXs : DXs := fun _ => noX
def loW (K : PySem.W.Frag) (O : Og K) (ξ : DXs) : WX := fun cls d σ H => ∃ F M ρ n fs, Abs K O F H M σ ρ ∧ ERep K F H n fs cls d ∧ ξ ρ n fs M
def Tk (X : Cx) (O : Og X.K) (ξ : DXs) : Prop := Takes X (loW X.K O ξ)
theorem Tk.no {X : Cx} {O : Og X.K} : Tk X O noXs := fun u s' x => by
  obtain ⟨_, _, _, _, _, _, _, _, _, _, _, _, _, _, _, _, w⟩ := x
  obtain ⟨_, _, _, _, _, _, _, w⟩ := w
  exact w.elim
section
variable {X : Cx} {pins : List (Addr × Obj)} {σ : L2.St} {H : Hp} {s : Shared} {k n : Nat} {f : Addr} {fd : FuncData} {ps : List Str} {sp : DSp} {ξ : DXs} {Q : VK} {us : List Value} {vs : List V} {F : Addr → Prop} {M : MS} {ρ : DEnv} {ds : List D} {Φ : DQ} {B : Around}
variable {O : Og X.K}
/-- the callee runs, its exceptions are ours; below (B) or here -/
theorem runX (G : FnG X.prog X.w X.K X.mg X.base (CX X.prog X.w) k f fd ps (loSpX X.K sp n)) (hr : Room k B) (hg : B.guards = some []) (e0 : Env0 X.prog X.w X.K X.mg X.base B X.stack s H) (hb : Binds X.K fd ps []) (tk : Tk X O ξ) (I : Inv X pins σ H s) (A : Abs X.K O F H M σ ρ)
    (r : Vals vs us) (rs : Reps X.K F H ds vs) (hn : ds.length = n) (h : sp ds M Φ (ξ ρ)) :
    codeAny (model X.prog X.w) B (.call (.ref f) ⟨us, []⟩) (fun res s' => match res with
      | .ok (.ret u) => EP X pins σ (loQ X.K F H M Φ) u s'
      | .ok _ => False
      | .error e => X.xe e s') s := by
  have hsp : loSpX X.K sp n vs H (loQ X.K F H M Φ) (loE X.K F H M (ξ ρ)) := ⟨F, M, ds, Φ, ξ ρ, hn, A.am, rs, h, fun _ _ q => q, fun _ _ _ q => q⟩
  have hlen : us.length = ps.length := by rw [← r.length]; exact G.len _ _ _ _ hsp
  have b := hb s us I.kIn (by rw [List.append_nil]; exact hlen)
  rw [List.append_nil] at b
  refine codeAny_mono (G.run B X.stack s H ⟨us, []⟩ us vs _ _ hr hg e0 b r hsp) fun res s' hq => ?_
  cases res with
  | error e =>
    refine tk e s' (XE.of_call I (fun cls d H' q => ?_) hq)
    obtain ⟨F', M', n, fs, l, a, er, w⟩ := q
    exact ⟨F', M', ρ, n, fs, A.go l a, er, w⟩
  | ok fl =>
    cases fl with
    | ret u => exact I.after hq
    | next => exact hq.elim
    | brk => exact hq.elim
    | cont => exact hq.elim
theorem runXh (G : FnG X.prog X.w X.K X.mg X.base (CX X.prog X.w) k f fd ps (loSpX X.K sp n)) (hr : Room k X.A) (hg : X.A.guards = some []) (hb : Binds X.K fd ps []) (tk : Tk X O ξ) (I : Inv X pins σ H s) (A : Abs X.K O F H M σ ρ)
    (r : Vals vs us) (rs : Reps X.K F H ds vs) (hn : ds.length = n) (h : sp ds M Φ (ξ ρ)) (k : ∀ v H', loQ X.K F H M Φ v H' → Q v H') : wpAny (model X.prog X.w) X.A (call (.ref f) us) (EP X pins σ Q) X.xe s := by
  refine wpAny_call (codeAny_mono (runX G hr hg I.env0 hb tk I A r rs hn h) fun res s' hq => ?_)
  cases res with
  | error e => exact hq
  | ok fl =>
    cases fl with
    | ret u =>
      obtain ⟨v, H', I', rv, q⟩ := hq
      exact ⟨v, H', I', rv, k _ _ q⟩
    | next => exact hq.elim
    | brk => exact hq.elim
    | cont => exact hq.elim
end
/-- a def of the module -/
structure CalleeX (P : Program) (w : World) (K : PySem.W.Frag) (mg : Str → Option Value) (base : Heap) (k : Nat) (x : Str) (n : Nat) (sp : DSp) : Prop where
  ex : ∃ (f : Addr) (fd : FuncData) (ps : List Str), ps.length = n ∧ mg x = some (.ref f) ∧ PySem.W.keepIn K (.ref f) = true ∧ Binds K fd ps [] ∧ FnG P w K mg base (CX P w) k f fd ps (loSpX K sp n)
/-- the method m of the class c -/
structure MCallee (P : Program) (w : World) (K : PySem.W.Frag) (mg : Str → Option Value) (base : Heap) (k : Nat) (c m : Str) (n : Nat) (sp : DSp) : Prop where
  ex : ∃ (f : Addr) (fd : FuncData) (ps : List Str), ps.length = n ∧ Meth K (He.ga K c) m f ∧ PySem.W.fnIn K f = true ∧ Binds K fd ps [] ∧ FnG P w K mg base (CX P w) k f fd ps (loSpX K sp n)
abbrev Tb := List (Str × DSp)
def Tb.ok (P : Program) (w : World) (K : PySem.W.Frag) (mg : Str → Option Value) (base : Heap) (k : Nat) (m : Str) (n : Nat) (tb : Tb) : Prop := ∀ c sp, tb.lookup c = some sp → MCallee P w K mg base k c m n sp
/-- the promise of x's class -/
def rSelf (tb : Tb) (x : D) (M : MS) (K : DSp → Prop) : Prop := ∃ n fs sp, insD M x = some (n, fs) ∧ tb.lookup n = some sp ∧ K sp
def rSelfM (m : Str) (tb : Tb) (x : D) (M : MS) (K : DSp → Prop) : Prop := ∃ n fs sp, insD M x = some (n, fs) ∧ fs.lookup m = none ∧ tb.lookup n = some sp ∧ K sp
def dCallX (n : Nat) (sp : DSp) (ξ : DXs) (ta : DAs) : DE := fun ρ M Φ => ta ρ M fun ds M1 => ds.length = n ∧ sp ds M1 Φ (ξ ρ)
def dMeth (m : Str) (n : Nat) (tb : Tb) (ξ : DXs) (to : DE) (ta : DAs) : DE := fun ρ M Φ => to ρ M fun x M1 => rSelfM m tb x M1 fun sp => ta ρ M1 fun ds M2 => ds.length + 1 = n ∧ sp (x :: ds) M2 Φ (ξ ρ)
def dProp (tb : Tb) (ξ : DXs) (te : DE) : DE := fun ρ M Φ => te ρ M fun x M1 => rSelf tb x M1 fun sp => sp [x] M1 Φ (ξ ρ)
abbrev refK (p : Addr) (Φ : DQ) : DQ := fun r M2 => r = .non ∧ Φ (.ref p) M2
abbrev frzK (p : Addr) (c : Str) (Φ : DQ) : DQ := fun r M2 => r = .non ∧ ∃ fs, M2.map p = some (.ins c fs) ∧ Φ (.obj .ins c (fs.map (·.1)) (fs.map (·.2))) (M2.del p)
def dMake (c : Str) (n : Nat) (sp : DSp) (ξ : DXs) (ta : DAs) : DE := fun ρ M Φ => ta ρ M fun ds M1 => ds.length + 1 = n ∧ ∀ p, M1.map p = none → sp (.ref p :: ds) (M1.put p (.ins c [])) (refK p Φ) (ξ ρ)
/-- .. a value that never changes -/
def dMakeF (c : Str) (n : Nat) (sp : DSp) (ξ : DXs) (ta : DAs) : DE := fun ρ M Φ => ta ρ M fun ds M1 => ds.length + 1 = n ∧ ∀ p, M1.map p = none → sp (.ref p :: ds) (M1.put p (.ins c [])) (frzK p c Φ) (ξ ρ)
section
variable {X : Cx} {k j n : Nat} {x m c : Str} {p pos apos : Pos} {e o : Expr} {es : List Expr} {te to : DE} {ta : DAs} {sp : DSp} {ξ : DXs} {tb : Tb}
variable {O : Og X.K}
theorem q_callX (C : CalleeX X.prog X.w X.K X.mg X.base j x n sp) (hr : Room k X.A) (hjk : j ≤ k) (hgd : X.A.guards = some []) (tk : Tk X O ξ) (hg : Gl X x) (ha : PA X (e :: es) (loA X.K O ta)) (hdb : (x == ("__debug__" : Str)) = false) (he : starEach (e :: es) X.env = (false, eval e X.env) :: starEach es X.env)
    (hpl : (backTo pos (starEach es X.env)).any (·.1) = false) : PE X (.Call (.Name x p) (e :: es) [] pos) (lo X.K O (dCallX n sp ξ ta)) := by
  obtain ⟨f, fd, ps, hl, hm, hk, hb, G⟩ := C.ex
  refine ⟨fun pins s σ H Q I h => ?_⟩
  obtain ⟨F, M, ρ, Φ, A, h, kk⟩ := h
  refine wpAny_Call_Name_kw (ld_glob I hg hm ?_ hdb)
  refine PySem.W.callWith_K (h₀ := X.base) I.ok.mod.kin hk (thn (ha.run pos pins s σ H (fun vs H' => ∃ F' M' ds, Lm X.K F H M F' H' M' ∧ AbsM X.K F' H' M' ∧ Reps X.K F' H' ds vs ∧ ds.length = n ∧ sp ds M' Φ (ξ ρ)) I
    ⟨F, M, ρ, _, A, h, fun vs H' F' M' ds l a r q => ⟨F', M', ds, l, a, r, q⟩⟩) fun us s1 ⟨vs, H1, I1, r, F1, M1, ds, l1, a1, rs, hn, q⟩ => ⟨I1.kIn, ?_⟩) he hpl
  exact runXh G (hr.mono hjk) hgd hb tk I1 (A.go l1 a1) r rs hn q fun v H' z => kk v H' (z.le l1)
end
end DL
namespace PySem.W
open PySem PySem.Spec PySem.Calls PyProof.Rows Builtin
end PySem.W
namespace DL
open PySem PySem.Spec PyProof.Rows L2
theorem ccls_ok {K : PySem.W.Frag} {n : Str} (h : cclsB K n = true) : n ∈ clsNames ∧ presB K n = true ∧ ∀ t : Ty, t ≠ .verr → t ≠ .lerr → PySem.W.kitOne K (.type t.name) (.ref (He.ga K n)) = some false := by
  obtain ⟨h1, h⟩ := He.ba h
  obtain ⟨h2, h3⟩ := He.ba h
  refine ⟨of_decide_eq_true h1, h2, fun t a b => of_decide_eq_true (List.all_eq_true.mp h3 t ?_)⟩
  cases t <;> first | exact absurd rfl a | exact absurd rfl b | decide
abbrev R3 := D → D → DEnv → MS → DQ → Prop
def dOp3 (R : R3) (ta tbb : DE) : DE := fun ρ M Φ => ta ρ M fun x M1 => tbb ρ M1 fun y M2 => R x y ρ M2 Φ
def dLenO (tb : Tb) (ξ : DXs) (ta : DE) : DE := fun ρ M Φ => ta ρ M fun x M1 => rSelf tb x M1 fun sp => sp [x] M1 (fun d M2 => ∃ i : Int, d = .int i ∧ 0 ≤ i ∧ i < 2 ^ 63 ∧ Φ (.int i) M2) (ξ ρ)
def dStrO (tb : Tb) (ξ : DXs) (ta : DE) : DE := fun ρ M Φ => ta ρ M fun x M1 => rSelf tb x M1 fun sp => sp [x] M1 (fun d M2 => ∃ z : Str, d = .str z ∧ Φ (.str z) M2) (ξ ρ)
def dCallO (n : Nat) (tb : Tb) (ξ : DXs) (tf : DE) (ta : DAs) : DE := fun ρ M Φ => tf ρ M fun x M1 => (insD M1 x).isSome = true ∧ ta ρ M1 fun ds M2 => rSelf tb x M2 fun sp => ds.length + 1 = n ∧ sp (x :: ds) M2 Φ (ξ ρ)
end DL
namespace DL
open PySem PySem.Spec PyProof.Rows L2
def pa (K : PySem.W.Frag) (c m : Str) : Addr := match PySem.W.recIn K (He.ma K (He.ga K c) m) "property" with
  | some (.ref g :: _) => g
  | _ => 0
/-- the def of a classmethod -/
def pb (K : PySem.W.Frag) (c m : Str) : Addr := match PySem.W.recIn K (He.ma K (He.ga K c) m) "classmethod" with
  | some (.ref g :: _) => g
  | _ => 0
def xno (K : PySem.W.Frag) (c : Str) : Bool := cexcB K c && (He.Fa.exc c).ok K
/-- .. with an own one that keeps its argument under one name -/
def oexB (K : PySem.W.Frag) (c : Str) : Bool := (match K.lookup (He.ga K c) with
    | some ⟨.type t, _, .cls cd, sl⟩ => (match cd.mro, sl.toList with
      | .ref C' :: bm, [_, _, _, _, some (.builtin n), _] => decide (t = "type") && (decide (C' = He.ga K c) && (decide (n = "ValueError.__new__") && (!cd.hasDel && (cd.hasDict && PySem.HandSPX.refsVE bm))))
      | _, _ => false)
    | _ => false) &&
  (findB K c "__setattr__" (some (.builtin "object.__setattr__")) && (decide (PySem.W.subIn K (.ref (He.ga K c)) (.type "BaseException") = some true) && (decide (PySem.W.typeIn K (.ref (He.ga K c)) = some (.type "type")) && PySem.W.keepIn K (.ref (He.ga K c)))))
/-- over LookupError -/
abbrev leTail : List Value := [.type "LookupError", .type "Exception", .type "BaseException", .type "object"]
def refsLE : List Value → Bool
  | .ref _ :: r => refsLE r
  | l => l == leTail
def oexLB (K : PySem.W.Frag) (c : Str) : Bool := (match K.lookup (He.ga K c) with
    | some ⟨.type t, _, .cls cd, sl⟩ => (match cd.mro, sl.toList with
      | .ref C' :: bm, [_, _, _, _, some (.builtin n), _] => decide (t = "type") && (decide (C' = He.ga K c) && (decide (n = "LookupError.__new__") && (!cd.hasDel && (cd.hasDict && refsLE bm))))
      | _, _ => false)
    | _ => false) &&
  (findB K c "__setattr__" (some (.builtin "object.__setattr__")) && (decide (PySem.W.subIn K (.ref (He.ga K c)) (.type "BaseException") = some true) && (decide (PySem.W.typeIn K (.ref (He.ga K c)) = some (.type "type")) && PySem.W.keepIn K (.ref (He.ga K c)))))
def xinLB (K : PySem.W.Frag) (c f : Str) : Bool := cexcB K c && (oexLB K c && (decide (f ∈ fieldsT c) && (decide (PySem.W.findIn K (.ref (He.ga K c)) f = some none) && (decide (PySem.W.findIn K (.ref (He.ga K c)) "__init__" = some (some (.ref (He.ma K (He.ga K c) "__init__")))) &&
    decide (PySem.W.typeIn K (.ref (He.ma K (He.ga K c) "__init__")) = some (.type "function"))))))
def cloB (K : PySem.W.Frag) (a : Addr) : Bool := (K.lookup a).any fun o => match o.data with
  | .func z => z.closure.isEmpty
  | _ => false
/-- the class of name c: behind that of name d comes that of name b with its m -/
def supmB (K : PySem.W.Frag) (c d b m : Str) : Bool := (PySem.W.clsIn K (He.ga K d)).isSome && (decide (PySem.W.mroIn K (He.ga K c) (.ref (He.ga K d)) = some true) && (decide (PySem.W.ks_superIn K (He.ga K c) (He.ga K d) m = some (some (.ref (He.ma K (He.ga K b) m)))) &&
  (decide (PySem.W.typeIn K (.ref (He.ma K (He.ga K b) m)) = some (.type "function")) && (PySem.W.fnIn K (He.ma K (He.ga K b) m) && decide (PySem.W.nsIn K cStatics "thirdparty.any" = some none)))))
/-- the def m of the class of name c says super(): its cell holds the class, its code names the file -/
def fnSB (K : PySem.W.Frag) (c m file : Str) : Bool := match K.lookup (He.ma K (He.ga K c) m) with
  | some ⟨_, _, .func z, _⟩ => (match z.closure, z.code, z.defaults with
    | [(n, cc)], .ref cda, .none => decide (n = ("__class__" : Str)) && ((match K.lookup cc with
        | some ⟨_, _, .cell (some (.ref D)), _⟩ => D == He.ga K c
        | _ => false) && (match K.lookup cda with
        | some ⟨_, _, .fields vs, _⟩ => (match (vs[2]? : Option Value) with
          | some (Value.str fl _) => decide (fl = file)
          | _ => false)
        | _ => false))
    | _, _, _ => false)
  | _ => false
/-- C.m, C the class of name c, its def m -/
def clsfB (K : PySem.W.Frag) (c m : Str) : Bool := PySem.W.readsIn K (He.ga K c) (.type "type") && (decide (PySem.W.specialIn K (.ref (He.ga K c)) "__getattribute__" = some (some (.builtin "type.__getattribute__"))) &&
  ((match PySem.W.findCls K (.ref (He.ga K c)) (.type "type") m with
    | some (.val (.ref a)) => a == He.ma K (He.ga K c) m
    | _ => false) && PySem.W.keepIn K (.ref (He.ma K (He.ga K c) m))))
/-- o.m as a value is a bound method -/
def bmB (K : PySem.W.Frag) (c m : Str) : Bool := decide (PySem.W.specialIn K (.ref (He.ma K (He.ga K c) m)) "__get__" = some (some (.builtin "function.__get__"))) && decide (PySem.W.takesIn K (.ref (He.ma K (He.ga K c) m)) = some false)
/-- C.m is a classmethod -/
def cmetB (K : PySem.W.Frag) (c m : Str) : Bool := PySem.W.readsIn K (He.ga K c) (.type "type") && (decide (PySem.W.specialIn K (.ref (He.ga K c)) "__getattribute__" = some (some (.builtin "type.__getattribute__"))) &&
  ((match PySem.W.findCls K (.ref (He.ga K c)) (.type "type") m with
    | some (.get (.builtin g) (.ref p) .none (.ref D)) => decide (g = "classmethod.__get__") && (decide (p = He.ma K (He.ga K c) m) && decide (D = He.ga K c))
    | _ => false) && ((match PySem.W.recIn K (He.ma K (He.ga K c) m) "classmethod" with
    | some (.ref _ :: _) => true
    | _ => false) && PySem.W.fnIn K (pb K c m))))
inductive Xf where
  | ccls (c : Str) | cins (c : Str) | cexc (c : Str) | fnin (c m : Str) | prop (c m : Str) | ne (c : Str) | sf (c : Str) | xno (c : Str) | xin (c f : Str) | xinL (c f : Str) | supm (c d b m : Str) | fnS (c m file : Str) | clsf (c m : Str) | bm (c m : Str) | cmet (c m : Str)
def Xf.ok (K : PySem.W.Frag) : Xf → Bool
  | .xinL c f => xinLB K c f
  | .supm c d b m => supmB K c d b m
  | .fnS c m file => fnSB K c m file
  | .clsf c m => clsfB K c m
  | .bm c m => bmB K c m
  | .cmet c m => cloB K (pb K c m) && (cclsB K c && cmetB K c m)
  | .ccls c => cclsB K c
  | .cins c => cinsB K c
  | .cexc c => cexcB K c
  | .fnin c m => PySem.W.fnIn K (He.ma K (He.ga K c) m)
  | .prop c m => cloB K (pa K c m) && (decide (PySem.W.findIn K (.ref (He.ga K c)) m = some (some (.ref (He.ma K (He.ga K c) m)))) && (decide (PySem.W.specialIn K (.ref (He.ma K (He.ga K c) m)) "__get__" = some (some (.builtin "property.__get__"))) &&
    (decide (PySem.W.takesIn K (.ref (He.ma K (He.ga K c) m)) = some true) && match PySem.W.recIn K (He.ma K (He.ga K c) m) "property" with
      | some (.ref _ :: _) => true
      | _ => false)))
  | .ne c => decide (PySem.W.findIn K (.ref (He.ga K c)) "__ne__" = some (some (.builtin "object.__ne__")))
  | .sf c => PySem.W.selfFirst K (He.ga K c)
  | .xno c => _root_.DL.xno K c
  | .xin c f => cexcB K c && (oexB K c && (decide (f ∈ fieldsT c) && (decide (PySem.W.findIn K (.ref (He.ga K c)) f = some none) && (decide (PySem.W.findIn K (.ref (He.ga K c)) "__init__" = some (some (.ref (He.ma K (He.ga K c) "__init__")))) &&
    decide (PySem.W.typeIn K (.ref (He.ma K (He.ga K c) "__init__")) = some (.type "function"))))))
/-- the getter of a property, as the text has it (at_: the class and the name) -/
def getW (K : PySem.W.Frag) (a : Addr) : He.FnW := (K.lookup a).bind fun o => match o.data with
  | .func d => some (d.name, d.qualname, d.params, d.body, d.scope, d.globals, [], d.builtins)
  | _ => none
def getOk (K : PySem.W.Frag) (d : He.DefD) (a : Addr) : Bool := PySem.W.keepIn K (.ref a) && ((K.lookup a).any fun o => match o.data with
  | .func z => PySem.W.codeIn K z.code d.qual && (He.dflB K z.defaults (d.dvs K) && He.kwdB K z.kwdefaults (d.kws K))
  | _ => false)
end DL
namespace Hd
open PySem PySem.Spec PyProof.Rows L2
def top (i : Nat) : Stmt := PySem.Challenge.pw_chairwalks_k63_whole_texts_there_and_bac.main.body.getD i (.Pass ⟨0, 0, 0, 0⟩)
def clsB : Stmt → List Stmt
  | .ClassDef _ _ _ b _ _ _ _ _ _ _ => b
  | _ => []
abbrev s_BadText_init : Stmt := (clsB (top 6)).getD 0 (.Pass ⟨0, 0, 0, 0⟩)
abbrev s_is_number : Stmt := top 8
abbrev s_row_error : Stmt := top 9
abbrev s_is_row : Stmt := top 10
abbrev s_is_way : Stmt := top 11
abbrev s_are_walkers : Stmt := top 12
abbrev s_chairs_after : Stmt := top 14
abbrev s_row_after : Stmt := top 15
abbrev s_rule_stages : Stmt := top 16
abbrev s_each_walk : Stmt := top 17
abbrev s_rule_plan : Stmt := top 18
abbrev s_is_within : Stmt := top 20
abbrev s_are_within : Stmt := top 21
abbrev s_are_wants : Stmt := top 22
abbrev s_parse_number : Stmt := top 29
abbrev s_parse_numbers : Stmt := top 30
abbrev s_numbers_text : Stmt := top 31
abbrev s_corridor_text : Stmt := top 32
abbrev s_parse_walkers : Stmt := top 33
abbrev s_parse_corridor : Stmt := top 34
abbrev s_law_deck : Stmt := top 36
abbrev s_law_draw : Stmt := top 37
abbrev s_law_same : Stmt := top 38
abbrev s_law_state : Stmt := top 39
abbrev s_law_bent : Stmt := top 40
abbrev s_law_accepted_right : Stmt := top 41
abbrev s_law_words : Stmt := top 42
abbrev s_law_words_right : Stmt := top 43
abbrev s_law : Stmt := top 44
def ds_BadText_init : He.DefD := ⟨("BadText", some "__init__"), "__init__", "BadText.__init__", defArgs s_BadText_init, defBody s_BadText_init, defScope s_BadText_init, [], []⟩
def ds_is_number : He.DefD := ⟨("is_number", none), "is_number", "is_number", defArgs s_is_number, defBody s_is_number, defScope s_is_number, [], []⟩
def ds_row_error : He.DefD := ⟨("row_error", none), "row_error", "row_error", defArgs s_row_error, defBody s_row_error, defScope s_row_error, [], []⟩
def ds_is_row : He.DefD := ⟨("is_row", none), "is_row", "is_row", defArgs s_is_row, defBody s_is_row, defScope s_is_row, [], []⟩
def ds_is_way : He.DefD := ⟨("is_way", none), "is_way", "is_way", defArgs s_is_way, defBody s_is_way, defScope s_is_way, [], []⟩
def ds_are_walkers : He.DefD := ⟨("are_walkers", none), "are_walkers", "are_walkers", defArgs s_are_walkers, defBody s_are_walkers, defScope s_are_walkers, [], []⟩
def ds_chairs_after : He.DefD := ⟨("chairs_after", none), "chairs_after", "chairs_after", defArgs s_chairs_after, defBody s_chairs_after, defScope s_chairs_after, [], []⟩
def ds_row_after : He.DefD := ⟨("row_after", none), "row_after", "row_after", defArgs s_row_after, defBody s_row_after, defScope s_row_after, [], []⟩
def ds_rule_stages : He.DefD := ⟨("rule_stages", none), "rule_stages", "rule_stages", defArgs s_rule_stages, defBody s_rule_stages, defScope s_rule_stages, [], []⟩
def ds_each_walk : He.DefD := ⟨("each_walk", none), "each_walk", "each_walk", defArgs s_each_walk, defBody s_each_walk, defScope s_each_walk, [], []⟩
def ds_rule_plan : He.DefD := ⟨("rule_plan", none), "rule_plan", "rule_plan", defArgs s_rule_plan, defBody s_rule_plan, defScope s_rule_plan, [], []⟩
def ds_is_within : He.DefD := ⟨("is_within", none), "is_within", "is_within", defArgs s_is_within, defBody s_is_within, defScope s_is_within, [], []⟩
def ds_are_within : He.DefD := ⟨("are_within", none), "are_within", "are_within", defArgs s_are_within, defBody s_are_within, defScope s_are_within, [], []⟩
def ds_are_wants : He.DefD := ⟨("are_wants", none), "are_wants", "are_wants", defArgs s_are_wants, defBody s_are_wants, defScope s_are_wants, [], []⟩
def ds_parse_number : He.DefD := ⟨("parse_number", none), "parse_number", "parse_number", defArgs s_parse_number, defBody s_parse_number, defScope s_parse_number, [], []⟩
def ds_parse_numbers : He.DefD := ⟨("parse_numbers", none), "parse_numbers", "parse_numbers", defArgs s_parse_numbers, defBody s_parse_numbers, defScope s_parse_numbers, [], []⟩
def ds_numbers_text : He.DefD := ⟨("numbers_text", none), "numbers_text", "numbers_text", defArgs s_numbers_text, defBody s_numbers_text, defScope s_numbers_text, [], []⟩
def ds_corridor_text : He.DefD := ⟨("corridor_text", none), "corridor_text", "corridor_text", defArgs s_corridor_text, defBody s_corridor_text, defScope s_corridor_text, [], []⟩
def ds_parse_walkers : He.DefD := ⟨("parse_walkers", none), "parse_walkers", "parse_walkers", defArgs s_parse_walkers, defBody s_parse_walkers, defScope s_parse_walkers, [], []⟩
def ds_parse_corridor : He.DefD := ⟨("parse_corridor", none), "parse_corridor", "parse_corridor", defArgs s_parse_corridor, defBody s_parse_corridor, defScope s_parse_corridor, [], []⟩
def ds_law_deck : He.DefD := ⟨("_law_deck", none), "_law_deck", "_law_deck", defArgs s_law_deck, defBody s_law_deck, defScope s_law_deck, [], []⟩
def ds_law_draw : He.DefD := ⟨("_law_draw", none), "_law_draw", "_law_draw", defArgs s_law_draw, defBody s_law_draw, defScope s_law_draw, [], []⟩
def ds_law_same : He.DefD := ⟨("_law_same", none), "_law_same", "_law_same", defArgs s_law_same, defBody s_law_same, defScope s_law_same, [], []⟩
def ds_law_state : He.DefD := ⟨("_law_state", none), "_law_state", "_law_state", defArgs s_law_state, defBody s_law_state, defScope s_law_state, [], []⟩
def ds_law_bent : He.DefD := ⟨("_law_bent", none), "_law_bent", "_law_bent", defArgs s_law_bent, defBody s_law_bent, defScope s_law_bent, [], []⟩
def ds_law_accepted_right : He.DefD := ⟨("_law_accepted_right", none), "_law_accepted_right", "_law_accepted_right", defArgs s_law_accepted_right, defBody s_law_accepted_right, defScope s_law_accepted_right, [], []⟩
def ds_law_words : He.DefD := ⟨("_law_words", none), "_law_words", "_law_words", defArgs s_law_words, defBody s_law_words, defScope s_law_words, [], []⟩
def ds_law_words_right : He.DefD := ⟨("_law_words_right", none), "_law_words_right", "_law_words_right", defArgs s_law_words_right, defBody s_law_words_right, defScope s_law_words_right, [], []⟩
def ds_law : He.DefD := ⟨("law", none), "law", "law", defArgs s_law, defBody s_law, defScope s_law, [], []⟩
def fn : List He.DefD := [ds_BadText_init, ds_is_number, ds_row_error, ds_is_row, ds_is_way, ds_are_walkers, ds_chairs_after, ds_row_after, ds_rule_stages, ds_each_walk, ds_rule_plan, ds_is_within, ds_are_within, ds_are_wants, ds_parse_number, ds_parse_numbers, ds_numbers_text, ds_corridor_text, ds_parse_walkers, ds_parse_corridor, ds_law_deck, ds_law_draw, ds_law_same, ds_law_state, ds_law_bent, ds_law_accepted_right, ds_law_words, ds_law_words_right, ds_law]
def fa : List He.Fa := [.glo "is_number", .glo "row_error", .glo "is_row", .glo "is_way", .glo "are_walkers", .glo "chairs_after", .glo "row_after", .glo "rule_stages", .glo "each_walk", .glo "rule_plan", .glo "is_within", .glo "are_within", .glo "are_wants", .glo "parse_number", .glo "parse_numbers", .glo "numbers_text", .glo "corridor_text", .glo "parse_walkers", .glo "parse_corridor", .glo "_law_deck", .glo "_law_draw", .glo "_law_same", .glo "_law_state", .glo "_law_bent", .glo "_law_accepted_right", .glo "_law_words", .glo "_law_words_right", .glo "law", .free "ValueError", .free "abs", .free "all", .free "bool", .free "enumerate", .free "int", .free "isinstance", .free "len", .free "list", .free "max", .free "range", .free "str", .free "sum", .free "tuple", .free "zip", .int "MAX_STATIONS" 10, .int "MAX_CHAIRS" 50, .int "MAX_WALKERS" 40, .int "MAX_WANT" 500, .int "LONGEST" 4, .str "FIGURES" "0123456789", .str "COMMA" ",", .str "DASH" "-", .str "MIDDLE" "for", .glo "BadText"]
def vals : List He.FnW := [ds_BadText_init.val, ds_is_number.val, ds_row_error.val, ds_is_row.val, ds_is_way.val, ds_are_walkers.val, ds_chairs_after.val, ds_row_after.val, ds_rule_stages.val, ds_each_walk.val, ds_rule_plan.val, ds_is_within.val, ds_are_within.val, ds_are_wants.val, ds_parse_number.val, ds_parse_numbers.val, ds_numbers_text.val, ds_corridor_text.val, ds_parse_walkers.val, ds_parse_corridor.val, ds_law_deck.val, ds_law_draw.val, ds_law_same.val, ds_law_state.val, ds_law_bent.val, ds_law_accepted_right.val, ds_law_words.val, ds_law_words_right.val, ds_law.val]
def xf : List DL.Xf := [.ccls "BadText", .xin "BadText" "index"]
def gt : List (He.DefD × (PySem.W.Frag → Addr)) := []
def gvals : List He.FnW := []
abbrev R : PySem.W.OpenRow := PySem.W.OpenLaw.row PySem.Challenge.rw_chairwalks_k63_whole_texts_there_and_bac
abbrev Al2 := He.AlD × He.AlD
def says (K : PySem.W.Frag) : Prop := (K.lookup sysModules).isSome = true ∧ (∀ x ∈ xf, x.ok K = true) ∧ (∀ d ∈ gt, DL.getW K (d.2 K) = d.1.val ∧ DL.getOk K d.1 (d.2 K) = true) ∧ He.obsD fa fn K = (true, vals)
def obsM (K : PySem.W.Frag) : Al2 := (((K.lookup sysModules).isSome && (xf.all (fun x => x.ok K) && gt.all fun d => DL.getOk K d.1 (d.2 K)), gt.map fun d => DL.getW K (d.2 K)), He.obsD fa fn K)
theorem obsM_ok {K : PySem.W.Frag} (h : obsM K = ((true, gvals), (true, vals))) : says K := by
  obtain ⟨h1, h2⟩ := Prod.mk.inj h
  obtain ⟨h3, h4⟩ := Prod.mk.inj h1
  obtain ⟨h5, h6⟩ := He.ba h3
  obtain ⟨h7, h8⟩ := He.ba h6
  refine ⟨h5, List.all_eq_true.mp h7, fun d hd => ⟨?_, List.all_eq_true.mp h8 d hd⟩, h2⟩
  have e : gt.map (fun d => DL.getW K (d.2 K)) = gt.map fun d => d.1.val := h4
  exact List.map_inj_left.mp e d hd
def refsN (g : Addr → Option Obj) (as : List Addr) : List Addr := as.flatMap fun a => match g a with
  | some o => He.refsD o
  | none => []
def fresh {β : Type} (k : Nat → List Addr → β) : List Addr → Nat → List Addr → β
  | [], m, nx => k m nx
  | a :: as, m, nx => match Nat.beq (Nat.land (Nat.shiftRight m a) 1) 0 with
    | false => fresh k as m nx
    | true => HandSHeadRun.frNat (Nat.lor m (Nat.shiftLeft 1 a)) fun m => fresh k as m (a :: nx)
def lvl (g : Addr → Option Obj) : Nat → Nat → List Addr → List Addr → List Addr
  | 0, _, _, acc => acc
  | n + 1, m, fr, acc => fresh (fun m nx => lvl g n m nx (acc ++ nx)) (refsN g fr) m []
def asV (g : Addr → Option Obj) (n : Nat) : List Addr := lvl g n (Nat.shiftLeft 1 mainGlobals) [mainGlobals] [mainGlobals]
def obsMG (g : Addr → Option Obj) : Al2 := obsM (He.frG g (sysModules :: asV g 5))
def hk : PySem.W.Hook where
  α := Al2
  obs := fun s => obsMG s.heap.get?
  val := fun _ => ((true, gvals), (true, vals))
  says := fun _ h => ∃ K : PySem.W.Frag, K.In h ∧ says K
  of := fun _ _ e => ⟨_, He.frG_in, obsM_ok e⟩
  keeps := fun _ _ _ ⟨K, hK, c⟩ k => ⟨K, PySem.W.Frag.In.keeps hK k, c⟩
def ob (s : PySem.W.SharedT) : Al2 := obsMG (HandSHeadRun.getT s)
theorem ob_eq (s : PySem.W.SharedT) : ob s = hk.obs s.abs := by
  have e : HandSHeadRun.getT s = s.abs.heap.get? := funext (HandSHeadRun.getT_eq s)
  unfold ob
  rw [e] <;> rfl
def loose : List PySem.Str := "MAX_STATIONS" :: "MAX_CHAIRS" :: "MAX_WALKERS" :: "MAX_WANT" :: "ChairError" :: "BadText" :: "is_number" :: "row_error" :: "is_row" :: "is_way" :: "are_walkers" :: "chairs_after" :: "row_after" :: "rule_stages" :: "each_walk" :: "rule_plan" :: "is_within" :: "are_within" :: "are_wants" :: "FIGURES" :: "LONGEST" :: "COMMA" :: "DASH" :: "MIDDLE" :: "parse_number" :: "parse_numbers" :: "numbers_text" :: "corridor_text" :: "parse_walkers" :: "parse_corridor" :: "_law_deck" :: "_law_draw" :: "_law_same" :: "_law_state" :: "_law_bent" :: "_law_accepted_right" :: "_law_words" :: "_law_words_right" :: []
abbrev Q : PySem.Program := PySem.W.view R.prog [44]
theorem runA (w : World) (os : PySem.OsState) : (HandSHeadRun.endF (HandSHeadRun.stepQ (HandSHeadRun.denQ HandSHeadRun.tabQ) R.prog w) 4000 R.prog w os).map (fun s => (HandSHeadRun.looksF R.prog (PySem.W.boot_heap w.params) s.abs, HandSHeadRun.seenQ Q loose (PySem.importedModules R.prog.main.body) (fun s => PySem.W.xlAt Q [] s && PySem.W.recOk R.toRowW.records s) s.abs)) = some (true, PySem.W.openGood Q loose) := by kernel_rfl
theorem runB (w : World) (os : PySem.OsState) : (HandSHeadRun.endF (HandSHeadRun.stepQ (HandSHeadRun.denQ HandSHeadRun.tabQ) R.prog w) 4000 R.prog w os).map (fun s => (ob s).1) = some (true, gvals) := by kernel_rfl
theorem runC (w : World) (os : PySem.OsState) : (HandSHeadRun.endF (HandSHeadRun.stepQ (HandSHeadRun.denQ HandSHeadRun.tabQ) R.prog w) 4000 R.prog w os).map (fun s => (ob s).2) = some (true, vals) := by kernel_rfl
theorem glue {σ A B C D : Type} {z : Option σ} {f : σ → A} {g : σ → B} {o : σ → C × D} {a : A} {b : B} {c : C} {d : D} (h1 : z.map (fun s => (f s, g s)) = some (a, b)) (h2 : z.map (fun s => (o s).1) = some c) (h3 : z.map (fun s => (o s).2) = some d) : z.map (fun s => (f s, g s, o s)) = some (a, b, (c, d)) := by
  cases z with
  | none => cases h1
  | some s =>
    obtain ⟨e1, e2⟩ := Prod.mk.inj (Option.some.inj h1)
    have e3 : (o s).1 = c := Option.some.inj h2
    have e4 : (o s).2 = d := Option.some.inj h3
    show some (f s, g s, o s) = _
    rw [e1, e2, ← e3, ← e4]
theorem run (w : World) : HandSHeadRun.RunEq R Q hk ob 4000 loose w := fun os => glue (runA w os) (runB w os) (runC w os)
end Hd
namespace DL
open PySem PySem.Spec PyProof.Rows L2
def f3 (k1 k2 k3 : Bool) (K : PySem.W.Frag) (a b c : Addr) : Nat → Hp → V → V → V → Prop := fun i H x y z => (∀ xs, SqK k1 K H a xs → xs[i]? = some x) ∧ (∀ ys, SqK k2 K H b ys → ys[i]? = some y) ∧ ∀ zs, SqK k3 K H c zs → zs[i]? = some z
end DL
namespace DL
open PySem PySem.Spec PyProof.Rows L2
theorem oex_ok {K : PySem.W.Frag} {c : Str} (h : oexB K c = true) : OexC K (He.ga K c) := by
  obtain ⟨h1, h⟩ := He.ba h
  obtain ⟨h2, h⟩ := He.ba h
  obtain ⟨h3, h⟩ := He.ba h
  obtain ⟨h4, h5⟩ := He.ba h
  refine ⟨?_, of_decide_eq_true h2, of_decide_eq_true h3, of_decide_eq_true h4, h5⟩
  split at h1
  · rename_i t dd cd sl e
    split at h1
    · rename_i C' bm k0 k1 k2 k3 n k5 em es
      obtain ⟨g1, g⟩ := He.ba h1
      obtain ⟨g2, g⟩ := He.ba g
      obtain ⟨g3, g⟩ := He.ba g
      obtain ⟨g4, g⟩ := He.ba g
      obtain ⟨g5, g6⟩ := He.ba g
      have g1 := of_decide_eq_true g1
      have g2 := of_decide_eq_true g2
      have g3 := of_decide_eq_true g3
      subst g1 g2 g3
      obtain ⟨n1, n2, n3, n4, n5, n6, n7, n8, n9, n10, n11⟩ := cd
      simp only at em g4 g5
      subst em g5
      have g4 : n11 = false := by simpa using g4
      subst g4
      have es : sl = #[k0, k1, k2, k3, some (.builtin "ValueError.__new__"), k5] := by
        obtain ⟨l⟩ := sl
        simp only at es
        rw [es]
      subst es
      exact ⟨_, _, _, _, _, _, _, _, _, _, _, _, _, _, _, e, g6⟩
    · cases h1
  · cases h1
/-- what such an __init__ does -/
def spI (K : PySem.W.Frag) (C : Addr) (f : Str) : Sp := fun vs H Q _ => ∃ a y, vs = [.ref a, y] ∧ OexC K C ∧ PySem.W.findIn K (.ref C) f = some none ∧ H a = some (exo a C none) ∧ ∀ dx, H dx = none → dx ≠ a → Q .non (upd (upd H dx (exd dx [(f, y)])) a (exo a C (some dx)))
section
variable {P : Program} {w : World} {K : PySem.W.Frag} {mg : Str → Option Value} {base : Heap} {x qual self y f : Str} {params : Arguments} {scope : Scope} {fi : Addr} {fd : FuncData} {p1 p2 p3 pos : Pos} {C : Addr}
theorem xinit_ok (F : FunD K x qual params [.Assign [.Attribute (.Name self p1) f p2] (.Name y p3) pos] scope [] [] fi fd) (S : FnScope [self, y] [self, y] scope) (hs : scope.names.lookup self = some .local) (hy : scope.names.lookup y = some .local)
    (d1 : (self == ("__debug__" : Str)) = false) (d2 : (self == ("__classdict__" : Str)) = false) (d3 : (y == ("__debug__" : Str)) = false) (d4 : (y == ("__classdict__" : Str)) = false) : FnOk P w K mg base CX0 1 fi fd [self, y] (spI K C f) := by
  refine FunD.ok (CX := CX0) (N := [self, y]) (k := 0) F S (fun vs H Q E h => ?_) fun cdv A outer s H vs Q E hr h => ⟨_, pss_cons (ps_ost (pe_var (i := 0) rfl (.inl hs) d1 d2) (pe_var (i := 1) rfl (.inl hy) d3 d4)) pss_nil, ?_⟩
  · obtain ⟨a, z, e, _⟩ := h
    rw [e]; rfl
  · obtain ⟨a, z, e, o, n, ha, q⟩ := h
    subst e
    exact ⟨z, rfl, .ref a, rfl, a, C, rfl, o, n, .inl ⟨ha, fun dx h1 h2 => q dx h1 h2⟩⟩
end
/-- the class c, made with one argument that it keeps as f -/
structure XCallee (P : Program) (w : World) (K : PySem.W.Frag) (mg : Str → Option Value) (base : Heap) (c f : Str) : Prop where
  ex : ∃ (fI : Addr) (fd : FuncData) (ps : List Str), ps.length = 2 ∧ cexcB K c = true ∧ oexB K c = true ∧ f ∈ fieldsT c ∧ PySem.W.findIn K (.ref (He.ga K c)) f = some none ∧ mg c = some (.ref (He.ga K c)) ∧ PySem.W.findIn K (.ref (He.ga K c)) "__init__" = some (some (.ref fI)) ∧
    PySem.W.typeIn K (.ref fI) = some (.type "function") ∧ Binds K fd ps [] ∧ FnOk P w K mg base CX0 1 fI fd ps (spI K (He.ga K c) f)
theorem xcal {P : Program} {w : World} {K : PySem.W.Frag} {mg : Str → Option Value} {base : Heap} {c f x qual self y : Str} {params : Arguments} {scope : Scope} {fd : FuncData} {p1 p2 p3 pos : Pos} (h : (Xf.xin c f).ok K = true) (gC : mg c = some (.ref (He.ga K c)))
    (F : FunD K x qual params [.Assign [.Attribute (.Name self p1) f p2] (.Name y p3) pos] scope [] [] (He.ma K (He.ga K c) "__init__") fd) (hs : scope.names.lookup self = some .local) (hy : scope.names.lookup y = some .local)
    (d1 : (self == ("__debug__" : Str)) = false) (d2 : (self == ("__classdict__" : Str)) = false) (d3 : (y == ("__debug__" : Str)) = false) (d4 : (y == ("__classdict__" : Str)) = false) (S : FnScope [self, y] [self, y] scope) (hb : Binds K fd [self, y] []) : XCallee P w K mg base c f := by
  obtain ⟨h1, h⟩ := He.ba h
  obtain ⟨h2, h⟩ := He.ba h
  obtain ⟨h3, h⟩ := He.ba h
  obtain ⟨h4, h⟩ := He.ba h
  obtain ⟨h5, h6⟩ := He.ba h
  exact ⟨_, fd, _, rfl, h1, h2, of_decide_eq_true h3, of_decide_eq_true h4, gC, of_decide_eq_true h5, of_decide_eq_true h6, hb, xinit_ok F S hs hy d1 d2 d3 d4⟩
def sRaise0 (c : Str) (ξ : DXs) : DS := fun _ ρ M => ξ ρ c [] M
def sRaise1 (c f : Str) (ξ : DXs) (te : DE) : DS := fun _ ρ M => te ρ M fun x M1 => ξ ρ c [(f, x)] M1
section
variable {X : Cx} {O : Og X.K} {ξ : DXs} {c f : Str} {p pos pos' : Pos} {e : Expr} {te : DE}
theorem z_raise1 {k : Nat} (hr : Room k X.A) (hk : 2 ≤ k) (hc : X.calm = true) (tk : Tk X O ξ) (C : XCallee X.prog X.w X.K X.mg X.base c f) (ha : PE X e (lo X.K O te)) (hg : Gl X c) (hdb : (c == ("__debug__" : Str)) = false)
    (he : starEach [e] X.env = (false, eval e X.env) :: starEach [] X.env) (hpl : (backTo pos (starEach [] X.env)).any (·.1) = false) : PS X (.Raise (some (.Call (.Name c p) [e] [] pos)) none pos') (loS X.K O (sRaise1 c f ξ te)) := by
  obtain ⟨fI, fd, ps, hl, h1, h2, hf, hno, gC, iC, tI, hb, G⟩ := C.ex
  have T := oex_ok h2
  refine PS.imp (ps_raise hc tk (pmk_oex (ds := []) (dvs := []) (k := 1) T iC tI G (hr.mono hk) hb .nil (fun _ _ _ _ _ _ _ z => z.elim) hg gC (pa_cons ha pa_nil he) hdb he hpl)) fun D σ H h => ?_
  obtain ⟨F, M, ρ, Δ, A, h, k⟩ := h
  refine ⟨F, M, ρ, _, A, h, fun v H1 ⟨F1, M1, x, l1, a1, r1, q⟩ => ⟨by show 1 ≤ 1000; decide, fun a ha => ⟨a, v, rfl, T, hno, upd_same, fun dx hdx hne => ⟨rfl, dx, [(f, v)], upd_same, by rw [upd_ne hne, upd_same], ?_, ?_⟩⟩⟩⟩
  · rw [upd_ne hne] at hdx; exact hdx
  · have hd1 : H1 dx = none := by rw [upd_ne hne] at hdx; exact hdx
    have e1 : upd (L2.del (upd (upd (upd H1 a (exo a (He.ga X.K c) none)) dx (exd dx [(f, v)])) a (exo a (He.ga X.K c) (some dx))) a) dx (.xd [(f, v)]) = L2.upd H1 dx (.xd [(f, v)]) := by
      funext b
      by_cases hb : b = dx
      · subst hb; rw [upd_same, upd_same]
      · rw [upd_ne hb, upd_ne hb]
        by_cases hba : b = a
        · subst hba; rw [del_same, ha]
        · rw [del_ne hba, upd_ne hba, upd_ne hb, upd_ne hba]
    rw [e1]
    obtain ⟨a2, l2⟩ := a1.frozen (o := .xd [(f, v)]) hd1
    have lm : Lm X.K F1 H1 M1 (fun b => F1 b ∨ b = dx) (L2.upd H1 dx (.xd [(f, v)])) M1 := ⟨l2, fun b hb nf m => ⟨fun z => z.elim nf fun z => hb (z ▸ hd1), m, upd_ne fun z => hb (z ▸ hd1)⟩⟩
    exact ⟨_, M1, ρ, c, [(f, x)], A.go (l1.trans lm) a2, ⟨h1, rfl, .inr ⟨dx, [(f, v)], rfl, .inr rfl, upd_same, rfl, Reps.cons (r1.mono l2) Reps.nil⟩⟩, q⟩
end
section
variable {P : Program} {w : World} {K : PySem.W.Frag} {mg : Str → Option Value} {base : Heap} {x qual : Str} {params : Arguments} {body : List Stmt} {scope : Scope} {f : Addr} {fd : FuncData} {N ps : List Str} {k n : Nat} {sp : DSp} {t : DXs → DS}
theorem fnRX (F : FunD K x qual params body scope [] [] f fd) (S : FnScope N ps scope) (hn : ps.length = n)
    (hbody : ∀ (cdv : Value) (A : Around) (outer : List Env) (s : Shared) (H : Hp) (E : XK), Room k (A.deeper (envOfC qual scope s.heap.objs.size f cdv)) → (A.deeper (envOfC qual scope s.heap.objs.size f cdv)).guards = some [] →
      ∀ (O : Og K) (ξ : DXs), Tk (cxOf (CX P w) P w K mg base N qual scope f cdv A outer s H E) O ξ → PassesOwn (model P w) (A.deeper (envOfC qual scope s.heap.objs.size f cdv)) (envOfC qual scope s.heap.objs.size f cdv) (cxOf (CX P w) P w K mg base N qual scope f cdv A outer s H E).xe →
      PSs (cxOf (CX P w) P w K mg base N qual scope f cdv A outer s H E) body (loS K O (t ξ)))
    (hsp : ∀ ds M Φ ξ, ds.length = n → sp ds M Φ ξ → t (fun _ => ξ) { nx := fun _ M' => Φ .non M', rt := Φ } (startD N.length ds) M) : FnG P w K mg base (CX P w) (k + 1) f fd ps (loSpX K sp n) := by
  refine FunD.okG F S (fun vs H Q E h => ?_) fun cdv A outer s H vs Q E hr hg h => ?_
  · obtain ⟨_, _, ds, _, _, hl, _, r, _⟩ := h
    rw [← r.length, hl, hn]
  · obtain ⟨F', M, ds, Φ, ξ, hl, am, r, h, kq, kx⟩ := h
    have tk : Tk (cxOf (CX P w) P w K mg base N qual scope f cdv A outer s H E) (Og.at K F' H M) (fun _ => ξ) := Takes.imp (takes_of (X := cxOf (CX P w) P w K mg base N qual scope f cdv A outer s H E) (E := E) (E₁ := fun e' s'' => CX P w outer H s E e' s'') rfl rfl rfl rfl) fun cls d σ H' z => by
      obtain ⟨F2, M2, ρ, c, fs, A2, er, q⟩ := z
      exact kx _ _ _ ⟨F2, M2, c, fs, A2.og, A2.am, er, q⟩
    refine ⟨_, hbody cdv A outer s H E hr hg (Og.at K F' H M) (fun _ => ξ) tk (passes_of rfl), F', M, _, _, ⟨am, repEnv_start r, Lm.refl⟩, hsp ds M Φ ξ hl h, ⟨fun σ' H' F2 M' ρ' l A' q => kq _ _ ⟨F2, M', .non, l, A'.am, rfl, q⟩, fun v H' q => kq v H' q, fun _ _ _ _ _ _ _ q => q.elim, fun _ _ _ _ _ _ _ q => q.elim⟩⟩
end
end DL
namespace DL
open PySem PySem.Spec PyProof.Rows L2
section
variable {X : Cx} {pins : List (Addr × Obj)} {σ : L2.St} {H : Hp} {s : Shared} {a : Addr} {ob : Obj} {fv : Array Value}
/-- the context of the clause's suite -/
abbrev hotX (X : Cx) (a : Addr) (pn : List (Addr × Obj)) : Cx := { X with A := X.A.mark (some (.ref a)), calm := false, pn := pn, xe := fun _ _ => False }
theorem hot_in (I : Inv X pins σ H s) (a : Addr) : Inv (hotX X a (X.pn ++ pins)) [] σ H s := by
  obtain ⟨o1, o2, o3, o4, o5, o6, o7, o8, _, p1, p2, p3, p4, p5, p6, p7, p8, p9⟩ := I.ok
  obtain ⟨_, i1, i2, i3, i4, i5, i6, i7, i8, i9, j1⟩ := I
  exact ⟨⟨o1, o2, o3, o4, o5, o6, o7, o8, fun z => (Bool.noConfusion z), p1, p2, p3, p4, p5, p6, p7, p8, p9⟩, i1, i2, i3, i4, i5, i6, i7, fun p m => i8 p (by rwa [List.append_nil] at m), i9, j1⟩
theorem hot_out (ok : X.Ok) (I : Inv (hotX X a (X.pn ++ pins)) [] σ H s) : Inv X pins σ H s := by
  obtain ⟨_, i1, i2, i3, i4, i5, i6, i7, i8, i9, j1⟩ := I
  exact ⟨ok, i1, i2, i3, i4, i5, i6, i7, fun p m => i8 p (by rw [List.append_nil]; exact m), i9, j1⟩
end
def Og.and {K : PySem.W.Frag} (O1 O2 : Og K) : Og K := ⟨fun F H M => O1.z F H M ∧ O2.z F H M, fun a l => ⟨O1.cl a.1 l, O2.cl a.2 l⟩⟩
def excD (n : Str) (fs : List (Str × D)) : D := .obj .exc n (fs.map (·.1)) (fs.map (·.2))
def goneE (i : Nat) (Δ : DEnds) : DEnds := { nx := fun ρ M => Δ.nx (ρ.set i none) M, rt := Δ.rt, bk := fun ρ M => Δ.bk (ρ.set i none) M, ct := fun ρ M => Δ.ct (ρ.set i none) M }
def sTry (c : Str) (i : Nat) (tb : DXs → DS) (ts : DS) (ξ : DXs) : DS := fun Δ ρ M => tb (fun ρ' n fs M' => if subB n c = true then ts (goneE i Δ) (ρ'.set i (some (excD n fs))) M' else ξ ρ' n fs M') Δ ρ M
theorem exm_at {K : PySem.W.Frag} {n c : Str} (h : cexcB K n = true) (hc : c ∈ clsNames) (hp : presB K c = true) (hi : c ∉ insNames) : PySem.W.exmOne K (.ref (He.ga K n)) (.ref (He.ga K c)) = some (subB n c) := by
  obtain ⟨_, h⟩ := He.ba h
  obtain ⟨_, h⟩ := He.ba h
  obtain ⟨_, h⟩ := He.ba h
  obtain ⟨_, h⟩ := He.ba h
  have := List.all_eq_true.mp h c hc
  rw [hp] at this
  simp only [Bool.not_true, Bool.false_or, Bool.or_eq_true, decide_eq_true_eq] at this
  exact this.elim (fun z => absurd z hi) id
end DL
namespace DL
open PySem PySem.Spec PyProof.Rows L2
open L2H (RoomH)
structure FnQ (P : Program) (w : World) (K : PySem.W.Frag) (mg : Str → Option Value) (base : Heap) (k : Nat) (f : Addr) (fd : FuncData) (ps : List Str) (sp : Sp) : Prop where
  len : ∀ vs H Q E, sp vs H Q E → vs.length = ps.length
  run : ∀ (A : Around) (outer : List Env) (s : Shared) (H : Hp) (args : Args) (us : List Value) (vs : List V) (Q : VK), RoomH k A → A.guards = some [] → Env0 P w K mg base A outer s H →
    BindsTo s fd args (ps.zip us) → Vals vs us → sp vs H Q (fun _ _ _ => False) → codeAny (model P w) A (.call (.ref f) args) (CR CX0 outer P w H s Q (fun _ _ _ => False)) s
section
variable {P : Program} {w : World} {K : PySem.W.Frag} {mg : Str → Option Value} {base : Heap} {j k : Nat} {f : Addr} {fd : FuncData} {ps : List Str} {sp : Sp}
theorem FnQ.mono (F : FnQ P w K mg base j f fd ps sp) (h : j ≤ k) : FnQ P w K mg base k f fd ps sp := ⟨F.len, fun A outer s H args us vs Q hr hg => F.run A outer s H args us vs Q (hr.mono h) hg⟩
end
end DL
namespace DL
open PySem PySem.Spec PyProof.Rows L2
def dCntB (to te : DE) : DE := fun ρ M Φ => to ρ M fun x M1 => (∃ xs, x = .lst xs) ∧ te ρ M1 fun y M2 => ∃ (bs : List Bool) (b : Bool), x = .lst (bs.map D.bl) ∧ y = .bl b ∧ Φ (.int (bs.count b : Nat)) M2
end DL
theorem L2H.RoomH.u64 {k : Nat} {A : PySem.Around} (r : L2H.RoomH k A) : A.units + 64 < PySem.cLine := by have := r.un; omega
namespace DL
open PySem PySem.Spec PyProof.Rows L2
end DL
namespace DL
open PySem PySem.Spec PyProof.Rows
open Builtin Float
def f4 : FormatSpec := { fill := 32, align := 62, width := some 4 }
section
open L2
variable {X : Cx} {x : Str} {p pos apos : Pos} {o e : Expr} {to te : DE}
variable {O : Og X.K}
/-- text * int -/
def rMulS (x y : D) (M : MS) (Φ : DQ) : Prop := match x, y with
  | .str z, .int k => z.length ≤ 1000 ∧ -(2 ^ 63) ≤ k ∧ k ≤ 1000 ∧ Φ (.str (Txt.mul z k)) M
  | _, _ => False
theorem o_mulS : OpR X (binaryOp .Mult) (loR X.K rMulS) := by
  rintro pins s σ H vx vy v u Q I r1 r2 ⟨F, M, x, y, Φ, am, rx, ry, h, k⟩
  cases x with
  | str z =>
    cases y with
    | int i =>
      obtain ⟨h1, h2, h3, q⟩ := h
      obtain rfl : vx = .str z := rx
      obtain rfl : vy = .int i := ry
      obtain ⟨t, rfl⟩ := r1
      obtain ⟨t2, rfl⟩ := r2
      exact SB.mul (mulOk_of 1000 1000 h1 h3 h2 (by decide) (by decide)) fun t' n => ⟨.str _, H, I.tok _, ⟨_, rfl⟩, k _ _ ⟨F, M, .str _, Lm.refl, am, rfl, q⟩⟩
    | _ => exact (show False from h).elim
  | _ => exact (show False from h).elim
end
end DL
namespace DL.EQ
open PySem PySem.SeqAt PySem.W
open MeetsSeq
open AutoSeq1 (wpAny_loadPart')
end DL.EQ
namespace DL
open PySem PySem.Spec PyProof.Rows L2
end DL
namespace DL
open PySem PySem.Spec PyProof.Rows L2
end DL
namespace DL
open PySem PySem.Spec PyProof.Rows L2
end DL
namespace L2
open PySem PySem.Spec PyProof.Rows
end L2
namespace DL
open PySem PySem.Spec PyProof.Rows L2
end DL
namespace DL
open PySem PySem.Spec PyProof.Rows L2
end DL
namespace DL
open PySem PySem.Spec PyProof.Rows L2
end DL
namespace DL
open PySem PySem.Spec PyProof.Rows L2
def sp_law_deck : DSp := fun ds M Φ _ => ∃ ns : List Int, ds = [.scr ns] ∧ ∀ a c M', M.map a = none → M.map c = none → Dk M' a c (2 ^ 40) → Kp a c M M' → Φ (.ref a) M'
def sp_law_draw : DSp := fun ds M Φ _ => ∃ (a c : Addr) (k : Nat) (l : Int), ds = [.ref a, .int l] ∧ 1 ≤ l ∧ l < 2 ^ 30 ∧ Dk M a c (k + 1) ∧ ∀ (r : Int) M', Dk M' a c k → Kp a c M M' → 0 ≤ r → r < l → Φ (.int r) M'
def t_law_deck : DS := (sSeq (sRet (dLstM (dCons (dLcM (dSeq (dSl (dVar 0) dNoPart (dPart (dC (.int 63))))) (.nm 1) [1] dYes (dFn rAbs (dCons (dVar 1) dNil))) (dCons (dC (.int 0)) dNil)))) sNext)
theorem cutD63 (ns : List Int) : cutD (ns.map D.int) none (some 63) = (ns.take 63).map D.int := by
  unfold cutD
  rw [List.length_map, show HT.sIx ns.length 0 none = 0 from HT.sIx_none _ _, show HT.sIx ns.length ns.length (some 63) = min 63 ns.length from HT.sIx_nat ns.length ns.length 63]
  rw [List.drop_zero, Nat.sub_zero, ← List.map_take]
  congr 1
  rw [Nat.min_comm, List.take_eq_take_iff]
  omega
theorem p_law_deck (ds : List D) (M : MS) (Φ : DQ) (h : sp_law_deck ds M Φ noX) : t_law_deck { nx := fun _ M' => Φ .non M', rt := Φ } (startD 2 ds) M := by
  obtain ⟨ns, rfl, h⟩ := h
  simp only [t_law_deck, dLcM, sSeq, sRet, sRetN, sNext, sIf, sAsg, sPar, sPar3, sSetI, sAug, sAugI, sDrop, sBreak, sCont, dOp, dUn, dCons, dNil, dFn, dC, dTup, dLst, dLstM, dIf, dTest, dTru, dAnd, dOr, dNot, dAndV, dOrV, dNotE, dChain, dSl, dNoPart, dPart, dSeq, dEnum, dZip, dRng1, dRng2, dYes, dCall, dMt, dVar, dDic0, dDic1, Pat.put, Pat.puts, List.getElem?_cons_zero, List.getElem?_cons_succ, List.set_cons_zero, List.set_cons_succ, startD, List.map_cons, List.map_nil, List.cons_append, List.nil_append, List.length_cons, List.length_nil, List.replicate_succ, List.replicate_zero, Nat.reduceSub, Nat.reduceAdd, Nat.zero_add, wipeD, keyD, rSl, seqA]
  rw [cutD63]
  refine lcW_map (fun d => match d with | .int i => some (.int (if i < 0 then -i else i)) | d => some d) _ trivial (by simp; omega) (fun d hd => ?_) ?_
  · obtain ⟨i, _, rfl⟩ := List.mem_map.mp hd
    refine ⟨_, rfl, fun acc Nx hl q => ?_⟩
    simp only [sSeq, sRet, sRetN, sNext, sIf, sAsg, sPar, sPar3, sSetI, sAug, sAugI, sDrop, sBreak, sCont, dOp, dUn, dCons, dNil, dFn, dC, dTup, dLst, dLstM, dIf, dTest, dTru, dAnd, dOr, dNot, dAndV, dOrV, dNotE, dChain, dSl, dNoPart, dPart, dSeq, dEnum, dZip, dRng1, dRng2, dYes, dCall, dMt, dVar, dDic0, dDic1, Pat.put, Pat.puts, List.getElem?_cons_zero, List.getElem?_cons_succ, List.set_cons_zero, List.set_cons_succ, startD, List.map_cons, List.map_nil, List.cons_append, List.nil_append, List.length_cons, List.length_nil, List.replicate_succ, List.replicate_zero, Nat.reduceSub, Nat.reduceAdd, Nat.zero_add, wipeD, keyD, rAbs, if_true]
    exact ⟨hl, q⟩
  · intro c hc
    refine ⟨by decide, fun p hp => ?_⟩
    have hpc : p ≠ c := fun e => by subst e; rw [MS.put_same] at hp; cases hp
    rw [MS.put_ne hpc] at hp
    refine h p c _ hp hc ⟨hpc, 0, (ns.take 63).map fun i => if i < 0 then -i else i, MS.put_same, ?_, by decide, by decide, by simp; omega, fun x hx => ?_⟩ fun b h1 h2 h3 => ?_
    · rw [MS.put_ne (Ne.symm hpc), MS.put_same]
      congr 2
      rw [List.filterMap_map, List.map_map]
      exact (List.filterMap_eq_map (f := fun i : Int => D.int (if i < 0 then -i else i)) ▸ rfl)
    · obtain ⟨i, _, rfl⟩ := List.mem_map.mp hx
      split <;> omega
    · rw [MS.put_ne h1, MS.put_ne h2]
theorem draw_out {a c : Addr} {M M' : MS} {n : Int} {cells' : List Int} {k : Nat} (hac : a ≠ c) (hn0 : 0 ≤ n) (hn : n + ((k + 1 : Nat) : Int) ≤ 2 ^ 40) (h1 : M'.map a = some (.lst [.ref c, .int (n + 1)])) (h2 : M'.map c = some (.lst (cells'.map D.int))) (h3 : cells'.length ≤ 63) (h4 : ∀ x ∈ cells', 0 ≤ x)
    (h5 : ∀ b, b ≠ a → b ≠ c → M'.map b = M.map b) : Dk M' a c k ∧ Kp a c M M' :=
  ⟨⟨hac, n + 1, cells', h1, h2, by omega, by omega, h3, h4⟩, fun b x y _ => h5 b x y⟩
end DL
namespace DL
open PySem PySem.Spec PyProof.Rows L2
def numD (d : D) (lo hi : Int) : Bool := match d with
  | .int i => decide (lo ≤ i) && decide (i ≤ hi)
  | _ => false
def sp_is_number : DSp := fun ds M Φ _ => ∃ d lo hi, ds = [d, .int lo, .int hi] ∧ still d = true ∧ Φ (.bl (numD d lo hi)) M
def t_is_number : DS := (sSeq (sRet (dAndV (dFn rIsi (dCons (dVar 0) (dCons (dC (.ty .int)) dNil))) (dAndV (dNotE (dFn rIsi (dCons (dVar 0) (dCons (dC (.ty .bool)) dNil)))) (dChain rLe rLe (dVar 1) (dVar 0) (dVar 2))))) sNext)
theorem run_num {d : D} {lo hi : Int} {M : MS} {Φ : DQ} (hd : still d = true) (q : Φ (.bl (numD d lo hi)) M) :
    dAndV (dFn rIsi (dCons (dVar 0) (dCons (dC (.ty .int)) dNil))) (dAndV (dNotE (dFn rIsi (dCons (dVar 0) (dCons (dC (.ty .bool)) dNil)))) (dChain rLe rLe (dVar 1) (dVar 0) (dVar 2))) [some d, some (.int lo), some (.int hi)] M Φ := by
  simp only [sSeq, sRet, sRetN, sNext, sIf, sAsg, sPar, sPar3, sSetI, sAug, sAugI, sDrop, sBreak, sCont, dOp, dUn, dCons, dNil, dFn, dC, dTup, dLst, dLstM, dIf, dTest, dTru, dAnd, dOr, dNot, dAndV, dOrV, dNotE, dChain, dSl, dNoPart, dPart, dSeq, dEnum, dZip, dRng1, dRng2, dYes, dCall, dMt, dVar, dDic0, dDic1, Pat.put, Pat.puts, List.getElem?_cons_zero, List.getElem?_cons_succ, List.set_cons_zero, List.set_cons_succ, startD, List.map_cons, List.map_nil, List.cons_append, List.nil_append, List.length_cons, List.length_nil, List.replicate_succ, List.replicate_zero, Nat.reduceSub, Nat.reduceAdd, Nat.zero_add, wipeD, keyD, rIsi]
  cases d with
  | int i =>
    simp only [tyD]
    refine ⟨by decide, ?_⟩
    simp only [show isaT .int .int = true from rfl, if_true]
    refine ⟨by decide, ?_⟩
    simp only [show isaT .int .bool = false from rfl, Bool.not_false, if_true, rLe, rCmp]
    by_cases h : lo ≤ i
    · rw [if_pos (decide_eq_true h)]
      simpa only [numD, decide_eq_true h, Bool.true_and] using q
    · rw [if_neg (by simpa using h)]
      simpa only [numD, decide_eq_false h, Bool.false_and] using q
  | bl b =>
    simp only [tyD]
    refine ⟨by decide, ?_⟩
    simp only [show isaT .bool .int = true from rfl, if_true]
    refine ⟨by decide, ?_⟩
    simp only [show isaT .bool .bool = true from rfl, Bool.not_true, Bool.false_eq_true, if_false]
    exact q
  | ref a => simp [still] at hd
  | scr a => simp [still] at hd
  | ty a => simp [still] at hd
  | obj _ _ _ _ => simp [still] at hd
  | _ =>
    simp only [tyD]
    refine ⟨by decide, ?_⟩
    first
      | (rw [show isaT .none .int = false from rfl, if_neg Bool.false_ne_true]; exact q)
      | (rw [show isaT .str .int = false from rfl, if_neg Bool.false_ne_true]; exact q)
      | (rw [show isaT .tuple .int = false from rfl, if_neg Bool.false_ne_true]; exact q)
      | (rw [show isaT .list .int = false from rfl, if_neg Bool.false_ne_true]; exact q)
      | (rw [show isaT .dict .int = false from rfl, if_neg Bool.false_ne_true]; exact q)
theorem p_is_number (ds : List D) (M : MS) (Φ : DQ) (h : sp_is_number ds M Φ noX) : t_is_number { nx := fun _ M' => Φ .non M', rt := Φ } (startD 3 ds) M := by
  obtain ⟨d, lo, hi, rfl, hd, q⟩ := h
  exact run_num hd q
def errs : Int → List D → D
  | _, [] => .non
  | c, x :: xs => if numD x 0 50 = true then errs (c + 1) xs else .tup [.int c, .str "chairs"]
def errD (d : D) : D := match d with
  | .tup xs => if 2 ≤ xs.length ∧ xs.length ≤ 10 then errs 0 xs else .tup [.non, .str "row"]
  | _ => .tup [.non, .str "row"]
def sp_row_error : DSp := fun ds M Φ _ => ∃ d, ds = [d] ∧ still d = true ∧ Φ (errD d) M
def sp_is_row : DSp := fun ds M Φ _ => ∃ d, ds = [d] ∧ still d = true ∧ Φ (.bl (isN (errD d))) M
def t_row_error : DS := (sSeq (sIf (dOr (dNot (dTru (dFn rIsi (dCons (dVar 0) (dCons (dC (.ty .tuple)) dNil))))) (dNot (dTest (dChain rLe rLe (dC (.int 2)) (dFn rLen (dCons (dVar 0) dNil)) (dC (.int 10)))))) (sSeq (sRet (dTup (dCons (dC .non) (dCons (dC (.str "row")) dNil)))) sNext) sNext) (sSeq (sFor (dEnum 0 (dVar 0)) (.tp [(.nm 1), (.nm 2)]) (sSeq (sIf (dNot (dTru (dCall 3 sp_is_number (dCons (dVar 2) (dCons (dC (.int 0)) (dCons (dC (.int 50)) dNil)))))) (sSeq (sRet (dTup (dCons (dVar 1) (dCons (dC (.str "chairs")) dNil)))) sNext) sNext) sNext)) (sSeq (sRet (dC .non)) sNext)))
def t_is_row : DS := (sSeq (sRet (dOp (rIs false) (dCall 1 sp_row_error (dCons (dVar 0) dNil)) (dC .non))) sNext)
theorem stills_get {xs : List D} (h : stills xs = true) : ∀ {x : D}, x ∈ xs → still x = true := by
  induction xs with
  | nil => intro x hx; cases hx
  | cons y ys ih =>
    intro x hx
    simp only [stills, Bool.and_eq_true] at h
    rcases List.mem_cons.mp hx with rfl | hx
    · exact h.1
    · exact ih h.2 hx
theorem p_row_error (ds : List D) (M : MS) (Φ : DQ) (h : sp_row_error ds M Φ noX) : t_row_error { nx := fun _ M' => Φ .non M', rt := Φ } (startD 3 ds) M := by
  obtain ⟨d, rfl, hd, q⟩ := h
  simp only [t_row_error, sSeq, sRet, sRetN, sNext, sIf, sAsg, sPar, sPar3, sSetI, sAug, sAugI, sDrop, sBreak, sCont, dOp, dUn, dCons, dNil, dFn, dC, dTup, dLst, dLstM, dIf, dTest, dTru, dAnd, dOr, dNot, dAndV, dOrV, dNotE, dChain, dSl, dNoPart, dPart, dSeq, dEnum, dZip, dRng1, dRng2, dYes, dCall, dMt, dVar, dDic0, dDic1, Pat.put, Pat.puts, List.getElem?_cons_zero, List.getElem?_cons_succ, List.set_cons_zero, List.set_cons_succ, startD, List.map_cons, List.map_nil, List.cons_append, List.nil_append, List.length_cons, List.length_nil, List.replicate_succ, List.replicate_zero, Nat.reduceSub, Nat.reduceAdd, Nat.zero_add, wipeD, keyD]
  refine rIsi_tup hd ?_
  simp only [truD]
  cases d with
  | tup xs =>
    simp only [isTup, Bool.not_true, Bool.false_eq_true, if_false, rLen, seqA, rLe, rCmp]
    simp only [errD] at q
    have hs : stills xs = true := by simpa only [still] using hd
    by_cases h1 : 2 ≤ xs.length
    · rw [if_pos (decide_eq_true (by omega))]
      by_cases h2 : xs.length ≤ 10
      · rw [if_pos ⟨h1, h2⟩] at q
        simp only [decide_eq_true (show ((xs.length : Nat) : Int) ≤ 10 by omega), Bool.not_true, Bool.false_eq_true, if_false, sFor, dEnum, dVar, List.getElem?_cons_zero, seqA]
        suffices H : ∀ (ys : List D) (c : Int) (r1 r2 : Option D), stills ys = true → Φ (errs c ys) M → forW (fun _ => True) (.tp [.nm 1, .nm 2]) (sSeq (sIf (dNot (dTru (dCall 3 sp_is_number (dCons (dVar 2) (dCons (dC (.int 0)) (dCons (dC (.int 50)) dNil)))))) (sSeq (sRet (dTup (dCons (dVar 1) (dCons (dC (.str "chairs")) dNil)))) sNext) sNext) sNext)
          { nx := fun ρ M => Φ .non M, rt := Φ } (enumD c ys) [some (.tup xs), r1, r2] M by
          exact H xs 0 none none hs q
        intro ys
        induction ys with
        | nil => intro c r1 r2 _ q; exact ⟨trivial, q⟩
        | cons y ys ih =>
          intro c r1 r2 hy q
          simp only [stills, Bool.and_eq_true] at hy
          refine ⟨trivial, ?_⟩
          simp only [sSeq, sRet, sRetN, sNext, sIf, sAsg, sPar, sPar3, sSetI, sAug, sAugI, sDrop, sBreak, sCont, dOp, dUn, dCons, dNil, dFn, dC, dTup, dLst, dLstM, dIf, dTest, dTru, dAnd, dOr, dNot, dAndV, dOrV, dNotE, dChain, dSl, dNoPart, dPart, dSeq, dEnum, dZip, dRng1, dRng2, dYes, dCall, dMt, dVar, dDic0, dDic1, Pat.put, Pat.puts, List.getElem?_cons_zero, List.getElem?_cons_succ, List.set_cons_zero, List.set_cons_succ, startD, List.map_cons, List.map_nil, List.cons_append, List.nil_append, List.length_cons, List.length_nil, List.replicate_succ, List.replicate_zero, Nat.reduceSub, Nat.reduceAdd, Nat.zero_add, wipeD, keyD]
          refine ⟨trivial, y, 0, 50, rfl, hy.1, ?_⟩
          simp only [truD]
          simp only [errs] at q
          cases hn : numD y 0 50 with
          | true => rw [hn, if_pos rfl] at q; rw [if_neg (by decide)]; exact ih _ _ _ hy.2 q
          | false => rw [hn, if_neg Bool.false_ne_true] at q; rw [if_pos (by decide)]; exact ⟨by decide, q⟩
      · rw [if_neg (fun z => h2 z.2)] at q
        simp only [decide_eq_false (show ¬ ((xs.length : Nat) : Int) ≤ 10 by omega), Bool.not_false, if_true]
        exact ⟨by decide, q⟩
    · rw [if_neg (fun z => h1 z.1)] at q
      rw [if_neg (by simp; omega)]
      simp only [Bool.not_false, if_true]
      exact ⟨by decide, q⟩
  | _ => exact ⟨by decide, q⟩
theorem p_is_row (ds : List D) (M : MS) (Φ : DQ) (h : sp_is_row ds M Φ noX) : t_is_row { nx := fun _ M' => Φ .non M', rt := Φ } (startD 1 ds) M := by
  obtain ⟨d, rfl, hd, q⟩ := h
  simp only [t_is_row, sSeq, sRet, sRetN, sNext, sIf, sAsg, sPar, sPar3, sSetI, sAug, sAugI, sDrop, sBreak, sCont, dOp, dUn, dCons, dNil, dFn, dC, dTup, dLst, dLstM, dIf, dTest, dTru, dAnd, dOr, dNot, dAndV, dOrV, dNotE, dChain, dSl, dNoPart, dPart, dSeq, dEnum, dZip, dRng1, dRng2, dYes, dCall, dMt, dVar, dDic0, dDic1, Pat.put, Pat.puts, List.getElem?_cons_zero, List.getElem?_cons_succ, List.set_cons_zero, List.set_cons_succ, startD, List.map_cons, List.map_nil, List.cons_append, List.nil_append, List.length_cons, List.length_nil, List.replicate_succ, List.replicate_zero, Nat.reduceSub, Nat.reduceAdd, Nat.zero_add, wipeD, keyD]
  exact ⟨trivial, d, rfl, hd, q⟩
theorem rangeD_succ (lo : Int) (n : Nat) : rangeD lo (n + 1) = .int lo :: rangeD (lo + 1) n := by
  unfold rangeD
  rw [List.range_succ_eq_map, List.map_cons, List.map_map]
  congr 1
  · simp
  · refine List.map_congr_left fun i _ => ?_
    simp only [Function.comp]
    congr 1
    omega
theorem rangeD_length (lo : Int) (n : Nat) : (rangeD lo n).length = n := by simp [rangeD]
end DL
namespace DL
open PySem PySem.Spec PyProof.Rows L2
def intsIn (ns : List Int) (hi : Int) : Prop := ∀ n ∈ ns, 0 ≤ n ∧ n ≤ hi
end DL
namespace DL
open PySem PySem.Spec PyProof.Rows L2
def fineB (d : D) (n w : Nat) : Bool := still d && decide (dep d ≤ n) && okl d && decide (wt d ≤ w) && (!hasDic d || noLst d)
structure FL (xs : List D) (n w : Nat) : Prop where
  st : stills xs = true
  dp : deps xs ≤ n
  ok : okls xs = true
  wt : wts xs ≤ w
  dc : hasDics xs = true → noLsts xs = true
structure Ne (xs : List D) : Prop where
  nl : noLsts xs = true
  nd : hasDics xs = false
theorem FL.mono {xs : List D} {n w n' w' : Nat} (h : FL xs n w) (hn : n ≤ n') (hw : w ≤ w') : FL xs n' w' := ⟨h.st, Nat.le_trans h.dp hn, h.ok, Nat.le_trans h.wt hw, h.dc⟩
theorem FL.tup {xs : List D} {n w : Nat} (h : FL xs n w) : fineB (.tup xs) (n + 1) (w + 3) = true := by
  unfold fineB
  simp only [still, dep, okl, DL.wt, hasDic, noLst, h.st, h.ok, Bool.and_eq_true, decide_eq_true_eq, Bool.or_eq_true, Bool.not_eq_true']
  refine ⟨⟨⟨⟨trivial, decide_eq_true (by have := h.dp; omega)⟩, trivial⟩, decide_eq_true (by have := h.wt; omega)⟩, ?_⟩
  cases e : hasDics xs with
  | false => exact .inl rfl
  | true => exact .inr (h.dc e)
theorem FL.lst {xs : List D} {n w : Nat} (h : FL xs n w) (hd : hasDics xs = false) : fineB (.lst xs) (n + 1) (w + 3) = true := by
  unfold fineB
  simp only [still, dep, okl, DL.wt, hasDic, h.st, h.ok, hd, Bool.and_eq_true, decide_eq_true_eq, Bool.or_eq_true, Bool.not_eq_true']
  exact ⟨⟨⟨⟨trivial, decide_eq_true (by have := h.dp; omega)⟩, trivial⟩, decide_eq_true (by have := h.wt; omega)⟩, .inl trivial⟩
theorem small_log {n : Int} (h0 : 0 ≤ n) (h : n < 2 ^ 200) : n.natAbs.log2 < 1920 := by
  by_cases z : n.natAbs = 0
  · rw [z]; decide
  · have : n.natAbs < 2 ^ 1920 := Nat.lt_of_lt_of_le (show n.natAbs < 2 ^ 200 by omega) (Nat.pow_le_pow_right (by decide) (by decide))
    exact (Nat.log2_lt z).mpr this
theorem FL.ints {h : Int} (hh : h < 2 ^ 200) : ∀ {ns : List Int}, intsIn ns h → FL (ns.map D.int) 0 (1923 * ns.length) ∧ Ne (ns.map D.int)
  | [], _ => ⟨⟨rfl, Nat.le_refl _, rfl, Nat.le_refl _, fun _ => rfl⟩, ⟨rfl, rfl⟩⟩
  | n :: ns, q => by
    obtain ⟨i1, i2⟩ := FL.ints hh (ns := ns) fun x hx => q x (List.mem_cons_of_mem _ hx)
    obtain ⟨q1, q2⟩ := q n (List.mem_cons_self ..)
    refine ⟨⟨by simp only [List.map_cons, stills, still, i1.st, Bool.and_self], ?_, ?_, ?_, ?_⟩, ⟨?_, ?_⟩⟩
    · simp only [List.map_cons, deps, dep]; have := i1.dp; omega
    · simp only [List.map_cons, okls, okl, i1.ok, Bool.and_true, decide_eq_true_eq]; exact small_log q1 (by omega)
    · simp only [List.map_cons, wts, DL.wt, List.length_cons]; have := i1.wt; omega
    · intro _; simp only [List.map_cons, noLsts, noLst, i2.nl, Bool.and_self]
    · simp only [List.map_cons, noLsts, noLst, i2.nl, Bool.and_self]
    · simp only [List.map_cons, hasDics, hasDic, i2.nd, Bool.or_self]
theorem fineB_int {i : Int} (h0 : -(2 ^ 200) < i) (h1 : i < 2 ^ 200) : fineB (.int i) 0 1921 = true := by
  have : i.natAbs.log2 < 1920 := by
    have := small_log (n := i.natAbs) (by omega) (by omega)
    simpa using this
  simp [fineB, still, dep, okl, wt, hasDic, this]
end DL
namespace DL
open PySem PySem.Spec PyProof.Rows L2
theorem intsIn.sub {ns ms : List Int} {h : Int} (q : intsIn ns h) (s : ∀ x ∈ ms, x ∈ ns) : intsIn ms h := fun x hx => q x (s x hx)
end DL
namespace DL
open PySem PySem.Spec PyProof.Rows L2
theorem fm_some {α β : Type} (f : α → β) : ∀ l : List α, l.filterMap (fun d => some (f d)) = l.map f
  | [] => rfl
  | x :: l => by rw [List.filterMap_cons, List.map_cons, fm_some f l]
def isW (st : Int) (d : D) : Bool := match d with
  | .tup xs => (match xs with
    | [x, y] => numD y 1 (st - 1) && (match y with
      | .int j => numD x 0 (j - 1)
      | _ => false)
    | _ => false)
  | _ => false
def areW (st : Int) (d : D) : Bool := match d with
  | .tup ws => decide (ws.length ≤ 40) && ws.all (isW st)
  | _ => false
def sp_is_way : DSp := fun ds M Φ _ => ∃ st d, ds = [.int st, d] ∧ still d = true ∧ Φ (.bl (isW st d)) M
def sp_are_walkers : DSp := fun ds M Φ _ => ∃ st d, ds = [.int st, d] ∧ still d = true ∧ Φ (.bl (areW st d)) M
def t_is_way : DS := (sSeq (sIf (dOr (dNot (dTru (dFn rIsi (dCons (dVar 1) (dCons (dC (.ty .tuple)) dNil))))) (dTest (dOp rNe (dFn rLen (dCons (dVar 1) dNil)) (dC (.int 2))))) (sSeq (sRet (dC (.bl false))) sNext) sNext) (sSeq (sRet (dAndV (dCall 3 sp_is_number (dCons (dOp rIx (dVar 1) (dC (.int 1))) (dCons (dC (.int 1)) (dCons (dOp rSub (dVar 0) (dC (.int 1))) dNil)))) (dCall 3 sp_is_number (dCons (dOp rIx (dVar 1) (dC (.int 0))) (dCons (dC (.int 0)) (dCons (dOp rSub (dOp rIx (dVar 1) (dC (.int 1))) (dC (.int 1))) dNil)))))) sNext))
def t_are_walkers : DS := (sSeq (sIf (dOr (dNot (dTru (dFn rIsi (dCons (dVar 1) (dCons (dC (.ty .tuple)) dNil))))) (dTest (dOp rGt (dFn rLen (dCons (dVar 1) dNil)) (dC (.int 40))))) (sSeq (sRet (dC (.bl false))) sNext) sNext) (sSeq (sRet (dFn rAll (dCons (dLc (dSeq (dVar 1)) (.nm 2) [2] dYes (dCall 2 sp_is_way (dCons (dVar 0) (dCons (dVar 2) dNil)))) dNil))) sNext))
theorem p_is_way (ds : List D) (M : MS) (Φ : DQ) (h : sp_is_way ds M Φ noX) : t_is_way { nx := fun _ M' => Φ .non M', rt := Φ } (startD 2 ds) M := by
  obtain ⟨st, d, rfl, hd, q⟩ := h
  simp only [t_is_way, sSeq, sRet, sRetN, sNext, sIf, sAsg, sPar, sPar3, sSetI, sAug, sAugI, sDrop, sBreak, sCont, dOp, dUn, dCons, dNil, dFn, dC, dTup, dLst, dLstM, dIf, dTest, dTru, dAnd, dOr, dNot, dAndV, dOrV, dNotE, dChain, dSl, dNoPart, dPart, dSeq, dEnum, dZip, dRng1, dRng2, dYes, dCall, dMt, dVar, dDic0, dDic1, Pat.put, Pat.puts, List.getElem?_cons_zero, List.getElem?_cons_succ, List.set_cons_zero, List.set_cons_succ, startD, List.map_cons, List.map_nil, List.cons_append, List.nil_append, List.length_cons, List.length_nil, List.replicate_succ, List.replicate_zero, Nat.reduceSub, Nat.reduceAdd, Nat.zero_add, wipeD, keyD]
  refine rIsi_tup hd ?_
  simp only [truD]
  cases d with
  | tup xs =>
    simp only [isTup, Bool.not_true, Bool.false_eq_true, if_false, rLen, seqA]
    refine rNe_i ?_
    dsimp only
    have hs : stills xs = true := by simpa only [still] using hd
    match xs, hs, q with
    | [x, y], hs, q =>
      simp only [stills, Bool.and_eq_true] at hs
      simp only [List.length_cons, List.length_nil]
      rw [if_neg (by decide)]
      refine rIx_seq (x := .tup [x, y]) rfl (d := y) (by rw [at1]; rfl) (rSub_i ⟨trivial, y, 1, st - 1, rfl, hs.2.1, ?_⟩)
      simp only [isW] at q
      cases hy : numD y 1 (st - 1) with
      | false =>
        rw [hy, Bool.false_and] at q
        simp only [Bool.false_eq_true, if_false]
        exact q
      | true =>
        rw [hy, Bool.true_and] at q
        simp only [if_true]
        cases y with
        | int j =>
          refine rIx_seq (x := .tup [x, .int j]) rfl (d := x) (by rw [at0]; rfl) (rIx_seq (x := .tup [x, .int j]) rfl (d := .int j) (by rw [at1]; rfl) (rSub_i ⟨trivial, x, 0, j - 1, rfl, hs.1, q⟩))
        | _ => simp [numD] at hy
    | [], _, q =>
      rw [if_pos (by decide)]
      exact q
    | [x], _, q =>
      rw [if_pos (by simp)]
      exact q
    | x :: y :: z :: r, _, q =>
      rw [if_pos (by simp; omega)]
      exact q
  | _ => exact q
theorem p_are_walkers (ds : List D) (M : MS) (Φ : DQ) (h : sp_are_walkers ds M Φ noX) : t_are_walkers { nx := fun _ M' => Φ .non M', rt := Φ } (startD 3 ds) M := by
  obtain ⟨st, d, rfl, hd, q⟩ := h
  simp only [t_are_walkers, sSeq, sRet, sRetN, sNext, sIf, sAsg, sPar, sPar3, sSetI, sAug, sAugI, sDrop, sBreak, sCont, dOp, dUn, dCons, dNil, dFn, dC, dTup, dLst, dLstM, dIf, dTest, dTru, dAnd, dOr, dNot, dAndV, dOrV, dNotE, dChain, dSl, dNoPart, dPart, dSeq, dEnum, dZip, dRng1, dRng2, dYes, dCall, dMt, dVar, dDic0, dDic1, Pat.put, Pat.puts, List.getElem?_cons_zero, List.getElem?_cons_succ, List.set_cons_zero, List.set_cons_succ, startD, List.map_cons, List.map_nil, List.cons_append, List.nil_append, List.length_cons, List.length_nil, List.replicate_succ, List.replicate_zero, Nat.reduceSub, Nat.reduceAdd, Nat.zero_add, wipeD, keyD]
  refine rIsi_tup hd ?_
  simp only [truD]
  cases d with
  | tup ws =>
    simp only [isTup, Bool.not_true, Bool.false_eq_true, if_false, rLen, seqA, rGt, rCmp]
    have hs : stills ws = true := by simpa only [still] using hd
    simp only [areW] at q
    by_cases hl : ws.length ≤ 40
    · rw [if_neg (by simp; omega)]
      rw [decide_eq_true hl, Bool.true_and] at q
      simp only [dLc, sSeq, sRet, sRetN, sNext, sIf, sAsg, sPar, sPar3, sSetI, sAug, sAugI, sDrop, sBreak, sCont, dOp, dUn, dCons, dNil, dFn, dC, dTup, dLst, dLstM, dIf, dTest, dTru, dAnd, dOr, dNot, dAndV, dOrV, dNotE, dChain, dSl, dNoPart, dPart, dSeq, dEnum, dZip, dRng1, dRng2, dYes, dCall, dMt, dVar, dDic0, dDic1, Pat.put, Pat.puts, List.getElem?_cons_zero, List.getElem?_cons_succ, List.set_cons_zero, List.set_cons_succ, startD, List.map_cons, List.map_nil, List.cons_append, List.nil_append, List.length_cons, List.length_nil, List.replicate_succ, List.replicate_zero, Nat.reduceSub, Nat.reduceAdd, Nat.zero_add, wipeD, keyD, seqA]
      refine lcW_map (fun d => some (.bl (isW st d))) ws trivial (by omega) (fun x hx => ⟨_, rfl, fun acc Nx hn k => ?_⟩) ?_
      · simp only [sSeq, sRet, sRetN, sNext, sIf, sAsg, sPar, sPar3, sSetI, sAug, sAugI, sDrop, sBreak, sCont, dOp, dUn, dCons, dNil, dFn, dC, dTup, dLst, dLstM, dIf, dTest, dTru, dAnd, dOr, dNot, dAndV, dOrV, dNotE, dChain, dSl, dNoPart, dPart, dSeq, dEnum, dZip, dRng1, dRng2, dYes, dCall, dMt, dVar, dDic0, dDic1, Pat.put, Pat.puts, List.getElem?_cons_zero, List.getElem?_cons_succ, List.set_cons_zero, List.set_cons_succ, startD, List.map_cons, List.map_nil, List.cons_append, List.nil_append, List.length_cons, List.length_nil, List.replicate_succ, List.replicate_zero, Nat.reduceSub, Nat.reduceAdd, Nat.zero_add, wipeD, keyD, if_true]
        exact ⟨trivial, st, x, rfl, stills_get hs hx, hn, k⟩
      · have e : ws.filterMap (fun d => some (D.bl (isW st d))) = (ws.map (isW st)).map D.bl := by
          rw [fm_some, List.map_map]
          rfl
        rw [e]
        simp only [rAll, seqL, Option.bind_some, asBls_map]
        have e2 : (ws.map (isW st)).all id = ws.all (isW st) := by rw [List.all_map]; rfl
        rw [e2]
        exact q
    · rw [if_pos (by simp; omega)]
      rw [decide_eq_false hl, Bool.false_and] at q
      exact q
  | _ => exact q
end DL
namespace DL
open PySem PySem.Spec PyProof.Rows L2
def wayD (w : Int × Int) : D := .tup [.int w.1, .int w.2]
def waysIn (ws : List (Int × Int)) (st : Int) : Prop := ∀ w ∈ ws, 0 ≤ w.1 ∧ w.1 < w.2 ∧ w.2 ≤ st - 1
theorem Kp.keep {a c p : Addr} {M M' : MS} {o : MO} (h : Kp a c M M') (pa : p ≠ a) (pc : p ≠ c) (e : M.map p = some o) : M'.map p = some o := (h p pa pc (by rw [e]; simp)).trans e
theorem Kp.put {a c p : Addr} {M0 M : MS} {o : MO} (h : Kp a c M0 M) (hp : M0.map p = none) : Kp a c M0 (M.put p o) := fun b h1 h2 h3 => by
  rw [MS.put_ne (fun e => by subst e; exact h3 hp)]
  exact h b h1 h2 h3
end DL
namespace DL
open PySem PySem.Spec PyProof.Rows L2
def AllF (xs : List D) (n w : Nat) : Prop := ∀ x ∈ xs, fineB x n w = true ∧ noLst x = true ∧ hasDic x = false
theorem AllF.sub {xs ys : List D} {n w : Nat} (h : AllF xs n w) (s : ∀ y ∈ ys, y ∈ xs) : AllF ys n w := fun y hy => h y (s y hy)
theorem rIx_any {L : List D} {r : Int} {M : MS} {Φ : DQ} (h0 : 0 ≤ r) (h1 : r < L.length) (q : ∀ d ∈ L, Φ d M) : rIx (.lst L) (.int r) M Φ := by
  have hr : r.toNat < L.length := by omega
  exact rIx_seq (x := .lst L) rfl (d := L[r.toNat]) (by rw [atI_t _ _ h0, List.getElem?_eq_getElem hr]) (q _ (List.getElem_mem hr))
end DL
namespace DL
open PySem PySem.Spec PyProof.Rows L2
def Ext (M M' : MS) : Prop := ∀ b, M.map b ≠ none → M'.map b = M.map b
theorem Ext.refl {M : MS} : Ext M M := fun _ _ => rfl
theorem Ext.trans {M M1 M2 : MS} (h : Ext M M1) (h' : Ext M1 M2) : Ext M M2 := fun b hb => by rw [h' b (by rw [h b hb]; exact hb), h b hb]
theorem Ext.new {M : MS} {p : Addr} {o : MO} (hp : M.map p = none) : Ext M (M.put p o) := fun b hb => MS.put_ne fun e => by subst e; exact hb hp
theorem Ext.put {M0 M : MS} {p : Addr} {o : MO} (h : Ext M0 M) (hp : M0.map p = none) : Ext M0 (M.put p o) := fun b hb => by
  rw [MS.put_ne (fun e => by subst e; exact hb hp)]; exact h b hb
theorem Ext.kp {M M' : MS} {a c : Addr} (h : Ext M M') : Kp a c M M' := fun b _ _ hb => h b hb
theorem Ext.dk {M M' : MS} {a c : Addr} {k : Nat} (h : Ext M M') (hD : Dk M a c k) : Dk M' a c k := by
  obtain ⟨n, cells, h1, h2, h3⟩ := hD.ex
  exact ⟨hD.ne, n, cells, by rw [h a (by rw [h1]; simp)]; exact h1, by rw [h c (by rw [h2]; simp)]; exact h2, h3⟩
def step (ns : List Int) (s : Nat) : List Int := (ns.set s (ns.getD s 0 - 1)).set (s + 1) (ns.getD (s + 1) 0 + 1)
def after : List Int → Bool → List Nat → List Int × Bool
  | ns, ok, [] => (ns, ok)
  | ns, ok, s :: ss => after (step ns s) (ok && decide (0 < ns.getD s 0)) ss
def stD (ss : List Nat) : D := .tup (ss.map fun s => D.int (s : Nat))
def stOk (n : Nat) (ss : List Nat) : Prop := ∀ s ∈ ss, s + 1 < n
theorem step_len (ns : List Int) (s : Nat) : (step ns s).length = ns.length := by simp [step]
theorem after_len : ∀ (ss : List Nat) (ns : List Int) (ok : Bool), (after ns ok ss).1.length = ns.length
  | [], _, _ => rfl
  | s :: ss, ns, ok => by rw [after, after_len ss, step_len]
theorem step_get {ns : List Int} {s : Nat} (h : s + 1 < ns.length) (i : Nat) : (step ns s).getD i 0 = ns.getD i 0 - (if i = s then 1 else 0) + (if i = s + 1 then 1 else 0) := by
  unfold step
  simp only [List.getD_eq_getElem?_getD, List.getElem?_set, List.length_set]
  by_cases h1 : i = s
  · subst h1
    rw [if_neg (by omega), if_pos rfl, if_pos (by omega), if_pos rfl, if_neg (by omega)]
    simp
  · by_cases h2 : i = s + 1
    · subst h2
      rw [if_pos rfl, if_pos h, if_neg (by omega), if_pos rfl]
      simp
    · rw [if_neg (by omega), if_neg (by omega), if_neg h1, if_neg h2]
      simp
theorem get_ints {ns : List Int} {i : Nat} (h : i < ns.length) : (ns.map D.int)[i]? = some (.int (ns.getD i 0)) := by
  rw [List.getElem?_map, List.getElem?_eq_getElem h]
  simp [List.getD_eq_getElem?_getD, h]
theorem set_ints (ns : List Int) (i : Nat) (x : Int) : (ns.map D.int).set i (.int x) = (ns.set i x).map D.int := by rw [List.map_set]
def sp_chairs_after : DSp := fun ds M Φ _ => ∃ (ns : List Int) (ss : List Nat), ds = [.tup (ns.map D.int), stD ss] ∧ stOk ns.length ss ∧ ∀ M', Ext M M' → Φ (.tup [.tup ((after ns true ss).1.map D.int), .bl (after ns true ss).2]) M'
def t_chairs_after : DS := (sSeq (sPar 2 3 (dCons (dFn rListM (dCons (dVar 0) dNil)) (dCons (dC (.bl true)) dNil))) (sSeq (sFor (dSeq (dVar 1)) (.nm 4) (sSeq (sAsg (dAndV (dVar 3) (dOp rGt (dOp rIx (dVar 2) (dVar 4)) (dC (.int 0)))) (.nm 3)) (sSeq (sAugI (dVar 2) (dVar 4) (dC (.int 1)) (fun i j => i - j)) (sSeq (sAugI (dVar 2) (dOp rAdd (dVar 4) (dC (.int 1))) (dC (.int 1)) (fun i j => i + j)) sNext)))) (sSeq (sRet (dTup (dCons (dFn rTuple (dCons (dVar 2) dNil)) (dCons (dVar 3) dNil)))) sNext)))
theorem rGet_ref {M : MS} {Φ : DQ} {p : Addr} {ds : List D} {i : Int} {d : D} (h : M.map p = some (.lst ds)) (e : atI ds i = some d) (q : Φ d M) : rGet (.ref p) (.int i) M Φ := by
  unfold rGet
  simp only [seqL, h, e]
  exact q
theorem rIp_i {f : Int → Int → Int} {i j : Int} {M : MS} {Φ : DQ} (q : Φ (.int (f i j)) M) : rIp f (.int i) (.int j) M Φ := q
theorem atI_ints {ns : List Int} {s : Nat} (h : s < ns.length) : atI (ns.map D.int) (s : Nat) = some (.int (ns.getD s 0)) := by rw [atI_n, get_ints h]
theorem ixN_nat' {n s : Nat} (h : s < n) : ixN n (s : Nat) = some s := by
  have := ixN_t n (s : Nat) (by omega) (by omega)
  simpa using this
/-- found[s] -= 1; found[s + 1] += 1 -/
theorem run_move {M : MS} {Q : MS → Prop} {p : Addr} {ns : List Int} {s : Nat} (h : M.map p = some (.lst (ns.map D.int))) (hs : s + 1 < ns.length) (q : ∀ M', M'.map p = some (.lst ((step ns s).map D.int)) → (∀ b, b ≠ p → M'.map b = M.map b) → Q M') :
    rGet (.ref p) (.int s) M fun y M3 => rIp (fun i j => i - j) y (.int 1) M3 fun w M5 => rSet (.ref p) (.int s) w M5 fun M6 => rAdd (.int s) (.int 1) M6 fun z M7 => rGet (.ref p) z M7 fun y M8 => rIp (fun i j => i + j) y (.int 1) M8 fun w M9 => rSet (.ref p) z w M9 Q := by
  refine rGet_ref h (atI_ints (by omega)) (rIp_i (rSet_ref h (by rw [List.length_map]; exact ixN_nat' (by omega)) (rAdd_i ?_)))
  rw [set_ints]
  have e1 : (M.put p (.lst ((ns.set s (ns.getD s 0 - 1)).map D.int))).map p = some (.lst ((ns.set s (ns.getD s 0 - 1)).map D.int)) := MS.put_same
  have hs1 : ((s : Int) + 1) = ((s + 1 : Nat) : Int) := by omega
  rw [hs1]
  refine rGet_ref e1 (atI_ints (by rw [List.length_set]; exact hs)) (rIp_i (rSet_ref e1 (by rw [List.length_map, List.length_set]; exact ixN_nat' hs) ?_))
  rw [set_ints]
  refine q _ ?_ fun b hb => by rw [MS.put_ne hb, MS.put_ne hb]
  rw [MS.put_same]
  unfold step
  have e2 : (ns.set s (ns.getD s 0 - 1)).getD (s + 1) 0 = ns.getD (s + 1) 0 := by
    simp only [List.getD_eq_getElem?_getD, List.getElem?_set]
    rw [if_neg (by omega)]
  rw [e2]
theorem p_chairs_after (ds : List D) (M : MS) (Φ : DQ) (h : sp_chairs_after ds M Φ noX) : t_chairs_after { nx := fun _ M' => Φ .non M', rt := Φ } (startD 5 ds) M := by
  obtain ⟨ns, ss, rfl, hss, h⟩ := h
  simp only [t_chairs_after, sSeq, sRet, sRetN, sNext, sIf, sAsg, sPar, sPar3, sSetI, sAug, sAugI, sDrop, sBreak, sCont, dOp, dUn, dCons, dNil, dFn, dC, dTup, dLst, dLstM, dIf, dTest, dTru, dAnd, dOr, dNot, dAndV, dOrV, dNotE, dChain, dSl, dNoPart, dPart, dSeq, dEnum, dZip, dRng1, dRng2, dYes, dCall, dMt, dVar, dDic0, dDic1, Pat.put, Pat.puts, List.getElem?_cons_zero, List.getElem?_cons_succ, List.set_cons_zero, List.set_cons_succ, startD, List.map_cons, List.map_nil, List.cons_append, List.nil_append, List.length_cons, List.length_nil, List.replicate_succ, List.replicate_zero, Nat.reduceSub, Nat.reduceAdd, Nat.zero_add, wipeD, keyD, rListM, seqA]
  intro p hp
  simp only [sFor, dSeq, sSeq, sRet, sRetN, sNext, sIf, sAsg, sPar, sPar3, sSetI, sAug, sAugI, sDrop, sBreak, sCont, dOp, dUn, dCons, dNil, dFn, dC, dTup, dLst, dLstM, dIf, dTest, dTru, dAnd, dOr, dNot, dAndV, dOrV, dNotE, dChain, dSl, dNoPart, dPart, dSeq, dEnum, dZip, dRng1, dRng2, dYes, dCall, dMt, dVar, dDic0, dDic1, Pat.put, Pat.puts, List.getElem?_cons_zero, List.getElem?_cons_succ, List.set_cons_zero, List.set_cons_succ, startD, List.map_cons, List.map_nil, List.cons_append, List.nil_append, List.length_cons, List.length_nil, List.replicate_succ, List.replicate_zero, Nat.reduceSub, Nat.reduceAdd, Nat.zero_add, wipeD, keyD, stD, seqA]
  refine forW_inv (fun ds' ρ M' => ∃ (ms : List Int) (ok : Bool) (rest : List Nat) (r4 : Option D), ρ = [some (.tup (ns.map D.int)), some (.tup (ss.map fun s => D.int (s : Nat))), some (.ref p), some (.bl ok), r4] ∧ ds' = rest.map (fun s => D.int (s : Nat)) ∧ M'.map p = some (.lst (ms.map D.int)) ∧ ms.length = ns.length ∧ Ext M M' ∧ stOk ns.length rest ∧ after ms ok rest = after ns true ss)
    (fun _ _ _ _ => trivial) (fun ρ M' q => ?_) (fun d ds' ρ M' Nx q nx => ?_) _ _ _ ⟨ns, true, ss, none, rfl, rfl, MS.put_same, rfl, Ext.new hp, hss, rfl⟩
  · obtain ⟨ms, ok, rest, r4, rfl, e, q1, q2, q3, q4, q5⟩ := q
    obtain rfl : rest = [] := by
      cases rest with
      | nil => rfl
      | cons _ _ => cases e
    simp only [sSeq, sRet, sRetN, sNext, sIf, sAsg, sPar, sPar3, sSetI, sAug, sAugI, sDrop, sBreak, sCont, dOp, dUn, dCons, dNil, dFn, dC, dTup, dLst, dLstM, dIf, dTest, dTru, dAnd, dOr, dNot, dAndV, dOrV, dNotE, dChain, dSl, dNoPart, dPart, dSeq, dEnum, dZip, dRng1, dRng2, dYes, dCall, dMt, dVar, dDic0, dDic1, Pat.put, Pat.puts, List.getElem?_cons_zero, List.getElem?_cons_succ, List.set_cons_zero, List.set_cons_succ, startD, List.map_cons, List.map_nil, List.cons_append, List.nil_append, List.length_cons, List.length_nil, List.replicate_succ, List.replicate_zero, Nat.reduceSub, Nat.reduceAdd, Nat.zero_add, wipeD, keyD, rTuple, seqA, q1]
    refine ⟨by decide, ?_⟩
    have := h M' q3
    rw [← q5] at this
    exact this
  · obtain ⟨ms, ok, rest, r4, rfl, e, q1, q2, q3, q4, q5⟩ := q
    cases rest with
    | nil => cases e
    | cons s rest =>
      rw [List.map_cons] at e
      injection e with e1 e2
      subst e1 e2
      have hs := q4 s (List.mem_cons_self ..)
      refine ⟨_, rfl, ?_⟩
      simp only [sSeq, sRet, sRetN, sNext, sIf, sAsg, sPar, sPar3, sSetI, sAug, sAugI, sDrop, sBreak, sCont, dOp, dUn, dCons, dNil, dFn, dC, dTup, dLst, dLstM, dIf, dTest, dTru, dAnd, dOr, dNot, dAndV, dOrV, dNotE, dChain, dSl, dNoPart, dPart, dSeq, dEnum, dZip, dRng1, dRng2, dYes, dCall, dMt, dVar, dDic0, dDic1, Pat.put, Pat.puts, List.getElem?_cons_zero, List.getElem?_cons_succ, List.set_cons_zero, List.set_cons_succ, startD, List.map_cons, List.map_nil, List.cons_append, List.nil_append, List.length_cons, List.length_nil, List.replicate_succ, List.replicate_zero, Nat.reduceSub, Nat.reduceAdd, Nat.zero_add, wipeD, keyD]
      have go : ∀ ok' : Bool, ok' = (ok && decide (0 < ms.getD s 0)) → rGet (.ref p) (.int s) M' fun y M3 => rIp (fun i j => i - j) y (.int 1) M3 fun w M5 => rSet (.ref p) (.int s) w M5 fun M6 => rAdd (.int s) (.int 1) M6 fun z M7 => rGet (.ref p) z M7 fun y M8 => rIp (fun i j => i + j) y (.int 1) M8 fun w M9 => rSet (.ref p) z w M9 fun M10 =>
          Nx [some (.tup (ns.map D.int)), some (.tup (ss.map fun s => D.int (s : Nat))), some (.ref p), some (.bl ok'), some (.int s)] M10 := fun ok' hok => by
        refine run_move q1 (by rw [q2]; exact hs) fun M6 e6 k6 => nx _ _ ⟨step ms s, ok', rest, _, rfl, rfl, e6, by rw [step_len, q2], fun b hb => ?_, fun x hx => q4 x (List.mem_cons_of_mem _ hx), ?_⟩
        · have hbp : b ≠ p := fun z => by subst z; exact hb hp
          rw [k6 b hbp]
          exact q3 b hb
        · rw [hok]; exact q5
      cases ok with
      | true =>
        simp only [if_true]
        refine rIx_seq (seqA_ref q1) (atI_ints (by rw [q2]; omega)) (rCmp_i ?_)
        exact go _ (by simp)
      | false =>
        simp only [Bool.false_eq_true, if_false]
        exact go _ (by simp)
end DL
namespace DL
open PySem PySem.Spec PyProof.Rows L2
def afters (ns : List Int) : List (List Nat) → List Int
  | [] => ns
  | ss :: ps => afters (after ns true ss).1 ps
def planStOk (n : Nat) (ps : List (List Nat)) : Prop := ∀ ss ∈ ps, stOk n ss
theorem afters_len : ∀ (ps : List (List Nat)) (ns : List Int), (afters ns ps).length = ns.length
  | [], _ => rfl
  | ss :: ps, ns => by rw [afters, afters_len ps, after_len]
def planD (ps : List (List Nat)) : D := .tup (ps.map stD)
def sp_row_after : DSp := fun ds M Φ _ => ∃ (ns : List Int) (w : D) (ps : List (List Nat)), ds = [.tup (ns.map D.int), w, planD ps] ∧ planStOk ns.length ps ∧ ∀ M', Ext M M' → Φ (.tup ((afters ns ps).map D.int)) M'
def t_row_after : DS := (sSeq (sAsg (dVar 0) (.nm 3)) (sSeq (sFor (dSeq (dVar 2)) (.nm 4) (sSeq (sAsg (dCall 2 sp_chairs_after (dCons (dVar 3) (dCons (dVar 4) dNil))) (.tp [(.nm 3), (.nm 5)])) sNext)) (sSeq (sRet (dVar 3)) sNext)))
theorem p_row_after (ds : List D) (M : MS) (Φ : DQ) (h : sp_row_after ds M Φ noX) : t_row_after { nx := fun _ M' => Φ .non M', rt := Φ } (startD 6 ds) M := by
  obtain ⟨ns, w, ps, rfl, hps, h⟩ := h
  simp only [t_row_after, sSeq, sRet, sRetN, sNext, sIf, sAsg, sPar, sPar3, sSetI, sAug, sAugI, sDrop, sBreak, sCont, dOp, dUn, dCons, dNil, dFn, dC, dTup, dLst, dLstM, dIf, dTest, dTru, dAnd, dOr, dNot, dAndV, dOrV, dNotE, dChain, dSl, dNoPart, dPart, dSeq, dEnum, dZip, dRng1, dRng2, dYes, dCall, dMt, dVar, dDic0, dDic1, Pat.put, Pat.puts, List.getElem?_cons_zero, List.getElem?_cons_succ, List.set_cons_zero, List.set_cons_succ, startD, List.map_cons, List.map_nil, List.cons_append, List.nil_append, List.length_cons, List.length_nil, List.replicate_succ, List.replicate_zero, Nat.reduceSub, Nat.reduceAdd, Nat.zero_add, wipeD, keyD, sFor, planD, seqA]
  refine forW_inv (fun ds' ρ M' => ∃ (ms : List Int) (rest : List (List Nat)) (r4 r5 : Option D), ρ = [some (.tup (ns.map D.int)), some w, some (.tup (ps.map stD)), some (.tup (ms.map D.int)), r4, r5] ∧ ds' = rest.map stD ∧ ms.length = ns.length ∧ Ext M M' ∧ planStOk ns.length rest ∧ afters ms rest = afters ns ps)
    (fun _ _ _ _ => trivial) (fun ρ M' q => ?_) (fun d ds' ρ M' Nx q nx => ?_) _ _ _ ⟨ns, ps, none, none, rfl, rfl, rfl, Ext.refl, hps, rfl⟩
  · obtain ⟨ms, rest, r4, r5, rfl, e, q2, q3, q4, q5⟩ := q
    obtain rfl : rest = [] := by
      cases rest with
      | nil => rfl
      | cons _ _ => cases e
    simp only [sSeq, sRet, sRetN, sNext, sIf, sAsg, sPar, sPar3, sSetI, sAug, sAugI, sDrop, sBreak, sCont, dOp, dUn, dCons, dNil, dFn, dC, dTup, dLst, dLstM, dIf, dTest, dTru, dAnd, dOr, dNot, dAndV, dOrV, dNotE, dChain, dSl, dNoPart, dPart, dSeq, dEnum, dZip, dRng1, dRng2, dYes, dCall, dMt, dVar, dDic0, dDic1, Pat.put, Pat.puts, List.getElem?_cons_zero, List.getElem?_cons_succ, List.set_cons_zero, List.set_cons_succ, startD, List.map_cons, List.map_nil, List.cons_append, List.nil_append, List.length_cons, List.length_nil, List.replicate_succ, List.replicate_zero, Nat.reduceSub, Nat.reduceAdd, Nat.zero_add, wipeD, keyD]
    have := h M' q3
    rw [← q5] at this
    exact this
  · obtain ⟨ms, rest, r4, r5, rfl, e, q2, q3, q4, q5⟩ := q
    cases rest with
    | nil => cases e
    | cons s rest =>
      rw [List.map_cons] at e
      injection e with e1 e2
      subst e1 e2
      refine ⟨_, rfl, ?_⟩
      simp only [sSeq, sRet, sRetN, sNext, sIf, sAsg, sPar, sPar3, sSetI, sAug, sAugI, sDrop, sBreak, sCont, dOp, dUn, dCons, dNil, dFn, dC, dTup, dLst, dLstM, dIf, dTest, dTru, dAnd, dOr, dNot, dAndV, dOrV, dNotE, dChain, dSl, dNoPart, dPart, dSeq, dEnum, dZip, dRng1, dRng2, dYes, dCall, dMt, dVar, dDic0, dDic1, Pat.put, Pat.puts, List.getElem?_cons_zero, List.getElem?_cons_succ, List.set_cons_zero, List.set_cons_succ, startD, List.map_cons, List.map_nil, List.cons_append, List.nil_append, List.length_cons, List.length_nil, List.replicate_succ, List.replicate_zero, Nat.reduceSub, Nat.reduceAdd, Nat.zero_add, wipeD, keyD]
      refine ⟨trivial, ms, s, rfl, by rw [q2]; exact q4 s (List.mem_cons_self ..), fun M6 x6 => ?_⟩
      simp only [sSeq, sRet, sRetN, sNext, sIf, sAsg, sPar, sPar3, sSetI, sAug, sAugI, sDrop, sBreak, sCont, dOp, dUn, dCons, dNil, dFn, dC, dTup, dLst, dLstM, dIf, dTest, dTru, dAnd, dOr, dNot, dAndV, dOrV, dNotE, dChain, dSl, dNoPart, dPart, dSeq, dEnum, dZip, dRng1, dRng2, dYes, dCall, dMt, dVar, dDic0, dDic1, Pat.put, Pat.puts, List.getElem?_cons_zero, List.getElem?_cons_succ, List.set_cons_zero, List.set_cons_succ, startD, List.map_cons, List.map_nil, List.cons_append, List.nil_append, List.length_cons, List.length_nil, List.replicate_succ, List.replicate_zero, Nat.reduceSub, Nat.reduceAdd, Nat.zero_add, wipeD, keyD]
      exact nx _ _ ⟨(after ms true s).1, rest, _, _, rfl, rfl, by rw [after_len, q2], q3.trans x6, fun x hx => q4 x (List.mem_cons_of_mem _ hx), q5⟩
/-- ascending, within the way -/
def inWay (w : Int × Int) (ss : List Nat) : Prop := ss.Pairwise (· < ·) ∧ ∀ s ∈ ss, w.1 ≤ (s : Int) ∧ (s : Int) < w.2
def PlanOf : List Int → List (Int × Int) → List (List Nat) → Prop
  | _, [], [] => True
  | ns, w :: ws, ss :: ps => inWay w ss ∧ (after ns true ss).2 = true ∧ PlanOf (after ns true ss).1 ws ps
  | _, _, _ => False
theorem PlanOf.len : ∀ {ws : List (Int × Int)} {ps : List (List Nat)} {ns : List Int}, PlanOf ns ws ps → ps.length = ws.length
  | [], [], _, _ => rfl
  | _ :: ws, _ :: ps, ns, h => by rw [List.length_cons, List.length_cons, PlanOf.len h.2.2]
  | [], _ :: _, _, h => h.elim
  | _ :: _, [], _, h => h.elim
theorem PlanOf.st : ∀ {ws : List (Int × Int)} {ps : List (List Nat)} {ns : List Int}, PlanOf ns ws ps → waysIn ws (ns.length : Nat) → planStOk ns.length ps
  | [], [], _, _, _ => fun _ h => absurd h List.not_mem_nil
  | w :: ws, ss :: ps, ns, h, hw => fun x hx => by
    rcases List.mem_cons.mp hx with rfl | hx
    · intro s hs
      have h1 := h.1.2 s hs
      have h2 := hw w (List.mem_cons_self ..)
      omega
    · have := PlanOf.st (ns := (after ns true ss).1) h.2.2 (by rw [after_len]; exact fun y hy => hw y (List.mem_cons_of_mem _ hy)) x hx
      rwa [after_len] at this
  | [], _ :: _, _, h, _ => h.elim
  | _ :: _, [], _, h, _ => h.elim
end DL
namespace DL
open PySem PySem.Spec PyProof.Rows L2
def hasI (j : Int) (ss : List Nat) : Bool := ss.any fun s => ((s : Nat) : Int) == j
def goneN (j : Int) (ps : List (List Nat)) : Nat := (ps.filter (hasI j)).length
theorem PlanOf.pl : ∀ {ws : List (Int × Int)} {ps : List (List Nat)} {ns : List Int}, PlanOf ns ws ps → ∀ ss ∈ ps, ss.Pairwise (· < ·)
  | [], [], _, _ => fun _ h => absurd h List.not_mem_nil
  | w :: ws, ss :: ps, ns, h => fun x hx => by
    rcases List.mem_cons.mp hx with rfl | hx
    · exact h.1.1
    · exact PlanOf.pl h.2.2 x hx
  | [], _ :: _, _, h => h.elim
  | _ :: _, [], _, h => h.elim
end DL
namespace DL
open PySem PySem.Spec PyProof.Rows L2
end DL
namespace DL
open PySem PySem.Spec PyProof.Rows L2
end DL
namespace DL
open PySem PySem.Spec PyProof.Rows L2
theorem rApp_ref {M : MS} {Φ : DQ} {p : Addr} {ds : List D} {y : D} (h : M.map p = some (.lst ds)) (hl : ds.length < 100000) (q : Φ .non (M.put p (.lst (ds ++ [y])))) : rApp (.ref p) [y] M Φ := by
  unfold rApp
  simp only [h]
  exact ⟨hl, q⟩
theorem isL_ref {M : MS} {p : Addr} {ds : List D} (h : M.map p = some (.lst ds)) : isL M (.ref p) := by simp only [isL, h]
end DL
namespace DL
open PySem PySem.Spec PyProof.Rows L2
def nd : List Int → Int
  | [] => 0
  | d :: ds => max 0 (d + nd ds)
def difs (rs ws : List Int) : List Int := (rs.zip ws).map fun p => p.2 - p.1
end DL
namespace DL
open PySem PySem.Spec PyProof.Rows L2
def goW (st : List Int × List Int) (s : Nat) : List Int × List Int :=
  if 0 < st.1.getD s 0 then (step st.1 s, st.2.set s (st.2.getD s 0 + 1)) else st
theorem goW_len (st : List Int × List Int) (s : Nat) : (goW st s).1.length = st.1.length ∧ (goW st s).2.length = st.2.length := by
  unfold goW
  split
  · exact ⟨step_len _ _, by simp⟩
  · exact ⟨rfl, rfl⟩
end DL
namespace DL
open PySem PySem.Spec PyProof.Rows L2
end DL
namespace DL
open PySem PySem.Spec PyProof.Rows L2
end DL
namespace DL
open PySem PySem.Spec PyProof.Rows L2
abbrev sp_is_within := sp_is_number
def allN (hi : Int) (d : D) : Bool := match d with
  | .tup xs => xs.all fun x => numD x 0 hi
  | _ => false
def areU (st : Int) (d : D) : Bool := match d with
  | .tup xs => (xs.all fun x => numD x 0 500) && ((xs.length : Nat) : Int) == st
  | _ => false
def sp_are_within : DSp := fun ds M Φ _ => ∃ d hi, ds = [d, .int hi] ∧ still d = true ∧ (∀ xs, d = .tup xs → xs.length ≤ 30000) ∧ Φ (.bl (allN hi d)) M
def sp_are_wants : DSp := fun ds M Φ _ => ∃ st d, ds = [.int st, d] ∧ still d = true ∧ (∀ xs, d = .tup xs → xs.length ≤ 30000) ∧ Φ (.bl (areU st d)) M
def t_is_within : DS := (sSeq (sRet (dAndV (dFn rIsi (dCons (dVar 0) (dCons (dC (.ty .int)) dNil))) (dAndV (dNotE (dFn rIsi (dCons (dVar 0) (dCons (dC (.ty .bool)) dNil)))) (dChain rLe rLe (dVar 1) (dVar 0) (dVar 2))))) sNext)
def t_are_within : DS := (sSeq (sRet (dAndV (dFn rIsi (dCons (dVar 0) (dCons (dC (.ty .tuple)) dNil))) (dFn rAll (dCons (dLc (dSeq (dVar 0)) (.nm 2) [2] dYes (dCall 3 sp_is_within (dCons (dVar 2) (dCons (dC (.int 0)) (dCons (dVar 1) dNil))))) dNil)))) sNext)
def t_are_wants : DS := (sSeq (sRet (dAndV (dCall 2 sp_are_within (dCons (dVar 1) (dCons (dC (.int 500)) dNil))) (dOp rEq (dFn rLen (dCons (dVar 1) dNil)) (dVar 0)))) sNext)
theorem p_is_within (ds : List D) (M : MS) (Φ : DQ) (h : sp_is_within ds M Φ noX) : t_is_within { nx := fun _ M' => Φ .non M', rt := Φ } (startD 3 ds) M := by
  obtain ⟨d, lo, hi, rfl, hd, q⟩ := h
  exact run_num hd q
theorem p_are_within (ds : List D) (M : MS) (Φ : DQ) (h : sp_are_within ds M Φ noX) : t_are_within { nx := fun _ M' => Φ .non M', rt := Φ } (startD 3 ds) M := by
  obtain ⟨d, hi, rfl, hd, hl, q⟩ := h
  simp only [t_are_within, sSeq, sRet, sRetN, sNext, sIf, sAsg, sPar, sPar3, sSetI, sAug, sAugI, sDrop, sBreak, sCont, dOp, dUn, dCons, dNil, dFn, dC, dTup, dLst, dLstM, dIf, dTest, dTru, dAnd, dOr, dNot, dAndV, dOrV, dNotE, dChain, dSl, dNoPart, dPart, dSeq, dEnum, dZip, dRng1, dRng2, dYes, dCall, dMt, dVar, dDic0, dDic1, Pat.put, Pat.puts, List.getElem?_cons_zero, List.getElem?_cons_succ, List.set_cons_zero, List.set_cons_succ, startD, List.map_cons, List.map_nil, List.cons_append, List.nil_append, List.length_cons, List.length_nil, List.replicate_succ, List.replicate_zero, Nat.reduceSub, Nat.reduceAdd, Nat.zero_add, wipeD, keyD]
  refine rIsi_tup hd ?_
  cases d with
  | tup xs =>
    have hs : stills xs = true := by simpa only [still] using hd
    simp only [isTup, if_true, dLc, sSeq, sRet, sRetN, sNext, sIf, sAsg, sPar, sPar3, sSetI, sAug, sAugI, sDrop, sBreak, sCont, dOp, dUn, dCons, dNil, dFn, dC, dTup, dLst, dLstM, dIf, dTest, dTru, dAnd, dOr, dNot, dAndV, dOrV, dNotE, dChain, dSl, dNoPart, dPart, dSeq, dEnum, dZip, dRng1, dRng2, dYes, dCall, dMt, dVar, dDic0, dDic1, Pat.put, Pat.puts, List.getElem?_cons_zero, List.getElem?_cons_succ, List.set_cons_zero, List.set_cons_succ, startD, List.map_cons, List.map_nil, List.cons_append, List.nil_append, List.length_cons, List.length_nil, List.replicate_succ, List.replicate_zero, Nat.reduceSub, Nat.reduceAdd, Nat.zero_add, wipeD, keyD, seqA]
    refine lcW_map (fun d => some (.bl (numD d 0 hi))) xs trivial (by have := hl xs rfl; omega) (fun x hx => ⟨_, rfl, fun acc Nx hn k => ?_⟩) ?_
    · simp only [sSeq, sRet, sRetN, sNext, sIf, sAsg, sPar, sPar3, sSetI, sAug, sAugI, sDrop, sBreak, sCont, dOp, dUn, dCons, dNil, dFn, dC, dTup, dLst, dLstM, dIf, dTest, dTru, dAnd, dOr, dNot, dAndV, dOrV, dNotE, dChain, dSl, dNoPart, dPart, dSeq, dEnum, dZip, dRng1, dRng2, dYes, dCall, dMt, dVar, dDic0, dDic1, Pat.put, Pat.puts, List.getElem?_cons_zero, List.getElem?_cons_succ, List.set_cons_zero, List.set_cons_succ, startD, List.map_cons, List.map_nil, List.cons_append, List.nil_append, List.length_cons, List.length_nil, List.replicate_succ, List.replicate_zero, Nat.reduceSub, Nat.reduceAdd, Nat.zero_add, wipeD, keyD, if_true]
      exact ⟨trivial, x, 0, hi, rfl, stills_get hs hx, hn, k⟩
    · have e : xs.filterMap (fun d => some (D.bl (numD d 0 hi))) = (xs.map fun d => numD d 0 hi).map D.bl := by
        rw [fm_some, List.map_map]
        rfl
      rw [e]
      simp only [rAll, seqL, Option.bind_some, asBls_map]
      have e2 : (xs.map fun d => numD d 0 hi).all id = xs.all fun d => numD d 0 hi := by rw [List.all_map]; rfl
      rw [e2]
      exact q
  | _ => exact q
theorem p_are_wants (ds : List D) (M : MS) (Φ : DQ) (h : sp_are_wants ds M Φ noX) : t_are_wants { nx := fun _ M' => Φ .non M', rt := Φ } (startD 2 ds) M := by
  obtain ⟨st, d, rfl, hd, hl, q⟩ := h
  simp only [t_are_wants, sSeq, sRet, sRetN, sNext, sIf, sAsg, sPar, sPar3, sSetI, sAug, sAugI, sDrop, sBreak, sCont, dOp, dUn, dCons, dNil, dFn, dC, dTup, dLst, dLstM, dIf, dTest, dTru, dAnd, dOr, dNot, dAndV, dOrV, dNotE, dChain, dSl, dNoPart, dPart, dSeq, dEnum, dZip, dRng1, dRng2, dYes, dCall, dMt, dVar, dDic0, dDic1, Pat.put, Pat.puts, List.getElem?_cons_zero, List.getElem?_cons_succ, List.set_cons_zero, List.set_cons_succ, startD, List.map_cons, List.map_nil, List.cons_append, List.nil_append, List.length_cons, List.length_nil, List.replicate_succ, List.replicate_zero, Nat.reduceSub, Nat.reduceAdd, Nat.zero_add, wipeD, keyD]
  refine ⟨trivial, d, 500, rfl, hd, hl, ?_⟩
  dsimp only
  cases d with
  | tup xs =>
    simp only [areU] at q
    rw [show (xs.all fun x => numD x 0 500) = allN 500 (.tup xs) from rfl] at q
    by_cases hb : allN 500 (.tup xs) = true
    · rw [if_pos hb]
      rw [hb, Bool.true_and] at q
      exact rLen_seq (fun z e => nomatch e) rfl (rEq_i q)
    · rw [if_neg hb]
      rw [Bool.not_eq_true] at hb
      rw [hb, Bool.false_and] at q
      exact q
  | _ => exact q
end DL
namespace DL
open PySem PySem.Spec PyProof.Rows L2
end DL
namespace DL
open PySem PySem.Spec PyProof.Rows L2
end DL
namespace DL
open PySem PySem.Spec PyProof.Rows L2
theorem cut_from (xs : List D) (k : Nat) : cutD xs (some (k : Int)) none = xs.drop k := by
  unfold cutD
  rw [show HT.sIx xs.length 0 (some (k : Int)) = min k xs.length from HT.sIx_nat xs.length 0 k, show HT.sIx xs.length xs.length none = xs.length from HT.sIx_none _ _]
  by_cases h : k ≤ xs.length
  · rw [Nat.min_eq_left h, List.take_of_length_le (by rw [List.length_drop]; omega)]
  · rw [Nat.min_eq_right (by omega), List.drop_eq_nil_of_le (Nat.le_refl _), List.drop_eq_nil_of_le (by omega)]
    exact List.take_nil
theorem cut_to (xs : List D) (k : Nat) : cutD xs none (some (k : Int)) = xs.take k := by
  unfold cutD
  rw [show HT.sIx xs.length 0 none = 0 from HT.sIx_none _ _, show HT.sIx xs.length xs.length (some (k : Int)) = min k xs.length from HT.sIx_nat xs.length xs.length k]
  rw [List.drop_zero, Nat.sub_zero, Nat.min_comm]
  rw [List.take_eq_take_iff]
  omega
/-- the form of a plan: for each walker stages of the way -/
def FormOf : List (Int × Int) → List (List Nat) → Prop
  | [], [] => True
  | w :: ws, ss :: ps => inWay w ss ∧ FormOf ws ps
  | _, _ => False
theorem FormOf.st : ∀ {ws : List (Int × Int)} {ps : List (List Nat)} {n : Nat}, FormOf ws ps → waysIn ws (n : Nat) → planStOk n ps
  | [], [], _, _, _ => fun _ h => absurd h List.not_mem_nil
  | w :: ws, ss :: ps, n, h, hw => fun x hx => by
    rcases List.mem_cons.mp hx with rfl | hx
    · intro s hs
      have h1 := h.1.2 s hs
      have h2 := hw w (List.mem_cons_self ..)
      omega
    · exact FormOf.st h.2 (fun y hy => hw y (List.mem_cons_of_mem _ hy)) x hx
  | [], _ :: _, _, h, _ => h.elim
  | _ :: _, [], _, h, _ => h.elim
end DL
namespace DL
open PySem PySem.Spec PyProof.Rows L2
theorem sum_set : ∀ (l : List Int) (i : Nat) (x : Int), i < l.length → (l.set i x).sum = l.sum - l.getD i 0 + x
  | [], _, _, h => by simp at h
  | a :: l, 0, x, _ => by simp; omega
  | a :: l, i + 1, x, h => by
    have ih := sum_set l i x (by simpa using h)
    simp only [List.set_cons_succ, List.sum_cons, List.getD_cons_succ, ih]
    omega
theorem mv_sum {ns : List Int} {s : Nat} (h : s + 1 < ns.length) : (step ns s).sum = ns.sum := by
  unfold step
  rw [sum_set _ _ _ (by rw [List.length_set]; exact h), sum_set _ _ _ (by omega)]
  have e2 : (ns.set s (ns.getD s 0 - 1)).getD (s + 1) 0 = ns.getD (s + 1) 0 := by
    simp only [List.getD_eq_getElem?_getD, List.getElem?_set]
    rw [if_neg (by omega)]
  rw [e2]
  omega
theorem after_sum : ∀ (ss : List Nat) (ns : List Int) (ok : Bool), stOk ns.length ss → (after ns ok ss).1.sum = ns.sum
  | [], _, _, _ => rfl
  | s :: ss, ns, ok, h => by
    rw [after, after_sum ss _ _ (fun x hx => by rw [step_len]; exact h x (List.mem_cons_of_mem _ hx)), mv_sum (h s (List.mem_cons_self ..))]
theorem afters_sum : ∀ (ps : List (List Nat)) (ns : List Int), planStOk ns.length ps → (afters ns ps).sum = ns.sum
  | [], _, _ => rfl
  | ss :: ps, ns, h => by
    rw [afters, afters_sum ps _ (by rw [after_len]; exact fun x hx => h x (List.mem_cons_of_mem _ hx)), after_sum _ _ _ (h ss (List.mem_cons_self ..))]
def nonN (ns : List Int) : Prop := ∀ i, 0 ≤ ns.getD i 0
theorem after_false : ∀ (ss : List Nat) (ns : List Int), (after ns false ss).2 = false
  | [], _ => rfl
  | s :: ss, ns => by rw [after, Bool.false_and, after_false ss]
theorem after_ok {s : Nat} {ss : List Nat} {ns : List Int} (h : (after ns true (s :: ss)).2 = true) : 0 < ns.getD s 0 ∧ (after (step ns s) true ss).2 = true := by
  rw [after, Bool.true_and] at h
  by_cases hp : 0 < ns.getD s 0
  · rw [decide_eq_true hp] at h; exact ⟨hp, h⟩
  · rw [decide_eq_false hp, after_false] at h; cases h
theorem after_true {s : Nat} {ss : List Nat} {ns : List Int} (hp : 0 < ns.getD s 0) : after ns true (s :: ss) = after (step ns s) true ss := by
  rw [after, Bool.true_and, decide_eq_true hp]
theorem after_nn : ∀ (ss : List Nat) (ns : List Int), stOk ns.length ss → nonN ns → (after ns true ss).2 = true → nonN (after ns true ss).1
  | [], _, _, h, _ => h
  | s :: ss, ns, hs, h, ho => by
    obtain ⟨hp, h2⟩ := after_ok ho
    rw [after_true hp]
    refine after_nn ss _ (fun x hx => by rw [step_len]; exact hs x (List.mem_cons_of_mem _ hx)) (fun i => ?_) h2
    rw [step_get (hs s (List.mem_cons_self ..))]
    have := h i
    by_cases h1 : i = s
    · subst h1
      rw [if_pos rfl, if_neg (by omega)]; omega
    · rw [if_neg h1]
      by_cases h2 : i = s + 1
      · rw [if_pos h2]; omega
      · rw [if_neg h2]; omega
theorem PlanOf.split : ∀ {ws : List (Int × Int)} {ps : List (List Nat)} {ns : List Int}, PlanOf ns ws ps → ∀ m : Nat, PlanOf ns (ws.take m) (ps.take m) ∧ PlanOf (afters ns (ps.take m)) (ws.drop m) (ps.drop m)
  | _, _, _, h, 0 => ⟨trivial, h⟩
  | [], [], _, _, m + 1 => ⟨trivial, trivial⟩
  | w :: ws, ss :: ps, ns, h, m + 1 => by
    obtain ⟨a, b⟩ := PlanOf.split h.2.2 m
    exact ⟨⟨h.1, h.2.1, a⟩, b⟩
  | [], _ :: _, _, h, _ + 1 => h.elim
  | _ :: _, [], _, h, _ + 1 => h.elim
theorem rSum_tup {a : List Int} {M : MS} {Φ : DQ} (q : Φ (.int a.sum) M) : rSum [.tup (a.map D.int)] M Φ := by
  unfold rSum
  simp only [seqA, Option.bind_some, asInts_map]
  exact q
theorem rMaxA_tup {a : List Int} {M : MS} {Φ : DQ} (h : 0 < a.length) (q : Φ (.int (mxI a)) M) : rMaxA [.tup (a.map D.int)] M Φ := by
  unfold rMaxA
  simp only [seqA, Option.bind_some, asInts_map]
  exact ⟨h, q⟩
end DL
namespace DL
open PySem PySem.Spec PyProof.Rows L2
/-- the stages over which one carries, from a stage on, so many; b: what was brought -/
def ruleS (ns : List Int) : Nat → Nat → Int → List Nat
  | 0, _, _ => []
  | n + 1, s, b => if 0 < ns.getD s 0 + b then s :: ruleS ns n (s + 1) 1 else ruleS ns n (s + 1) 0
def ruleOf (ns : List Int) (w : Int × Int) : List Nat := ruleS ns (w.2 - w.1).toNat w.1.toNat 0
theorem ruleS_pos {ns : List Int} {n s : Nat} {b : Int} (h : 0 < ns.getD s 0 + b) : ruleS ns (n + 1) s b = s :: ruleS ns n (s + 1) 1 := by
  conv => lhs; unfold ruleS
  rw [if_pos h]
theorem ruleS_neg {ns : List Int} {n s : Nat} {b : Int} (h : ¬ 0 < ns.getD s 0 + b) : ruleS ns (n + 1) s b = ruleS ns n (s + 1) 0 := by
  conv => lhs; unfold ruleS
  rw [if_neg h]
theorem ruleS_mem : ∀ (n s : Nat) (ns : List Int) (b : Int) (x : Nat), x ∈ ruleS ns n s b → s ≤ x ∧ x < s + n
  | 0, _, _, _, _, h => by cases h
  | n + 1, s, ns, b, x, h => by
    unfold ruleS at h
    split at h
    · rcases List.mem_cons.mp h with rfl | h
      · omega
      · have := ruleS_mem n _ _ _ _ h; omega
    · have := ruleS_mem n _ _ _ _ h; omega
theorem ruleS_congr : ∀ (n s : Nat) (ns ms : List Int) (b c : Int), ns.getD s 0 + b = ms.getD s 0 + c → (∀ i, s < i → ns.getD i 0 = ms.getD i 0) → ruleS ns n s b = ruleS ms n s c
  | 0, _, _, _, _, _, _, _ => rfl
  | n + 1, s, ns, ms, b, c, h, hi => by
    unfold ruleS
    rw [h]
    have ih : ∀ d, ruleS ns n (s + 1) d = ruleS ms n (s + 1) d := fun d => ruleS_congr n (s + 1) ns ms d d (by rw [hi (s + 1) (by omega)]) fun i h => hi i (by omega)
    rw [ih, ih]
theorem ruleOf_st {ns : List Int} {w : Int × Int} (h0 : 0 ≤ w.1) (h1 : w.2 < ns.length) : stOk ns.length (ruleOf ns w) := fun x hx => by
  have := ruleS_mem _ _ _ _ _ hx
  omega
def walksL : List Int → List (Int × Int) → List (List Nat × List Int)
  | _, [] => []
  | ns, w :: ws => (ruleOf ns w, (after ns true (ruleOf ns w)).1) :: walksL (after ns true (ruleOf ns w)).1 ws
def itemD (r : List Nat × List Int) : D := .tup [stD r.1, .tup (r.2.map D.int)]
def ruleP (ns : List Int) (ws : List (Int × Int)) : List (List Nat) := (walksL ns ws).map (·.1)
theorem ruleP_cons {ns : List Int} {w : Int × Int} {ws : List (Int × Int)} : ruleP ns (w :: ws) = ruleOf ns w :: ruleP (after ns true (ruleOf ns w)).1 ws := rfl
theorem walksL_len : ∀ (ws : List (Int × Int)) (ns : List Int), (walksL ns ws).length = ws.length
  | [], _ => rfl
  | w :: ws, ns => by rw [walksL, List.length_cons, walksL_len ws, List.length_cons]
def sp_rule_stages : DSp := fun ds M Φ _ => ∃ (ns : List Int) (w : Int × Int), ds = [.tup (ns.map D.int), wayD w] ∧ 0 ≤ w.1 ∧ w.1 < w.2 ∧ w.2 < ns.length ∧ ns.length ≤ 1000 ∧ ∀ M', Ext M M' → Φ (stD (ruleOf ns w)) M'
def t_rule_stages : DS := (sSeq (sPar3 2 3 4 (dCons (dLstM dNil) (dCons (dOp rIx (dVar 1) (dC (.int 0))) (dCons (dC (.int 0)) dNil)))) (sSeq (sFor (dRng2 (dVar 3) (dOp rIx (dVar 1) (dC (.int 1)))) (.nm 5) (sSeq (sAsg (dFn rInt (dCons (dOp rGt (dOp rAdd (dOp rIx (dVar 0) (dVar 5)) (dVar 4)) (dC (.int 0))) dNil)) (.nm 4)) (sSeq (sDrop (dMt rExtd (dVar 2) (dCons (dOp rMul (dLst (dCons (dVar 5) dNil)) (dVar 4)) dNil))) sNext))) (sSeq (sRet (dFn rTuple (dCons (dVar 2) dNil))) sNext)))
theorem p_rule_stages (ds : List D) (M : MS) (Φ : DQ) (h : sp_rule_stages ds M Φ noX) : t_rule_stages { nx := fun _ M' => Φ .non M', rt := Φ } (startD 6 ds) M := by
  obtain ⟨ns, w, rfl, h0, h1, h2, h3, h⟩ := h
  simp only [t_rule_stages, sSeq, sRet, sRetN, sNext, sIf, sAsg, sPar, sPar3, sSetI, sAug, sAugI, sDrop, sBreak, sCont, dOp, dUn, dCons, dNil, dFn, dC, dTup, dLst, dLstM, dIf, dTest, dTru, dAnd, dOr, dNot, dAndV, dOrV, dNotE, dChain, dSl, dNoPart, dPart, dSeq, dEnum, dZip, dRng1, dRng2, dYes, dCall, dMt, dVar, dDic0, dDic1, Pat.put, Pat.puts, List.getElem?_cons_zero, List.getElem?_cons_succ, List.set_cons_zero, List.set_cons_succ, startD, List.map_cons, List.map_nil, List.cons_append, List.nil_append, List.length_cons, List.length_nil, List.replicate_succ, List.replicate_zero, Nat.reduceSub, Nat.reduceAdd, Nat.zero_add, wipeD, keyD, wayD]
  refine ⟨by decide, fun p hp => ?_⟩
  refine rIx_seq (x := .tup _) rfl (d := .int w.1) (by rw [at0]; rfl) ?_
  simp only [sFor, sSeq, sRet, sRetN, sNext, sIf, sAsg, sPar, sPar3, sSetI, sAug, sAugI, sDrop, sBreak, sCont, dOp, dUn, dCons, dNil, dFn, dC, dTup, dLst, dLstM, dIf, dTest, dTru, dAnd, dOr, dNot, dAndV, dOrV, dNotE, dChain, dSl, dNoPart, dPart, dSeq, dEnum, dZip, dRng1, dRng2, dYes, dCall, dMt, dVar, dDic0, dDic1, Pat.put, Pat.puts, List.getElem?_cons_zero, List.getElem?_cons_succ, List.set_cons_zero, List.set_cons_succ, startD, List.map_cons, List.map_nil, List.cons_append, List.nil_append, List.length_cons, List.length_nil, List.replicate_succ, List.replicate_zero, Nat.reduceSub, Nat.reduceAdd, Nat.zero_add, wipeD, keyD]
  refine rIx_seq (x := .tup _) rfl (d := .int w.2) (by rw [at1]; rfl) ?_
  refine ⟨⟨by omega, by omega, by omega, by omega⟩, ?_⟩
  refine forW_inv (fun ds' ρ M' => ∃ (s n : Nat) (b : Int) (acc : List Nat) (r5 : Option D), ρ = [some (.tup (ns.map D.int)), some (.tup [.int w.1, .int w.2]), some (.ref p), some (.int w.1), some (.int b), r5] ∧ ds' = rangeD (s : Nat) n ∧ M'.map p = some (.lst (acc.map fun s => D.int (s : Nat))) ∧ Ext M M' ∧ s + n = w.2.toNat ∧ acc.length + n ≤ 1000 ∧ (b = 0 ∨ b = 1) ∧ acc ++ ruleS ns n s b = ruleOf ns w)
    (fun _ _ _ _ => trivial) (fun ρ M' q => ?_) (fun d ds' ρ M' Nx q nx => ?_) _ _ _ ⟨w.1.toNat, (w.2 - w.1).toNat, 0, [], none, rfl, by rw [Int.toNat_of_nonneg h0], MS.put_same, Ext.new hp, by omega, by rw [List.length_nil]; omega, .inl rfl, rfl⟩
  · obtain ⟨s, n, b, acc, r5, rfl, e, q1, q2, q3, q4, q5, q6⟩ := q
    obtain rfl : n = 0 := by
      cases n with
      | zero => rfl
      | succ n => rw [rangeD_succ] at e; cases e
    simp only [sSeq, sRet, sRetN, sNext, sIf, sAsg, sPar, sPar3, sSetI, sAug, sAugI, sDrop, sBreak, sCont, dOp, dUn, dCons, dNil, dFn, dC, dTup, dLst, dLstM, dIf, dTest, dTru, dAnd, dOr, dNot, dAndV, dOrV, dNotE, dChain, dSl, dNoPart, dPart, dSeq, dEnum, dZip, dRng1, dRng2, dYes, dCall, dMt, dVar, dDic0, dDic1, Pat.put, Pat.puts, List.getElem?_cons_zero, List.getElem?_cons_succ, List.set_cons_zero, List.set_cons_succ, startD, List.map_cons, List.map_nil, List.cons_append, List.nil_append, List.length_cons, List.length_nil, List.replicate_succ, List.replicate_zero, Nat.reduceSub, Nat.reduceAdd, Nat.zero_add, wipeD, keyD, rTuple, seqA, q1]
    have e2 : acc = ruleOf ns w := by rw [← q6]; simp [ruleS]
    have := h M' q2
    rw [← e2] at this
    exact this
  · obtain ⟨s, n, b, acc, r5, rfl, e, q1, q2, q3, q4, q5, q6⟩ := q
    cases n with
    | zero => cases e
    | succ n =>
      rw [rangeD_succ] at e
      injection e with e1 e2
      subst e1 e2
      refine ⟨_, rfl, ?_⟩
      simp only [sSeq, sRet, sRetN, sNext, sIf, sAsg, sPar, sPar3, sSetI, sAug, sAugI, sDrop, sBreak, sCont, dOp, dUn, dCons, dNil, dFn, dC, dTup, dLst, dLstM, dIf, dTest, dTru, dAnd, dOr, dNot, dAndV, dOrV, dNotE, dChain, dSl, dNoPart, dPart, dSeq, dEnum, dZip, dRng1, dRng2, dYes, dCall, dMt, dVar, dDic0, dDic1, Pat.put, Pat.puts, List.getElem?_cons_zero, List.getElem?_cons_succ, List.set_cons_zero, List.set_cons_succ, startD, List.map_cons, List.map_nil, List.cons_append, List.nil_append, List.length_cons, List.length_nil, List.replicate_succ, List.replicate_zero, Nat.reduceSub, Nat.reduceAdd, Nat.zero_add, wipeD, keyD]
      refine rIx_seq (x := .tup _) rfl (atI_ints (by omega)) (rAdd_i (rCmp_i ?_))
      simp only [rInt]
      have key : ∀ (b' : Int) (ex : List Nat), (b' = 1 ∧ ex = [s]) ∨ (b' = 0 ∧ ex = []) → ex ++ ruleS ns n (s + 1) b' = ruleS ns (n + 1) s b → isL M' (.ref p) ∧ rMul (.lst [.int s]) (.int b') M' fun y M3 => rExtd (.ref p) [y] M3 fun _ M4 => Nx [some (.tup (ns.map D.int)), some (.tup [.int w.1, .int w.2]), some (.ref p), some (.int w.1), some (.int b'), some (.int s)] M4 := fun b' ex hb hb2 => by
        refine ⟨by simp only [isL, q1], ?_⟩
        simp only [rMul, seqL, rExtd, q1]
        have e3 : (List.replicate b'.toNat [D.int (s : Nat)]).flatten = ex.map fun s => D.int (s : Nat) := by rcases hb with ⟨rfl, rfl⟩ | ⟨rfl, rfl⟩ <;> rfl
        have hl : ex.length ≤ 1 := by rcases hb with ⟨_, rfl⟩ | ⟨_, rfl⟩ <;> simp
        have hb3 : b' = 0 ∨ b' = 1 := by omega
        rw [e3, ← List.map_append]
        refine ⟨by omega, by omega, by rw [List.length_cons, List.length_nil]; omega, by rw [List.length_map, List.length_map]; omega, ?_⟩
        refine nx _ _ ⟨s + 1, n, b', _, _, rfl, by rw [show ((s : Int) + 1) = ((s + 1 : Nat) : Int) by omega], MS.put_same, q2.put hp, by omega, by rw [List.length_append]; omega, hb3, ?_⟩
        rw [← q6, List.append_assoc, hb2]
      by_cases hc : 0 < ns.getD s 0 + b
      · rw [decide_eq_true hc]
        obtain ⟨k1, k2⟩ := key 1 [s] (.inl ⟨rfl, rfl⟩) (ruleS_pos hc).symm
        exact ⟨k1, by decide, k2⟩
      · rw [decide_eq_false hc]
        obtain ⟨k1, k2⟩ := key 0 [] (.inr ⟨rfl, rfl⟩) (ruleS_neg hc).symm
        exact ⟨k1, by decide, k2⟩
theorem stD_pure (ss : List Nat) : pureD (stD ss) = true := by
  unfold stD pureD
  induction ss with
  | nil => rfl
  | cons s ss ih => rw [List.map_cons, pures, ih]; rfl
theorem ints_pure : ∀ ns : List Int, pures (ns.map D.int) = true
  | [] => rfl
  | n :: ns => by rw [List.map_cons, pures, ints_pure ns]; rfl
theorem ways_pure : ∀ ws : List (Int × Int), pures (ws.map wayD) = true
  | [] => rfl
  | w :: ws => by rw [List.map_cons, pures, ways_pure ws]; rfl
theorem item_pure (r : List Nat × List Int) : pureD (itemD r) = true := by
  unfold itemD pureD
  rw [pures, pures, stD_pure]
  show (true && (pures (r.2.map D.int) && pures [])) = true
  rw [ints_pure]; rfl
def sp_each_walk : GSp := fun ds xs => ∃ (ns : List Int) (ws : List (Int × Int)), ds = [.tup (ns.map D.int), .tup (ws.map wayD)] ∧ waysIn ws (ns.length : Nat) ∧ ns.length ≤ 1000 ∧ xs = (walksL ns ws).map itemD
def t_each_walk : DG := (gSeq (gPlain (sAsg (dVar 0) (.nm 2))) (gSeq (gFor (dTupP (dVar 1)) (.nm 3) (gSeq (gPlain (sAsg (dCall 2 sp_rule_stages (dCons (dVar 2) (dCons (dVar 3) dNil))) (.nm 4))) (gSeq (gPlain (sAsg (dCall 2 sp_chairs_after (dCons (dVar 2) (dCons (dVar 4) dNil))) (.tp [(.nm 2), (.nm 5)]))) (gSeq (gYield (dTup (dCons (dVar 4) (dCons (dVar 2) dNil)))) gNil)))) gNil))
theorem p_each_walk (ds xs : List D) (h : sp_each_walk ds xs) : t_each_walk { nx := fun ys _ _ => ys = [], rt := fun ys => ys = [] } xs (startD 6 ds) emM := by
  obtain ⟨ns, ws, rfl, hw, hl, rfl⟩ := h
  simp only [t_each_walk, sSeq, sRet, sRetN, sNext, sIf, sAsg, sPar, sPar3, sSetI, sAug, sAugI, sDrop, sBreak, sCont, dOp, dUn, dCons, dNil, dFn, dC, dTup, dLst, dLstM, dIf, dTest, dTru, dAnd, dOr, dNot, dAndV, dOrV, dNotE, dChain, dSl, dNoPart, dPart, dSeq, dEnum, dZip, dRng1, dRng2, dYes, dCall, dMt, dVar, dDic0, dDic1, Pat.put, Pat.puts, List.getElem?_cons_zero, List.getElem?_cons_succ, List.set_cons_zero, List.set_cons_succ, startD, List.map_cons, List.map_nil, List.cons_append, List.nil_append, List.length_cons, List.length_nil, List.replicate_succ, List.replicate_zero, Nat.reduceSub, Nat.reduceAdd, Nat.zero_add, wipeD, keyD, gSeq, gPlain, gNil, gYield, gFor, dTupP, dRngP, dCallG, sForG, dLcG, GE.at, dTupRg, dStar]
  refine ⟨ways_pure ws, ?_⟩
  have loop : ∀ (ws : List (Int × Int)) (ms : List Int) (r3 r4 r5 : Option D) (a0 a1 : Option D) (M : MS), waysIn ws (ms.length : Nat) → ms.length ≤ 1000 →
      gforW (.nm 3) (gSeq (gPlain (sAsg (dCall 2 sp_rule_stages (dCons (dVar 2) (dCons (dVar 3) dNil))) (.nm 4))) (gSeq (gPlain (sAsg (dCall 2 sp_chairs_after (dCons (dVar 2) (dCons (dVar 4) dNil))) (.tp [(.nm 2), (.nm 5)]))) (gSeq (gYield (dTup (dCons (dVar 4) (dCons (dVar 2) dNil)))) gNil)))
        { nx := fun ys _ _ => ys = [], rt := fun ys => ys = [] } (ws.map wayD) ((walksL ms ws).map itemD) [a0, a1, some (.tup (ms.map D.int)), r3, r4, r5] M := by
    intro ws
    induction ws with
    | nil => intro ms r3 r4 r5 a0 a1 M _ _; rfl
    | cons w ws ih =>
      intro ms r3 r4 r5 a0 a1 M hw hl
      obtain ⟨w0, w1, w2⟩ := hw w (List.mem_cons_self ..)
      rw [List.map_cons, walksL, List.map_cons]
      show 2 = 2 ∧ sp_rule_stages [.tup (ms.map D.int), wayD w] M _ noX
      refine ⟨rfl, ms, w, rfl, w0, w1, by omega, hl, fun M1 _ => ?_⟩
      show 2 = 2 ∧ sp_chairs_after [.tup (ms.map D.int), stD (ruleOf ms w)] M1 _ noX
      refine ⟨rfl, ms, ruleOf ms w, rfl, ruleOf_st w0 (by omega), fun M2 _ => ?_⟩
      show 2 ≤ 100000 ∧ pureD (itemD (ruleOf ms w, (after ms true (ruleOf ms w)).1)) = true ∧ ∃ rest, _ = _ :: rest ∧ gforW _ _ _ (ws.map wayD) rest (purE [a0, a1, some (.tup ((after ms true (ruleOf ms w)).1.map D.int)), some (wayD w), some (stD (ruleOf ms w)), some (.bl (after ms true (ruleOf ms w)).2)]) emM
      have hlen : (after ms true (ruleOf ms w)).1.length = ms.length := after_len _ _ _
      refine ⟨by decide, item_pure (ruleOf ms w, (after ms true (ruleOf ms w)).1), _, rfl, ?_⟩
      have e : purE [a0, a1, some (.tup ((after ms true (ruleOf ms w)).1.map D.int)), some (wayD w), some (stD (ruleOf ms w)), some (.bl (after ms true (ruleOf ms w)).2)] =
          [(purE [a0]).getD 0 none, (purE [a1]).getD 0 none, some (.tup ((after ms true (ruleOf ms w)).1.map D.int)), some (wayD w), some (stD (ruleOf ms w)), some (.bl (after ms true (ruleOf ms w)).2)] := by
        unfold purE
        have h1 : pureD (.tup ((after ms true (ruleOf ms w)).1.map D.int)) = true := ints_pure _
        have h2 : pureD (stD (ruleOf ms w)) = true := stD_pure _
        simp only [List.map_cons, List.map_nil, h1, h2, if_true]
        rfl
      rw [e]
      exact ih _ _ _ _ _ _ _ (by rw [hlen]; exact fun x hx => hw x (List.mem_cons_of_mem _ hx)) (by rw [hlen]; exact hl)
  exact loop ws ns _ _ _ _ _ _ hw hl
def sp_rule_plan : DSp := fun ds M Φ _ => ∃ (ns : List Int) (ws : List (Int × Int)), ds = [.tup (ns.map D.int), .tup (ws.map wayD)] ∧ waysIn ws (ns.length : Nat) ∧ ns.length ≤ 1000 ∧ ws.length ≤ 1000 ∧ Φ (planD (ruleP ns ws)) M
def t_rule_plan : DS := (sSeq (sRet (dFn rTuple (dCons (dLcG (dCallG 2 sp_each_walk (dCons (dVar 0) (dCons (dVar 1) dNil))) (.tp [(.nm 2), (.nm 3)]) [2, 3] dYes (dVar 2)) dNil))) sNext)
theorem p_rule_plan (ds : List D) (M : MS) (Φ : DQ) (h : sp_rule_plan ds M Φ noX) : t_rule_plan { nx := fun _ M' => Φ .non M', rt := Φ } (startD 4 ds) M := by
  obtain ⟨ns, ws, rfl, hw, hl, hwl, h⟩ := h
  simp only [t_rule_plan, sSeq, sRet, sRetN, sNext, sIf, sAsg, sPar, sPar3, sSetI, sAug, sAugI, sDrop, sBreak, sCont, dOp, dUn, dCons, dNil, dFn, dC, dTup, dLst, dLstM, dIf, dTest, dTru, dAnd, dOr, dNot, dAndV, dOrV, dNotE, dChain, dSl, dNoPart, dPart, dSeq, dEnum, dZip, dRng1, dRng2, dYes, dCall, dMt, dVar, dDic0, dDic1, Pat.put, Pat.puts, List.getElem?_cons_zero, List.getElem?_cons_succ, List.set_cons_zero, List.set_cons_succ, startD, List.map_cons, List.map_nil, List.cons_append, List.nil_append, List.length_cons, List.length_nil, List.replicate_succ, List.replicate_zero, Nat.reduceSub, Nat.reduceAdd, Nat.zero_add, wipeD, keyD, gSeq, gPlain, gNil, gYield, gFor, dTupP, dRngP, dCallG, sForG, dLcG, GE.at, dTupRg, dStar]
  refine ⟨trivial, ?_, _, ⟨ns, ws, rfl, hw, hl, rfl⟩, ?_⟩
  · have h1 : pureD (.tup (ns.map D.int)) = true := ints_pure _
    have h2 : pureD (.tup (ws.map wayD)) = true := ways_pure _
    rw [pures, pures, h1, h2]; rfl
  refine lcW_map (fun d => match d with | .tup (x :: _) => some x | _ => none) _ trivial (by rw [List.length_map, walksL_len]; omega) (fun x hx => ?_) ?_
  · obtain ⟨r, _, rfl⟩ := List.mem_map.mp hx
    refine ⟨_, rfl, fun acc Nx hl q => ?_⟩
    simp only [sSeq, sRet, sRetN, sNext, sIf, sAsg, sPar, sPar3, sSetI, sAug, sAugI, sDrop, sBreak, sCont, dOp, dUn, dCons, dNil, dFn, dC, dTup, dLst, dLstM, dIf, dTest, dTru, dAnd, dOr, dNot, dAndV, dOrV, dNotE, dChain, dSl, dNoPart, dPart, dSeq, dEnum, dZip, dRng1, dRng2, dYes, dCall, dMt, dVar, dDic0, dDic1, Pat.put, Pat.puts, List.getElem?_cons_zero, List.getElem?_cons_succ, List.set_cons_zero, List.set_cons_succ, startD, List.map_cons, List.map_nil, List.cons_append, List.nil_append, List.length_cons, List.length_nil, List.replicate_succ, List.replicate_zero, Nat.reduceSub, Nat.reduceAdd, Nat.zero_add, wipeD, keyD, gSeq, gPlain, gNil, gYield, gFor, dTupP, dRngP, dCallG, sForG, dLcG, GE.at, dTupRg, dStar, if_true]
    exact ⟨hl, q⟩
  · simp only [rTuple, seqA]
    have e : ((walksL ns ws).map itemD).filterMap (fun d => match d with | .tup (x :: _) => some x | _ => none) = (ruleP ns ws).map stD := by
      unfold ruleP
      rw [List.filterMap_map, List.map_map, ← List.filterMap_eq_map]
      rfl
    rw [e]
    exact h
end DL
namespace DL
open PySem PySem.Spec PyProof.Rows L2
theorem ruleS_step {ns : List Int} {n s : Nat} (hs : s + 1 < ns.length) (h : 0 < ns.getD s 0) : ruleS ns (n + 1) s 0 = s :: ruleS (step ns s) n (s + 1) 0 := by
  rw [ruleS_pos (by omega)]
  congr 1
  refine ruleS_congr n (s + 1) _ _ 1 0 ?_ fun i hi => ?_
  · rw [step_get hs, if_neg (by omega), if_pos rfl]; omega
  · rw [step_get hs, if_neg (by omega), if_neg (by omega)]; omega
theorem nonN_step {ns : List Int} {s : Nat} (hs : s + 1 < ns.length) (hn : nonN ns) (h : 0 < ns.getD s 0) : nonN (step ns s) := fun i => by
  have := hn i
  rw [step_get hs]
  by_cases h1 : i = s
  · subst h1; rw [if_pos rfl, if_neg (by omega)]; omega
  · rw [if_neg h1]; split <;> omega
end DL
namespace DL
open PySem PySem.Spec PyProof.Rows L2
theorem ruleS_ok : ∀ (n s : Nat) (ns : List Int), nonN ns → s + n < ns.length → (ruleS ns n s 0).Pairwise (· < ·) ∧ (after ns true (ruleS ns n s 0)).2 = true ∧ nonN (after ns true (ruleS ns n s 0)).1
  | 0, _, ns, h, _ => ⟨List.Pairwise.nil, rfl, h⟩
  | n + 1, s, ns, h, hl => by
    by_cases hp : 0 < ns.getD s 0
    · have hs : s + 1 < ns.length := by omega
      rw [ruleS_step hs hp, after_true hp]
      obtain ⟨i1, i2, i3⟩ := ruleS_ok n (s + 1) (step ns s) (nonN_step hs h hp) (by rw [step_len]; omega)
      exact ⟨List.pairwise_cons.mpr ⟨fun x hx => by have := ruleS_mem _ _ _ _ _ hx; omega, i1⟩, i2, i3⟩
    · have hz := h s
      rw [ruleS_neg (by omega)]
      exact ruleS_ok n (s + 1) ns h (by omega)
theorem ruleP_plan : ∀ (ws : List (Int × Int)) (ns : List Int), nonN ns → waysIn ws (ns.length : Nat) → PlanOf ns ws (ruleP ns ws)
  | [], _, _, _ => trivial
  | w :: ws, ns, h, hw => by
    obtain ⟨w0, w1, w2⟩ := hw w (List.mem_cons_self ..)
    obtain ⟨i1, i2, i3⟩ := ruleS_ok (w.2 - w.1).toNat w.1.toNat ns h (by omega)
    rw [ruleP_cons]
    exact ⟨⟨i1, fun x hx => by have := ruleS_mem _ _ _ _ _ hx; omega⟩, i2, ruleP_plan ws _ i3 (by rw [after_len]; exact fun x hx => hw x (List.mem_cons_of_mem _ hx))⟩
theorem nonN_h {ns : List Int} {h : Int} (hi : intsIn ns h) : nonN ns := fun i => by
  rw [List.getD_eq_getElem?_getD]
  cases e : ns[i]? with
  | none => exact Int.le_refl 0
  | some x => exact (hi x (List.mem_of_getElem? e)).1
end DL
namespace DL
open PySem PySem.Spec PyProof.Rows L2
/-- so many over a stage by the first 0, 1, 2, .. -/
def cl (ps : List (List Nat)) (st : Nat) : List Int := (List.range (ps.length + 1)).map fun j => (goneN (st : Nat) (ps.take j) : Int)
end DL
namespace DL
open PySem PySem.Spec PyProof.Rows L2
end DL
namespace DL
open PySem PySem.Spec PyProof.Rows L2
theorem PlanOf.take : ∀ {ws : List (Int × Int)} {ps : List (List Nat)} {ns : List Int} (k : Nat), PlanOf ns ws ps → PlanOf ns (ws.take k) (ps.take k)
  | _, _, _, 0, _ => trivial
  | [], [], _, _ + 1, _ => trivial
  | w :: ws, ss :: ps, ns, k + 1, h => ⟨h.1, h.2.1, PlanOf.take k h.2.2⟩
  | [], _ :: _, _, _ + 1, h => h.elim
  | _ :: _, [], _, _ + 1, h => h.elim
theorem PlanOf.nn : ∀ {ws : List (Int × Int)} {ps : List (List Nat)} {ns : List Int}, PlanOf ns ws ps → waysIn ws (ns.length : Nat) → nonN ns → nonN (afters ns ps)
  | [], [], _, _, _, h => h
  | w :: ws, ss :: ps, ns, h, hw, hn => by
    rw [afters]
    refine PlanOf.nn h.2.2 (by rw [after_len]; exact fun x hx => hw x (List.mem_cons_of_mem _ hx)) (after_nn ss ns (fun s hs => ?_) hn h.2.1)
    have h1 := h.1.2 s hs
    have h2 := hw w (List.mem_cons_self ..)
    omega
  | [], _ :: _, _, h, _, _ => h.elim
  | _ :: _, [], _, h, _, _ => h.elim
end DL
namespace DL
open PySem PySem.Spec PyProof.Rows L2
def overB (s : Int) (w : Int × Int) : Bool := decide (w.1 ≤ s) && decide (s < w.2)
def overs (s : Int) (ws : List (Int × Int)) : Int := (ws.map fun w => b2 (overB s w)).sum
end DL
namespace DL
open PySem PySem.Spec PyProof.Rows L2
open PySem.Sem (wp)
end DL
namespace DL
open PySem PySem.Spec PyProof.Rows L2
open PySem.Sem (wp)
end DL
namespace DL
open PySem PySem.Spec PyProof.Rows L2
def rs (row : List Int) : Nat → List Int → Int
  | _, [] => 0
  | s, m :: r => (if 0 < m then row.getD s 0 else 0) + rs row (s + 1) r
def hitB (s k : Nat) (w p : Int × Int) : Bool := (decide (w.1 ≤ (s : Nat)) && decide (((s : Nat) : Int) < w.2)) && (decide (p.1 ≤ (k : Nat)) && decide (((k : Nat) : Int) < p.2))
def col (s : Nat) (p : Int × Int) : Nat → List (Int × Int) → Int
  | _, [] => 0
  | k, w :: r => b2 (hitB s k w p) + col s p (k + 1) r
def cs (k : Nat) (ws : List (Int × Int)) : Nat → List (Int × Int) → Int
  | _, [] => 0
  | s, p :: r => col s p k ws + cs k ws (s + 1) r
def en : Int → List (Int × Int) → List D
  | _, [] => []
  | s, p :: r => .tup [.int s, wayD p] :: en (s + 1) r
end DL
namespace DL
open PySem PySem.Spec PyProof.Rows L2
theorem waysIn.sub {ws vs : List (Int × Int)} {st : Int} (h : waysIn ws st) (hs : ∀ w ∈ vs, w ∈ ws) : waysIn vs st := fun w hw => h w (hs w hw)
end DL
namespace DL
open PySem PySem.Spec PyProof.Rows L2
end DL
namespace DL
open PySem PySem.Spec PyProof.Rows L2
end DL
namespace DL
open PySem PySem.Spec PyProof.Rows L2
end DL
namespace DL
open PySem PySem.Spec PyProof.Rows L2
end DL
namespace DL
open PySem PySem.Spec PyProof.Rows L2
def F2 (d : D) (n w : Nat) : Prop := still d = true ∧ dep d ≤ n ∧ okl d = true ∧ wt d ≤ w
theorem F2.mono {d : D} {n w n' w' : Nat} (h : F2 d n w) (hn : n ≤ n') (hw : w ≤ w') : F2 d n' w' := ⟨h.1, Nat.le_trans h.2.1 hn, h.2.2.1, Nat.le_trans h.2.2.2 hw⟩
theorem F2.of {d : D} {n w : Nat} (h : fineB d n w = true) : F2 d n w := by
  unfold fineB at h
  simp only [Bool.and_eq_true, decide_eq_true_eq] at h
  exact ⟨h.1.1.1.1, h.1.1.1.2, h.1.1.2, h.1.2⟩
def A2 (xs : List D) (n w : Nat) : Prop := ∀ x ∈ xs, F2 x n w
theorem A2.sub {xs ys : List D} {n w : Nat} (h : A2 xs n w) (s : ∀ y ∈ ys, y ∈ xs) : A2 ys n w := fun y hy => h y (s y hy)
theorem A2.cons {x : D} {xs : List D} {n w : Nat} (h : F2 x n w) (h' : A2 xs n w) : A2 (x :: xs) n w := fun y hy => by
  rcases List.mem_cons.mp hy with rfl | hy
  · exact h
  · exact h' y hy
theorem A2.nil {n w : Nat} : A2 [] n w := fun _ h => by cases h
theorem A2.all : ∀ {xs : List D} {n w : Nat}, A2 xs n w → stills xs = true ∧ deps xs ≤ n ∧ okls xs = true ∧ wts xs ≤ (w + 2) * xs.length
  | [], n, w, _ => ⟨rfl, Nat.zero_le _, rfl, Nat.zero_le _⟩
  | x :: xs, n, w, h => by
    obtain ⟨a1, a2, a3, a4⟩ := h x (List.mem_cons_self ..)
    obtain ⟨b1, b2, b3, b4⟩ := A2.all (xs := xs) (n := n) (w := w) fun y hy => h y (List.mem_cons_of_mem _ hy)
    refine ⟨by rw [stills, a1, b1]; rfl, by rw [deps]; omega, by rw [okls, a3, b3]; rfl, ?_⟩
    rw [wts, List.length_cons, Nat.mul_succ]
    omega
theorem A2.tup {xs : List D} {n w L : Nat} (h : A2 xs n w) (hl : xs.length ≤ L) : F2 (.tup xs) (n + 1) ((w + 2) * L + 3) := by
  obtain ⟨a, b, c, d⟩ := h.all
  have := Nat.mul_le_mul_left (w + 2) hl
  exact ⟨by rw [still]; exact a, by rw [dep]; omega, by rw [okl]; exact c, by rw [wt]; omega⟩
theorem A2.lst {xs : List D} {n w L : Nat} (h : A2 xs n w) (hl : xs.length ≤ L) : F2 (.lst xs) (n + 1) ((w + 2) * L + 3) := by
  obtain ⟨a, b, c, d⟩ := h.all
  have := Nat.mul_le_mul_left (w + 2) hl
  exact ⟨by rw [still]; exact a, by rw [dep]; omega, by rw [okl]; exact c, by rw [wt]; omega⟩
theorem F2.int {i : Int} (h0 : -(2 ^ 200) < i) (h1 : i < 2 ^ 200) : F2 (.int i) 0 1921 := F2.of (fineB_int h0 h1)
end DL
namespace DL
open PySem PySem.Spec PyProof.Rows L2
end DL
namespace DL
open PySem PySem.Spec PyProof.Rows L2
end DL
namespace DL
open PySem PySem.Spec PyProof.Rows L2
end DL
namespace DL
open PySem PySem.Spec PyProof.Rows L2
end DL
namespace DL
open PySem PySem.Spec PyProof.Rows L2
/-- carried over a stage by the first k walkers of the rule -/
def car (ns : List Int) (ws : List (Int × Int)) (k : Nat) (s : Int) : Int := (goneN s ((ruleP ns ws).take k) : Int)
def segW (ws : List (Int × Int)) (m k : Nat) : List (Int × Int) := (ws.drop m).take (k - m)
/-- the bound over a stage when the walkers m .. e count -/
def val (ns : List Int) (ws : List (Int × Int)) (e s m : Nat) : Int := overs (s : Nat) (segW ws m e) + (if 0 < m then ns.getD s 0 + car ns ws m ((s : Nat) - 1) else 0)
def leB (p q : Int × Int) : Bool := decide (p.1 < q.1) || (decide (p.1 = q.1) && decide (p.2 ≤ q.2))
def minP : Int × Int → List (Int × Int) → Int × Int
  | p, [] => p
  | p, q :: r => minP (if leB p q = true then p else q) r
def minL : List (Int × Int) → Int × Int
  | [] => (0, 0)
  | p :: r => minP p r
def pairsM (ns : List Int) (ws : List (Int × Int)) (e s : Nat) : List (Int × Int) := (List.range (e + 1)).map fun m => (val ns ws e s m, (m : Int))
def bestM (ns : List Int) (ws : List (Int × Int)) (e s : Nat) : Nat := (minL (pairsM ns ws e s)).2.toNat
def bestL (ns : List Int) (ws : List (Int × Int)) : Nat → Nat → List Nat
  | 0, e => [bestM ns ws e 0]
  | s + 1, e => bestL ns ws s (bestM ns ws e (s + 1)) ++ [bestM ns ws e (s + 1)]
def toI (ms : List Nat) : List Int := ms.map fun m => ((m : Nat) : Int)
end DL
namespace DL
open PySem PySem.Spec PyProof.Rows L2
/-- what has to come to a station (from before) -/
def ned (rs us : List Int) (b : Nat) : Int := nd ((difs rs us).drop b)
def less (left : List Int) (own : List Nat) : List Int := (List.range left.length).map fun i => left.getD i 0 - b2 (hasI (i : Nat) own)
def ownOf (left : List Int) (ss : List Nat) : List Nat := ss.filter fun s => decide (0 < left.getD s 0)
def prune : List Int → List (List Nat) → List (List Nat)
  | _, [] => []
  | left, ss :: r => ownOf left ss :: prune (less left (ownOf left ss)) r
/-- the needs that the plan is pruned by -/
def nedL (ns us : List Int) : List Int := (List.range (ns.length - 1)).map fun s => ned ns us (s + 1)
end DL
namespace DL
open PySem PySem.Spec PyProof.Rows L2
theorem cut_be {α : Type} {xs : List α} {b e : Nat} (f : α → D) (h1 : b ≤ xs.length) (h2 : e ≤ xs.length) : cutD (xs.map f) (some (b : Int)) (some (e : Int)) = ((xs.drop b).take (e - b)).map f := by
  unfold cutD
  rw [HT.sIx_nat, HT.sIx_nat, List.length_map, Nat.min_eq_left h1, Nat.min_eq_left h2, List.map_take, List.map_drop]
def missN (ns us : List Int) (b e : Nat) : Int := ((us.drop b).take (e - b)).sum - ((ns.drop b).take (e - b)).sum
def pairsS (ns us : List Int) (b : Nat) : List (Int × Int) := (List.range (ns.length - b)).map fun j => (0 - missN ns us b (b + j + 1), ((b + j : Nat) : Int))
def needyN (ns us : List Int) (b : Nat) : Nat := (minL (pairsS ns us b)).2.toNat
theorem Ext.none {M M' : MS} {p : Addr} (h : Ext M M') (hp : M'.map p = none) : M.map p = none := by
  cases e : M.map p with
  | none => rfl
  | some o => have := h p (by rw [e]; simp); rw [hp, e] at this; cases this
end DL
namespace DL
open PySem PySem.Spec PyProof.Rows L2
def barD (st : Nat) (ms : List Nat) : D := .tup [.str "bar", .int (st : Nat), stD ms]
def planC (ps : List (List Nat)) : D := .tup [.str "plan", planD ps]
def shortB (ns us : List Int) (ws : List (Int × Int)) (s : Nat) : Bool := decide (car ns ws ws.length (s : Nat) < ned ns us (s + 1))
def certD (ns us : List Int) (ws : List (Int × Int)) : D :=
  if 0 < ned ns us 0 then barD (needyN ns us 0) [] else
  match (List.range (ns.length - 1)).find? (shortB ns us ws) with
  | some s => barD (needyN ns us (s + 1)) (bestL ns ws s ws.length)
  | none => planC (prune (nedL ns us) (ruleP ns ws))
end DL
namespace DL
open PySem PySem.Spec PyProof.Rows L2
def isStr : D → Bool
  | .str _ => true
  | _ => false
theorem rIsi_str {M : MS} {Φ : DQ} {d : D} (h : still d = true) (q : Φ (.bl (isStr d)) M) : rIsi [d, .ty .str] M Φ := by
  unfold rIsi
  cases d <;> first
    | exact ⟨by decide, q⟩
    | simp [still] at h
end DL
namespace DL
open PySem PySem.Spec PyProof.Rows L2
/-- there is a plan: nobody lacks more than can be carried -/
def Feas (ns us : List Int) (ws : List (Int × Int)) : Prop := ned ns us 0 = 0 ∧ ∀ s, s + 1 < ns.length → ned ns us (s + 1) ≤ car ns ws ws.length (s : Nat)
end DL
namespace DL
open PySem PySem.Spec PyProof.Rows L2
theorem Kp.none {a c p : Addr} {M M' : MS} (h : Kp a c M M') (pa : p ≠ a) (pc : p ≠ c) (e : M'.map p = none) : M.map p = none := by
  cases e2 : M.map p with
  | none => rfl
  | some o => have := h.keep pa pc e2; rw [e] at this; cases this
end DL
namespace DL
open PySem PySem.Spec PyProof.Rows L2
end DL
namespace DL
open PySem PySem.Spec PyProof.Rows L2
end DL
namespace DL
open PySem PySem.Spec PyProof.Rows L2
end DL
namespace DL
open PySem PySem.Spec PyProof.Rows L2
structure Dw (M : MS) (a c : Addr) (k : Nat) : Prop where
  ne : a ≠ c
  ex : ∃ (n : Int) (cells rests : List Int), M.map a = some (.lst [.lst (cells.map D.int), .int n, .ref c]) ∧ M.map c = some (.lst (rests.map D.int)) ∧ 0 ≤ n ∧ n + k ≤ 2 ^ 24 ∧ 0 < cells.length ∧ cells.length ≤ 64 ∧ rests.length = cells.length ∧ ∀ x ∈ rests, 0 ≤ x
theorem Dw.mono {M : MS} {a c : Addr} {k k' : Nat} (h : Dw M a c k) (hk : k' ≤ k) : Dw M a c k' := by
  obtain ⟨n, cells, rests, h1, h2, h3, h4, h5⟩ := h.ex
  exact ⟨h.ne, n, cells, rests, h1, h2, h3, by omega, h5⟩
theorem Dw.a_ne {M : MS} {a c p : Addr} {k : Nat} (h : Dw M a c k) (hp : M.map p = none) : p ≠ a := fun e => by
  obtain ⟨n, cells, rests, h1, _⟩ := h.ex
  rw [← e, hp] at h1; cases h1
theorem Dw.c_ne {M : MS} {a c p : Addr} {k : Nat} (h : Dw M a c k) (hp : M.map p = none) : p ≠ c := fun e => by
  obtain ⟨n, cells, rests, _, h1, _⟩ := h.ex
  rw [← e, hp] at h1; cases h1
theorem Dw.put {M : MS} {a c p : Addr} {k : Nat} {o : MO} (h : Dw M a c k) (ha : p ≠ a) (hc : p ≠ c) : Dw (M.put p o) a c k := by
  obtain ⟨n, cells, rests, h1, h2, h3⟩ := h.ex
  exact ⟨h.ne, n, cells, rests, by rw [MS.put_ne (Ne.symm ha)]; exact h1, by rw [MS.put_ne (Ne.symm hc)]; exact h2, h3⟩
end DL
namespace DL
open PySem PySem.Spec PyProof.Rows L2
end DL
namespace DL
open PySem PySem.Spec PyProof.Rows L2
end DL
namespace DL
open PySem PySem.Spec PyProof.Rows L2
def walkerO (w : Int × Int) (n : Int) : MO := .ins "Walker" [("way", wayD w), ("done", .int n)]
end DL
namespace DL
open PySem PySem.Spec PyProof.Rows L2
end DL
namespace DL
open PySem PySem.Spec PyProof.Rows L2
end DL
namespace DL
open PySem PySem.Spec PyProof.Rows L2
end DL
namespace DL
open PySem PySem.Spec PyProof.Rows L2
end DL
namespace DL
open PySem PySem.Spec PyProof.Rows L2
def mostN (ns : List Int) (ws : List (Int × Int)) (s : Nat) : Int := ns.getD s 0 + car ns ws ws.length ((s : Nat) - 1)
end DL
namespace DL
open PySem PySem.Spec PyProof.Rows L2
end DL
namespace DL
open PySem PySem.Spec PyProof.Rows L2
/-- a value that may be asked -/
def Odd (d : D) : Prop := F2 d 6 60000 ∧ ∀ xs, d = .tup xs → xs.length ≤ 30000
theorem Odd.lst {xs : List D} (h : A2 xs 5 4000) (hl : xs.length ≤ 12) : Odd (.lst xs) := ⟨(h.lst (L := 12) hl).mono (by decide) (by decide), fun ys e => by cases e⟩
theorem Odd.tup {xs : List D} (h : A2 xs 5 4000) (hl : xs.length ≤ 12) : Odd (.tup xs) := ⟨(h.tup (L := 12) hl).mono (by decide) (by decide), fun ys e => by injection e with e; rw [← e]; omega⟩
theorem Odd.of {d : D} (h : F2 d 5 4000) (hl : ∀ xs, d = .tup xs → xs.length ≤ 30000) : Odd d := ⟨h.mono (by decide) (by decide), hl⟩
end DL
namespace DL
open PySem PySem.Spec PyProof.Rows L2
end DL
namespace DL
open PySem PySem.Spec PyProof.Rows L2
end DL
namespace DL
open PySem PySem.Spec PyProof.Rows L2
end DL
namespace DL
open PySem PySem.Spec PyProof.Rows L2
end DL
namespace DL
open PySem PySem.Spec PyProof.Rows L2
end DL
namespace DL
open PySem PySem.Spec PyProof.Rows L2
end DL
namespace DL
open PySem PySem.Spec PyProof.Rows L2
end DL
namespace DL
open PySem PySem.Spec PyProof.Rows L2
def e1 (b : Prop) [Decidable b] : Int := if b then 1 else 0
structure Df (n : Nat) (c : Int) (o : Nat) (st st' : List Int × List Int) : Prop where
  l1 : st.1.length = n
  l2 : st'.1.length = n
  l3 : st.2.length = n - 1
  l4 : st'.2.length = n - 1
  ex : ∃ q p : Nat, q ≤ p ∧ p < n ∧ (c = 0 → q = o) ∧ (∀ i, st'.1.getD i 0 = st.1.getD i 0 + (if i = p then 1 else 0) - (if i = q then c else 0)) ∧ ∀ i, st'.2.getD i 0 = st.2.getD i 0 + (if q ≤ i ∧ i < p then 1 else 0)
theorem goW_yes {st : List Int × List Int} {s : Nat} (h : 0 < st.1.getD s 0) (hs : s + 1 < st.1.length) (hl : st.2.length = st.1.length - 1) :
    (∀ i, (goW st s).1.getD i 0 = st.1.getD i 0 - (if i = s then 1 else 0) + (if i = s + 1 then 1 else 0)) ∧ ∀ i, (goW st s).2.getD i 0 = st.2.getD i 0 + (if i = s then 1 else 0) := by
  have e : goW st s = (step st.1 s, st.2.set s (st.2.getD s 0 + 1)) := by unfold goW; rw [if_pos h]
  rw [e]
  refine ⟨fun i => step_get hs i, fun i => ?_⟩
  dsimp only
  rw [List.getD_eq_getElem?_getD, List.getElem?_set]
  by_cases e : s = i
  · subst e; rw [if_pos rfl, if_pos (by omega), if_pos rfl]; rfl
  · rw [if_neg e, if_neg (Ne.symm e), List.getD_eq_getElem?_getD, Int.add_zero]
theorem Df.go {n o : Nat} {c : Int} {st st' : List Int × List Int} (hc : c = 0 ∨ c = 1) (D : Df n c o st st') {s : Nat} (hs : s + 1 < n) : Df n c o (goW st s) (goW st' s) := by
  obtain ⟨l1, l2, l3, l4, q, p, hqp, hpn, hq0, h1, h2⟩ := D
  have hs1 := h1 s
  refine ⟨by rw [(goW_len st s).1]; exact l1, by rw [(goW_len st' s).1]; exact l2, by rw [(goW_len st s).2]; exact l3, by rw [(goW_len st' s).2]; exact l4, ?_⟩
  by_cases ha : 0 < st.1.getD s 0
  · obtain ⟨a1, a2⟩ := goW_yes ha (by omega) (by omega)
    by_cases hb : 0 < st'.1.getD s 0
    · obtain ⟨b1, b2⟩ := goW_yes hb (by omega) (by omega)
      exact ⟨q, p, hqp, hpn, hq0, fun i => by rw [a1, b1, h1]; omega, fun i => by rw [a2, b2, h2]; omega⟩
    · have eb : goW st' s = st' := if_neg hb
      rw [eb]
      have hsq : s = q ∧ c = 1 ∧ s ≠ p := by
        by_cases hp : s = p
        · rw [if_pos hp] at hs1
          by_cases hq : s = q
          · rw [if_pos hq] at hs1; omega
          · rw [if_neg hq] at hs1; omega
        · rw [if_neg hp] at hs1
          by_cases hq : s = q
          · rw [if_pos hq] at hs1; omega
          · rw [if_neg hq] at hs1; omega
      obtain ⟨rfl, rfl, hp⟩ := hsq
      refine ⟨s + 1, p, by omega, hpn, fun z => by omega, fun i => ?_, fun i => ?_⟩
      · rw [a1, h1]; split <;> split <;> split <;> omega
      · rw [a2, h2]; split <;> split <;> split <;> omega
  · have ea : goW st s = st := if_neg ha
    rw [ea]
    by_cases hb : 0 < st'.1.getD s 0
    · obtain ⟨b1, b2⟩ := goW_yes hb (by omega) (by omega)
      have hsp : s = p := by
        by_cases hp : s = p
        · exact hp
        · rw [if_neg hp] at hs1
          by_cases hq : s = q
          · rw [if_pos hq] at hs1; omega
          · rw [if_neg hq] at hs1; omega
      subst hsp
      refine ⟨q, s + 1, by omega, by omega, hq0, fun i => ?_, fun i => ?_⟩
      · rw [b1, h1]; split <;> split <;> split <;> omega
      · rw [b2, h2]; split <;> split <;> split <;> omega
    · have eb : goW st' s = st' := if_neg hb
      rw [eb]
      exact ⟨q, p, hqp, hpn, hq0, h1, h2⟩
end DL
namespace DL
open PySem PySem.Spec PyProof.Rows L2
end DL
namespace DL
open PySem PySem.Spec PyProof.Rows L2
end DL
namespace DL
open PySem PySem.Spec PyProof.Rows L2
end DL
namespace DL
open PySem PySem.Spec PyProof.Rows L2
end DL
namespace DL
open PySem PySem.Spec PyProof.Rows L2
def inB (w : Int × Int) (s : Nat) : Bool := decide (w.1 ≤ (s : Int)) && decide ((s : Int) < w.2)
end DL
namespace DL
open PySem PySem.Spec PyProof.Rows L2
def InF : List (Int × Int) → List (List Nat) → Prop
  | [], [] => True
  | w :: ws, ss :: ps => inWay w ss ∧ InF ws ps
  | _, _ => False
theorem InF.len : ∀ {ws : List (Int × Int)} {ps : List (List Nat)}, InF ws ps → ps.length = ws.length
  | [], [], _ => rfl
  | _ :: _, _ :: _, h => by rw [List.length_cons, List.length_cons, InF.len h.2]
  | [], _ :: _, h => h.elim
  | _ :: _, [], h => h.elim
theorem InF.mem : ∀ {ws : List (Int × Int)} {ps : List (List Nat)}, InF ws ps → ∀ ss ∈ ps, ∃ w ∈ ws, inWay w ss
  | w :: ws, s :: ps, h, ss, hs => by
    rcases List.mem_cons.mp hs with rfl | z
    · exact ⟨w, List.mem_cons_self .., h.1⟩
    · obtain ⟨v, hv, q⟩ := h.2.mem ss z
      exact ⟨v, List.mem_cons_of_mem _ hv, q⟩
  | [], [], _, _, hs => by cases hs
  | [], _ :: _, h, _, _ => h.elim
  | _ :: _, [], h, _, _ => h.elim
/-- a list, laid or a tree -/
def Hs (M0 M : MS) (x : D) (xs : List D) : Prop := x = .lst xs ∨ ∃ p, x = .ref p ∧ M0.map p = none ∧ M.map p = some (.lst xs)
theorem Hs.ext {M0 M M' : MS} {x : D} {xs : List D} (h : Hs M0 M x xs) (e : Ext M M') : Hs M0 M' x xs := by
  rcases h with rfl | ⟨p, rfl, h0, h1⟩
  · exact .inl rfl
  · exact .inr ⟨p, rfl, h0, by rw [e p (by rw [h1]; simp)]; exact h1⟩
theorem Hs.put {M0 M : MS} {x : D} {xs : List D} {p : Addr} {o : MO} (h : Hs M0 M x xs) (hp : ∀ q, x = .ref q → q ≠ p) : Hs M0 (M.put p o) x xs := by
  rcases h with rfl | ⟨q, rfl, h0, h1⟩
  · exact .inl rfl
  · exact .inr ⟨q, rfl, h0, by rw [MS.put_ne (hp q rfl)]; exact h1⟩
end DL
namespace DL
open PySem PySem.Spec PyProof.Rows L2
end DL
namespace DL
open PySem PySem.Spec PyProof.Rows L2
end DL
namespace DL
open PySem PySem.Spec PyProof.Rows L2
end DL
namespace DL
open PySem PySem.Spec PyProof.Rows L2
end DL
namespace DL
open PySem PySem.Spec PyProof.Rows L2
end DL
namespace DL
open PySem PySem.Spec PyProof.Rows L2
theorem Hs.kp {M0 M M' : MS} {x : D} {xs : List D} {a c : Addr} (h : Hs M0 M x xs) (ha : M0.map a ≠ none) (hc : M0.map c ≠ none) (k : Kp a c M M') : Hs M0 M' x xs := by
  rcases h with rfl | ⟨p, rfl, h0, h1⟩
  · exact .inl rfl
  · exact .inr ⟨p, rfl, h0, k.keep (fun e => by subst e; exact ha h0) (fun e => by subst e; exact hc h0) h1⟩
end DL
namespace DL
open PySem PySem.Spec PyProof.Rows L2
end DL
namespace DL
open PySem PySem.Spec PyProof.Rows L2
end DL
namespace DL
open PySem PySem.Spec PyProof.Rows L2
end DL
namespace DL
open PySem PySem.Spec PyProof.Rows L2
end DL
namespace DL
open PySem PySem.Spec PyProof.Rows L2
end DL
namespace DL
open PySem PySem.Spec PyProof.Rows L2
end DL
namespace DL
open PySem PySem.Spec PyProof.Rows L2
end DL
namespace DL
open PySem PySem.Spec PyProof.Rows L2
end DL
namespace DL
open PySem PySem.Spec PyProof.Rows L2
structure Wks (M : MS) (p : Nat → Addr) (w : Nat → Int × Int) (l l' : Nat → Int) (pl : Addr) : Prop where
  a0 : M.map (p 0) = some (walkerO (w 0) (l 0))
  a1 : M.map (p 1) = some (walkerO (w 1) (l 1))
  ll : M.map pl = some (.lst [.int (l' 0), .int (l' 1)])
  ne : p 0 ≠ p 1
theorem Wks.at {M : MS} {p : Nat → Addr} {w : Nat → Int × Int} {l l' : Nat → Int} {pl : Addr} (h : Wks M p w l l' pl) {s : Nat} (hs : s < 2) : M.map (p s) = some (walkerO (w s) (l s)) := by
  match s, hs with
  | 0, _ => exact h.a0
  | 1, _ => exact h.a1
theorem Wks.ext {M M' : MS} {p : Nat → Addr} {w : Nat → Int × Int} {l l' : Nat → Int} {pl : Addr} (h : Wks M p w l l' pl) (x : Ext M M') : Wks M' p w l l' pl :=
  ⟨(x _ (by rw [h.a0]; simp)).trans h.a0, (x _ (by rw [h.a1]; simp)).trans h.a1, (x _ (by rw [h.ll]; simp)).trans h.ll, h.ne⟩
theorem Wks.kp {M M' : MS} {p : Nat → Addr} {w : Nat → Int × Int} {l l' : Nat → Int} {pl a c : Addr} (h : Wks M p w l l' pl) (k : Kp a c M M') (hp : ∀ s < 2, p s ≠ a ∧ p s ≠ c) (ha : pl ≠ a) (hc : pl ≠ c) : Wks M' p w l l' pl :=
  ⟨k.keep (hp 0 (by decide)).1 (hp 0 (by decide)).2 h.a0, k.keep (hp 1 (by decide)).1 (hp 1 (by decide)).2 h.a1, k.keep ha hc h.ll, h.ne⟩
def bump (l : Nat → Int) (s : Nat) (d : Int) : Nat → Int := fun i => if i = s then l i + d else l i
theorem seq_post {a b : DS} {Δ : DEnds} {ρ : DEnv} {M : MS} (P : DEnv → MS → Prop) (h2 : ∀ ρ' M', P ρ' M' → b Δ ρ' M') (h1 : ∀ K : DEnv → MS → Prop, (∀ ρ' M', P ρ' M' → K ρ' M') → a { Δ with nx := K } ρ M) : sSeq a b Δ ρ M := h1 _ h2
theorem rEq_lnil {xs : List D} {M : MS} {Φ : DQ} (q : Φ (.bl xs.isEmpty) M) : rEq (.lst xs) (.lst []) M Φ := by
  cases xs with
  | nil => exact rEq_still rfl (by decide) rfl (by decide) q
  | cons x l => exact rEq_len (xs := x :: l) (ys := []) rfl rfl (by simp) q
end DL
namespace DL
open PySem PySem.Spec PyProof.Rows L2
end DL
namespace DL
open PySem PySem.Spec PyProof.Rows L2
end DL
namespace DL
open PySem PySem.Spec PyProof.Rows L2
end DL
namespace DL
open PySem PySem.Spec PyProof.Rows L2
end DL
namespace DL
open PySem PySem.Spec PyProof.Rows L2
def sp_law_draw_v3 : DSp := sp_law_draw
def t_law_draw_v3 : DS := (sSeq (sSetI (dOp rAdd (dOp rIx (dVar 0) (dC (.int 1))) (dC (.int 1))) (dVar 0) (dC (.int 1))) (sSeq (sAsg (dC (.int 0)) (.nm 2)) (sSeq (sAsg (dUn rNeg (dC (.int 1))) (.nm 3)) (sSeq (sIf (dTest (dOp rGt (dFn rLen (dCons (dOp rIx (dVar 0) (dC (.int 0))) dNil)) (dC (.int 0)))) (sSeq (sAsg (dOp rMod (dOp rIx (dVar 0) (dC (.int 1))) (dFn rLen (dCons (dOp rIx (dVar 0) (dC (.int 0))) dNil))) (.nm 3)) (sSeq (sAsg (dOp rIx (dOp rIx (dVar 0) (dC (.int 0))) (dVar 3)) (.nm 2)) sNext)) sNext) (sSeq (sIf (dTest (dOp rGe (dVar 2) (dOp rPow (dC (.int 10)) (dC (.int 18))))) (sSeq (sSetI (dOp rDiv (dVar 2) (dVar 1)) (dOp rIx (dVar 0) (dC (.int 0))) (dVar 3)) (sSeq (sRet (dOp rMod (dVar 2) (dVar 1))) sNext)) sNext) (sSeq (sRet (dOp rMod (dOp rMod (dOp rPow (dOp rAdd (dOp rAdd (dOp rMod (dVar 2) (dC (.int 2147483587))) (dOp rMul (dC (.int 7919)) (dOp rIx (dVar 0) (dC (.int 1))))) (dC (.int 1))) (dC (.int 5))) (dC (.int 2147483647))) (dVar 1))) sNext))))))
theorem mix_ok3 {x n l : Int} {M : MS} {Φ : DQ} (hx : 0 ≤ x) (hn0 : 0 ≤ n) (hn : n ≤ 2 ^ 40) (hl1 : 1 ≤ l) (h : ∀ r : Int, 0 ≤ r → r < l → Φ (.int r) M) :
    rMod (.int x) (.int 2147483587) M fun u M => rMul (.int 7919) (.int n) M fun v M => rAdd u v M fun w M => rAdd w (.int 1) M fun t M => rPow t (.int 5) M fun t M => rMod t (.int 2147483647) M fun t M => rMod t (.int l) M Φ := by
  refine rMod_i (by decide) (rMul_i (.inl (by decide)) (rAdd_i (rAdd_i ?_)))
  have b1 : 0 ≤ x % 2147483587 := Int.emod_nonneg _ (by decide)
  have b2 : x % 2147483587 < 2147483587 := Int.emod_lt_of_pos _ (by decide)
  refine rPow_i ⟨by decide, by decide, by omega⟩ (rMod_i (by decide) (rMod_i (by omega) ?_))
  exact h _ (Int.emod_nonneg _ (by omega)) (Int.emod_lt_of_pos _ (by omega))
theorem p_law_draw_v3 (ds : List D) (M : MS) (Φ : DQ) (h : sp_law_draw_v3 ds M Φ noX) : t_law_draw_v3 { nx := fun _ M' => Φ .non M', rt := Φ } (startD 4 ds) M := by
  obtain ⟨a, c, k, l, rfl, hl1, hl2, hD, h⟩ := h
  obtain ⟨hac, n, cells, ha, hc, hn0, hn, hlen, hpos⟩ := hD
  simp only [t_law_draw_v3, sSeq, sRet, sRetN, sNext, sIf, sAsg, sPar, sPar3, sSetI, sAug, sAugI, sDrop, sBreak, sCont, dOp, dUn, dCons, dNil, dFn, dC, dTup, dLst, dLstM, dIf, dTest, dTru, dAnd, dOr, dNot, dAndV, dOrV, dNotE, dChain, dSl, dNoPart, dPart, dSeq, dEnum, dZip, dRng1, dRng2, dYes, dCall, dMt, dVar, dDic0, dDic1, put_nm, put_tp, puts_nil, puts_cons, List.getElem?_cons_zero, List.getElem?_cons_succ, List.set_cons_zero, List.set_cons_succ, startD, List.map_cons, List.map_nil, List.cons_append, List.nil_append, List.length_cons, List.length_nil, List.replicate_succ, List.replicate_zero, Nat.reduceSub, Nat.reduceAdd, Nat.zero_add, wipeD, keyD, gSeq, gPlain, gNil, gYield, gFor, dTupP, dRngP, dCallG, sForG, dLcG, GE.at, dTupRg, dStar]
  refine rIx_seq (seqA_ref ha) (d := .int n) (by rw [at1]; rfl) (rAdd_i ?_)
  refine rSet_ref (n := 1) ha rfl ?_
  have ea : (M.put a (.lst [.ref c, .int (n + 1)])).map a = some (.lst [.ref c, .int (n + 1)]) := MS.put_same
  have ec : (M.put a (.lst [.ref c, .int (n + 1)])).map c = some (.lst (cells.map D.int)) := by rw [MS.put_ne (Ne.symm hac)]; exact hc
  have eb : ∀ b, b ≠ a → b ≠ c → (M.put a (.lst [.ref c, .int (n + 1)])).map b = M.map b := fun b x _ => MS.put_ne x
  show rNeg (.int 1) (M.put a (.lst [.ref c, .int (n + 1)])) _
  generalize M.put a (.lst [.ref c, .int (n + 1)]) = M1 at ea ec eb ⊢
  refine rNeg_i ?_
  refine rIx_seq (seqA_ref ea) (d := .ref c) (by rw [at0]; rfl) ?_
  refine rLen_seq (fun z e => nomatch e) (seqA_ref ec) ?_
  simp only [List.length_map, rGt, rCmp]
  have tail : ∀ x : Int, 0 ≤ x → rMod (.int x) (.int 2147483587) M1 fun x M1 => rIx (.ref a) (.int 1) M1 fun y M2 => rMul (.int 7919) y M2 fun y M2 => rAdd x y M2 fun x M1 => rAdd x (.int 1) M1 fun x M1 => rPow x (.int 5) M1 fun x M1 => rMod x (.int 2147483647) M1 fun x M1 => rMod x (.int l) M1 Φ := fun x hx => by
    have q := mix_ok3 (M := M1) (Φ := Φ) (l := l) (n := n + 1) hx (by omega) (by omega) hl1 fun r r0 r1 => by
      obtain ⟨d1, d2⟩ := draw_out hac hn0 hn ea ec hlen hpos eb
      exact h r M1 d1 d2 r0 r1
    refine ⟨by decide, rIx_seq (seqA_ref ea) (d := .int (n + 1)) (by rw [at1]; rfl) q.2⟩
  by_cases h0 : cells.length = 0
  · rw [if_neg (by rw [h0]; decide)]
    refine rPow_i ⟨by decide, by decide, by decide⟩ (rCmp_i ?_)
    dsimp only
    rw [if_neg (by decide)]
    exact tail 0 (by decide)
  · rw [if_pos (decide_eq_true (by omega))]
    refine rIx_seq (seqA_ref ea) (d := .int (n + 1)) (by rw [at1]; rfl) ?_
    refine rIx_seq (seqA_ref ea) (d := .ref c) (by rw [at0]; rfl) ?_
    refine rLen_seq (fun z e => nomatch e) (seqA_ref ec) ?_
    rw [List.length_map]
    refine rMod_i (by omega) ?_
    refine rIx_seq (seqA_ref ea) (d := .ref c) (by rw [at0]; rfl) ?_
    have m0 : 0 ≤ (n + 1) % (cells.length : Int) := Int.emod_nonneg _ (by omega)
    have m1 : (n + 1) % (cells.length : Int) < (cells.length : Int) := Int.emod_lt_of_pos _ (by omega)
    generalize hi : (n + 1) % (cells.length : Int) = i at m0 m1 ⊢
    have hj : i.toNat < cells.length := by omega
    have gx : cells[i.toNat]? = some cells[i.toNat] := List.getElem?_eq_getElem hj
    generalize hx : cells[i.toNat] = x at gx
    have px : 0 ≤ x := hpos x (hx ▸ List.getElem_mem hj)
    refine rIx_seq (seqA_ref ec) (d := .int x) (by rw [atI_t _ _ m0, List.getElem?_map, gx]; rfl) ?_
    refine rPow_i ⟨by decide, by decide, by decide⟩ (rCmp_i ?_)
    dsimp only
    split
    · refine rDiv_i (by omega) (by omega) ?_
      refine rIx_seq (seqA_ref ea) (d := .ref c) (by rw [at0]; rfl) ?_
      refine rSet_ref (n := i.toNat) ec (by rw [List.length_map]; exact ixN_t _ _ m0 m1) ?_
      refine rMod_i (by omega) ?_
      obtain ⟨d1, d2⟩ := draw_out (M := M) (M' := M1.put c (.lst ((cells.map D.int).set i.toNat (.int (x / l))))) (cells' := cells.set i.toNat (x / l)) hac hn0 hn (by rw [MS.put_ne hac]; exact ea) (by rw [MS.put_same, ← List.map_set]) (by rw [List.length_set]; exact hlen)
        (fun y hy => by
          rcases List.mem_or_eq_of_mem_set hy with z | z
          · exact hpos y z
          · rw [z]; exact Int.ediv_nonneg px (by omega)) (fun b x y => by rw [MS.put_ne y]; exact eb b x y)
      exact h _ _ d1 d2 (Int.emod_nonneg _ (by omega)) (Int.emod_lt_of_pos _ (by omega))
    · exact tail x px
end DL
namespace DL
open PySem PySem.Spec PyProof.Rows L2
def stateD (row : List Int) (ws : List (Int × Int)) (us : List Int) : D := .tup [.tup (row.map D.int), .tup (ws.map wayD), .tup (us.map D.int)]
structure StOk (row : List Int) (ws : List (Int × Int)) (us : List Int) : Prop where
  r1 : 1 ≤ row.length
  r2 : row.length ≤ 10
  u1 : 1 ≤ us.length
  u2 : us.length ≤ 10
  w : ws.length ≤ 40
  ri : intsIn row 600
  ui : intsIn us 600
  wi : ∀ w ∈ ws, 0 ≤ w.1 ∧ w.1 ≤ 600 ∧ 0 ≤ w.2 ∧ w.2 ≤ 600
theorem use_draw3 {M : MS} {Φ : DQ} {a c : Addr} {k : Nat} {l : Int} (hD : Dk M a c (k + 1)) (h1 : 1 ≤ l) (h2 : l < 2 ^ 30) (h : ∀ (r : Int) M', Dk M' a c k → Kp a c M M' → 0 ≤ r → r < l → Φ (.int r) M') : True ∧ sp_law_draw_v3 [.ref a, .int l] M Φ noX :=
  ⟨trivial, a, c, k, l, rfl, h1, h2, hD, h⟩
end DL
namespace DL
open PySem PySem.Spec PyProof.Rows L2 TL
abbrev comT : Str := Str.ofString ","
abbrev dashT : Str := Str.ofString "-"
abbrev spT : Str := Str.ofString " "
abbrev forT : Str := Str.ofString "for"
def numT (i : Int) : Str := Str.ofString (toString i)
theorem tl_numT {i : Int} (h : 0 ≤ i) : tl (numT i) = numL i.toNat := by
  have e : i = ((i.toNat : Nat) : Int) := by omega
  unfold numT
  rw [e, tl_num, Int.toNat_natCast]
theorem numT_len {i : Int} (h : 0 ≤ i) (h2 : i ≤ 600) : (numT i).length ≤ 3 := by
  rw [len_tl, tl_numT h]
  exact numL_len (by decide) (by omega)
theorem numT_free {i : Int} {s : Nat} (h : 0 ≤ i) (hs : s < 48 ∨ 57 < s) : s ∉ tl (numT i) := by
  rw [tl_numT h]
  exact numL_free hs
theorem mem_joinL {S : List Nat} {c : Nat} : ∀ {ps : List (List Nat)}, c ∈ joinL S ps → c ∈ S ∨ ∃ p ∈ ps, c ∈ p
  | [], h => by simp [joinL] at h
  | [p], h => .inr ⟨p, List.mem_singleton.mpr rfl, h⟩
  | p :: q :: r, h => by
    rw [joinL] at h
    rcases List.mem_append.mp h with h | h
    · exact .inr ⟨p, List.mem_cons_self .., h⟩
    · rcases List.mem_append.mp h with h | h
      · exact .inl h
      · rcases mem_joinL h with h | ⟨x, hx, hc⟩
        · exact .inl h
        · exact .inr ⟨x, List.mem_cons_of_mem _ hx, hc⟩
theorem joinL_len (S : List Nat) : ∀ ps : List (List Nat), (joinL S ps).length ≤ (ps.map List.length).sum + ps.length * S.length
  | [] => by simp [joinL]
  | [p] => by simp [joinL]
  | p :: q :: r => by
    have := joinL_len S (q :: r)
    rw [joinL, List.length_append, List.length_append, List.map_cons, List.sum_cons, List.length_cons, Nat.add_mul]
    omega
theorem join_len2 (a : Str) (ys : List Str) : (Txt.join a ys).length ≤ (ys.map (·.length)).sum + ys.length * a.length := by
  have h := joinL_len (tl a) (ys.map tl)
  rw [len_tl, join_eq, tl_join]
  rw [List.map_map, List.length_map] at h
  have e : (List.length ∘ tl) = fun y : Str => y.length := funext fun y => (len_tl y).symm
  rw [e, ← len_tl a] at h
  exact h
theorem sumT_le {ys : List Str} {B : Nat} (h : ∀ y ∈ ys, y.length ≤ B) : (ys.map (·.length)).sum ≤ B * ys.length := by
  induction ys with
  | nil => simp
  | cons y ys ih =>
    have h1 := h y (List.mem_cons_self ..)
    have h2 := ih fun z hz => h z (List.mem_cons_of_mem _ hz)
    rw [List.map_cons, List.sum_cons, List.length_cons, Nat.mul_succ]
    omega
def numsT (ns : List Int) : Str := Txt.join comT (ns.map numT)
theorem nums_fit {ns : List Int} (h : intsIn ns 600) : ((ns.map numT).map (·.length)).sum + (ns.map numT).length * comT.length ≤ 4 * ns.length := by
  have h1 := sumT_le (ys := ns.map numT) (B := 3) fun y hy => by
    obtain ⟨i, hi, rfl⟩ := List.mem_map.mp hy
    obtain ⟨a, b⟩ := h i hi
    exact numT_len a b
  have e : comT.length = 1 := by decide +kernel
  rw [e]
  rw [List.length_map] at h1 ⊢
  omega
theorem numsT_len {ns : List Int} (h : intsIn ns 600) : (numsT ns).length ≤ 4 * ns.length := Nat.le_trans (join_len2 _ _) (nums_fit h)
theorem tl_com : tl comT = [44] := by decide +kernel
theorem tl_dash : tl dashT = [45] := by decide +kernel
theorem tl_sp : tl spT = [32] := by decide +kernel
theorem tl_for : 32 ∉ tl forT := by decide +kernel
def wayT (w : Int × Int) : Str := numT w.1 ++ dashT ++ numT w.2
theorem wayT_join (w : Int × Int) : wayT w = Txt.join dashT [numT w.1, numT w.2] := by rw [join_eq]; rfl
theorem wayT_len {w : Int × Int} (h : 0 ≤ w.1 ∧ w.1 ≤ 600 ∧ 0 ≤ w.2 ∧ w.2 ≤ 600) : (wayT w).length ≤ 8 := by
  have e := join_len2 dashT [numT w.1, numT w.2]
  rw [← wayT_join] at e
  have h1 := numT_len h.1 h.2.1
  have h2 := numT_len h.2.2.1 h.2.2.2
  have e2 : dashT.length = 1 := by decide +kernel
  simp only [List.map_cons, List.map_nil, List.sum_cons, List.sum_nil, List.length_cons, List.length_nil, e2] at e
  omega
def wordsT (row : List Int) (ws : List (Int × Int)) (us : List Int) : List Str := numsT row :: (ws.map wayT ++ [forT, numsT us])
def corT (row : List Int) (ws : List (Int × Int)) (us : List Int) : Str := Txt.join spT (wordsT row ws us)
theorem words_fit {row : List Int} {ws : List (Int × Int)} {us : List Int} (h : StOk row ws us) : ((wordsT row ws us).map (·.length)).sum + (wordsT row ws us).length * spT.length ≤ 5000 := by
  have h1 := sumT_le (ys := wordsT row ws us) (B := 40) fun y hy => by
    unfold wordsT at hy
    rcases List.mem_cons.mp hy with rfl | hy
    · have := numsT_len h.ri
      have := h.r2
      omega
    · rcases List.mem_append.mp hy with hy | hy
      · obtain ⟨w, hw, rfl⟩ := List.mem_map.mp hy
        have := wayT_len (h.wi w hw)
        omega
      · simp only [List.mem_cons, List.not_mem_nil, or_false] at hy
        rcases hy with rfl | rfl
        · decide +kernel
        · have := numsT_len h.ui
          have := h.u2
          omega
  have e : spT.length = 1 := by decide +kernel
  have hl : (wordsT row ws us).length = ws.length + 3 := by unfold wordsT; simp
  have := h.w
  rw [e]
  rw [hl] at h1 ⊢
  omega
end DL
namespace DL
open PySem PySem.Spec PyProof.Rows L2 TL
end DL
namespace DL
open PySem PySem.Spec PyProof.Rows L2 TL
end DL
namespace DL
open PySem PySem.Spec PyProof.Rows L2
end DL
namespace DL
open PySem PySem.Spec PyProof.Rows L2
end DL
namespace DL
open PySem PySem.Spec PyProof.Rows L2
abbrev CSt : Type := List Int × List (Int × Int) × List Int
def csD (s : CSt) : D := stateD s.1 s.2.1 s.2.2
inductive Ed where
  | put (s : Nat) (c : Int)
  | take (s : Nat) (c : Int)
  | want (s : Nat) (c : Int)
  | come (f l : Nat)
  | stay (i : Nat)
def edD : Ed → D
  | .put s c => .tup [.str "put", .int (s : Nat), .int c]
  | .take s c => .tup [.str "take", .int (s : Nat), .int c]
  | .want s c => .tup [.str "want", .int (s : Nat), .int c]
  | .come f l => .tup [.str "come", .int (f : Nat), .int (l : Nat)]
  | .stay i => .tup [.str "stay", .int (i : Nat)]
def aft (st : CSt) : Ed → CSt
  | .put s c => (st.1.set s (st.1.getD s 0 + c), st.2.1, st.2.2)
  | .take s c => (st.1.set s (st.1.getD s 0 - c), st.2.1, st.2.2)
  | .want s c => (st.1, st.2.1, st.2.2.set s c)
  | .come f l => (st.1, st.2.1 ++ [((f : Int), (l : Int))], st.2.2)
  | .stay i => (st.1, st.2.1.take i ++ st.2.1.drop (i + 1), st.2.2)
def EdOk (st : CSt) : Ed → Prop
  | .put s c => s < st.1.length ∧ 1 ≤ c ∧ st.1.getD s 0 + c ≤ 50
  | .take s c => s < st.1.length ∧ 1 ≤ c ∧ c ≤ st.1.getD s 0
  | .want s c => s < st.1.length ∧ 0 ≤ c ∧ c ≤ 500
  | .come f l => f < l ∧ l < st.1.length ∧ st.2.1.length < 40
  | .stay i => i < st.2.1.length
/-- a corridor's state -/
structure CorOk (st : CSt) : Prop where
  r1 : 2 ≤ st.1.length
  r2 : st.1.length ≤ 10
  u : st.2.2.length = st.1.length
  w : st.2.1.length ≤ 40
  ri : intsIn st.1 50
  ui : intsIn st.2.2 500
  wi : waysIn st.2.1 (st.1.length : Nat)
theorem CorOk.nn {st : CSt} (h : CorOk st) : nonN st.1 := nonN_h h.ri
end DL
namespace DL
open PySem PySem.Spec PyProof.Rows L2 TL
def cerD (st : CSt) : D := certD st.1 st.2.2 st.2.1
def corO (ps pa pd : Addr) : MO := .ins "Corridor" [("states", .ref ps), ("answers", .ref pa), ("standing", .ref pd), ("watching", .bl false)]
structure Cor (M : MS) (p ps pa pd : Addr) (sts : List CSt) (eds : List Ed) : Prop where
  i : M.map p = some (corO ps pa pd)
  s : M.map ps = some (.lst (sts.map csD))
  a : M.map pa = some (.lst (sts.map cerD))
  d : M.map pd = some (.lst (eds.map edD))
  n1 : ps ≠ p
  n2 : pa ≠ p
  n3 : pd ≠ p
  n4 : ps ≠ pa
  n5 : ps ≠ pd
  n6 : pa ≠ pd
  l : sts.length = eds.length + 1
/-- the other places are as they were -/
def Kc (ps pa pd : Addr) (M M' : MS) : Prop := ∀ b, b ≠ ps → b ≠ pa → b ≠ pd → M.map b ≠ none → M'.map b = M.map b
section
variable {M M' : MS} {p ps pa pd : Addr} {sts : List CSt} {eds : List Ed} {Φ : DQ}
theorem Cor.ins (C : Cor M p ps pa pd sts eds) : insD M (.ref p) = some (("Corridor" : Str), [(("states" : Str), D.ref ps), (("answers" : Str), .ref pa), (("standing" : Str), .ref pd), (("watching" : Str), .bl false)]) := by simp only [insD, C.i, corO]
theorem Cor.fs (C : Cor M p ps pa pd sts eds) (q : Φ (.ref ps) M) : rFld "states" (.ref p) M Φ := ⟨"Corridor", _, _, C.ins, by decide, rfl, q⟩
theorem Cor.keep (C : Cor M p ps pa pd sts eds) (k : ∀ b, b = p ∨ b = ps ∨ b = pa ∨ b = pd → M'.map b = M.map b) : Cor M' p ps pa pd sts eds :=
  ⟨(k p (.inl rfl)).trans C.i, (k ps (.inr (.inl rfl))).trans C.s, (k pa (.inr (.inr (.inl rfl)))).trans C.a, (k pd (.inr (.inr (.inr rfl)))).trans C.d, C.n1, C.n2, C.n3, C.n4, C.n5, C.n6, C.l⟩
theorem Cor.some (C : Cor M p ps pa pd sts eds) {b : Addr} (h : b = p ∨ b = ps ∨ b = pa ∨ b = pd) : M.map b ≠ none := by
  rcases h with rfl | rfl | rfl | rfl
  · rw [C.i]; simp
  · rw [C.s]; simp
  · rw [C.a]; simp
  · rw [C.d]; simp
theorem Cor.ext (C : Cor M p ps pa pd sts eds) (x : Ext M M') : Cor M' p ps pa pd sts eds := C.keep fun b h => x b (C.some h)
end
theorem errs_ok : ∀ (ns : List Int) (c : Int), intsIn ns 50 → errs c (ns.map D.int) = .non
  | [], _, _ => rfl
  | x :: ns, c, h => by
    obtain ⟨h0, h1⟩ := h x (List.mem_cons_self ..)
    rw [List.map_cons, errs, if_pos (by simp only [numD, decide_eq_true h0, decide_eq_true h1]; rfl)]
    exact errs_ok ns (c + 1) fun y hy => h y (List.mem_cons_of_mem _ hy)
theorem CorOk.err {st : CSt} (h : CorOk st) : errD (.tup (st.1.map D.int)) = .non := by
  unfold errD
  dsimp only
  rw [if_pos (by rw [List.length_map]; exact ⟨h.r1, h.r2⟩)]
  exact errs_ok _ _ h.ri
theorem stills_ints (ns : List Int) : stills (ns.map D.int) = true := by
  induction ns with
  | nil => rfl
  | cons x ns ih => rw [List.map_cons]; simp only [stills, still, ih, Bool.and_self]
theorem stills_ways (ws : List (Int × Int)) : stills (ws.map wayD) = true := by
  induction ws with
  | nil => rfl
  | cons x ns ih => rw [List.map_cons]; simp only [stills, still, ih, wayD, Bool.and_self]
def sp_Corridor_row : DSp := fun ds M Φ _ => ∃ p ps pa pd sts st eds, ds = [.ref p] ∧ Cor M p ps pa pd (sts ++ [st]) eds ∧ Φ (.tup (st.1.map D.int)) M
/-- one edit is done -/
def Does (M : MS) (p : Addr) (e : Ed) (Φ : DQ) : Prop := ∃ ps pa pd sts st eds, Cor M p ps pa pd (sts ++ [st]) eds ∧ CorOk st ∧ EdOk st e ∧ eds.length < 60 ∧
  ∀ M', Cor M' p ps pa pd (sts ++ [st] ++ [aft st e]) (eds ++ [e]) → Kc ps pa pd M M' → Φ (.int ((eds.length + 1 : Nat) : Int)) M'
end DL
namespace DL
open PySem PySem.Spec PyProof.Rows L2
def csL (s : CSt) : D := .lst [.tup (s.1.map D.int), .tup (s.2.1.map wayD), .tup (s.2.2.map D.int)]
end DL
namespace DL
open PySem PySem.Spec PyProof.Rows L2 TL
end DL
namespace DL
open PySem PySem.Spec PyProof.Rows L2 TL
end DL
namespace DL
open PySem PySem.Spec PyProof.Rows L2 TL
end DL
namespace DL
open PySem PySem.Spec PyProof.Rows L2 TL
theorem Kc.trans {ps pa pd : Addr} {M M1 M2 : MS} (h : Kc ps pa pd M M1) (h' : Kc ps pa pd M1 M2) : Kc ps pa pd M M2 := fun b h1 h2 h3 hn => by
  have e := h b h1 h2 h3 hn
  exact (h' b h1 h2 h3 (by rw [e]; exact hn)).trans e
theorem Kc.refl {ps pa pd : Addr} {M : MS} : Kc ps pa pd M M := fun _ _ _ _ _ => rfl
theorem Kc.ext {ps pa pd : Addr} {M M1 : MS} (x : Ext M M1) : Kc ps pa pd M M1 := fun b _ _ _ hn => x b hn
end DL
namespace DL
open PySem PySem.Spec PyProof.Rows L2 TL
end DL
namespace DL
open PySem PySem.Spec PyProof.Rows L2 TL
structure Tw (M : MS) (a c p ps pa pd pst pe : Addr) (sts : List CSt) (eds : List Ed) (k : Nat) : Prop where
  C : Cor M p ps pa pd sts eds
  s : M.map pst = some (.lst (sts.map csL))
  e : M.map pe = some (.lst (eds.map edD))
  D : Dk M a c k
  ok : ∀ s ∈ sts, CorOk s
  fe : ∀ x ∈ eds, F2 (edD x) 1 10000
  n : ∀ b, b = p ∨ b = ps ∨ b = pa ∨ b = pd → b ≠ a ∧ b ≠ c ∧ b ≠ pst ∧ b ≠ pe
  m : pst ≠ pe ∧ pst ≠ a ∧ pst ≠ c ∧ pe ≠ a ∧ pe ≠ c
section
variable {M M' : MS} {a c p ps pa pd pst pe : Addr} {sts : List CSt} {eds : List Ed} {k k' : Nat} {Φ : DQ}
theorem Tw.mono (T : Tw M a c p ps pa pd pst pe sts eds k) (h : k' ≤ k) : Tw M a c p ps pa pd pst pe sts eds k' := ⟨T.C, T.s, T.e, T.D.mono h, T.ok, T.fe, T.n, T.m⟩
theorem Tw.kp (T : Tw M a c p ps pa pd pst pe sts eds k) (d : Dk M' a c k') (h : Kp a c M M') : Tw M' a c p ps pa pd pst pe sts eds k' :=
  ⟨T.C.keep fun b hb => h b (T.n b hb).1 (T.n b hb).2.1 (T.C.some hb), h.keep T.m.2.1 T.m.2.2.1 T.s, h.keep T.m.2.2.2.1 T.m.2.2.2.2 T.e, d, T.ok, T.fe, T.n, T.m⟩
theorem Tw.ext (T : Tw M a c p ps pa pd pst pe sts eds k) (x : Ext M M') : Tw M' a c p ps pa pd pst pe sts eds k :=
  ⟨T.C.ext x, (x pst (by rw [T.s]; simp)).trans T.s, (x pe (by rw [T.e]; simp)).trans T.e, x.dk T.D, T.ok, T.fe, T.n, T.m⟩
end
end DL
namespace DL
open PySem PySem.Spec PyProof.Rows L2 TL
mutual
theorem eqd_self : ∀ d : D, plain d = true → eqd d d = true
  | .non, _ => rfl
  | .bl b, _ => by simp [eqd]
  | .int i, _ => by simp [eqd]
  | .str z, _ => by simp [eqd]
  | .tup xs, h => by simp only [eqd]; exact eqds_self xs h
  | .lst xs, h => by simp only [eqd]; exact eqds_self xs h
  | .dic _ _, h => by cases h
  | .ref _, h => by cases h
  | .scr _, h => by cases h
  | .ty _, h => by cases h
  | .obj _ _ _ _, h => by cases h
theorem eqds_self : ∀ xs : List D, plains xs = true → eqds xs xs = true
  | [], _ => rfl
  | x :: xs, h => by
    simp only [plains, Bool.and_eq_true] at h
    simp only [eqds, eqd_self x h.1, eqds_self xs h.2, Bool.and_self]
end
end DL
namespace DL
open PySem PySem.Spec PyProof.Rows L2 TL
/-- a corridor without edits, and the deck -/
structure Tc (M : MS) (a c p ps pa pd : Addr) (st : CSt) (k : Nat) : Prop where
  C : Cor M p ps pa pd ([] ++ [st]) []
  D : Dk M a c k
  ok : CorOk st
  n : ∀ b, b = p ∨ b = ps ∨ b = pa ∨ b = pd → b ≠ a ∧ b ≠ c
section
variable {M M' : MS} {a c p ps pa pd : Addr} {st : CSt} {k k' : Nat} {Φ : DQ}
theorem Tc.mono (T : Tc M a c p ps pa pd st k) (h : k' ≤ k) : Tc M a c p ps pa pd st k' := ⟨T.C, T.D.mono h, T.ok, T.n⟩
theorem Tc.kp (T : Tc M a c p ps pa pd st k) (d : Dk M' a c k') (h : Kp a c M M') : Tc M' a c p ps pa pd st k' :=
  ⟨T.C.keep fun b hb => h b (T.n b hb).1 (T.n b hb).2 (T.C.some hb), d, T.ok, T.n⟩
theorem Tc.ext (T : Tc M a c p ps pa pd st k) (x : Ext M M') : Tc M' a c p ps pa pd st k := ⟨T.C.ext x, x.dk T.D, T.ok, T.n⟩
end
end DL
namespace DL
open PySem PySem.Spec PyProof.Rows L2
/-- the clause's test: of one of these classes? -/
structure TstOk (X : Cx) (t : Expr) (cs : List Value) : Prop where
  run : ∀ {a : Addr} {pn : List (Addr × Obj)} {σ : L2.St} {H : Hp} {s : Shared} {cls : Value} {b : Bool} {ob : Obj} {R : Bool → Shared → Prop} {E E' : Value → Shared → Prop},
  Inv (hotX X a pn) [] σ H s → s.heap.get? a = some ob → ob.cls = cls → PySem.W.exmAny X.K cls cs = some b → (∀ h', (∀ c o, s.heap.get? c = some o → h'.get? c = some o) → R b { s with heap := h' }) →
  wpAny (model X.prog X.w) (X.A.mark (some (.ref a))) (eval t X.env) (fun c s₁ => wpAny (model X.prog X.w) (X.A.mark (some (.ref a))) (excMatches (.ref a) c) (fun b s₂ => R b s₂) E s₁) E' s
inductive HdD (X : Cx) : List ExceptHandler → List (List Str × Nat × DS) → Prop
  | nil : HdD X [] []
  | cons {t : Expr} {n : Str} {i : Nat} {b₀ : Stmt} {suite : List Stmt} {pos' : Pos} {hs : List ExceptHandler} {cs : List Str} {ts : DS} {l : List (List Str × Nat × DS)} (tst : TstOk X t (cs.map fun c => .ref (He.ga X.K c))) (at_ : X.N[i]? = some n) (lcl : X.env.kindOf n = some .local)
      (hc : ∀ c ∈ cs, c ∈ clsNames ∧ presB X.K c = true ∧ c ∉ insNames) (inSuite : ∀ (a : Addr) (pn : List (Addr × Obj)) (O' : Og X.K), PSs (hotX X a pn) (b₀ :: suite) (loS X.K O' ts)) (r : HdD X hs l) : HdD X (.ExceptHandler (some t) (some n) (b₀ :: suite) pos' :: hs) ((cs, i, ts) :: l)
theorem HdD.cls {X : Cx} : ∀ {hs : List ExceptHandler} {l : List (List Str × Nat × DS)}, HdD X hs l → ∀ q ∈ l, ∀ c ∈ q.1, c ∈ clsNames ∧ presB X.K c = true ∧ c ∉ insNames
  | _, _, .nil, _, z => absurd z List.not_mem_nil
  | _, _, .cons _ _ _ hc _ r, q, z => by
    rcases List.mem_cons.mp z with rfl | z
    · exact hc
    · exact r.cls q z
end DL
namespace DL
open PySem PySem.Spec PyProof.Rows L2
end DL
namespace DL
open PySem PySem.Spec PyProof.Rows L2 PySem.W.X
def vwL (M : MS) : D → D
  | .ref q => match M.map q with
    | some (.lst xs) => .lst xs
    | _ => .ref q
  | d => d
def vwI (M : MS) : D → D
  | .ref q => match M.map q with
    | some (.lst xs) => .lst xs
    | some (.ins n fs) => .obj .ins n (fs.map (·.1)) (fs.map fun f => vwL M f.2)
    | _ => .ref q
  | d => d
def Fall (F : Addr → Prop) (M : MS) : Addr → Prop := fun b => F b ∨ M.map b ≠ none
section
variable {K : PySem.W.Frag} {F F' : Addr → Prop} {H H' : Hp} {M : MS}
theorem Fall.there (am : AbsM K F H M) {b : Addr} (h : Fall F M b) : H b ≠ none := by
  rcases h with h | h
  · exact am.fh b h
  · cases q : M.map b with
    | none => exact absurd q h
    | some o => exact (am.mp b o q).2.there
end
structure GFnM (P : Program) (w : World) (K : PySem.W.Frag) (mg : Str → Option Value) (base : Heap) (k : Nat) (f : Addr) (fd : FuncData) (ps : List Str) (n : Nat) (sp : GSp) : Prop where
  len : ps.length = n
  run : ∀ (A : Around) (outer : List Env) (s : Shared) (H : Hp) (args : Args) (us : List Value) (vs : List V) (F : Addr → Prop) (M : MS) (ds xs : List D), Room k A → Env0 P w K mg base A outer s H → BindsTo s fd args (ps.zip us) → Vals vs us → AbsM K F H M → Reps K F H ds vs → ds.length = n → sp (ds.map (vwI M)) xs →
    codeAny (model P w) A (.call (.ref f) args) (fun r s' => ∃ u G a c, r = .ok (.ret u) ∧ GMd P w K mg base k outer s H xs u s' G a c) s
theorem GFnM.mono {P : Program} {w : World} {K : PySem.W.Frag} {mg : Str → Option Value} {base : Heap} {k j : Nat} {f : Addr} {fd : FuncData} {ps : List Str} {n : Nat} {sp : GSp} (h : GFnM P w K mg base k f fd ps n sp) (hj : k ≤ j) : GFnM P w K mg base j f fd ps n sp :=
  ⟨h.len, fun A outer s H args us vs F M ds xs hr e0 hbt rv am rds hdl hs => codeAny_mono (h.run A outer s H args us vs F M ds xs (hr.mono hj) e0 hbt rv am rds hdl hs) fun _ _ ⟨u, G, a, c, hq, g⟩ =>
    ⟨u, G, a, c, hq, ⟨g.eq, g.val, g.gen, g.at_, g.os, g.bare, g.keep, g.lt, g.gens, g.loc, fun A' hr' => g.wake A' (hr'.mono hj)⟩⟩⟩
structure GMCallee (P : Program) (w : World) (K : PySem.W.Frag) (mg : Str → Option Value) (base : Heap) (k : Nat) (c m : Str) (n : Nat) (sp : GSp) : Prop where
  ex : ∃ (f : Addr) (fd : FuncData) (ps : List Str), Meth K (He.ga K c) m f ∧ PySem.W.fnIn K f = true ∧ Binds K fd ps [] ∧ GFnM P w K mg base k f fd ps n sp
abbrev GTb := List (Str × GSp)
def GTb.ok (P : Program) (w : World) (K : PySem.W.Frag) (mg : Str → Option Value) (base : Heap) (k : Nat) (m : Str) (n : Nat) (tb : GTb) : Prop := ∀ c sp, tb.lookup c = some sp → GMCallee P w K mg base k c m n sp
end DL
namespace DL
open PySem PySem.Spec PyProof.Rows L2 TL
def seenC (sts : List CSt) (ans eds : List D) : D := .obj .ins "Corridor" ["states", "answers", "standing", "watching"] [.lst (sts.map csD), .lst ans, .lst eds, .bl false]
theorem Cor.seen {M : MS} {p ps pa pd : Addr} {sts : List CSt} {eds : List Ed} (C : Cor M p ps pa pd sts eds) : vwI M (.ref p) = seenC sts (sts.map cerD) (eds.map edD) := by
  simp only [vwI, C.i, corO, List.map_cons, List.map_nil, vwL, C.s, C.a, C.d, seenC]
end DL
namespace DL
open PySem PySem.Spec PyProof.Rows L2 TL
/-- a corridor and the deck -/
structure T4 (M : MS) (a c p ps pa pd : Addr) (sts : List CSt) (st : CSt) (eds : List Ed) (k : Nat) : Prop where
  C : Cor M p ps pa pd (sts ++ [st]) eds
  D : Dk M a c k
  n : ∀ b, b = p ∨ b = ps ∨ b = pa ∨ b = pd → b ≠ a ∧ b ≠ c
section
variable {M M' : MS} {a c p ps pa pd : Addr} {sts : List CSt} {st : CSt} {eds : List Ed} {k k' : Nat} {Φ : DQ}
theorem T4.mono (T : T4 M a c p ps pa pd sts st eds k) (h : k' ≤ k) : T4 M a c p ps pa pd sts st eds k' := ⟨T.C, T.D.mono h, T.n⟩
theorem T4.kp (T : T4 M a c p ps pa pd sts st eds k) (d : Dk M' a c k') (h : Kp a c M M') : T4 M' a c p ps pa pd sts st eds k' :=
  ⟨T.C.keep fun b hb => h b (T.n b hb).1 (T.n b hb).2 (T.C.some hb), d, T.n⟩
theorem T4.ext (T : T4 M a c p ps pa pd sts st eds k) (x : Ext M M') : T4 M' a c p ps pa pd sts st eds k := ⟨T.C.ext x, x.dk T.D, T.n⟩
theorem T4.row (T : T4 M a c p ps pa pd sts st eds k) (q : Φ (.tup (st.1.map D.int)) M) : rSelf [("Corridor", sp_Corridor_row)] (.ref p) M fun sp => sp [.ref p] M Φ noX :=
  ⟨"Corridor", _, sp_Corridor_row, T.C.ins, rfl, p, ps, pa, pd, sts, st, eds, rfl, T.C, q⟩
end
end DL
namespace DL
open PySem PySem.Spec PyProof.Rows L2 TL
inductive Oc (α : Type) where
  | err (n : Str) (fs : List (Str × D))
  | ok (a : α)
def Oc.map {α β : Type} (g : α → β) : Oc α → Oc β
  | .err n fs => .err n fs
  | .ok a => .ok (g a)
end DL
namespace DL
open PySem PySem.Spec PyProof.Rows L2 TL
end DL
namespace DL
open PySem PySem.Spec PyProof.Rows L2 TL
def sOk (s : Str) : Prop := ∀ k ∈ s.cps.toList, k < 0x110000
theorem sOk_iff {s : Str} : PyData.strOk s = true ↔ sOk s := by
  unfold PyData.strOk sOk
  rw [Array.all_eq_true_iff_forall_mem]
  simp
end DL
namespace DL
open PySem PySem.Spec PyProof.Rows L2 TL
end DL
namespace DL
open PySem PySem.Spec PyProof.Rows L2 PySem.W.X GenW
end DL
namespace DL
open PySem PySem.Spec PyProof.Rows L2 TL
end DL
namespace DL
open PySem PySem.Spec PyProof.Rows L2 TL
theorem rNe_same {x : D} {M : MS} {Φ : DQ} (h : plain x = true) (d : dep x ≤ 60) (q : Φ (.bl false) M) : rNe x x M Φ := rNe_still h d h d (by rw [eqd_self _ h]; exact q)
end DL
namespace DL
open PySem PySem.Spec PyProof.Rows L2 PySem.W.X
open PySem.W (ksEnv ksFn)
/-- a def that says super(), at f: its cell at cc holds the class at D, its code at cda names the file -/
structure FunS (K : PySem.W.Frag) (x qual : Str) (params : Arguments) (body : List Stmt) (scope : Scope) (file : Str) (D f cda cc : Addr) (fd : FuncData) : Prop where
  ex : ∃ (oc : Value) (od : Option Addr) (kV doc pm : Value) (an : Option Addr) (ct : Value) (osl : Array (Option Value)),
    fd = ksFn x qual params body scope .none kV doc pm an (.ref cda) ct cc ∧ K.lookup f = some ⟨oc, od, .func fd, osl⟩
  code : PySem.W.codeIn K (.ref cda) qual = true
  file : ∃ (ccl : Value) (cdd : Option Addr) (vs : Array Value) (ccs : Array (Option Value)) (tf : Tok), K.lookup cda = some ⟨ccl, cdd, .fields vs, ccs⟩ ∧ vs[2]? = some (.str file tf)
  cell : ∃ (cl : Value) (cld : Option Addr) (csl : Array (Option Value)), K.lookup cc = some ⟨cl, cld, .cell (some (.ref D)), csl⟩
theorem FunS.bindsN {K : PySem.W.Frag} {x qual : Str} {params : Arguments} {body : List Stmt} {scope : Scope} {file : Str} {D f cda cc : Addr} {fd : FuncData} {ps : List Str} (F : FunS K x qual params body scope file D f cda cc fd)
    (h : ∀ (kV doc pm : Value) (an : Option Addr) (cdv ct : Value) (cc : Addr) (us : List Value), us.length = ps.length → bindArgs (ksFn x qual params body scope .none kV doc pm an cdv ct cc) ⟨us, []⟩ = pure (ps.zip us)) : Binds K fd ps [] := by
  obtain ⟨oc, od, kV, doc, pm, an, ct, osl, rfl, lk⟩ := F.ex
  exact .all (h kV doc pm an (.ref cda) ct cc)
end DL
namespace DL
open PySem PySem.Spec PyProof.Rows L2 PySem.W.X
open PySem.W (ksEnv ksFn)
end DL
namespace DL
open PySem PySem.Spec PyProof.Rows L2 PySem.W.X
open PySem.W (ksEnv ksFn)
end DL
namespace DL
open PySem PySem.Spec PyProof.Rows L2
end DL
namespace DL
open PySem PySem.Spec PyProof.Rows L2
open PySem.Sem (wp)
def dSplit (to te : DE) : DE := fun ρ M Φ => to ρ M fun x M1 => match x with
  | .str a => te ρ M1 fun y M2 => (match y with
    | .str b => (b.length == 0) = false ∧ a.length ≤ 1000000 ∧ Φ (.lst ((Txt.split a b).map D.str)) M2
    | _ => False)
  | _ => False
theorem strs_reps {K : PySem.W.Frag} {F : Addr → Prop} {H : Hp} : ∀ ys : List Str, Reps K F H (ys.map D.str) (ys.map V.str)
  | [] => Reps.nil
  | y :: ys => Reps.cons rfl (strs_reps ys)
def rIntS (args : List D) (M : MS) (Φ : DQ) : Prop := match args with
  | [.str a] => ∃ n, PySem.intText? a = some n ∧ a.length ≤ 640 ∧ Φ (.int n) M
  | _ => False
def chrD (z : Str) : List D := z.cps.toList.map fun c => D.str ⟨#[c]⟩
def dChars (te : DE) : DI := fun ρ M Ψ => te ρ M fun x M1 => match x with
  | .str z => Ψ (chrD z) (fun _ => True) M1
  | _ => False
theorem src_chars {K : PySem.W.Frag} {F : Addr → Prop} {H : Hp} {M : MS} (z : Str) : Src K F H M (Its z) (chrD z) (fun _ => True) where
  go := fun i F' H' M' l am g hi => by
    show i < z.cps.size
    simpa [chrD] using hi
  stop := fun F' H' M' l am g => by
    show z.cps.size ≤ (chrD z).length
    simp [chrD]
  yld := fun i F' H' M' y H'' l am g hi q => by
    obtain ⟨rfl, c, hc, rfl⟩ := q
    refine ⟨F', .str ⟨#[c]⟩, Lm.refl, am, ?_, rfl⟩
    unfold chrD
    rw [List.getElem?_map, Array.getElem?_toList, hc]
    rfl
def rSlT (x : D) (lo hi : Option Int) (M : MS) (Φ : DQ) : Prop := match x with
  | .str z => z.length ≤ 1000000 ∧ Φ (.str (cutS z lo hi)) M
  | _ => False
def dSlT (t : DE) (l h : DO) : DE := fun ρ M Φ => t ρ M fun x M1 => l ρ M1 fun a M2 => h ρ M2 fun b M3 => rSlT x a b M3 Φ
section
variable {X : Cx} {tg : Expr} {o e : Expr} {to te : DE} {apos pos : Pos}
variable {O : Og X.K}
theorem q_split (ho : PE X o (lo X.K O to)) (he : PE X e (lo X.K O te)) (hs : starEach [e] X.env = [(false, eval e X.env)]) (hbase : attributeBase o "split" X.env (eval o X.env) = eval o X.env) (hline : (apos.endLine == pos.line) = true) :
    PE X (.Call (.Attribute o "split" apos) [e] [] pos) (lo X.K O (dSplit to te)) :=
  PE.imp (pe_split ho he hs hbase hline) fun σ H Q h => by
    obtain ⟨F, M, ρ, Φ, A, h, k⟩ := h
    refine ⟨F, M, ρ, _, A, h, fun v H1 ⟨F1, M1, x, l1, a1, r1, h1⟩ => ?_⟩
    dsimp only at h1
    split at h1
    · rename_i a
      obtain rfl : v = .str a := r1
      refine ⟨⟨a, rfl⟩, F1, M1, ρ, _, (A.go l1 a1), h1, fun w H2 ⟨F2, M2, y, l2, a2, r2, h2⟩ => ?_⟩
      dsimp only at h2
      split at h2
      · rename_i b
        obtain rfl : w = .str b := r2
        refine ⟨a, b, rfl, rfl, h2.1, Nat.le_trans (Nat.add_le_add_right h2.2.1 2) (by decide), fun p hp => k _ _ (((new_lst a2 (strs_reps _) h2.2.2 hp).le l2).le l1)⟩
      · exact h2.elim
    · exact h1.elim
theorem c_intS : CallR X (.type "int") (loC X.K rIntS) := by
  rintro pins s σ H vs us Q I r ⟨F, M, ds, Φ, am, rs, h, k⟩
  unfold rIntS at h
  split at h
  · rename_i a
    obtain ⟨n, h1, h2, h⟩ := h
    simp only [Reps, Rep] at rs
    obtain ⟨v, _, e, rfl, rfl⟩ := rs
    subst e
    exact call_int_str pins s σ H _ us Q I r ⟨a, n, rfl, h1, h2, k _ _ (loQ.here am (show Rep X.K F H (.int n) (.int n) from rfl) h)⟩
  · exact h.elim
theorem pi_chars (he : PE X e (lo X.K O te)) : PI X tg e (loI X.K O (dChars te)) :=
  PI.imp (pi_str he) fun σ H R h => by
    obtain ⟨F, M, ρ, Ψ, A, h, k⟩ := h
    refine ⟨F, M, ρ, _, A, h, fun v H1 ⟨F1, M1, x, l1, a1, r1, h1⟩ => ?_⟩
    dsimp only at h1
    split at h1
    · rename_i z
      exact ⟨z, r1, k _ _ _ _ _ _ l1 a1 (src_chars z) h1⟩
    · exact h1.elim
theorem x_slT : SlR X (fun vx lo' hi Hh Q => ∃ F M x Φ, AbsM X.K F Hh M ∧ Rep X.K F Hh x vx ∧ rSlT x lo' hi M Φ ∧ ∀ v H', loQ X.K F Hh M Φ v H' → Q v H') := by
  rintro pins s σ H vx v vl vu lo hi sl Q I rv hs pl pu ⟨F, M, x, Φ, am, rx, h, k⟩
  unfold rSlT at h
  split at h
  · rename_i z
    obtain rfl : vx = .str z := rx
    exact sl_str pins s σ H _ v vl vu lo hi sl Q I rv hs pl pu ⟨z, rfl, Nat.le_trans h.1 (by decide), k _ _ (loQ.here am (show Rep X.K F H (.str _) (.str _) from rfl) h.2)⟩
  · exact h.elim
theorem q_slT {l hi : Option Expr} {tl th : DO} {p2 : Pos} (he : PE X e (lo X.K O te)) (hl : PO X l (loO X.K O tl)) (hh : PO X hi (loO X.K O th)) : PE X (.Subscript e (.Slice l hi none p2) pos) (lo X.K O (dSlT te tl th)) :=
  PE.imp (pe_slice x_slT he hl hh) fun σ H Q h => by
    obtain ⟨F, M, ρ, Φ, A, h, k⟩ := h
    exact ⟨F, M, ρ, _, A, h, fun vx H1 ⟨F1, M1, x, l1, a1, r1, h1⟩ => ⟨F1, M1, ρ, _, (A.go l1 a1), h1, fun a H2 F2 M2 l2 a2 h2 =>
      ⟨F2, M2, ρ, _, (A.go (l1.trans l2) a2), h2, fun b H3 F3 M3 l3 a3 h3 => ⟨F3, M3, x, Φ, a3, r1.mono (l2.trans l3).le, h3, fun v H' q => k v H' (((q.le l3).le l2).le l1)⟩⟩⟩⟩
end
end DL
namespace DL
open PySem PySem.Spec PyProof.Rows L2 TL
def sp_law_state_c : DSp := fun ds M Φ _ => ∃ (a c : Addr) (k st mw : Nat), ds = [.ref a, .int ((st : Nat) : Int), .int ((mw : Nat) : Int)] ∧ 2 ≤ st ∧ st ≤ 10 ∧ mw ≤ 40 ∧ Dk M a c (k + 200) ∧
  ∀ (s : CSt) M', Dk M' a c k → Kp a c M M' → CorOk s → s.2.1.length ≤ mw → s.1.length ≤ st → Φ (csD s) M'
def t_law_state_c : DS := (sSeq (sAsg (dTup (dCons (dOp rAdd (dC (.int 2)) (dCall 2 sp_law_draw_v3 (dCons (dVar 0) (dCons (dOp rSub (dVar 1) (dC (.int 1))) dNil)))) (dCons (dOp rIx (dLst (dCons (dC (.int 1)) (dCons (dC (.int 4)) (dCons (dC (.int 50)) dNil)))) (dCall 2 sp_law_draw_v3 (dCons (dVar 0) (dCons (dC (.int 3)) dNil)))) dNil))) (.tp [(.nm 3), (.nm 4)])) (sSeq (sAsg (dFn rTuple (dCons (dLc (dRng1 (dVar 3)) (.nm 9) [9] dYes (dOp rMul (dCall 2 sp_law_draw_v3 (dCons (dVar 0) (dCons (dOp rAdd (dVar 4) (dC (.int 1))) dNil))) (dFn rInt (dCons (dOp rGt (dCall 2 sp_law_draw_v3 (dCons (dVar 0) (dCons (dC (.int 3)) dNil))) (dC (.int 0))) dNil)))) dNil)) (.nm 5)) (sSeq (sPar3 6 7 8 (dCons (dLstM dNil) (dCons (dOp rIx (dLst (dCons (dC (.int 2)) (dCons (dC (.int 6)) (dCons (dOp rAdd (dVar 4) (dC (.int 2))) (dCons (dC (.int 500)) dNil))))) (dCall 2 sp_law_draw_v3 (dCons (dVar 0) (dCons (dC (.int 4)) dNil)))) (dCons (dLstM dNil) dNil)))) (sSeq (sFor (dRng1 (dCall 2 sp_law_draw_v3 (dCons (dVar 0) (dCons (dOp rAdd (dVar 2) (dC (.int 1))) dNil)))) (.nm 9) (sSeq (sAsg (dCall 2 sp_law_draw_v3 (dCons (dVar 0) (dCons (dOp rSub (dVar 3) (dC (.int 1))) dNil))) (.nm 10)) (sSeq (sDrop (dMt rApp (dVar 6) (dCons (dTup (dCons (dVar 10) (dCons (dOp rAdd (dOp rAdd (dVar 10) (dC (.int 1))) (dCall 2 sp_law_draw_v3 (dCons (dVar 0) (dCons (dOp rIx (dLst (dCons (dC (.int 1)) (dCons (dOp rSub (dOp rSub (dVar 3) (dC (.int 1))) (dVar 10)) dNil))) (dCall 2 sp_law_draw_v3 (dCons (dVar 0) (dCons (dC (.int 2)) dNil)))) dNil)))) dNil))) dNil))) sNext))) (sSeq (sFor (dRng1 (dVar 3)) (.nm 9) (sSeq (sDrop (dMt rApp (dVar 8) (dCons (dOp rMul (dCall 2 sp_law_draw_v3 (dCons (dVar 0) (dCons (dOp rAdd (dVar 7) (dC (.int 1))) dNil))) (dFn rInt (dCons (dOp rEq (dCall 2 sp_law_draw_v3 (dCons (dVar 0) (dCons (dC (.int 3)) dNil))) (dC (.int 0))) dNil))) dNil))) sNext)) (sSeq (sRet (dTup (dCons (dVar 5) (dCons (dFn rTuple (dCons (dVar 6) dNil)) (dCons (dFn rTuple (dCons (dVar 8) dNil)) dNil))))) sNext))))))
theorem p_law_state_c (ds : List D) (M : MS) (Φ : DQ) (h : sp_law_state_c ds M Φ noX) : t_law_state_c { nx := fun _ M' => Φ .non M', rt := Φ } (startD 11 ds) M := by
  obtain ⟨a, c, k, st, mw, rfl, s1, s2, mw1, hD, h⟩ := h
  simp only [t_law_state_c, dLc, sFor, dRng1, sSeq, sRet, sRetN, sNext, sIf, sAsg, sPar, sPar3, sSetI, sAug, sAugI, sDrop, sBreak, sCont, dOp, dUn, dCons, dNil, dFn, dC, dTup, dLst, dLstM, dIf, dTest, dTru, dAnd, dOr, dNot, dAndV, dOrV, dNotE, dChain, dSl, dNoPart, dPart, dSeq, dEnum, dZip, dRng1, dRng2, dYes, dCall, dMt, dVar, dDic0, dDic1, put_nm, put_tp, puts_nil, puts_cons, List.getElem?_cons_zero, List.getElem?_cons_succ, List.set_cons_zero, List.set_cons_succ, startD, List.map_cons, List.map_nil, List.cons_append, List.nil_append, List.length_cons, List.length_nil, List.replicate_succ, List.replicate_zero, Nat.reduceSub, Nat.reduceAdd, Nat.zero_add, wipeD, keyD, gSeq, gPlain, gNil, gYield, gFor, dTupP, dRngP, dCallG, sForG, dLcG, GE.at, dTupRg, dStar]
  refine rSub_i ?_
  refine use_draw3 (hD : Dk M a c (k + 199 + 1)) (by omega) (by omega) fun r M1 hD1 hK1 r0 r1 => rAdd_i ⟨by decide, ?_⟩
  refine use_draw3 (hD1 : Dk M1 a c (k + 198 + 1)) (by decide) (by decide) fun r' M2 hD2 hK2 r0' r1' => ?_
  obtain ⟨top, et, t0, t1⟩ : ∃ m : Int, atI [D.int 1, D.int 4, D.int 50] r' = some (.int m) ∧ 1 ≤ m ∧ m ≤ 50 := by
    have hr : r' = 0 ∨ r' = 1 ∨ r' = 2 := by omega
    rcases hr with rfl | rfl | rfl
    · exact ⟨1, by rw [at0]; rfl, by decide, by decide⟩
    · exact ⟨4, by rw [at1]; rfl, by decide, by decide⟩
    · exact ⟨50, by rw [at2]; rfl, by decide, by decide⟩
  refine rIx_seq (x := .lst _) rfl et ⟨by decide, ?_⟩
  generalize hn : 2 + r = n
  have n1 : 2 ≤ n := by omega
  have n2 : n ≤ st := by omega
  simp only [dLc, sFor, dRng1, sSeq, sRet, sRetN, sNext, sIf, sAsg, sPar, sPar3, sSetI, sAug, sAugI, sDrop, sBreak, sCont, dOp, dUn, dCons, dNil, dFn, dC, dTup, dLst, dLstM, dIf, dTest, dTru, dAnd, dOr, dNot, dAndV, dOrV, dNotE, dChain, dSl, dNoPart, dPart, dSeq, dEnum, dZip, dRng1, dRng2, dYes, dCall, dMt, dVar, dDic0, dDic1, put_nm, put_tp, puts_nil, puts_cons, List.getElem?_cons_zero, List.getElem?_cons_succ, List.set_cons_zero, List.set_cons_succ, startD, List.map_cons, List.map_nil, List.cons_append, List.nil_append, List.length_cons, List.length_nil, List.replicate_succ, List.replicate_zero, Nat.reduceSub, Nat.reduceAdd, Nat.zero_add, wipeD, keyD, gSeq, gPlain, gNil, gYield, gFor, dTupP, dRngP, dCallG, sForG, dLcG, GE.at, dTupRg, dStar]
  refine ⟨by omega, by omega, ?_⟩
  refine lcW_inv (fun ds acc M' => ∃ ns : List Int, acc = ns.map D.int ∧ Dk M' a c (k + 170 + 2 * ds.length) ∧ Kp a c M M' ∧ intsIn ns 50 ∧ ns.length + ds.length = n.toNat) (fun _ _ _ _ => trivial) (fun acc M' q => ?_) (fun d ds acc M' Nx q nx => ?_) _ _ _
    ⟨[], rfl, hD2.mono (by rw [rangeD_length]; omega), hK1.trans hK2, fun _ z => by (cases z), by rw [rangeD_length]; simp⟩
  rotate_left
  · obtain ⟨ns, rfl, q1, q2, q3, q4⟩ := q
    refine ⟨_, rfl, ?_⟩
    simp only [sSeq, sRet, sRetN, sNext, sIf, sAsg, sPar, sPar3, sSetI, sAug, sAugI, sDrop, sBreak, sCont, dOp, dUn, dCons, dNil, dFn, dC, dTup, dLst, dLstM, dIf, dTest, dTru, dAnd, dOr, dNot, dAndV, dOrV, dNotE, dChain, dSl, dNoPart, dPart, dSeq, dEnum, dZip, dRng1, dRng2, dYes, dCall, dMt, dVar, dDic0, dDic1, put_nm, put_tp, puts_nil, puts_cons, List.getElem?_cons_zero, List.getElem?_cons_succ, List.set_cons_zero, List.set_cons_succ, startD, List.map_cons, List.map_nil, List.cons_append, List.nil_append, List.length_cons, List.length_nil, List.replicate_succ, List.replicate_zero, Nat.reduceSub, Nat.reduceAdd, Nat.zero_add, wipeD, keyD, gSeq, gPlain, gNil, gYield, gFor, dTupP, dRngP, dCallG, sForG, dLcG, GE.at, dTupRg, dStar, if_true]
    have q4' : ns.length + (ds.length + 1) = n.toNat := by simpa using q4
    refine rAdd_i ?_
    refine use_draw3 (k := k + 170 + 2 * ds.length + 1) (q1.mono (by simp; omega)) (by omega) (by omega) fun x M3 hD3 hK3 s0 s1 => ?_
    refine use_draw3 hD3 (by decide) (by decide) fun y M4 hD4 hK4 t0 t1 => rCmp_i ?_
    simp only [rInt]
    refine rMul_i (.inl (by omega)) ⟨by simp; omega, nx _ _ ⟨ns ++ [x * b2 (decide (0 < y))], by simp, hD4, (q2.trans hK3).trans hK4, fun z hz => ?_, by simp; omega⟩⟩
    rcases List.mem_append.mp hz with z' | z'
    · exact q3 z z'
    · rw [List.mem_singleton.mp z']
      cases decide (0 < y) with
      | true => simp [b2]; omega
      | false => simp [b2]
  obtain ⟨row, rfl, hD3, hK3, hri, hrl⟩ := q
  have hrl' : row.length = n.toNat := by simpa using hrl
  have hD3' : Dk M' a c (k + 170) := hD3.mono (by simp)
  simp only [rTuple, seqA]
  refine ⟨by decide, fun p hp => rAdd_i ⟨by decide, ?_⟩⟩
  have pa := hD3'.a_ne hp
  have pc := hD3'.c_ne hp
  refine use_draw3 (k := k + 169) (hD3'.put pa pc) (by decide) (by decide) fun r3 M4 hD4 hK4 u0 u1 => ?_
  obtain ⟨bd, eb, b0, b1⟩ : ∃ m : Int, atI [D.int 2, D.int 6, D.int (top + 2), D.int 500] r3 = some (.int m) ∧ 0 ≤ m ∧ m ≤ 500 := by
    have hr : r3 = 0 ∨ r3 = 1 ∨ r3 = 2 ∨ r3 = 3 := by omega
    rcases hr with rfl | rfl | rfl | rfl
    · exact ⟨2, by rw [at0]; rfl, by decide, by decide⟩
    · exact ⟨6, by rw [at1]; rfl, by decide, by decide⟩
    · exact ⟨top + 2, by rw [at2]; rfl, by omega, by omega⟩
    · exact ⟨500, by rw [at3]; rfl, by decide, by decide⟩
  refine rIx_seq (x := .lst _) rfl eb ⟨by decide, fun p2 hp2 => ?_⟩
  have e4 : M4.map p = some (.lst []) := hK4.keep pa pc MS.put_same
  have p2a := hD4.a_ne hp2
  have p2c := hD4.c_ne hp2
  have hne : p ≠ p2 := fun z => by rw [z, hp2] at e4; cases e4
  have k04 : Kp a c M' M4 := (Kp.new hp).trans hK4
  have hp2' : M'.map p2 = none := by
    cases e : M'.map p2 with
    | none => rfl
    | some o =>
      have := k04 p2 p2a p2c (by rw [e]; simp)
      rw [hp2, e] at this
      cases this
  refine rAdd_i ?_
  refine use_draw3 (k := k + 168) ((hD4 : Dk M4 a c (k + 168 + 1)).put p2a p2c) (by omega) (by omega) fun m5 M5 hD5 hK5 v0 v1 => ⟨by omega, by omega, ?_⟩
  refine forW_inv (fun ds' ρ M6 => ∃ (ws : List (Int × Int)) (r9 r10 : Option D), ρ = [some (.ref a), some (.int ((st : Nat) : Int)), some (.int ((mw : Nat) : Int)), some (.int n), some (.int top), some (.tup (row.map D.int)), some (.ref p), some (.int bd), some (.ref p2), r9, r10] ∧ M6.map p = some (.lst (ws.map wayD)) ∧ M6.map p2 = some (.lst []) ∧ Dk M6 a c (k + 40 + 3 * ds'.length) ∧ Kp a c M' M6 ∧ ws.length + ds'.length ≤ mw ∧ ∀ w ∈ ws, 0 ≤ w.1 ∧ w.1 < w.2 ∧ w.2 ≤ n - 1)
    (fun _ _ _ _ => trivial) (fun ρ M6 q => ?_) (fun d' ds' ρ M6 Nx q nx => ?_) _ _ _ ⟨[], none, none, rfl, hK5.keep pa pc (by rw [MS.put_ne hne]; exact e4), hK5.keep p2a p2c MS.put_same, hD5.mono (by rw [rangeD_length]; omega), (k04.put hp2').trans hK5, by rw [rangeD_length]; simp only [List.length_nil]; omega, fun _ z => by cases z⟩
  · obtain ⟨ws, r9, r10, rfl, f1, f2, f3, f4, f5, f6⟩ := q
    simp only [sFor, dRng1, sSeq, sRet, sRetN, sNext, sIf, sAsg, sPar, sPar3, sSetI, sAug, sAugI, sDrop, sBreak, sCont, dOp, dUn, dCons, dNil, dFn, dC, dTup, dLst, dLstM, dIf, dTest, dTru, dAnd, dOr, dNot, dAndV, dOrV, dNotE, dChain, dSl, dNoPart, dPart, dSeq, dEnum, dZip, dRng1, dRng2, dYes, dCall, dMt, dVar, dDic0, dDic1, put_nm, put_tp, puts_nil, puts_cons, List.getElem?_cons_zero, List.getElem?_cons_succ, List.set_cons_zero, List.set_cons_succ, startD, List.map_cons, List.map_nil, List.cons_append, List.nil_append, List.length_cons, List.length_nil, List.replicate_succ, List.replicate_zero, Nat.reduceSub, Nat.reduceAdd, Nat.zero_add, wipeD, keyD, gSeq, gPlain, gNil, gYield, gFor, dTupP, dRngP, dCallG, sForG, dLcG, GE.at, dTupRg, dStar]
    refine ⟨by omega, by omega, ?_⟩
    refine forW_inv (fun ds' ρ M7 => ∃ (us : List Int) (r9 r10 : Option D), ρ = [some (.ref a), some (.int ((st : Nat) : Int)), some (.int ((mw : Nat) : Int)), some (.int n), some (.int top), some (.tup (row.map D.int)), some (.ref p), some (.int bd), some (.ref p2), r9, r10] ∧ M7.map p = some (.lst (ws.map wayD)) ∧ M7.map p2 = some (.lst (us.map D.int)) ∧ Dk M7 a c (k + 2 * ds'.length) ∧ Kp a c M' M7 ∧ us.length + ds'.length = n.toNat ∧ intsIn us 500)
      (fun _ _ _ _ => trivial) (fun ρ M7 q => ?_) (fun d' ds' ρ M7 Nx q nx => ?_) _ _ _ ⟨[], r9, r10, rfl, f1, f2, f3.mono (by rw [rangeD_length]; simp only [List.length_nil]; omega), f4, by rw [rangeD_length]; simp, fun _ z => by cases z⟩
    · obtain ⟨us, r9, r10, rfl, g1, g2, g3, g4, g5, g6⟩ := q
      have g5' : us.length = n.toNat := by simpa using g5
      simp only [sSeq, sRet, sRetN, sNext, sIf, sAsg, sPar, sPar3, sSetI, sAug, sAugI, sDrop, sBreak, sCont, dOp, dUn, dCons, dNil, dFn, dC, dTup, dLst, dLstM, dIf, dTest, dTru, dAnd, dOr, dNot, dAndV, dOrV, dNotE, dChain, dSl, dNoPart, dPart, dSeq, dEnum, dZip, dRng1, dRng2, dYes, dCall, dMt, dVar, dDic0, dDic1, put_nm, put_tp, puts_nil, puts_cons, List.getElem?_cons_zero, List.getElem?_cons_succ, List.set_cons_zero, List.set_cons_succ, startD, List.map_cons, List.map_nil, List.cons_append, List.nil_append, List.length_cons, List.length_nil, List.replicate_succ, List.replicate_zero, Nat.reduceSub, Nat.reduceAdd, Nat.zero_add, wipeD, keyD, gSeq, gPlain, gNil, gYield, gFor, dTupP, dRngP, dCallG, sForG, dLcG, GE.at, dTupRg, dStar, rTuple, seqA, g1, g2]
      have f5' : ws.length ≤ mw := by simpa using f5
      refine ⟨by decide, h (row, ws, us) M7 (g3.mono (by simp)) (hK3.trans g4) ⟨(show 2 ≤ row.length by omega), (show row.length ≤ 10 by omega), (show us.length = row.length by omega), (show ws.length ≤ 40 by omega), hri, g6, fun w hw => by obtain ⟨e1, e2, e3⟩ := f6 w hw; exact ⟨e1, e2, show w.2 ≤ ((row.length : Nat) : Int) - 1 by omega⟩⟩ f5' (show row.length ≤ st by omega)⟩
    · obtain ⟨us, r9, r10, rfl, g1, g2, g3, g4, g5, g6⟩ := q
      have g5' : us.length + (ds'.length + 1) = n.toNat := by simpa using g5
      refine ⟨_, rfl, ?_⟩
      simp only [sSeq, sRet, sRetN, sNext, sIf, sAsg, sPar, sPar3, sSetI, sAug, sAugI, sDrop, sBreak, sCont, dOp, dUn, dCons, dNil, dFn, dC, dTup, dLst, dLstM, dIf, dTest, dTru, dAnd, dOr, dNot, dAndV, dOrV, dNotE, dChain, dSl, dNoPart, dPart, dSeq, dEnum, dZip, dRng1, dRng2, dYes, dCall, dMt, dVar, dDic0, dDic1, put_nm, put_tp, puts_nil, puts_cons, List.getElem?_cons_zero, List.getElem?_cons_succ, List.set_cons_zero, List.set_cons_succ, startD, List.map_cons, List.map_nil, List.cons_append, List.nil_append, List.length_cons, List.length_nil, List.replicate_succ, List.replicate_zero, Nat.reduceSub, Nat.reduceAdd, Nat.zero_add, wipeD, keyD, gSeq, gPlain, gNil, gYield, gFor, dTupP, dRngP, dCallG, sForG, dLcG, GE.at, dTupRg, dStar]
      refine ⟨isL_ref g2, rAdd_i ?_⟩
      refine use_draw3 (k := k + 2 * ds'.length + 1) (g3.mono (by rw [List.length_cons]; omega)) (by omega) (by omega) fun x M8 hD8 hK8 s0 s1 => ?_
      refine use_draw3 hD8 (by decide) (by decide) fun y M9 hD9 hK9 t0 t1 => rEq_i ?_
      simp only [rInt]
      refine rMul_i (.inl (by omega)) ?_
      have k9 := hK8.trans hK9
      refine rApp_ref (k9.keep p2a p2c g2) (by rw [List.length_map]; omega) (nx _ _ ⟨us ++ [x * b2 (y == 0)], _, _, rfl, by rw [MS.put_ne hne]; exact k9.keep pa pc g1, by rw [MS.put_same]; simp, hD9.put p2a p2c, (g4.trans k9).put hp2', by simp; omega, fun z hz => ?_⟩)
      rcases List.mem_append.mp hz with z' | z'
      · exact g6 z z'
      · rw [List.mem_singleton.mp z']
        cases (y == 0) with
        | true => simp [b2]; omega
        | false => simp [b2]
  · obtain ⟨ws, r9, r10, rfl, f1, f2, f3, f4, f5, f6⟩ := q
    rw [List.length_cons] at f5
    refine ⟨_, rfl, ?_⟩
    simp only [sSeq, sRet, sRetN, sNext, sIf, sAsg, sPar, sPar3, sSetI, sAug, sAugI, sDrop, sBreak, sCont, dOp, dUn, dCons, dNil, dFn, dC, dTup, dLst, dLstM, dIf, dTest, dTru, dAnd, dOr, dNot, dAndV, dOrV, dNotE, dChain, dSl, dNoPart, dPart, dSeq, dEnum, dZip, dRng1, dRng2, dYes, dCall, dMt, dVar, dDic0, dDic1, put_nm, put_tp, puts_nil, puts_cons, List.getElem?_cons_zero, List.getElem?_cons_succ, List.set_cons_zero, List.set_cons_succ, startD, List.map_cons, List.map_nil, List.cons_append, List.nil_append, List.length_cons, List.length_nil, List.replicate_succ, List.replicate_zero, Nat.reduceSub, Nat.reduceAdd, Nat.zero_add, wipeD, keyD, gSeq, gPlain, gNil, gYield, gFor, dTupP, dRngP, dCallG, sForG, dLcG, GE.at, dTupRg, dStar]
    refine rSub_i ?_
    refine use_draw3 (k := k + 40 + 3 * ds'.length + 2) (f3.mono (by rw [List.length_cons]; omega)) (by omega) (by omega) fun x M7 hD7 hK7 s0 s1 => ?_
    refine ⟨isL_ref (hK7.keep pa pc f1), rAdd_i (rSub_i (rSub_i ⟨by decide, ?_⟩))⟩
    refine use_draw3 (k := k + 40 + 3 * ds'.length + 1) hD7 (by decide) (by decide) fun y M8 hD8 hK8 t0 t1 => ?_
    obtain ⟨lim, el, l0, l1⟩ : ∃ m : Int, atI [D.int 1, D.int (n - 1 - x)] y = some (.int m) ∧ 1 ≤ m ∧ m ≤ n - 1 - x := by
      have hr : y = 0 ∨ y = 1 := by omega
      rcases hr with rfl | rfl
      · exact ⟨1, by rw [at0]; rfl, by decide, by omega⟩
      · exact ⟨n - 1 - x, by rw [at1]; rfl, by omega, by omega⟩
    refine rIx_seq (x := .lst _) rfl el ?_
    refine use_draw3 (k := k + 40 + 3 * ds'.length) hD8 (by omega) (by omega) fun z M9 hD9 hK9 w0 w1 => rAdd_i ⟨by decide, ?_⟩
    have k9 := (hK7.trans hK8).trans hK9
    refine rApp_ref (k9.keep pa pc f1) (by rw [List.length_map]; omega) (nx _ _ ⟨ws ++ [(x, x + 1 + z)], _, _, rfl, by rw [MS.put_same]; simp [wayD], by rw [MS.put_ne hne.symm]; exact k9.keep p2a p2c f2, hD9.put pa pc, (f4.trans k9).put hp, by simp; omega, fun v hv => ?_⟩)
    rcases List.mem_append.mp hv with z' | z'
    · exact f6 v z'
    · rw [List.mem_singleton.mp z']
      exact ⟨s0, show x < x + 1 + z by omega, show x + 1 + z ≤ n - 1 by omega⟩
end DL
namespace DL
open PySem PySem.Spec PyProof.Rows L2 TL
def numF (d : D) : Option D := match d with
  | .int i => some (.str (numT i))
  | _ => none
theorem numF_map (ns : List Int) : (ns.map D.int).filterMap numF = (ns.map numT).map D.str := by
  rw [List.filterMap_map, List.map_map]
  exact (List.filterMap_eq_map (f := fun i : Int => D.str (numT i)) ▸ rfl)
def wayF (d : D) : Option D := match d with
  | .tup [.int i, .int j] => some (.str (wayT (i, j)))
  | _ => none
theorem wayF_map : ∀ ws : List (Int × Int), (ws.map wayD).filterMap wayF = (ws.map wayT).map D.str
  | [] => rfl
  | w :: ws => by rw [List.map_cons, List.filterMap_cons, List.map_cons, List.map_cons, ← wayF_map ws]; rfl
theorem log_small {i : Int} (h : 0 ≤ i) (h2 : i ≤ 600) : i.natAbs.log2 < 1920 := by
  have : i.natAbs < 2 ^ 10 := by omega
  by_cases h0 : i.natAbs = 0
  · rw [h0]; decide
  · have := (Nat.log2_lt h0).mpr this
    omega
/-- [str(n) for n in ns], joined by commas -/
theorem nums_lc {ns : List Int} {G : MS → Prop} {M : MS} {ρ : DEnv} {i : Nat} {Φ : List D → MS → Prop} (h : intsIn ns 600) (hl : ns.length ≤ 1000) (hG : G M) (hi : i < ρ.length) (q : Φ ((ns.map numT).map D.str) M) :
    lcW G (Pat.nm i) dYes (dFn rStr (dCons (dVar i) dNil)) ρ (ns.map D.int) [] M Φ := by
  refine lcW_map numF _ hG (by rw [List.length_map]; omega) (fun x hx => ?_) (by rw [numF_map]; exact q)
  obtain ⟨n, hn, rfl⟩ := List.mem_map.mp hx
  obtain ⟨a, b⟩ := h n hn
  refine ⟨_, rfl, fun acc Nx hl k => ?_⟩
  simp only [dYes, if_true, dFn, dCons, dNil, dVar, List.getElem?_set, hi, and_true, if_true]
  exact ⟨log_small a b, hl, k⟩
def sp_numbers_text : DSp := fun ds M Φ _ => ∃ ns : List Int, ds = [.tup (ns.map D.int)] ∧ ns.length ≤ 1000 ∧ intsIn ns 600 ∧ Φ (.str (numsT ns)) M
def sp_corridor_text : DSp := fun ds M Φ _ => ∃ (row : List Int) (ws : List (Int × Int)) (us : List Int), ds = [.tup (row.map D.int), .tup (ws.map wayD), .tup (us.map D.int)] ∧ StOk row ws us ∧ Φ (.str (corT row ws us)) M
def t_numbers_text : DS := (sSeq (sRet (dJoin (dC (.str ",")) (dLc (dSeq (dVar 0)) (.nm 1) [1] dYes (dFn rStr (dCons (dVar 1) dNil))))) sNext)
def t_corridor_text : DS := (sSeq (sAsg (dLc (dSeq (dVar 1)) (.tp [(.nm 4), (.nm 5)]) [4, 5] dYes (dJsA [(dFmt (dVar 4)), (dFmt (dC (.str "-"))), (dFmt (dVar 5))] Str.empty)) (.nm 3)) (sSeq (sRet (dJoin (dC (.str " ")) (dLst (dCons (dCall 1 sp_numbers_text (dCons (dVar 0) dNil)) (dStar (dVar 3) (dCons (dC (.str "for")) (dCons (dCall 1 sp_numbers_text (dCons (dVar 2) dNil)) dNil))))))) sNext))
theorem p_numbers_text (ds : List D) (M : MS) (Φ : DQ) (h : sp_numbers_text ds M Φ noX) : t_numbers_text { nx := fun _ M' => Φ .non M', rt := Φ } (startD 2 ds) M := by
  obtain ⟨ns, rfl, hl, hn, q⟩ := h
  simp only [t_numbers_text, dJoin, dLc, wipeD, sSeq, sRet, sRetN, sNext, sIf, sAsg, sPar, sPar3, sSetI, sAug, sAugI, sDrop, sBreak, sCont, dOp, dUn, dCons, dNil, dFn, dC, dTup, dLst, dLstM, dIf, dTest, dTru, dAnd, dOr, dNot, dAndV, dOrV, dNotE, dChain, dSl, dNoPart, dPart, dSeq, dEnum, dZip, dRng1, dRng2, dYes, dCall, dMt, dVar, dDic0, dDic1, put_nm, put_tp, puts_nil, puts_cons, List.getElem?_cons_zero, List.getElem?_cons_succ, List.set_cons_zero, List.set_cons_succ, startD, List.map_cons, List.map_nil, List.cons_append, List.nil_append, List.length_cons, List.length_nil, List.replicate_succ, List.replicate_zero, Nat.reduceSub, Nat.reduceAdd, Nat.zero_add, wipeD, keyD, gSeq, gPlain, gNil, gYield, gFor, dTupP, dRngP, dCallG, sForG, dLcG, GE.at, dTupRg, dStar, seqA]
  refine nums_lc hn hl trivial (by simp) ?_
  simp only [Option.bind_some, asStrs_map]
  exact ⟨Nat.le_trans (nums_fit hn) (by omega), q⟩
theorem empty_app (x : Str) : Str.empty ++ x = x := ext_tl (by rw [tl_append]; rfl)
theorem p_corridor_text (ds : List D) (M : MS) (Φ : DQ) (h : sp_corridor_text ds M Φ noX) : t_corridor_text { nx := fun _ M' => Φ .non M', rt := Φ } (startD 6 ds) M := by
  obtain ⟨row, ws, us, rfl, hs, q⟩ := h
  simp only [t_corridor_text, dJoin, dLc, wipeD, sSeq, sRet, sRetN, sNext, sIf, sAsg, sPar, sPar3, sSetI, sAug, sAugI, sDrop, sBreak, sCont, dOp, dUn, dCons, dNil, dFn, dC, dTup, dLst, dLstM, dIf, dTest, dTru, dAnd, dOr, dNot, dAndV, dOrV, dNotE, dChain, dSl, dNoPart, dPart, dSeq, dEnum, dZip, dRng1, dRng2, dYes, dCall, dMt, dVar, dDic0, dDic1, put_nm, put_tp, puts_nil, puts_cons, List.getElem?_cons_zero, List.getElem?_cons_succ, List.set_cons_zero, List.set_cons_succ, startD, List.map_cons, List.map_nil, List.cons_append, List.nil_append, List.length_cons, List.length_nil, List.replicate_succ, List.replicate_zero, Nat.reduceSub, Nat.reduceAdd, Nat.zero_add, wipeD, keyD, gSeq, gPlain, gNil, gYield, gFor, dTupP, dRngP, dCallG, sForG, dLcG, GE.at, dTupRg, dStar, seqA]
  refine lcW_map wayF _ trivial (by rw [List.length_map]; have := hs.w; omega) (fun x hx => ?_) ?_
  · obtain ⟨w, hw, rfl⟩ := List.mem_map.mp hx
    obtain ⟨a, b, c, d⟩ := hs.wi w hw
    refine ⟨_, rfl, fun acc Nx hl k => ?_⟩
    have e2 : Str.empty ++ numT w.1 ++ dashT ++ numT w.2 = wayT w := by rw [empty_app]; rfl
    have l1 := numT_len a b
    have l2 := numT_len c d
    have l3 : dashT.length = 1 := by decide +kernel
    simp only [if_true, dJsA, dFmt, sSeq, sRet, sRetN, sNext, sIf, sAsg, sPar, sPar3, sSetI, sAug, sAugI, sDrop, sBreak, sCont, dOp, dUn, dCons, dNil, dFn, dC, dTup, dLst, dLstM, dIf, dTest, dTru, dAnd, dOr, dNot, dAndV, dOrV, dNotE, dChain, dSl, dNoPart, dPart, dSeq, dEnum, dZip, dRng1, dRng2, dYes, dCall, dMt, dVar, dDic0, dDic1, put_nm, put_tp, puts_nil, puts_cons, List.getElem?_cons_zero, List.getElem?_cons_succ, List.set_cons_zero, List.set_cons_succ, startD, List.map_cons, List.map_nil, List.cons_append, List.nil_append, List.length_cons, List.length_nil, List.replicate_succ, List.replicate_zero, Nat.reduceSub, Nat.reduceAdd, Nat.zero_add, wipeD, keyD, gSeq, gPlain, gNil, gYield, gFor, dTupP, dRngP, dCallG, sForG, dLcG, GE.at, dTupRg, dStar]
    refine ⟨log_small a b, ?_, by decide +kernel, ?_, log_small c d, ?_, hl, ?_⟩
    · show (Str.empty ++ numT w.1).length ≤ 1000000
      rw [empty_app]; omega
    · show (Str.empty ++ numT w.1 ++ dashT).length ≤ 1000000
      rw [empty_app, len_tl, tl_append, List.length_append, ← len_tl, ← len_tl]; omega
    · show (Str.empty ++ numT w.1 ++ dashT ++ numT w.2).length ≤ 1000000
      rw [e2]; exact Nat.le_trans (wayT_len ⟨a, b, c, d⟩) (by decide)
    · show Nx (acc ++ [.str (Str.empty ++ numT w.1 ++ dashT ++ numT w.2)]) M
      rw [e2]; exact k
  rw [wayF_map]
  refine ⟨trivial, row, rfl, by have := hs.r2; omega, hs.ri, ⟨trivial, us, rfl, by have := hs.u2; omega, hs.ui, ?_⟩⟩
  have e : (numsT row :: ((ws.map wayT) ++ [forT, numsT us])).map D.str = .str (numsT row) :: ((ws.map wayT).map D.str ++ [.str forT, .str (numsT us)]) := by simp
  dsimp only
  refine ⟨by have := hs.w; rw [List.length_append, List.length_map, List.length_map, List.length_cons, List.length_cons, List.length_nil]; omega, ?_⟩
  rw [← e, Option.bind_some, asStrs_map]
  exact ⟨Nat.le_trans (words_fit hs) (by decide), q⟩
end DL
namespace DL
open PySem PySem.Spec PyProof.Rows L2 TL
def digB (c : Nat) : Bool := decide (48 ≤ c) && decide (c ≤ 57)
/-- what a word denotes -/
def numL2 (l : List Nat) : D := if (decide (1 ≤ l.length) && decide (l.length ≤ 4)) && l.all digB then (if l.head? = some 48 ∧ l ≠ [48] then .non else .int (NumText.digitsVal l : Nat)) else .non
def numV (z : Str) : D := numL2 z.cps.toList
def sp_parse_number : DSp := fun ds M Φ _ => ∃ z : Str, ds = [.str z] ∧ z.length ≤ 1000000 ∧ Φ (numV z) M
def t_parse_number : DS := (sSeq (sIf (dOr (dNot (dTest (dChain rLe rLe (dC (.int 1)) (dFn rLen (dCons (dVar 0) dNil)) (dC (.int 4))))) (dNot (dTru (dFn rAll (dCons (dLc (dChars (dVar 0)) (.nm 1) [1] dYes (dOp (rIn false) (dVar 1) (dC (.str "0123456789")))) dNil))))) (sSeq (sRet (dC .non)) sNext) sNext) (sSeq (sRet (dIf (dAnd (dTest (dOp rEq (dOp rIx (dVar 0) (dC (.int 0))) (dC (.str "0")))) (dTest (dOp rNe (dVar 0) (dC (.str "0"))))) (dC .non) (dFn rIntS (dCons (dVar 0) dNil)))) sNext))
theorem chr_in (c : Nat) : (!(Builtin.Str.occurrences (Str.ofString "0123456789") ⟨#[c]⟩ 0 (Str.ofString "0123456789").length 1).isEmpty) = digB c := by
  have h := StrLaws.found_one (Str.ofString "0123456789") c
  refine h.trans ?_
  unfold digB
  rw [show (Str.ofString "0123456789").cps.toList = [48, 49, 50, 51, 52, 53, 54, 55, 56, 57] from by decide +kernel]
  rw [Bool.eq_iff_iff]
  simp only [List.mem_cons, List.not_mem_nil, or_false, decide_eq_true_eq, Bool.and_eq_true]
  omega
theorem p_parse_number (ds : List D) (M : MS) (Φ : DQ) (h : sp_parse_number ds M Φ noX) : t_parse_number { nx := fun _ M' => Φ .non M', rt := Φ } (startD 2 ds) M := by
  obtain ⟨z, rfl, hl, h⟩ := h
  have hz : z.length = z.cps.toList.length := by show z.cps.size = _; simp
  rw [show startD 2 [D.str z] = [some (.str z), none] from rfl]
  simp only [t_parse_number, sSeq, sRet, sRetN, sNext, sIf, sAsg, sPar, sPar3, sSetI, sAug, sAugI, sDrop, sBreak, sCont, dOp, dUn, dCons, dNil, dFn, dC, dTup, dLst, dLstM, dIf, dTest, dTru, dAnd, dOr, dNot, dAndV, dOrV, dNotE, dChain, dSl, dNoPart, dPart, dSeq, dEnum, dZip, dRng1, dRng2, dYes, dCall, dMt, dVar, dDic0, dDic1, put_nm, put_tp, puts_nil, puts_cons, List.getElem?_cons_zero, List.getElem?_cons_succ, List.set_cons_zero, List.set_cons_succ, startD, List.map_cons, List.map_nil, List.cons_append, List.nil_append, List.length_cons, List.length_nil, List.replicate_succ, List.replicate_zero, Nat.reduceSub, Nat.reduceAdd, Nat.zero_add, wipeD, keyD, gSeq, gPlain, gNil, gYield, gFor, dTupP, dRngP, dCallG, sForG, dLcG, GE.at, dTupRg, dStar, sPutT, dKeysT, dDicT0, dDicT1, sAsgL, dMake, dMakeF, dProp, dMeth, dCallO, dOp3, dLenO, dStrO, sFld, sFldAug, noXs, sRaise0, sRaise1, sTry, goneE, dCntB, rLen]
  refine ⟨hl, rCmp_i ?_⟩
  unfold numV numL2 at h
  by_cases h1 : (1 : Int) ≤ z.length
  · simp only [decide_eq_true h1, if_true]
    refine rCmp_i ?_
    by_cases h4 : ((z.length : Nat) : Int) ≤ 4
    · simp only [decide_eq_true h4, Bool.not_true, Bool.false_eq_true, if_false]
      simp only [dLc, dChars, sSeq, sRet, sRetN, sNext, sIf, sAsg, sPar, sPar3, sSetI, sAug, sAugI, sDrop, sBreak, sCont, dOp, dUn, dCons, dNil, dFn, dC, dTup, dLst, dLstM, dIf, dTest, dTru, dAnd, dOr, dNot, dAndV, dOrV, dNotE, dChain, dSl, dNoPart, dPart, dSeq, dEnum, dZip, dRng1, dRng2, dYes, dCall, dMt, dVar, dDic0, dDic1, put_nm, put_tp, puts_nil, puts_cons, List.getElem?_cons_zero, List.getElem?_cons_succ, List.set_cons_zero, List.set_cons_succ, startD, List.map_cons, List.map_nil, List.cons_append, List.nil_append, List.length_cons, List.length_nil, List.replicate_succ, List.replicate_zero, Nat.reduceSub, Nat.reduceAdd, Nat.zero_add, wipeD, keyD, gSeq, gPlain, gNil, gYield, gFor, dTupP, dRngP, dCallG, sForG, dLcG, GE.at, dTupRg, dStar, sPutT, dKeysT, dDicT0, dDicT1, sAsgL, dMake, dMakeF, dProp, dMeth, dCallO, dOp3, dLenO, dStrO, sFld, sFldAug, noXs, sRaise0, sRaise1, sTry, goneE, dCntB]
      refine lcW_map (fun d => match d with | .str y => some (.bl (match y.cps.toList with | [c] => digB c | _ => false)) | _ => none) (chrD z) trivial (by unfold chrD; rw [List.length_map]; omega) (fun x hx => ?_) ?_
      · obtain ⟨c, hc, rfl⟩ := List.mem_map.mp hx
        refine ⟨_, rfl, fun acc Nx hn k => ?_⟩
        simp only [sSeq, sRet, sRetN, sNext, sIf, sAsg, sPar, sPar3, sSetI, sAug, sAugI, sDrop, sBreak, sCont, dOp, dUn, dCons, dNil, dFn, dC, dTup, dLst, dLstM, dIf, dTest, dTru, dAnd, dOr, dNot, dAndV, dOrV, dNotE, dChain, dSl, dNoPart, dPart, dSeq, dEnum, dZip, dRng1, dRng2, dYes, dCall, dMt, dVar, dDic0, dDic1, put_nm, put_tp, puts_nil, puts_cons, List.getElem?_cons_zero, List.getElem?_cons_succ, List.set_cons_zero, List.set_cons_succ, startD, List.map_cons, List.map_nil, List.cons_append, List.nil_append, List.length_cons, List.length_nil, List.replicate_succ, List.replicate_zero, Nat.reduceSub, Nat.reduceAdd, Nat.zero_add, wipeD, keyD, gSeq, gPlain, gNil, gYield, gFor, dTupP, dRngP, dCallG, sForG, dLcG, GE.at, dTupRg, dStar, sPutT, dKeysT, dDicT0, dDicT1, sAsgL, dMake, dMakeF, dProp, dMeth, dCallO, dOp3, dLenO, dStrO, sFld, sFldAug, noXs, sRaise0, sRaise1, sTry, goneE, dCntB, if_true, rIn, seqA]
        rw [chr_in c]
        exact ⟨hn, k⟩
      have eb : (chrD z).filterMap (fun d => match d with | .str y => some (D.bl (match y.cps.toList with | [c] => digB c | _ => false)) | _ => none) = (z.cps.toList.map digB).map D.bl := by
        unfold chrD
        generalize z.cps.toList = l
        induction l with
        | nil => rfl
        | cons c l ih => rw [List.map_cons, List.filterMap_cons, ih, List.map_cons, List.map_cons]
      rw [eb]
      simp only [rAll, seqL, Option.bind_some, asBls_map, truD]
      have ea : (z.cps.toList.map digB).all id = z.cps.toList.all digB := by rw [List.all_map]; rfl
      rw [ea]
      by_cases h5 : z.cps.toList.all digB = true
      · rw [if_pos (by rw [h5, decide_eq_true (by omega), decide_eq_true (by omega)]; rfl)] at h
        simp only [h5, Bool.not_true, Bool.false_eq_true, if_false]
        obtain ⟨c, l, ecl⟩ : ∃ c l, z.cps.toList = c :: l := by
          cases e : z.cps.toList with
          | nil => rw [e] at hz; simp at hz; omega
          | cons c l => exact ⟨c, l, rfl⟩
        simp only [rIx, seqA]
        have e0 : atI z.cps.toList 0 = some c := by rw [at0, ecl]; rfl
        rw [e0]
        dsimp only
        refine ⟨by omega, rEq_s ?_⟩
        have ec : ((⟨#[c]⟩ : Str) == Str.ofString "0") = decide (c = 48) := by
          rw [Bool.eq_iff_iff, beq_iff_eq, decide_eq_true_eq]
          constructor
          · intro e
            have := congrArg (fun s : Str => s.cps.toList) e
            have e2 : (Str.ofString "0").cps.toList = [48] := by decide +kernel
            rw [e2] at this
            injection this
          · intro e
            rw [e]; decide +kernel
        have ez : (z == Str.ofString "0") = decide (z.cps.toList = [48]) := by
          rw [Bool.eq_iff_iff, beq_iff_eq, decide_eq_true_eq]
          have e2 : (Str.ofString "0").cps.toList = [48] := by decide +kernel
          constructor
          · intro e; rw [e, e2]
          · intro e
            exact TL.ext_tl (e.trans e2.symm)
        have hd : NumText.AllDigits z.cps.toList := fun c hc => by
          have := List.all_eq_true.mp h5 c hc
          unfold digB at this
          simpa using this
        have toint : Φ (.int (NumText.digitsVal z.cps.toList : Nat)) M → rIntS [.str z] M Φ := fun q => ⟨_, intText_digits hd (by rw [ecl]; simp) (by omega), by omega, q⟩
        rw [ec]
        by_cases c48 : c = 48
        · simp only [decide_eq_true c48, if_true]
          refine rNe_s ?_
          rw [ez]
          by_cases e1 : z.cps.toList = [48]
          · rw [if_neg (fun q => q.2 e1)] at h
            simp only [decide_eq_true e1, Bool.not_true, Bool.false_eq_true, if_false]
            exact toint h
          · rw [if_pos ⟨by rw [ecl, c48]; rfl, e1⟩] at h
            simp only [decide_eq_false e1, Bool.not_false, if_true]
            exact h
        · rw [if_neg (fun q => c48 (by rw [ecl] at q; exact Option.some.inj q.1))] at h
          simp only [decide_eq_false c48, Bool.false_eq_true, if_false]
          exact toint h
      · rw [if_neg (by rw [Bool.eq_false_iff.mpr h5]; simp)] at h
        simp only [Bool.eq_false_iff.mpr h5, Bool.not_false, if_true]
        exact h
    · simp only [decide_eq_false h4, Bool.not_false, if_true]
      rw [if_neg (by rw [decide_eq_false (show ¬ z.cps.toList.length ≤ 4 by omega)]; simp)] at h
      exact h
  · simp only [decide_eq_false h1, Bool.false_eq_true, if_false, Bool.not_false, if_true]
    rw [if_neg (by rw [decide_eq_false (show ¬ 1 ≤ z.cps.toList.length by omega)]; simp)] at h
    exact h
def ShM (M : MS) (sh p : Addr) : Prop := M.map sh = some (.ins "Shell" [("corridor", .ref p)])
def okT (i : Int) : Str := (Str.empty ++ Str.ofString "ok ") ++ Str.ofString (toString i)
/-- one edit by a shell -/
def DoesS (M : MS) (p : Addr) (e : Ed) (Φ : DQ) : Prop := Does M p e fun v M' => ∀ k : Nat, v = .int (k : Nat) → k ≤ 60 → Φ (.str (okT (k : Nat))) M'
def sp_Shell_answer : DSp := fun ds M Φ _ => ∃ sh p z, ds = [.ref sh, .str z] ∧ ShM M sh p ∧
  ((z = Str.ofString "undo" ∧ ∃ ps pa pd sts st eds e, Cor M p ps pa pd (sts ++ [st]) (eds ++ [e]) ∧ eds.length ≤ 60 ∧ ∀ M', Cor M' p ps pa pd sts eds → Kc ps pa pd M M' → Φ (.str (okT (eds.length : Nat))) M') ∨
   (z = Str.ofString "corridor" ∧ ∃ ps pa pd sts st eds, Cor M p ps pa pd (sts ++ [st]) eds ∧ CorOk st ∧ Φ (.str (corT st.1 st.2.1 st.2.2)) M) ∨
   (z = Str.ofString "met" ∧ ∃ ps pa pd sts st eds, Cor M p ps pa pd (sts ++ [st]) eds ∧ CorOk st ∧ ∀ b : Bool, (b = true ↔ Feas st.1 st.2.2 st.2.1) → Φ (.str (if b = true then Str.ofString "yes" else Str.ofString "no")) M) ∨
   (z = Str.ofString "certificate" ∧ ∃ ps pa pd sts st eds, Cor M p ps pa pd (sts ++ [st]) eds ∧ CorOk st ∧ ∀ b : Bool, (b = true ↔ Feas st.1 st.2.2 st.2.1) → Φ (.str (if b = true then Str.ofString "plan" else Str.ofString "bar")) M) ∨
   ((z ≠ Str.ofString "undo" ∧ z ≠ Str.ofString "corridor" ∧ z ≠ Str.ofString "met" ∧ z ≠ Str.ofString "certificate") ∧ Φ .non M))
def sp_Shell_answer_one : DSp := fun ds M Φ _ => ∃ sh p z x, ds = [.ref sh, .str z, x] ∧ ShM M sh p ∧
  ((z = Str.ofString "stay" ∧ ∃ i : Nat, x = .int (i : Nat) ∧ DoesS M p (.stay i) Φ) ∨
   (z = Str.ofString "most" ∧ ∃ (s : Nat) (ps pa pd : Addr) (sts : List CSt) (st : CSt) (eds : List Ed), x = .int (s : Nat) ∧ Cor M p ps pa pd (sts ++ [st]) eds ∧ CorOk st ∧ s < st.1.length ∧ ∀ M', Ext M M' → Φ (.str (Str.ofString (toString (mostN st.1 st.2.1 s)))) M') ∨
   ((z ≠ Str.ofString "stay" ∧ z ≠ Str.ofString "most") ∧ Φ .non M))
def sp_Shell_answer_two : DSp := fun ds M Φ _ => ∃ sh p z x y, ds = [.ref sh, .str z, x, y] ∧ ShM M sh p ∧
  ((z = Str.ofString "put" ∧ ∃ (s : Nat) (c : Int), x = .int (s : Nat) ∧ y = .int c ∧ DoesS M p (.put s c) Φ) ∨
   (z = Str.ofString "take" ∧ ∃ (s : Nat) (c : Int), x = .int (s : Nat) ∧ y = .int c ∧ DoesS M p (.take s c) Φ) ∨
   (z = Str.ofString "want" ∧ ∃ (s : Nat) (c : Int), x = .int (s : Nat) ∧ y = .int c ∧ DoesS M p (.want s c) Φ) ∨
   (z = Str.ofString "come" ∧ ∃ f l : Nat, x = .int (f : Nat) ∧ y = .int (l : Nat) ∧ DoesS M p (.come f l) Φ) ∨
   ((z ≠ Str.ofString "put" ∧ z ≠ Str.ofString "take" ∧ z ≠ Str.ofString "want" ∧ z ≠ Str.ofString "come") ∧ Φ .non M))
/-- what the words of a command ask -/
def Runs (sh : Addr) (p : Addr) (words : List Str) (M : MS) (Φ : DQ) : Prop := ∃ name rest, words = name :: rest ∧ ShM M sh p ∧ (∀ r ∈ rest, r.length ≤ 1000000) ∧ rest.length ≤ 60000 ∧
  (((D.non ∈ rest.map numV ∨ 2 < rest.length) ∧ Φ .non M) ∨
   (D.non ∉ rest.map numV ∧ ∃ x y, rest.map numV = [x, y] ∧ sp_Shell_answer_two [.ref sh, .str name, x, y] M Φ noX) ∨
   (D.non ∉ rest.map numV ∧ ∃ x, rest.map numV = [x] ∧ sp_Shell_answer_one [.ref sh, .str name, x] M Φ noX) ∨
   (rest = [] ∧ sp_Shell_answer [.ref sh, .str name] M Φ noX))
theorem CorOk.stOk {st : CSt} (ok : CorOk st) : StOk st.1 st.2.1 st.2.2 := by
  have r1 := ok.r1
  have r2 := ok.r2
  have u := ok.u
  refine ⟨by omega, r2, by omega, by omega, ok.w, fun x hx => ?_, fun x hx => ?_, fun w hw => ?_⟩
  · have := ok.ri x hx; omega
  · have := ok.ui x hx; omega
  · obtain ⟨a, b, c⟩ := ok.wi w hw; omega
theorem numV_flat (z : Str) : flatD (numV z) = true := by
  unfold numV numL2
  split
  · split <;> rfl
  · rfl
theorem isN_num {z : Str} : isN (numV z) = true ↔ numV z = .non := by
  cases numV z <;> simp [isN]
theorem non_in {xs : List D} (h : ∀ x ∈ xs, isN x = true ↔ x = .non) : inD .non xs = true ↔ D.non ∈ xs := by
  unfold inD
  rw [List.any_eq_true]
  constructor
  · rintro ⟨y, hy, e⟩
    cases y with
    | non => exact hy
    | _ => simp [eqd] at e
  · intro hy
    exact ⟨_, hy, rfl⟩
end DL
namespace DL
open PySem PySem.Spec PyProof.Rows L2
end DL
namespace DL
open PySem PySem.Spec PyProof.Rows L2 TL
structure TS (M : MS) (a c sh p ps pa pd : Addr) (sts : List CSt) (st : CSt) (eds : List Ed) (k : Nat) : Prop where
  C : Cor M p ps pa pd (sts ++ [st]) eds
  D : Dk M a c k
  S : ShM M sh p
  n : ∀ b, b = p ∨ b = ps ∨ b = pa ∨ b = pd → b ≠ a ∧ b ≠ c ∧ b ≠ sh
  m : sh ≠ a ∧ sh ≠ c
section
variable {M M' : MS} {a c sh p ps pa pd : Addr} {sts : List CSt} {st : CSt} {eds : List Ed} {k k' : Nat} {Φ : DQ}
theorem TS.mono (T : TS M a c sh p ps pa pd sts st eds k) (h : k' ≤ k) : TS M a c sh p ps pa pd sts st eds k' := ⟨T.C, T.D.mono h, T.S, T.n, T.m⟩
theorem TS.kp (T : TS M a c sh p ps pa pd sts st eds k) (d : Dk M' a c k') (h : Kp a c M M') : TS M' a c sh p ps pa pd sts st eds k' :=
  ⟨T.C.keep fun b hb => h b (T.n b hb).1 (T.n b hb).2.1 (T.C.some hb), d, h.keep T.m.1 T.m.2 T.S, T.n, T.m⟩
theorem TS.ext (T : TS M a c sh p ps pa pd sts st eds k) (x : Ext M M') : TS M' a c sh p ps pa pd sts st eds k :=
  ⟨T.C.ext x, x.dk T.D, (x sh (by rw [show M.map sh = _ from T.S]; simp)).trans T.S, T.n, T.m⟩
end
end DL
namespace DL
open PySem PySem.Spec PyProof.Rows L2
def dEnumS (te ts : DE) : DI := fun ρ M Ψ => te ρ M fun x M1 => ts ρ M1 fun y M2 => match y with
  | .int c => -(2 ^ 62) ≤ c ∧ c < 2 ^ 62 ∧ (match seqA M2 x with
    | some xs => Ψ (enumD c xs) (fun M3 => seqA M3 x = some xs) M2
    | none => False)
  | _ => False
section
variable {X : Cx} {elts : List Expr} {kk : Nat} {tpos : Pos}
variable {O : Og X.K}
theorem pi_enumS {e e2 : Expr} {te te2 : DE} {p pos : Pos} (hg : Gl X "enumerate") (hm : X.mg "enumerate" = none) (he : PE X e (lo X.K O te)) (he2 : PE X e2 (lo X.K O te2)) (hs2 : starEach [e2] X.env = (false, eval e2 X.env) :: starEach [] X.env)
    (hs : starEach [e, e2] X.env = (false, eval e X.env) :: starEach [e2] X.env) (hpl : (backTo pos (starEach [e2] X.env)).any (·.1) = false) :
    PI X (.Tuple elts kk tpos) (.Call (.Name "enumerate" p) [e, e2] [] pos) (loI X.K O (dEnumS te te2)) := by
  refine ⟨fun pins s σ H R I h => ?_⟩
  obtain ⟨F, M, ρ, Ψ, A, h, k⟩ := h
  refine Call_ (ld_blt I hg hm boot_enumerate (PyProof.Rows.callWith_type1 (thn ((pa_cons he (pa_cons he2 pa_nil hs2) hs).run pos pins s σ H
    (fun vs H' => ∃ v c F1 M1 d1 xs, vs = [v, .int c] ∧ Lm X.K F H M F1 H' M1 ∧ AbsM X.K F1 H' M1 ∧ Rep X.K F1 H' d1 v ∧ -(2 ^ 62) ≤ c ∧ c < 2 ^ 62 ∧ seqA M1 d1 = some xs ∧ Ψ (enumD c xs) (fun M3 => seqA M3 d1 = some xs) M1) I
    ⟨F, M, ρ, _, A, h, fun v H1 ⟨F1, M1, d1, l1, a1, rd1, h1⟩ => ⟨F1, M1, ρ, _, (A.go l1 a1), h1, fun w H2 ⟨F2, M2, d2, l2, a2, rd2, h2⟩ => by
      dsimp only at h2
      split at h2
      · rename_i c
        obtain ⟨c0, c1, h2⟩ := h2
        obtain rfl : w = .int c := rd2
        split at h2
        · rename_i xs ex
          exact ⟨v, c, F2, M2, d1, xs, rfl, l1.trans l2, a2, rd1.mono l2.le, c0, c1, ex, h2⟩
        · exact h2.elim
      · exact h2.elim⟩⟩) fun us s1 ⟨vs, H1, I1, r1, q1⟩ => ?_) hs hpl))
  obtain ⟨v, c, F1, M1, d, xs, rfl, l1, a1, rd, c0, c1, ex, h1⟩ := q1
  cases r1 with
  | cons r rr =>
  cases rr with
  | cons r' rr =>
  cases rr
  obtain ⟨t, rfl⟩ := r'
  obtain ⟨a, vs, e, hq, rs⟩ := seqK_rep a1 rd ex
  subst e
  cases r
  obtain ⟨its, rv, hsq⟩ := sqk_at I1 hq
  refine PySem.enum_begins (beginsK (kindD d) a its.toArray) hsq (by omega) (by omega) fun h' he hit hz hk => wpAny_pyIter_enum he ?_
  have I2 : Inv X pins σ H1 { s1 with heap := h' } := I1.kept (t' := s1.toks) hk
  have hal := isSq_lt hsq
  refine ⟨s1.heap.objs.size + 1, [s1.heap.objs.size + 1, s1.heap.objs.size], _, _, H1, rfl, I2, turn_enumK (kindD d) c a (s1.heap.objs.size + 1) s1.heap.objs.size (Nat.succ_ne_self _) (Nat.ne_of_lt (Nat.lt_succ_of_lt hal)) (Nat.ne_of_lt hal), ⟨⟨.none, by rw [show c + ((0 : Nat) : Int) = c by omega]; exact he⟩, isItK hit⟩, fun b hb => ?_, ?_⟩
  · have e' : b = s1.heap.objs.size + 1 ∨ b = s1.heap.objs.size := by simpa using hb
    have hle : s1.heap.objs.size ≤ b := by
      rcases e' with z | z
      · rw [z]; exact Nat.le_add_right _ _
      · rw [z]; exact Nat.le_refl _
    exact I1.fpOk hle (I1.hok.fresh hle)
  · refine k _ _ _ _ _ _ l1 a1 (src_pairs (fun i F' H' M' l am g hi => ?_) (fun F' H' M' l am g => ?_) fun i F' H' M' u v l am g hi q => ?_) h1
    · obtain ⟨vs, z1, z2⟩ := seqK_at am (rd.mono l.le) g
      rw [enumD_length] at hi
      obtain ⟨y, ey, _⟩ := z2.get (List.getElem?_eq_getElem hi)
      exact ⟨vs, y, z1, ey⟩
    · obtain ⟨vs, z1, z2⟩ := seqK_at am (rd.mono l.le) g
      exact ⟨vs, z1, by rw [enumD_length]; exact z2.length.symm⟩
    · obtain ⟨vs, z1, z2⟩ := seqK_at am (rd.mono l.le) g
      rw [enumD_length] at hi
      obtain ⟨q1, q2⟩ := q
      obtain ⟨y, ey, ry⟩ := z2.get (List.getElem?_eq_getElem hi)
      rw [q2 vs z1] at ey
      cases ey
      exact ⟨.int (c + (i : Int)), _, by rw [enumD_get, List.getElem?_eq_getElem hi]; rfl, q1, ry⟩
end
def dIdxS (to te : DE) : DE := fun ρ M Φ => to ρ M fun x M1 => (∃ zs : List Str, x = .lst (zs.map D.str)) ∧ te ρ M1 fun y M2 => ∃ (zs : List Str) (z : Str) (j : Nat), x = .lst (zs.map D.str) ∧ y = .str z ∧ zs[j]? = some z ∧ (∀ m, m < j → zs[m]? ≠ some z) ∧ j ≤ 1000000 ∧ Φ (.int (j : Nat)) M2
section
variable {X : Cx} {O : Og X.K} {o e : Expr} {to te : DE} {apos cpos : Pos}
theorem q_idxS (ho : PE X o (lo X.K O to)) (ha : PE X e (lo X.K O te)) (hbase : attributeBase o "index" X.env (eval o X.env) = eval o X.env)
    (hfew : ((backTo cpos (starEach [e] X.env)).all (fun x => !x.1) && (backToKw cpos (keywordEach [] X.env)).all (fun x => x.1.isSome)
      && decide ([e].length + ([] : List Keyword).length + (if ([] : List Keyword).isEmpty then 0 else 1) < 30)) = true)
    (hline : (apos.endLine == cpos.line) = true) (hs : starEach [e] X.env = (false, eval e X.env) :: starEach [] X.env) (hplain : (backTo cpos (starEach [] X.env)).any (·.1) = false) :
    PE X (.Call (.Attribute o "index" apos) [e] [] cpos) (lo X.K O (dIdxS to te)) :=
  PE.imp (pe_bm PySem.F.plainAttrs_list PySem.F.slot_list_index PySem.F.type_list_index mt_index ho (q_cons ha q_nil hs) hbase hfew hline hs hplain) fun σ H Q h => by
    obtain ⟨F, M, ρ, Φ, A, h, k⟩ := h
    refine ⟨F, M, ρ, _, A, h, fun v H1 ⟨F1, M1, x, l1, a1, r1, ⟨ys, ey⟩, h1⟩ => ?_⟩
    subst ey
    have r1' := r1
    simp only [Rep] at r1'
    obtain ⟨p, vs, ev, fp, hp, rs⟩ := r1'
    subst ev
    refine ⟨.inl ⟨rfl, vs, SqL.of hp⟩, F1, M1, ρ, (fun ds M2 => match ds with | [y] => ∃ (zs : List Str) (z : Str) (j : Nat), D.lst (ys.map D.str) = .lst (zs.map D.str) ∧ y = .str z ∧ zs[j]? = some z ∧ (∀ m, m < j → zs[m]? ≠ some z) ∧ j ≤ 1000000 ∧ Φ (.int (j : Nat)) M2 | _ => False), A.go l1 a1, h1, fun ws H2 F2 M2 ds l2 a2 r2 q => ?_⟩
    dsimp only at q
    split at q
    · rename_i y
      obtain ⟨zs, z, j, e1, e2, g1, g2, g3, q⟩ := q
      injection e1 with e1
      subst e2
      simp only [Reps, Rep] at r2
      obtain ⟨w, wr, rfl, rfl, rfl⟩ := r2
      rw [e1] at rs
      have ev := reps_strs rs
      subst ev
      have hp2 : H2 p = some (.lst (zs.map V.str)) := (l2.le.frz p fp).trans hp
      refine ⟨p, zs.map V.str, .str z, j, .str z, rfl, rfl, SqL.of hp2, rfl, by rw [List.all_map]; exact List.all_eq_true.mpr fun _ _ => rfl, by rw [List.getElem?_map, g1]; rfl, by simp [eqV], fun m z' hm hz' => ?_, k _ _ ((loQ.here a2 (show Rep X.K F2 H2 (.int (j : Nat)) (.int (j : Nat)) from rfl) q).le (l1.trans l2))⟩
      rw [List.getElem?_map] at hz'
      obtain ⟨y, hy, rfl⟩ := Option.map_eq_some_iff.mp hz'
      show (y == z) = false
      exact beq_eq_false_iff_ne.mpr fun e => g2 m hm (by rw [hy, e])
    · exact q.elim
end
end DL
namespace DL
open PySem PySem.Spec PyProof.Rows L2 TL
def numO (l : List Nat) : Option Nat := if (decide (1 ≤ l.length) && decide (l.length ≤ 4)) && l.all digB then (if l.head? = some 48 ∧ l ≠ [48] then none else some (NumText.digitsVal l)) else none
def oneD2 : Option Nat → D
  | none => .non
  | some n => .int (n : Nat)
theorem numV_O (z : Str) : numV z = oneD2 (numO z.cps.toList) := by
  unfold numV numL2 numO
  split
  · split <;> rfl
  · rfl
def allO : List (Option Nat) → Option (List Nat)
  | [] => some []
  | none :: _ => none
  | some n :: r => (allO r).map (n :: ·)
theorem allO_some : ∀ {l : List (Option Nat)} {ns : List Nat}, allO l = some ns → l = ns.map some
  | [], ns, h => by simp only [allO, Option.some.injEq] at h; subst h; rfl
  | none :: _, ns, h => by cases h
  | some n :: r, ns, h => by
    simp only [allO, Option.map_eq_some_iff] at h
    obtain ⟨ms, h1, rfl⟩ := h
    rw [allO_some h1]; rfl
theorem allO_none : ∀ {l : List (Option Nat)}, allO l = none ↔ none ∈ l
  | [] => by simp [allO]
  | none :: _ => by simp [allO]
  | some n :: r => by
    simp only [allO, Option.map_eq_none_iff, List.mem_cons, reduceCtorEq, false_or]
    exact allO_none
def numsO (z s : Str) : Option (List Nat) := allO ((Txt.split z s).map fun w => numO w.cps.toList)
def optD : Option (List Nat) → D
  | none => .non
  | some ns => stD ns
def wayO (n : Nat) (w : Str) : Option (Int × Int) := match numsO w (Str.ofString "-") with
  | some [a, b] => if a < b ∧ b + 1 ≤ n then some ((a : Int), (b : Int)) else none
  | _ => none
def rowO (w : Str) : Option (List Int) := match numsO w (Str.ofString ",") with
  | some ns => if (decide (2 ≤ ns.length) && decide (ns.length ≤ 10)) && ns.all (fun x => decide (x ≤ 50)) then some (toI ns) else none
  | none => none
def wantsO (n : Nat) (w : Str) : Option (List Int) := match numsO w (Str.ofString ",") with
  | some ns => if ns.all (fun x => decide (x ≤ 500)) && decide (ns.length = n) then some (toI ns) else none
  | none => none
def pwS (n : Nat) : List Str → Nat → List (Int × Int) → Except Nat (List (Int × Int))
  | [], _, ws => .ok ws
  | w :: r, k, ws => match wayO n w with
    | none => .error k
    | some x => if ws.length = 40 then .error k else pwS n r (k + 1) (ws ++ [x])
def tailS (row : List Int) (r : List Str) (k : Nat) (ws : List (Int × Int)) : Except Nat CSt := match r with
  | [] => .error (k + 1)
  | u :: r2 => match wantsO row.length u with
    | none => .error (k + 1)
    | some us => if r2.isEmpty = true then .ok (row, ws, us) else .error (k + 2)
def walkS (row : List Int) : List Str → Nat → List (Int × Int) → Except Nat CSt
  | [], k, _ => .error k
  | w :: r, k, ws => if w = Str.ofString "for" then tailS row r k ws else match wayO row.length w with
    | none => .error k
    | some x => if ws.length = 40 then .error k else walkS row r (k + 1) (ws ++ [x])
/-- what a text denotes -/
def prs (z : Str) : Except Nat CSt := match Txt.split z (Str.ofString " ") with
  | [] => .error 0
  | w0 :: r => match rowO w0 with
    | none => .error 0
    | some row => walkS row r 1 []
theorem walk_pre {row : List Int} : ∀ (pre : List Str) (rest : List Str) (k : Nat) (ws : List (Int × Int)), Str.ofString "for" ∉ pre →
    walkS row (pre ++ rest) k ws = match pwS row.length pre k ws with
      | .error e => .error e
      | .ok ws' => walkS row rest (k + pre.length) ws'
  | [], rest, k, ws, _ => rfl
  | w :: pre, rest, k, ws, h => by
    have hw : w ≠ Str.ofString "for" := fun e => h (by rw [e]; exact List.mem_cons_self)
    rw [List.cons_append, walkS, if_neg hw, pwS]
    cases wayO row.length w with
    | none => rfl
    | some x =>
      dsimp only
      by_cases h40 : ws.length = 40
      · rw [if_pos h40, if_pos h40]
      · rw [if_neg h40, if_neg h40, walk_pre pre rest (k + 1) (ws ++ [x]) fun z => h (List.mem_cons_of_mem _ z), List.length_cons, show k + 1 + pre.length = k + (pre.length + 1) by omega]
theorem stD_toI (ns : List Nat) : stD ns = .tup ((toI ns).map D.int) := by unfold stD toI; rw [List.map_map]; rfl
theorem split_few (z s : Str) (hs : 1 ≤ s.length) : (Txt.split z s).length ≤ z.length + 1 := by
  have := split_weight z s hs
  omega
theorem split_ne (z s : Str) (h1 : tl s ≠ []) (h2 : ¬ Builtin.Str.strKind z < Builtin.Str.strKind s) : Txt.split z s ≠ [] := fun e => by
  have h := split_spl z s h1 h2
  rw [e, List.map_nil] at h
  have key : ∀ (k : Nat) (acc l : List Nat), spl (tl s) k acc l ≠ [] := fun k acc l => by
    induction l generalizing k acc with
    | nil => rw [spl_nil]; simp
    | cons c r ih =>
      cases k with
      | zero =>
        rw [spl]
        split
        · simp
        · exact ih _ _
      | succ k => rw [spl]; exact ih _ _
  exact key _ _ _ h.symm
def sp_parse_numbers : DSp := fun ds M Φ _ => ∃ z s : Str, ds = [.str z, .str s] ∧ z.length ≤ 20000 ∧ 1 ≤ s.length ∧ Φ (optD (numsO z s)) M
def sp_parse_walkers_x : DSp := fun ds M Φ ξ => ∃ (n : Nat) (words : List Str), ds = [.int ((n : Nat) : Int), .lst (words.map D.str)] ∧ 2 ≤ n ∧ n ≤ 10 ∧ words.length ≤ 20001 ∧ (∀ w ∈ words, w.length ≤ 20000) ∧
  (∀ k, pwS n words 1 [] = .error k → ∀ M', Ext M M' → ξ "BadText" [("index", .int ((k : Nat) : Int))] M') ∧ (∀ ws, pwS n words 1 [] = .ok ws → ∀ M', Ext M M' → Φ (.tup (ws.map wayD)) M')
def sp_parse_corridor_x : DSp := fun ds M Φ ξ => ∃ x, ds = [x] ∧ ((∃ z, x = .str z ∧ z.length ≤ 20000 ∧
    (∀ k, prs z = .error k → ∀ M', Ext M M' → ξ "BadText" [("index", .int ((k : Nat) : Int))] M') ∧ (∀ st, prs z = .ok st → ∀ M', Ext M M' → Φ (csD st) M')) ∨
  (∃ t, tyD M x = some t ∧ isaT t .str = false ∧ ξ "BadText" [("index", .non)] M))
def t_parse_numbers : DS := (sSeq (sAsg (dFn rTuple (dCons (dLc (dSeq (dSplit (dVar 0) (dVar 1))) (.nm 3) [3] dYes (dCall 1 sp_parse_number (dCons (dVar 3) dNil))) dNil)) (.nm 2)) (sSeq (sRet (dIf (dTest (dOp (rIn false) (dC .non) (dVar 2))) (dC .non) (dVar 2))) sNext))
def t_parse_walkers_x (ξ : DXs) : DS := (sSeq (sAsg (dLstM dNil) (.nm 2)) (sSeq (sFor (dEnumS (dVar 1) (dC (.int 1))) (.tp [(.nm 3), (.nm 4)]) (sSeq (sAsg (dCall 2 sp_parse_numbers (dCons (dVar 4) (dCons (dC (.str "-")) dNil))) (.nm 5)) (sSeq (sIf (dOr (dTest (dOp (rIs false) (dVar 5) (dC .non))) (dOr (dNot (dTru (dCall 2 sp_are_walkers (dCons (dVar 0) (dCons (dTup (dCons (dVar 5) dNil)) dNil))))) (dTest (dOp rEq (dFn rLen (dCons (dVar 2) dNil)) (dC (.int 40)))))) (sSeq (sRaise1 "BadText" "index" ξ (dVar 3)) sNext) sNext) (sSeq (sDrop (dMt rApp (dVar 2) (dCons (dVar 5) dNil))) sNext)))) (sSeq (sRet (dFn rTuple (dCons (dVar 2) dNil))) sNext)))
def t_parse_corridor_x (ξ : DXs) : DS := (sSeq (sIf (dNot (dTru (dFn rIsi (dCons (dVar 0) (dCons (dC (.ty .str)) dNil))))) (sSeq (sRaise1 "BadText" "index" ξ (dC .non)) sNext) sNext) (sSeq (sAsg (dSplit (dVar 0) (dC (.str " "))) (.nm 1)) (sSeq (sAsg (dCall 2 sp_parse_numbers (dCons (dOp rIx (dVar 1) (dC (.int 0))) (dCons (dC (.str ",")) dNil))) (.nm 2)) (sSeq (sIf (dOr (dTest (dOp (rIs false) (dVar 2) (dC .non))) (dNot (dTru (dCall 1 sp_is_row (dCons (dVar 2) dNil))))) (sSeq (sRaise1 "BadText" "index" ξ (dC (.int 0))) sNext) sNext) (sSeq (sAsg (dIf (dTest (dOp (rIn false) (dC (.str "for")) (dVar 1))) (dIdxS (dVar 1) (dC (.str "for"))) (dFn rLen (dCons (dVar 1) dNil))) (.nm 3)) (sSeq (sAsg (dCallX 2 sp_parse_walkers_x ξ (dCons (dFn rLen (dCons (dVar 2) dNil)) (dCons (dSl (dVar 1) (dPart (dC (.int 1))) (dPart (dVar 3))) dNil))) (.nm 4)) (sSeq (sIf (dTest (dOp rLt (dFn rLen (dCons (dVar 1) dNil)) (dOp rAdd (dVar 3) (dC (.int 2))))) (sSeq (sRaise1 "BadText" "index" ξ (dFn rLen (dCons (dVar 1) dNil))) sNext) sNext) (sSeq (sAsg (dCall 2 sp_parse_numbers (dCons (dOp rIx (dVar 1) (dOp rAdd (dVar 3) (dC (.int 1)))) (dCons (dC (.str ",")) dNil))) (.nm 5)) (sSeq (sIf (dOr (dTest (dOp (rIs false) (dVar 5) (dC .non))) (dNot (dTru (dCall 2 sp_are_wants (dCons (dFn rLen (dCons (dVar 2) dNil)) (dCons (dVar 5) dNil)))))) (sSeq (sRaise1 "BadText" "index" ξ (dOp rAdd (dVar 3) (dC (.int 1)))) sNext) sNext) (sSeq (sIf (dTest (dOp rGt (dFn rLen (dCons (dVar 1) dNil)) (dOp rAdd (dVar 3) (dC (.int 2))))) (sSeq (sRaise1 "BadText" "index" ξ (dOp rAdd (dVar 3) (dC (.int 2)))) sNext) sNext) (sSeq (sRet (dTup (dCons (dVar 2) (dCons (dVar 4) (dCons (dVar 5) dNil))))) sNext)))))))))))
theorem p_parse_numbers (ds : List D) (M : MS) (Φ : DQ) (h : sp_parse_numbers ds M Φ noX) : t_parse_numbers { nx := fun _ M' => Φ .non M', rt := Φ } (startD 4 ds) M := by
  obtain ⟨z, s, rfl, hz, hs, h⟩ := h
  rw [show startD 4 [D.str z, .str s] = [some (.str z), some (.str s), none, none] from rfl]
  have hlen := split_few z s hs
  unfold t_parse_numbers
  refine seq_post (fun ρ M1 => ρ = [some (.str z), some (.str s), some (.tup ((Txt.split z s).map numV)), none] ∧ M1 = M) (fun ρ M1 q => ?_) (fun K nk => ?_)
  rotate_left
  · simp only [dLc, dSplit, sSeq, sRet, sRetN, sNext, sIf, sAsg, sPar, sPar3, sSetI, sAug, sAugI, sDrop, sBreak, sCont, dOp, dUn, dCons, dNil, dFn, dC, dTup, dLst, dLstM, dIf, dTest, dTru, dAnd, dOr, dNot, dAndV, dOrV, dNotE, dChain, dSl, dNoPart, dPart, dSeq, dEnum, dZip, dRng1, dRng2, dYes, dCall, dMt, dVar, dDic0, dDic1, put_nm, put_tp, puts_nil, puts_cons, List.getElem?_cons_zero, List.getElem?_cons_succ, List.set_cons_zero, List.set_cons_succ, startD, List.map_cons, List.map_nil, List.cons_append, List.nil_append, List.length_cons, List.length_nil, List.replicate_succ, List.replicate_zero, Nat.reduceSub, Nat.reduceAdd, Nat.zero_add, wipeD, keyD, gSeq, gPlain, gNil, gYield, gFor, dTupP, dRngP, dCallG, sForG, dLcG, GE.at, dTupRg, dStar, sPutT, dKeysT, dDicT0, dDicT1, sAsgL, dMake, dMakeF, dProp, dMeth, dCallO, dOp3, dLenO, dStrO, sFld, sFldAug, noXs, sRaise0, sRaise1, sTry, goneE, dCntB]
    refine ⟨beq_eq_false_iff_ne.mpr (by omega), by omega, ?_⟩
    simp only [seqA]
    refine lcW_map (fun d => match d with | .str y => some (numV y) | _ => none) _ trivial (by rw [List.length_map]; omega) (fun x hx => ?_) ?_
    · obtain ⟨w, hw, rfl⟩ := List.mem_map.mp hx
      refine ⟨_, rfl, fun acc Nx hl k => ?_⟩
      simp only [sSeq, sRet, sRetN, sNext, sIf, sAsg, sPar, sPar3, sSetI, sAug, sAugI, sDrop, sBreak, sCont, dOp, dUn, dCons, dNil, dFn, dC, dTup, dLst, dLstM, dIf, dTest, dTru, dAnd, dOr, dNot, dAndV, dOrV, dNotE, dChain, dSl, dNoPart, dPart, dSeq, dEnum, dZip, dRng1, dRng2, dYes, dCall, dMt, dVar, dDic0, dDic1, put_nm, put_tp, puts_nil, puts_cons, List.getElem?_cons_zero, List.getElem?_cons_succ, List.set_cons_zero, List.set_cons_succ, startD, List.map_cons, List.map_nil, List.cons_append, List.nil_append, List.length_cons, List.length_nil, List.replicate_succ, List.replicate_zero, Nat.reduceSub, Nat.reduceAdd, Nat.zero_add, wipeD, keyD, gSeq, gPlain, gNil, gYield, gFor, dTupP, dRngP, dCallG, sForG, dLcG, GE.at, dTupRg, dStar, sPutT, dKeysT, dDicT0, dDicT1, sAsgL, dMake, dMakeF, dProp, dMeth, dCallO, dOp3, dLenO, dStrO, sFld, sFldAug, noXs, sRaise0, sRaise1, sTry, goneE, dCntB, if_true]
      exact ⟨trivial, w, rfl, Nat.le_trans (part_short hw) (by omega), hl, k⟩
    · rw [List.filterMap_map]
      have e : ((fun d => match d with | D.str y => some (numV y) | _ => none) ∘ D.str) = fun z => some (numV z) := rfl
      rw [e, List.filterMap_eq_map']
      simp only [rTuple, seqA]
      exact nk _ _ ⟨rfl, rfl⟩
  obtain ⟨rfl, rfl⟩ := q
  simp only [sSeq, sRet, sRetN, sNext, sIf, sAsg, sPar, sPar3, sSetI, sAug, sAugI, sDrop, sBreak, sCont, dOp, dUn, dCons, dNil, dFn, dC, dTup, dLst, dLstM, dIf, dTest, dTru, dAnd, dOr, dNot, dAndV, dOrV, dNotE, dChain, dSl, dNoPart, dPart, dSeq, dEnum, dZip, dRng1, dRng2, dYes, dCall, dMt, dVar, dDic0, dDic1, put_nm, put_tp, puts_nil, puts_cons, List.getElem?_cons_zero, List.getElem?_cons_succ, List.set_cons_zero, List.set_cons_succ, startD, List.map_cons, List.map_nil, List.cons_append, List.nil_append, List.length_cons, List.length_nil, List.replicate_succ, List.replicate_zero, Nat.reduceSub, Nat.reduceAdd, Nat.zero_add, wipeD, keyD, gSeq, gPlain, gNil, gYield, gFor, dTupP, dRngP, dCallG, sForG, dLcG, GE.at, dTupRg, dStar, sPutT, dKeysT, dDicT0, dDicT1, sAsgL, dMake, dMakeF, dProp, dMeth, dCallO, dOp3, dLenO, dStrO, sFld, sFldAug, noXs, sRaise0, sRaise1, sTry, goneE, dCntB, rIn, seqA]
  have fl : ((Txt.split z s).map numV).all flatD = true := List.all_eq_true.mpr fun x hx => by
    obtain ⟨z, _, rfl⟩ := List.mem_map.mp hx
    exact numV_flat z
  have hin : inD .non ((Txt.split z s).map numV) = true ↔ D.non ∈ (Txt.split z s).map numV := non_in fun x hx => by
    obtain ⟨z, _, rfl⟩ := List.mem_map.mp hx
    exact isN_num
  refine ⟨rfl, fl, ?_⟩
  simp only [Bool.false_eq_true, if_false]
  have em : (Txt.split z s).map numV = ((Txt.split z s).map fun w => numO w.cps.toList).map oneD2 := by
    rw [List.map_map]
    exact List.map_congr_left fun w _ => numV_O w
  unfold numsO at h
  cases ho : allO ((Txt.split z s).map fun w => numO w.cps.toList) with
  | none =>
    rw [ho] at h
    have : D.non ∈ (Txt.split z s).map numV := by rw [em]; exact List.mem_map.mpr ⟨none, allO_none.mp ho, rfl⟩
    rw [if_pos (hin.mpr this)]
    exact h
  | some ns =>
    rw [ho] at h
    have es := allO_some ho
    have e2 : (Txt.split z s).map numV = ns.map fun n => D.int ((n : Nat) : Int) := by rw [em, es, List.map_map]; rfl
    rw [if_neg fun q => ?_]
    · rw [e2]; exact h
    · have := hin.mp q
      rw [e2] at this
      obtain ⟨_, _, e⟩ := List.mem_map.mp this
      cases e
theorem isW_way {n : Nat} {w : Str} {ns : List Nat} (h : numsO w (Str.ofString "-") = some ns) : (isW (n : Nat) (stD ns) = true ↔ (wayO n w).isSome = true) ∧ ∀ x, wayO n w = some x → stD ns = wayD x := by
  unfold wayO
  rw [h]
  match ns with
  | [a, b] =>
    dsimp only
    have e1 : isW ((n : Nat) : Int) (stD [a, b]) = (decide (a < b ∧ b + 1 ≤ n)) := by
      simp only [stD, List.map_cons, List.map_nil, isW, numD]
      rw [Bool.eq_iff_iff]
      simp only [Bool.and_eq_true, decide_eq_true_eq]
      omega
    rw [e1]
    by_cases hc : a < b ∧ b + 1 ≤ n
    · rw [if_pos hc]
      exact ⟨by simp [hc], fun x hx => by rw [← Option.some.inj hx]; rfl⟩
    · rw [if_neg hc]
      exact ⟨by simp [hc], fun x hx => by cases hx⟩
  | [] => exact ⟨by simp [stD, isW], fun x hx => by cases hx⟩
  | [a] => exact ⟨by simp [stD, isW], fun x hx => by cases hx⟩
  | a :: b :: c :: r => exact ⟨by simp [stD, isW], fun x hx => by cases hx⟩
theorem wayO_none {n : Nat} {w : Str} (h : numsO w (Str.ofString "-") = none) : wayO n w = none := by unfold wayO; rw [h]
theorem p_parse_walkers_x (ds : List D) (M : MS) (Φ : DQ) (ξ : DX) (h : sp_parse_walkers_x ds M Φ ξ) : t_parse_walkers_x (fun _ => ξ) { nx := fun _ M' => Φ .non M', rt := Φ } (startD 6 ds) M := by
  obtain ⟨n, words, rfl, n1, n2, hl, hw, hE, hO⟩ := h
  rw [show startD 6 [D.int ((n : Nat) : Int), .lst (words.map D.str)] = [some (.int ((n : Nat) : Int)), some (.lst (words.map D.str)), none, none, none, none] from rfl]
  simp only [t_parse_walkers_x, sFor, dEnumS, sSeq, sRet, sRetN, sNext, sIf, sAsg, sPar, sPar3, sSetI, sAug, sAugI, sDrop, sBreak, sCont, dOp, dUn, dCons, dNil, dFn, dC, dTup, dLst, dLstM, dIf, dTest, dTru, dAnd, dOr, dNot, dAndV, dOrV, dNotE, dChain, dSl, dNoPart, dPart, dSeq, dEnum, dZip, dRng1, dRng2, dYes, dCall, dMt, dVar, dDic0, dDic1, put_nm, put_tp, puts_nil, puts_cons, List.getElem?_cons_zero, List.getElem?_cons_succ, List.set_cons_zero, List.set_cons_succ, startD, List.map_cons, List.map_nil, List.cons_append, List.nil_append, List.length_cons, List.length_nil, List.replicate_succ, List.replicate_zero, Nat.reduceSub, Nat.reduceAdd, Nat.zero_add, wipeD, keyD, gSeq, gPlain, gNil, gYield, gFor, dTupP, dRngP, dCallG, sForG, dLcG, GE.at, dTupRg, dStar, sPutT, dKeysT, dDicT0, dDicT1, sAsgL, dMake, dMakeF, dProp, dMeth, dCallO, dOp3, dLenO, dStrO, sFld, sFldAug, noXs, sRaise0, sRaise1, sTry, goneE, dCntB]
  refine ⟨by decide, fun p hp => ⟨by decide, by decide, ?_⟩⟩
  simp only [seqA]
  refine forW_inv (fun ds' ρ M1 => ∃ (rest : List Str) (k : Nat) (ws : List (Int × Int)) (r3 r4 r5 : Option D), ds' = enumD (k : Nat) (rest.map D.str) ∧ (∀ w ∈ rest, w.length ≤ 20000) ∧ pwS n words 1 [] = pwS n rest k ws ∧ ws.length ≤ 40 ∧ ρ = [some (.int ((n : Nat) : Int)), some (.lst (words.map D.str)), some (.ref p), r3, r4, r5] ∧ M1.map p = some (.lst (ws.map wayD)) ∧ Ext M M1) (fun _ _ _ _ => trivial) (fun ρ M1 q => ?_) (fun d ds' ρ M1 Nx q nx => ?_) _ _ _
    ⟨words, 1, [], none, none, none, rfl, hw, rfl, by simp, rfl, MS.put_same, Ext.new hp⟩
  · obtain ⟨rest, k, ws, r3, r4, r5, e, _, ep, _, rfl, hm, x⟩ := q
    have hr : rest = [] := by
      cases rest with
      | nil => rfl
      | cons _ _ => rw [List.map_cons, enumD] at e; cases e
    subst hr
    rw [pwS] at ep
    simp only [sSeq, sRet, sRetN, sNext, sIf, sAsg, sPar, sPar3, sSetI, sAug, sAugI, sDrop, sBreak, sCont, dOp, dUn, dCons, dNil, dFn, dC, dTup, dLst, dLstM, dIf, dTest, dTru, dAnd, dOr, dNot, dAndV, dOrV, dNotE, dChain, dSl, dNoPart, dPart, dSeq, dEnum, dZip, dRng1, dRng2, dYes, dCall, dMt, dVar, dDic0, dDic1, put_nm, put_tp, puts_nil, puts_cons, List.getElem?_cons_zero, List.getElem?_cons_succ, List.set_cons_zero, List.set_cons_succ, startD, List.map_cons, List.map_nil, List.cons_append, List.nil_append, List.length_cons, List.length_nil, List.replicate_succ, List.replicate_zero, Nat.reduceSub, Nat.reduceAdd, Nat.zero_add, wipeD, keyD, gSeq, gPlain, gNil, gYield, gFor, dTupP, dRngP, dCallG, sForG, dLcG, GE.at, dTupRg, dStar, sPutT, dKeysT, dDicT0, dDicT1, sAsgL, dMake, dMakeF, dProp, dMeth, dCallO, dOp3, dLenO, dStrO, sFld, sFldAug, noXs, sRaise0, sRaise1, sTry, goneE, dCntB, rTuple, seqA, hm]
    exact hO ws ep M1 x
  · obtain ⟨rest, k, ws, r3, r4, r5, e, hw', ep, h40, rfl, hm, x⟩ := q
    cases rest with
    | nil => cases e
    | cons w rest =>
      rw [List.map_cons, enumD] at e
      injection e with e1 e2
      subst e1 e2
      rw [pwS] at ep
      refine ⟨_, rfl, ?_⟩
      refine seq_post (fun ρ M2 => ρ = [some (.int ((n : Nat) : Int)), some (.lst (words.map D.str)), some (.ref p), some (.int ((k : Nat) : Int)), some (.str w), some (optD (numsO w (Str.ofString "-")))] ∧ M2 = M1) (fun ρ M2 q => ?_) (fun K nk => ?_)
      rotate_left
      · simp only [sSeq, sRet, sRetN, sNext, sIf, sAsg, sPar, sPar3, sSetI, sAug, sAugI, sDrop, sBreak, sCont, dOp, dUn, dCons, dNil, dFn, dC, dTup, dLst, dLstM, dIf, dTest, dTru, dAnd, dOr, dNot, dAndV, dOrV, dNotE, dChain, dSl, dNoPart, dPart, dSeq, dEnum, dZip, dRng1, dRng2, dYes, dCall, dMt, dVar, dDic0, dDic1, put_nm, put_tp, puts_nil, puts_cons, List.getElem?_cons_zero, List.getElem?_cons_succ, List.set_cons_zero, List.set_cons_succ, startD, List.map_cons, List.map_nil, List.cons_append, List.nil_append, List.length_cons, List.length_nil, List.replicate_succ, List.replicate_zero, Nat.reduceSub, Nat.reduceAdd, Nat.zero_add, wipeD, keyD, gSeq, gPlain, gNil, gYield, gFor, dTupP, dRngP, dCallG, sForG, dLcG, GE.at, dTupRg, dStar, sPutT, dKeysT, dDicT0, dDicT1, sAsgL, dMake, dMakeF, dProp, dMeth, dCallO, dOp3, dLenO, dStrO, sFld, sFldAug, noXs, sRaise0, sRaise1, sTry, goneE, dCntB]
        exact ⟨trivial, w, _, rfl, hw' w List.mem_cons_self, by decide +kernel, nk _ _ ⟨rfl, rfl⟩⟩
      obtain ⟨rfl, rfl⟩ := q
      cases ho : numsO w (Str.ofString "-") with
      | none =>
        rw [wayO_none ho] at ep
        simp only [optD, sSeq, sRet, sRetN, sNext, sIf, sAsg, sPar, sPar3, sSetI, sAug, sAugI, sDrop, sBreak, sCont, dOp, dUn, dCons, dNil, dFn, dC, dTup, dLst, dLstM, dIf, dTest, dTru, dAnd, dOr, dNot, dAndV, dOrV, dNotE, dChain, dSl, dNoPart, dPart, dSeq, dEnum, dZip, dRng1, dRng2, dYes, dCall, dMt, dVar, dDic0, dDic1, put_nm, put_tp, puts_nil, puts_cons, List.getElem?_cons_zero, List.getElem?_cons_succ, List.set_cons_zero, List.set_cons_succ, startD, List.map_cons, List.map_nil, List.cons_append, List.nil_append, List.length_cons, List.length_nil, List.replicate_succ, List.replicate_zero, Nat.reduceSub, Nat.reduceAdd, Nat.zero_add, wipeD, keyD, gSeq, gPlain, gNil, gYield, gFor, dTupP, dRngP, dCallG, sForG, dLcG, GE.at, dTupRg, dStar, sPutT, dKeysT, dDicT0, dDicT1, sAsgL, dMake, dMakeF, dProp, dMeth, dCallO, dOp3, dLenO, dStrO, sFld, sFldAug, noXs, sRaise0, sRaise1, sTry, goneE, dCntB, rIs, isN, Bool.false_eq_true, if_false, if_true]
        exact hE k ep M2 x
      | some ns =>
        obtain ⟨g1, g2⟩ := isW_way (n := n) ho
        have hN : isN (stD ns) = false := rfl
        simp only [optD, sSeq, sRet, sRetN, sNext, sIf, sAsg, sPar, sPar3, sSetI, sAug, sAugI, sDrop, sBreak, sCont, dOp, dUn, dCons, dNil, dFn, dC, dTup, dLst, dLstM, dIf, dTest, dTru, dAnd, dOr, dNot, dAndV, dOrV, dNotE, dChain, dSl, dNoPart, dPart, dSeq, dEnum, dZip, dRng1, dRng2, dYes, dCall, dMt, dVar, dDic0, dDic1, put_nm, put_tp, puts_nil, puts_cons, List.getElem?_cons_zero, List.getElem?_cons_succ, List.set_cons_zero, List.set_cons_succ, startD, List.map_cons, List.map_nil, List.cons_append, List.nil_append, List.length_cons, List.length_nil, List.replicate_succ, List.replicate_zero, Nat.reduceSub, Nat.reduceAdd, Nat.zero_add, wipeD, keyD, gSeq, gPlain, gNil, gYield, gFor, dTupP, dRngP, dCallG, sForG, dLcG, GE.at, dTupRg, dStar, sPutT, dKeysT, dDicT0, dDicT1, sAsgL, dMake, dMakeF, dProp, dMeth, dCallO, dOp3, dLenO, dStrO, sFld, sFldAug, noXs, sRaise0, sRaise1, sTry, goneE, dCntB, rIs, hN, Bool.false_eq_true, if_false]
        refine ⟨by decide, trivial, (n : Nat), .tup [stD ns], rfl, ?_, ?_⟩
        · rw [stD_toI]
          simp only [still, stills, stills_ints, Bool.and_self]
        have ea : areW ((n : Nat) : Int) (.tup [stD ns]) = isW ((n : Nat) : Int) (stD ns) := by
          simp only [areW, List.length_cons, List.length_nil, List.all_cons, List.all_nil, Bool.and_true]
          rfl
        rw [ea]
        cases hy : wayO n w with
        | none =>
          rw [hy] at ep g1
          have : isW ((n : Nat) : Int) (stD ns) = false := Bool.eq_false_iff.mpr fun z => by have := g1.mp z; simp at this
          simp only [this, truD, Bool.not_false, if_true]
          exact hE k ep M2 x
        | some y =>
          rw [hy] at ep g1
          have : isW ((n : Nat) : Int) (stD ns) = true := g1.mpr rfl
          simp only [this, truD, Bool.not_true, Bool.false_eq_true, if_false]
          refine rLen_seq (x := .ref p) (fun z e => nomatch e) (seqA_ref hm) (rEq_i ?_)
          rw [List.length_map]
          dsimp only at ep ⊢
          by_cases h4 : ws.length = 40
          · rw [if_pos h4] at ep
            rw [if_pos (by simp [h4])]
            exact hE k ep M2 x
          · rw [if_neg h4] at ep
            rw [if_neg (by simp only [beq_iff_eq]; omega)]
            refine ⟨isL_ref hm, rApp_ref hm (by rw [List.length_map]; omega) ?_⟩
            rw [g2 y hy]
            refine nx _ _ ⟨rest, k + 1, ws ++ [y], _, _, _, by rw [show ((k + 1 : Nat) : Int) = (k : Int) + 1 by omega], fun w' hw2 => hw' w' (List.mem_cons_of_mem _ hw2), ep, by rw [List.length_append, List.length_cons, List.length_nil]; omega, rfl, by rw [MS.put_same, List.map_append]; rfl, x.put hp⟩
end DL
namespace DL
open PySem PySem.Spec PyProof.Rows L2 TL
theorem errs_isN : ∀ (xs : List D) (c : Int), isN (errs c xs) = xs.all fun x => numD x 0 50
  | [], _ => rfl
  | x :: xs, c => by
    simp only [errs, List.all_cons]
    cases numD x 0 50 with
    | true => rw [if_pos rfl, errs_isN xs]; rfl
    | false => rw [if_neg Bool.false_ne_true]; rfl
theorem numD_n0 (n hi : Nat) : numD (.int (n : Nat)) 0 (hi : Nat) = decide (n ≤ hi) := by
  simp only [numD]
  rw [Bool.eq_iff_iff]
  simp only [Bool.and_eq_true, decide_eq_true_eq]
  omega
theorem row_isN (ns : List Nat) : isN (errD (stD ns)) = ((decide (2 ≤ ns.length) && decide (ns.length ≤ 10)) && ns.all fun x => decide (x ≤ 50)) := by
  unfold stD errD
  dsimp only
  rw [List.length_map]
  by_cases h : 2 ≤ ns.length ∧ ns.length ≤ 10
  · rw [if_pos h, errs_isN, decide_eq_true h.1, decide_eq_true h.2, List.all_map]
    exact congrArg (fun f => ns.all f) (funext fun n => numD_n0 n 50)
  · rw [if_neg h]
    symm
    have : (decide (2 ≤ ns.length) && decide (ns.length ≤ 10)) = false := by
      rw [← Bool.not_eq_true, Bool.and_eq_true, decide_eq_true_eq, decide_eq_true_eq]
      exact h
    rw [this]; rfl
theorem wants_areU (n : Nat) (ns : List Nat) : areU (n : Nat) (stD ns) = (ns.all (fun x => decide (x ≤ 500)) && decide (ns.length = n)) := by
  unfold stD areU
  dsimp only
  rw [List.length_map, List.all_map]
  have e1 : ((fun x => numD x 0 500) ∘ fun s : Nat => D.int (s : Nat)) = fun x => decide (x ≤ 500) := funext fun n => numD_n0 n 500
  rw [e1]
  congr 1
  rw [Bool.eq_iff_iff, beq_iff_eq, decide_eq_true_eq]
  omega
theorem rowO_some {w : Str} {ns : List Nat} (h : numsO w (Str.ofString ",") = some ns) : rowO w = if isN (errD (stD ns)) = true then some (toI ns) else none := by
  unfold rowO
  rw [h, row_isN]
theorem rowO_none {w : Str} (h : numsO w (Str.ofString ",") = none) : rowO w = none := by unfold rowO; rw [h]
theorem wantsO_some {n : Nat} {w : Str} {ns : List Nat} (h : numsO w (Str.ofString ",") = some ns) : wantsO n w = if areU (n : Nat) (stD ns) = true then some (toI ns) else none := by
  unfold wantsO
  rw [h, wants_areU]
theorem wantsO_none {n : Nat} {w : Str} (h : numsO w (Str.ofString ",") = none) : wantsO n w = none := by unfold wantsO; rw [h]
theorem st_still (ns : List Nat) : still (stD ns) = true := by rw [stD_toI, still]; exact stills_ints _
theorem rIsi_o2 {M : MS} {Φ : DQ} {d : D} {t : Ty} (ht : t ≠ .none) {s : Ty} (e : tyD M d = some s) (q : Φ (.bl (isaT s t)) M) : rIsi [d, .ty t] M Φ := by
  simp only [rIsi, e]
  exact ⟨ht, q⟩
theorem any_str (z : Str) (xs : List Str) : inD (.str z) (xs.map D.str) = decide (z ∈ xs) := by
  unfold inD
  rw [Bool.eq_iff_iff, List.any_eq_true, decide_eq_true_eq]
  constructor
  · rintro ⟨y, hy, e⟩
    obtain ⟨w, hw, rfl⟩ := List.mem_map.mp hy
    have e' : (w == z) = true := e
    rw [← beq_iff_eq.mp e']; exact hw
  · intro h
    exact ⟨.str z, List.mem_map.mpr ⟨z, h, rfl⟩, (beq_self_eq_true z : (z == z) = true)⟩
theorem strs_flat (xs : List Str) : (xs.map D.str).all flatD = true := List.all_eq_true.mpr fun x hx => by
  obtain ⟨w, _, rfl⟩ := List.mem_map.mp hx
  rfl
theorem split_at (y : Str) : ∀ r : List Str, ∃ pre rest, r = pre ++ rest ∧ y ∉ pre ∧ (rest = [] ∨ ∃ r', rest = y :: r')
  | [] => ⟨[], [], rfl, by simp, .inl rfl⟩
  | x :: r => by
    by_cases h : x = y
    · exact ⟨[], x :: r, rfl, by simp, .inr ⟨r, by rw [h]⟩⟩
    · obtain ⟨pre, rest, e, hn, hr⟩ := split_at y r
      exact ⟨x :: pre, rest, by rw [e]; rfl, fun z => (List.mem_cons.mp z).elim (fun z => h z.symm) hn, hr⟩
theorem nums_len {w s : Str} {ns : List Nat} (hs : 1 ≤ s.length) (h : numsO w s = some ns) : ns.length ≤ w.length + 1 := by
  have e := allO_some h
  have l := congrArg List.length e
  rw [List.length_map, List.length_map] at l
  have := split_few w s hs
  omega
theorem sp_one : 1 ≤ (Str.ofString " ").length := by decide +kernel
theorem com_one : 1 ≤ (Str.ofString ",").length := by decide +kernel
theorem words_ne (z : Str) : Txt.split z (Str.ofString " ") ≠ [] := split_ne z _ (by decide +kernel) (kind_ok (by decide +kernel))
theorem p_parse_corridor_x (ds : List D) (M : MS) (Φ : DQ) (ξ : DX) (h : sp_parse_corridor_x ds M Φ ξ) : t_parse_corridor_x (fun _ => ξ) { nx := fun _ M' => Φ .non M', rt := Φ } (startD 6 ds) M := by
  obtain ⟨x, rfl, h⟩ := h
  rw [show startD 6 [x] = [some x, none, none, none, none, none] from rfl]
  rcases h with ⟨z, rfl, hz, hE, hO⟩ | ⟨t, ht, hi, q⟩
  rotate_left
  · simp only [t_parse_corridor_x, sSeq, sRet, sRetN, sNext, sIf, sAsg, sPar, sPar3, sSetI, sAug, sAugI, sDrop, sBreak, sCont, dOp, dUn, dCons, dNil, dFn, dC, dTup, dLst, dLstM, dIf, dTest, dTru, dAnd, dOr, dNot, dAndV, dOrV, dNotE, dChain, dSl, dNoPart, dPart, dSeq, dEnum, dZip, dRng1, dRng2, dYes, dCall, dMt, dVar, dDic0, dDic1, put_nm, put_tp, puts_nil, puts_cons, List.getElem?_cons_zero, List.getElem?_cons_succ, List.set_cons_zero, List.set_cons_succ, startD, List.map_cons, List.map_nil, List.cons_append, List.nil_append, List.length_cons, List.length_nil, List.replicate_succ, List.replicate_zero, Nat.reduceSub, Nat.reduceAdd, Nat.zero_add, wipeD, keyD, gSeq, gPlain, gNil, gYield, gFor, dTupP, dRngP, dCallG, sForG, dLcG, GE.at, dTupRg, dStar, sPutT, dKeysT, dDicT0, dDicT1, sAsgL, dMake, dMakeF, dProp, dMeth, dCallO, dOp3, dLenO, dStrO, sFld, sFldAug, noXs, sRaise0, sRaise1, sTry, goneE, dCntB]
    refine rIsi_o2 (by decide) ht ?_
    simp only [hi, truD, Bool.not_false, if_true]
    exact q
  obtain ⟨w0, r, hW⟩ : ∃ w0 r, Txt.split z (Str.ofString " ") = w0 :: r := by
    cases e : Txt.split z (Str.ofString " ") with
    | nil => exact absurd e (words_ne z)
    | cons a b => exact ⟨a, b, rfl⟩
  have hlen := split_few z (Str.ofString " ") sp_one
  have hsh : ∀ w ∈ w0 :: r, w.length ≤ 20000 := fun w hw => by
    rw [← hW] at hw
    have := part_short hw
    omega
  rw [hW, List.length_cons] at hlen
  have eprs : prs z = match rowO w0 with
      | none => .error 0
      | some row => walkS row r 1 [] := by unfold prs; rw [hW] <;> rfl
  rw [eprs] at hE hO
  obtain ⟨W, eW⟩ : ∃ W, W = w0 :: r := ⟨_, rfl⟩
  have hWl : W.length = r.length + 1 := by rw [eW, List.length_cons]
  rw [← eW] at hW
  unfold t_parse_corridor_x
  refine seq_post (fun ρ M1 => ρ = [some (.str z), none, none, none, none, none] ∧ M1 = M) (fun ρ M1 q => ?_) (fun K nk => ?_)
  rotate_left
  · simp only [sSeq, sRet, sRetN, sNext, sIf, sAsg, sPar, sPar3, sSetI, sAug, sAugI, sDrop, sBreak, sCont, dOp, dUn, dCons, dNil, dFn, dC, dTup, dLst, dLstM, dIf, dTest, dTru, dAnd, dOr, dNot, dAndV, dOrV, dNotE, dChain, dSl, dNoPart, dPart, dSeq, dEnum, dZip, dRng1, dRng2, dYes, dCall, dMt, dVar, dDic0, dDic1, put_nm, put_tp, puts_nil, puts_cons, List.getElem?_cons_zero, List.getElem?_cons_succ, List.set_cons_zero, List.set_cons_succ, startD, List.map_cons, List.map_nil, List.cons_append, List.nil_append, List.length_cons, List.length_nil, List.replicate_succ, List.replicate_zero, Nat.reduceSub, Nat.reduceAdd, Nat.zero_add, wipeD, keyD, gSeq, gPlain, gNil, gYield, gFor, dTupP, dRngP, dCallG, sForG, dLcG, GE.at, dTupRg, dStar, sPutT, dKeysT, dDicT0, dDicT1, sAsgL, dMake, dMakeF, dProp, dMeth, dCallO, dOp3, dLenO, dStrO, sFld, sFldAug, noXs, sRaise0, sRaise1, sTry, goneE, dCntB]
    refine rIsi_o2 (s := .str) (by decide) rfl ?_
    simp only [isaT, truD, decide_true, Bool.not_true, Bool.false_eq_true, if_false]
    exact nk _ _ ⟨rfl, rfl⟩
  obtain ⟨rfl, rfl⟩ := q
  refine seq_post (fun ρ M2 => ρ = [some (.str z), some (.lst (W.map D.str)), none, none, none, none] ∧ M2 = M1) (fun ρ M1 q => ?_) (fun K nk => ?_)
  rotate_left
  · simp only [dSplit, sSeq, sRet, sRetN, sNext, sIf, sAsg, sPar, sPar3, sSetI, sAug, sAugI, sDrop, sBreak, sCont, dOp, dUn, dCons, dNil, dFn, dC, dTup, dLst, dLstM, dIf, dTest, dTru, dAnd, dOr, dNot, dAndV, dOrV, dNotE, dChain, dSl, dNoPart, dPart, dSeq, dEnum, dZip, dRng1, dRng2, dYes, dCall, dMt, dVar, dDic0, dDic1, put_nm, put_tp, puts_nil, puts_cons, List.getElem?_cons_zero, List.getElem?_cons_succ, List.set_cons_zero, List.set_cons_succ, startD, List.map_cons, List.map_nil, List.cons_append, List.nil_append, List.length_cons, List.length_nil, List.replicate_succ, List.replicate_zero, Nat.reduceSub, Nat.reduceAdd, Nat.zero_add, wipeD, keyD, gSeq, gPlain, gNil, gYield, gFor, dTupP, dRngP, dCallG, sForG, dLcG, GE.at, dTupRg, dStar, sPutT, dKeysT, dDicT0, dDicT1, sAsgL, dMake, dMakeF, dProp, dMeth, dCallO, dOp3, dLenO, dStrO, sFld, sFldAug, noXs, sRaise0, sRaise1, sTry, goneE, dCntB]
    refine ⟨by decide +kernel, by omega, ?_⟩
    rw [hW]
    exact nk _ _ ⟨rfl, rfl⟩
  obtain ⟨rfl, rfl⟩ := q
  refine seq_post (fun ρ M2 => ρ = [some (.str z), some (.lst (W.map D.str)), some (optD (numsO w0 (Str.ofString ","))), none, none, none] ∧ M2 = M1) (fun ρ M1 q => ?_) (fun K nk => ?_)
  rotate_left
  · simp only [sSeq, sRet, sRetN, sNext, sIf, sAsg, sPar, sPar3, sSetI, sAug, sAugI, sDrop, sBreak, sCont, dOp, dUn, dCons, dNil, dFn, dC, dTup, dLst, dLstM, dIf, dTest, dTru, dAnd, dOr, dNot, dAndV, dOrV, dNotE, dChain, dSl, dNoPart, dPart, dSeq, dEnum, dZip, dRng1, dRng2, dYes, dCall, dMt, dVar, dDic0, dDic1, put_nm, put_tp, puts_nil, puts_cons, List.getElem?_cons_zero, List.getElem?_cons_succ, List.set_cons_zero, List.set_cons_succ, startD, List.map_cons, List.map_nil, List.cons_append, List.nil_append, List.length_cons, List.length_nil, List.replicate_succ, List.replicate_zero, Nat.reduceSub, Nat.reduceAdd, Nat.zero_add, wipeD, keyD, gSeq, gPlain, gNil, gYield, gFor, dTupP, dRngP, dCallG, sForG, dLcG, GE.at, dTupRg, dStar, sPutT, dKeysT, dDicT0, dDicT1, sAsgL, dMake, dMakeF, dProp, dMeth, dCallO, dOp3, dLenO, dStrO, sFld, sFldAug, noXs, sRaise0, sRaise1, sTry, goneE, dCntB]
    refine rIx_seq (x := .lst _) rfl (d := .str w0) (by rw [at0, eW]; rfl) ?_
    exact ⟨trivial, w0, _, rfl, hsh w0 List.mem_cons_self, com_one, nk _ _ ⟨rfl, rfl⟩⟩
  obtain ⟨rfl, rfl⟩ := q
  cases hn : numsO w0 (Str.ofString ",") with
  | none =>
    rw [rowO_none hn] at hE
    simp only [optD, sSeq, sRet, sRetN, sNext, sIf, sAsg, sPar, sPar3, sSetI, sAug, sAugI, sDrop, sBreak, sCont, dOp, dUn, dCons, dNil, dFn, dC, dTup, dLst, dLstM, dIf, dTest, dTru, dAnd, dOr, dNot, dAndV, dOrV, dNotE, dChain, dSl, dNoPart, dPart, dSeq, dEnum, dZip, dRng1, dRng2, dYes, dCall, dMt, dVar, dDic0, dDic1, put_nm, put_tp, puts_nil, puts_cons, List.getElem?_cons_zero, List.getElem?_cons_succ, List.set_cons_zero, List.set_cons_succ, startD, List.map_cons, List.map_nil, List.cons_append, List.nil_append, List.length_cons, List.length_nil, List.replicate_succ, List.replicate_zero, Nat.reduceSub, Nat.reduceAdd, Nat.zero_add, wipeD, keyD, gSeq, gPlain, gNil, gYield, gFor, dTupP, dRngP, dCallG, sForG, dLcG, GE.at, dTupRg, dStar, sPutT, dKeysT, dDicT0, dDicT1, sAsgL, dMake, dMakeF, dProp, dMeth, dCallO, dOp3, dLenO, dStrO, sFld, sFldAug, noXs, sRaise0, sRaise1, sTry, goneE, dCntB, rIs, isN, if_true]
    exact hE 0 rfl M1 Ext.refl
  | some ns =>
  have hnl := nums_len com_one hn
  have hw0 := hsh w0 List.mem_cons_self
  refine seq_post (fun ρ M2 => (ρ = [some (.str z), some (.lst (W.map D.str)), some (stD ns), none, none, none] ∧ M2 = M1) ∧ rowO w0 = some (toI ns)) (fun ρ M2 q => ?_) (fun K nk => ?_)
  rotate_left
  · have hN : isN (stD ns) = false := rfl
    simp only [optD, sSeq, sRet, sRetN, sNext, sIf, sAsg, sPar, sPar3, sSetI, sAug, sAugI, sDrop, sBreak, sCont, dOp, dUn, dCons, dNil, dFn, dC, dTup, dLst, dLstM, dIf, dTest, dTru, dAnd, dOr, dNot, dAndV, dOrV, dNotE, dChain, dSl, dNoPart, dPart, dSeq, dEnum, dZip, dRng1, dRng2, dYes, dCall, dMt, dVar, dDic0, dDic1, put_nm, put_tp, puts_nil, puts_cons, List.getElem?_cons_zero, List.getElem?_cons_succ, List.set_cons_zero, List.set_cons_succ, startD, List.map_cons, List.map_nil, List.cons_append, List.nil_append, List.length_cons, List.length_nil, List.replicate_succ, List.replicate_zero, Nat.reduceSub, Nat.reduceAdd, Nat.zero_add, wipeD, keyD, gSeq, gPlain, gNil, gYield, gFor, dTupP, dRngP, dCallG, sForG, dLcG, GE.at, dTupRg, dStar, sPutT, dKeysT, dDicT0, dDicT1, sAsgL, dMake, dMakeF, dProp, dMeth, dCallO, dOp3, dLenO, dStrO, sFld, sFldAug, noXs, sRaise0, sRaise1, sTry, goneE, dCntB, rIs, hN, Bool.false_eq_true, if_false]
    refine ⟨trivial, stD ns, rfl, st_still ns, ?_⟩
    have er := rowO_some hn
    cases hb : isN (errD (stD ns)) with
    | true =>
      rw [hb, if_pos rfl] at er
      simp only [truD, Bool.not_true, Bool.false_eq_true, if_false]
      exact nk _ _ ⟨⟨rfl, rfl⟩, er⟩
    | false =>
      rw [hb, if_neg (by decide)] at er
      rw [er] at hE
      simp only [truD, Bool.not_false, if_true]
      exact hE 0 rfl M1 Ext.refl
  obtain ⟨⟨rfl, rfl⟩, er⟩ := q
  rw [er] at hE hO
  dsimp only at hE hO
  have hrow : 2 ≤ ns.length ∧ ns.length ≤ 10 := by
    have er2 := rowO_some hn
    rw [er] at er2
    cases hb : isN (errD (stD ns)) with
    | false => rw [hb, if_neg (by decide)] at er2; cases er2
    | true =>
      rw [row_isN] at hb
      simp only [Bool.and_eq_true, decide_eq_true_eq] at hb
      exact hb.1
  have hI : (toI ns).length = ns.length := by unfold toI; rw [List.length_map]
  have w0f : w0 ≠ Str.ofString "for" := fun e => by
    rw [e] at er
    have : rowO (Str.ofString "for") = none := by decide +kernel
    rw [this] at er; cases er
  obtain ⟨pre, rest, hr, hpre, hrest⟩ := split_at (Str.ofString "for") r
  have hwp := walk_pre (row := toI ns) pre rest 1 [] hpre
  rw [← hr, hI] at hwp
  have hrl : r.length = pre.length + rest.length := by rw [hr, List.length_append]
  refine seq_post (fun ρ M3 => ρ = [some (.str z), some (.lst (W.map D.str)), some (stD ns), some (.int ((1 + pre.length : Nat) : Int)), none, none] ∧ M3 = M2) (fun ρ M3 q => ?_) (fun K nk => ?_)
  rotate_left
  · simp only [dIdxS, sSeq, sRet, sRetN, sNext, sIf, sAsg, sPar, sPar3, sSetI, sAug, sAugI, sDrop, sBreak, sCont, dOp, dUn, dCons, dNil, dFn, dC, dTup, dLst, dLstM, dIf, dTest, dTru, dAnd, dOr, dNot, dAndV, dOrV, dNotE, dChain, dSl, dNoPart, dPart, dSeq, dEnum, dZip, dRng1, dRng2, dYes, dCall, dMt, dVar, dDic0, dDic1, put_nm, put_tp, puts_nil, puts_cons, List.getElem?_cons_zero, List.getElem?_cons_succ, List.set_cons_zero, List.set_cons_succ, startD, List.map_cons, List.map_nil, List.cons_append, List.nil_append, List.length_cons, List.length_nil, List.replicate_succ, List.replicate_zero, Nat.reduceSub, Nat.reduceAdd, Nat.zero_add, wipeD, keyD, gSeq, gPlain, gNil, gYield, gFor, dTupP, dRngP, dCallG, sForG, dLcG, GE.at, dTupRg, dStar, sPutT, dKeysT, dDicT0, dDicT1, sAsgL, dMake, dMakeF, dProp, dMeth, dCallO, dOp3, dLenO, dStrO, sFld, sFldAug, noXs, sRaise0, sRaise1, sTry, goneE, dCntB, rIn, seqA]
    refine ⟨rfl, strs_flat _, ?_⟩
    simp only [Bool.false_eq_true, if_false, any_str]
    rcases hrest with e | ⟨r', e⟩
    · have hnin : Str.ofString "for" ∉ W := fun hm => by
        rw [eW] at hm
        rcases List.mem_cons.mp hm with hm | hm
        · exact w0f hm.symm
        · rw [hr, e, List.append_nil] at hm; exact hpre hm
      rw [decide_eq_false hnin]
      simp only [Bool.false_eq_true, if_false]
      refine rLen_seq (x := .lst _) (fun z e => nomatch e) rfl ?_
      rw [List.length_map, hWl, hrl, e, show pre.length + ([] : List Str).length + 1 = 1 + pre.length by simp; omega]
      exact nk _ _ ⟨rfl, rfl⟩
    · have hin : Str.ofString "for" ∈ W := by rw [eW, hr, e]; simp
      rw [decide_eq_true hin]
      simp only [if_true]
      refine ⟨⟨_, rfl⟩, W, _, 1 + pre.length, rfl, rfl, ?_, fun m hm hm2 => ?_, by omega, nk _ _ ⟨rfl, rfl⟩⟩
      · rw [eW, show 1 + pre.length = pre.length + 1 by omega, List.getElem?_cons_succ, hr, List.getElem?_append_right (Nat.le_refl _), e]
        simp
      · rw [eW] at hm2
        cases m with
        | zero => rw [List.getElem?_cons_zero] at hm2; exact w0f (Option.some.inj hm2)
        | succ m =>
          rw [List.getElem?_cons_succ, hr, List.getElem?_append_left (by omega)] at hm2
          exact hpre (List.mem_of_getElem? hm2)
  obtain ⟨rfl, rfl⟩ := q
  refine seq_post (fun ρ M4 => ∃ ws : List (Int × Int), pwS ns.length pre 1 [] = .ok ws ∧ ρ = [some (.str z), some (.lst (W.map D.str)), some (stD ns), some (.int ((1 + pre.length : Nat) : Int)), some (.tup (ws.map wayD)), none] ∧ Ext M3 M4) (fun ρ M4 q => ?_) (fun K nk => ?_)
  rotate_left
  · simp only [dCallX, sSeq, sRet, sRetN, sNext, sIf, sAsg, sPar, sPar3, sSetI, sAug, sAugI, sDrop, sBreak, sCont, dOp, dUn, dCons, dNil, dFn, dC, dTup, dLst, dLstM, dIf, dTest, dTru, dAnd, dOr, dNot, dAndV, dOrV, dNotE, dChain, dSl, dNoPart, dPart, dSeq, dEnum, dZip, dRng1, dRng2, dYes, dCall, dMt, dVar, dDic0, dDic1, put_nm, put_tp, puts_nil, puts_cons, List.getElem?_cons_zero, List.getElem?_cons_succ, List.set_cons_zero, List.set_cons_succ, startD, List.map_cons, List.map_nil, List.cons_append, List.nil_append, List.length_cons, List.length_nil, List.replicate_succ, List.replicate_zero, Nat.reduceSub, Nat.reduceAdd, Nat.zero_add, wipeD, keyD, gSeq, gPlain, gNil, gYield, gFor, dTupP, dRngP, dCallG, sForG, dLcG, GE.at, dTupRg, dStar, sPutT, dKeysT, dDicT0, dDicT1, sAsgL, dMake, dMakeF, dProp, dMeth, dCallO, dOp3, dLenO, dStrO, sFld, sFldAug, noXs, sRaise0, sRaise1, sTry, goneE, dCntB, rSl, seqL]
    refine rLen_seq (x := stD ns) (xs := (toI ns).map D.int) (fun z e => nomatch e) (by rw [stD_toI]; rfl) ?_
    have ec : cutD (W.map D.str) (some 1) (some ((1 + pre.length : Nat) : Int)) = pre.map D.str := by
      rw [show (some (1 : Int)) = some ((1 : Nat) : Int) from rfl, cut_be D.str (by omega) (by omega), List.drop_one, eW, List.tail_cons, hr, show 1 + pre.length - 1 = pre.length by omega, List.take_left']
      rfl
    rw [ec]
    refine ⟨trivial, ns.length, pre, by rw [List.length_map, hI], hrow.1, hrow.2, by omega, fun w hw => hsh w (List.mem_cons_of_mem _ (by rw [hr]; exact List.mem_append_left _ hw)), fun k hk M' x => ?_, fun ws hk M' x => ?_⟩
    · rw [hwp, hk] at hE
      exact hE k rfl M' x
    · exact nk _ _ ⟨ws, hk, rfl, x⟩
  obtain ⟨ws, hk, rfl, x4⟩ := q
  rw [hwp, hk] at hE hO
  dsimp only at hE hO
  have hL : ∀ {K : DQ}, K (.int ((r.length + 1 : Nat) : Int)) M4 → rLen [.lst (W.map D.str)] M4 K := fun q => rLen_seq (x := .lst _) (fun z e => nomatch e) rfl (by rw [List.length_map, hWl]; exact q)
  have addI : ∀ {a b : Int} {K : DQ}, K (.int (a + b)) M4 → rAdd (.int a) (.int b) M4 K := fun q => q
  rcases hrest with e | ⟨r', e⟩
  · rw [e] at hE
    simp only [walkS] at hE
    simp only [sSeq, sRet, sRetN, sNext, sIf, sAsg, sPar, sPar3, sSetI, sAug, sAugI, sDrop, sBreak, sCont, dOp, dUn, dCons, dNil, dFn, dC, dTup, dLst, dLstM, dIf, dTest, dTru, dAnd, dOr, dNot, dAndV, dOrV, dNotE, dChain, dSl, dNoPart, dPart, dSeq, dEnum, dZip, dRng1, dRng2, dYes, dCall, dMt, dVar, dDic0, dDic1, put_nm, put_tp, puts_nil, puts_cons, List.getElem?_cons_zero, List.getElem?_cons_succ, List.set_cons_zero, List.set_cons_succ, startD, List.map_cons, List.map_nil, List.cons_append, List.nil_append, List.length_cons, List.length_nil, List.replicate_succ, List.replicate_zero, Nat.reduceSub, Nat.reduceAdd, Nat.zero_add, wipeD, keyD, gSeq, gPlain, gNil, gYield, gFor, dTupP, dRngP, dCallG, sForG, dLcG, GE.at, dTupRg, dStar, sPutT, dKeysT, dDicT0, dDicT1, sAsgL, dMake, dMakeF, dProp, dMeth, dCallO, dOp3, dLenO, dStrO, sFld, sFldAug, noXs, sRaise0, sRaise1, sTry, goneE, dCntB]
    refine hL (addI (rCmp_i ?_))
    dsimp only
    rw [if_pos (by simp only [decide_eq_true_eq]; rw [hrl, e, List.length_nil]; omega)]
    refine hL ?_
    rw [hrl, e, List.length_nil, show pre.length + 0 + 1 = 1 + pre.length by omega]
    exact hE _ rfl M4 x4
  rw [e] at hE hO
  simp only [walkS, if_true] at hE hO
  rw [e, List.length_cons] at hrl
  cases r' with
  | nil =>
    simp only [tailS] at hE
    simp only [sSeq, sRet, sRetN, sNext, sIf, sAsg, sPar, sPar3, sSetI, sAug, sAugI, sDrop, sBreak, sCont, dOp, dUn, dCons, dNil, dFn, dC, dTup, dLst, dLstM, dIf, dTest, dTru, dAnd, dOr, dNot, dAndV, dOrV, dNotE, dChain, dSl, dNoPart, dPart, dSeq, dEnum, dZip, dRng1, dRng2, dYes, dCall, dMt, dVar, dDic0, dDic1, put_nm, put_tp, puts_nil, puts_cons, List.getElem?_cons_zero, List.getElem?_cons_succ, List.set_cons_zero, List.set_cons_succ, startD, List.map_cons, List.map_nil, List.cons_append, List.nil_append, List.length_cons, List.length_nil, List.replicate_succ, List.replicate_zero, Nat.reduceSub, Nat.reduceAdd, Nat.zero_add, wipeD, keyD, gSeq, gPlain, gNil, gYield, gFor, dTupP, dRngP, dCallG, sForG, dLcG, GE.at, dTupRg, dStar, sPutT, dKeysT, dDicT0, dDicT1, sAsgL, dMake, dMakeF, dProp, dMeth, dCallO, dOp3, dLenO, dStrO, sFld, sFldAug, noXs, sRaise0, sRaise1, sTry, goneE, dCntB]
    refine hL (addI (rCmp_i ?_))
    dsimp only
    rw [if_pos (by simp only [decide_eq_true_eq]; rw [hrl, List.length_nil]; omega)]
    refine hL ?_
    rw [hrl, List.length_nil, show pre.length + (0 + 1) + 1 = 1 + pre.length + 1 by omega]
    exact hE _ rfl M4 x4
  | cons u r2 =>
  simp only [tailS] at hE hO
  rw [hI] at hE hO
  rw [List.length_cons] at hrl
  refine seq_post (fun ρ M5 => ρ = [some (.str z), some (.lst (W.map D.str)), some (stD ns), some (.int ((1 + pre.length : Nat) : Int)), some (.tup (ws.map wayD)), none] ∧ M5 = M4) (fun ρ M5 q => ?_) (fun K nk => ?_)
  rotate_left
  · simp only [sSeq, sRet, sRetN, sNext, sIf, sAsg, sPar, sPar3, sSetI, sAug, sAugI, sDrop, sBreak, sCont, dOp, dUn, dCons, dNil, dFn, dC, dTup, dLst, dLstM, dIf, dTest, dTru, dAnd, dOr, dNot, dAndV, dOrV, dNotE, dChain, dSl, dNoPart, dPart, dSeq, dEnum, dZip, dRng1, dRng2, dYes, dCall, dMt, dVar, dDic0, dDic1, put_nm, put_tp, puts_nil, puts_cons, List.getElem?_cons_zero, List.getElem?_cons_succ, List.set_cons_zero, List.set_cons_succ, startD, List.map_cons, List.map_nil, List.cons_append, List.nil_append, List.length_cons, List.length_nil, List.replicate_succ, List.replicate_zero, Nat.reduceSub, Nat.reduceAdd, Nat.zero_add, wipeD, keyD, gSeq, gPlain, gNil, gYield, gFor, dTupP, dRngP, dCallG, sForG, dLcG, GE.at, dTupRg, dStar, sPutT, dKeysT, dDicT0, dDicT1, sAsgL, dMake, dMakeF, dProp, dMeth, dCallO, dOp3, dLenO, dStrO, sFld, sFldAug, noXs, sRaise0, sRaise1, sTry, goneE, dCntB]
    refine hL (addI (rCmp_i ?_))
    dsimp only
    rw [if_neg (by simp only [decide_eq_true_eq]; omega)]
    exact nk _ _ ⟨rfl, rfl⟩
  obtain ⟨rfl, rfl⟩ := q
  have hu : W[1 + pre.length + 1]? = some u := by
    rw [eW, show 1 + pre.length + 1 = (pre.length + 1) + 1 by omega, List.getElem?_cons_succ, hr, List.getElem?_append_right (by omega), e]
    simp
  have hul : u.length ≤ 20000 := hsh u (eW ▸ List.mem_of_getElem? hu)
  refine seq_post (fun ρ M6 => ρ = [some (.str z), some (.lst (W.map D.str)), some (stD ns), some (.int ((1 + pre.length : Nat) : Int)), some (.tup (ws.map wayD)), some (optD (numsO u (Str.ofString ",")))] ∧ M6 = M5) (fun ρ M6 q => ?_) (fun K nk => ?_)
  rotate_left
  · simp only [sSeq, sRet, sRetN, sNext, sIf, sAsg, sPar, sPar3, sSetI, sAug, sAugI, sDrop, sBreak, sCont, dOp, dUn, dCons, dNil, dFn, dC, dTup, dLst, dLstM, dIf, dTest, dTru, dAnd, dOr, dNot, dAndV, dOrV, dNotE, dChain, dSl, dNoPart, dPart, dSeq, dEnum, dZip, dRng1, dRng2, dYes, dCall, dMt, dVar, dDic0, dDic1, put_nm, put_tp, puts_nil, puts_cons, List.getElem?_cons_zero, List.getElem?_cons_succ, List.set_cons_zero, List.set_cons_succ, startD, List.map_cons, List.map_nil, List.cons_append, List.nil_append, List.length_cons, List.length_nil, List.replicate_succ, List.replicate_zero, Nat.reduceSub, Nat.reduceAdd, Nat.zero_add, wipeD, keyD, gSeq, gPlain, gNil, gYield, gFor, dTupP, dRngP, dCallG, sForG, dLcG, GE.at, dTupRg, dStar, sPutT, dKeysT, dDicT0, dDicT1, sAsgL, dMake, dMakeF, dProp, dMeth, dCallO, dOp3, dLenO, dStrO, sFld, sFldAug, noXs, sRaise0, sRaise1, sTry, goneE, dCntB]
    refine addI (rIx_seq (x := .lst _) rfl (d := .str u) (by rw [show ((1 + pre.length : Nat) : Int) + 1 = ((1 + pre.length + 1 : Nat) : Int) by omega, atI_n, List.getElem?_map, hu]; rfl) ?_)
    exact ⟨trivial, u, _, rfl, hul, com_one, nk _ _ ⟨rfl, rfl⟩⟩
  obtain ⟨rfl, rfl⟩ := q
  have a1 : ((1 + pre.length : Nat) : Int) + 1 = ((1 + pre.length + 1 : Nat) : Int) := by omega
  have a2 : ((1 + pre.length : Nat) : Int) + 2 = ((1 + pre.length + 2 : Nat) : Int) := by omega
  cases hm : numsO u (Str.ofString ",") with
  | none =>
    rw [wantsO_none hm] at hE
    simp only [optD, sSeq, sRet, sRetN, sNext, sIf, sAsg, sPar, sPar3, sSetI, sAug, sAugI, sDrop, sBreak, sCont, dOp, dUn, dCons, dNil, dFn, dC, dTup, dLst, dLstM, dIf, dTest, dTru, dAnd, dOr, dNot, dAndV, dOrV, dNotE, dChain, dSl, dNoPart, dPart, dSeq, dEnum, dZip, dRng1, dRng2, dYes, dCall, dMt, dVar, dDic0, dDic1, put_nm, put_tp, puts_nil, puts_cons, List.getElem?_cons_zero, List.getElem?_cons_succ, List.set_cons_zero, List.set_cons_succ, startD, List.map_cons, List.map_nil, List.cons_append, List.nil_append, List.length_cons, List.length_nil, List.replicate_succ, List.replicate_zero, Nat.reduceSub, Nat.reduceAdd, Nat.zero_add, wipeD, keyD, gSeq, gPlain, gNil, gYield, gFor, dTupP, dRngP, dCallG, sForG, dLcG, GE.at, dTupRg, dStar, sPutT, dKeysT, dDicT0, dDicT1, sAsgL, dMake, dMakeF, dProp, dMeth, dCallO, dOp3, dLenO, dStrO, sFld, sFldAug, noXs, sRaise0, sRaise1, sTry, goneE, dCntB, rIs, isN, if_true, Bool.false_eq_true, if_false]
    refine addI ?_
    rw [a1]
    exact hE _ rfl M6 x4
  | some us =>
  have hN : isN (stD us) = false := rfl
  have hul2 := nums_len com_one hm
  simp only [optD, sSeq, sRet, sRetN, sNext, sIf, sAsg, sPar, sPar3, sSetI, sAug, sAugI, sDrop, sBreak, sCont, dOp, dUn, dCons, dNil, dFn, dC, dTup, dLst, dLstM, dIf, dTest, dTru, dAnd, dOr, dNot, dAndV, dOrV, dNotE, dChain, dSl, dNoPart, dPart, dSeq, dEnum, dZip, dRng1, dRng2, dYes, dCall, dMt, dVar, dDic0, dDic1, put_nm, put_tp, puts_nil, puts_cons, List.getElem?_cons_zero, List.getElem?_cons_succ, List.set_cons_zero, List.set_cons_succ, startD, List.map_cons, List.map_nil, List.cons_append, List.nil_append, List.length_cons, List.length_nil, List.replicate_succ, List.replicate_zero, Nat.reduceSub, Nat.reduceAdd, Nat.zero_add, wipeD, keyD, gSeq, gPlain, gNil, gYield, gFor, dTupP, dRngP, dCallG, sForG, dLcG, GE.at, dTupRg, dStar, sPutT, dKeysT, dDicT0, dDicT1, sAsgL, dMake, dMakeF, dProp, dMeth, dCallO, dOp3, dLenO, dStrO, sFld, sFldAug, noXs, sRaise0, sRaise1, sTry, goneE, dCntB, rIs, hN, Bool.false_eq_true, if_false]
  refine rLen_seq (x := stD ns) (xs := (toI ns).map D.int) (fun z e => nomatch e) (by rw [stD_toI]; rfl) ?_
  rw [List.length_map, hI]
  refine ⟨trivial, _, stD us, rfl, st_still us, fun xs hx => by injection hx with hx; rw [← hx, List.length_map]; omega, ?_⟩
  have ew := wantsO_some (n := ns.length) hm
  cases hb : areU ((ns.length : Nat) : Int) (stD us) with
  | false =>
    rw [hb, if_neg (by decide)] at ew
    rw [ew] at hE
    simp only [truD, Bool.not_false, if_true]
    refine addI ?_
    rw [a1]
    exact hE _ rfl M6 x4
  | true =>
    rw [hb, if_pos rfl] at ew
    rw [ew] at hE hO
    dsimp only at hE hO
    simp only [truD, Bool.not_true, Bool.false_eq_true, if_false]
    refine hL (addI (rCmp_i ?_))
    dsimp only
    cases r2 with
    | nil =>
      rw [if_neg (by simp only [decide_eq_true_eq]; rw [hrl, List.length_nil]; omega)]
      have := hO (toI ns, ws, toI us) rfl M6 x4
      unfold csD stateD at this
      rw [← stD_toI, ← stD_toI] at this
      exact ⟨by decide, this⟩
    | cons v r3 =>
      rw [if_pos (by simp only [decide_eq_true_eq]; rw [hrl, List.length_cons]; omega)]
      refine addI ?_
      rw [a2]
      exact hE _ rfl M6 x4
end DL
namespace DL
open PySem PySem.Spec PyProof.Rows L2 TL
theorem use_intS {w : Str} {n : Nat} {M : MS} {Φ : DQ} (h : numO w.cps.toList = some n) (q : Φ (.int (n : Nat)) M) : rIntS [.str w] M Φ := by
  unfold numO at h
  split at h
  · rename_i hc
    simp only [Bool.and_eq_true, decide_eq_true_eq] at hc
    split at h
    · cases h
    · injection h with h
      subst h
      have hz : w.length = w.cps.toList.length := by show w.cps.size = _; simp
      have hd : NumText.AllDigits w.cps.toList := fun c hc2 => by
        have := List.all_eq_true.mp hc.2 c hc2
        unfold digB at this
        simpa using this
      exact ⟨_, intText_digits hd (fun e => by rw [e] at hc; simp at hc) (by omega), by omega, q⟩
  · cases h
end DL
namespace DL
open PySem PySem.Spec PyProof.Rows L2 TL
def smp : Nat → D → Bool
  | _, .non => true
  | _, .str _ => true
  | _, .int _ => true
  | n + 1, .tup xs => decide (xs.length ≤ 1000) && xs.all (smp n)
  | _, _ => false
def rs_law_same_v2 (n : Nat) : DSp := fun ds M Φ _ => ∃ x, ds = [x, x] ∧ smp n x = true ∧ still x = true ∧ Φ (.bl true) M
def rself_s : Nat → DSp
  | 0 => spNo
  | n + 1 => rs_law_same_v2 n
abbrev sp_law_same_v2 : DSp := rs_law_same_v2 4
/-- short texts of plain signs -/
def txB (n : Nat) (z : Str) : Bool := decide (z.length ≤ n) && z.cps.all (· < 4294967296)
def sp_law_bent_v4 : DSp := fun ds M Φ _ => ∃ (a c : Addr) (k n : Nat) (z : Str), ds = [.ref a, .str z] ∧ Dk M a c (k + 6) ∧ txB n z = true ∧ n ≤ 5000 ∧ ∀ (y : Str) M', Dk M' a c k → Kp a c M M' → txB (2 * n + 4) y = true → Φ (.str y) M'
def t_law_same_v2 (sp_self : DSp) : DS := (sSeq (sIf (dTru (dFn rIsi (dCons (dVar 1) (dCons (dC (.ty .tuple)) dNil)))) (sSeq (sIf (dOr (dNot (dTru (dFn rIsi (dCons (dVar 0) (dCons (dC (.ty .tuple)) dNil))))) (dTest (dOp rNe (dFn rLen (dCons (dVar 0) dNil)) (dFn rLen (dCons (dVar 1) dNil))))) (sSeq (sRet (dC (.bl false))) sNext) sNext) (sSeq (sRet (dOp rEq (dLc (dZip (dVar 0) (dVar 1)) (.tp [(.nm 2), (.nm 3)]) [2, 3] (dNot (dTru (dCall 2 sp_self (dCons (dVar 2) (dCons (dVar 3) dNil))))) (dC (.int 1))) (dLst dNil))) sNext)) sNext) (sSeq (sIf (dTest (dOp (rIs false) (dVar 1) (dC .non))) (sSeq (sRet (dOp (rIs false) (dVar 0) (dC .non))) sNext) sNext) (sSeq (sIf (dTru (dFn rIsi (dCons (dVar 1) (dCons (dC (.ty .str)) dNil)))) (sSeq (sRet (dAndV (dFn rIsi (dCons (dVar 0) (dCons (dC (.ty .str)) dNil))) (dOp rEq (dVar 0) (dVar 1)))) sNext) sNext) (sSeq (sRet (dAndV (dFn rIsi (dCons (dVar 0) (dCons (dC (.ty .int)) dNil))) (dAndV (dOp rEq (dFn rIsi (dCons (dVar 0) (dCons (dC (.ty .bool)) dNil))) (dFn rIsi (dCons (dVar 1) (dCons (dC (.ty .bool)) dNil)))) (dOp rEq (dVar 0) (dVar 1))))) sNext))))
def t_law_bent_v4 : DS := (sSeq (sAsg (dSplit (dVar 1) (dC (.str " "))) (.nm 2)) (sSeq (sAsg (dCall 2 sp_law_draw_v3 (dCons (dVar 0) (dCons (dFn rLen (dCons (dVar 2) dNil)) dNil))) (.nm 3)) (sSeq (sAsg (dCall 2 sp_law_draw_v3 (dCons (dVar 0) (dCons (dC (.int 6)) dNil))) (.nm 4)) (sSeq (sIf (dTest (dOp rEq (dVar 4) (dC (.int 0)))) (sSeq (sRet (dJoin (dC (.str " ")) (dOp rAdd (dOp rAdd (dSl (dVar 2) dNoPart (dPart (dVar 3))) (dSl (dVar 2) (dPart (dVar 3)) (dPart (dOp rAdd (dVar 3) (dC (.int 1)))))) (dSl (dVar 2) (dPart (dVar 3)) dNoPart)))) sNext) sNext) (sSeq (sIf (dTest (dOp rEq (dVar 4) (dC (.int 1)))) (sSeq (sRet (dJoin (dC (.str " ")) (dOp rAdd (dSl (dVar 2) (dPart (dVar 3)) dNoPart) (dSl (dVar 2) dNoPart (dPart (dVar 3)))))) sNext) sNext) (sSeq (sIf (dTest (dOp rEq (dVar 4) (dC (.int 2)))) (sSeq (sRet (dJoin (dC (.str " ")) (dOp rAdd (dSl (dVar 2) dNoPart (dPart (dVar 3))) (dSl (dVar 2) (dPart (dOp rAdd (dVar 3) (dC (.int 1)))) dNoPart)))) sNext) sNext) (sSeq (sIf (dTest (dOp rEq (dVar 4) (dC (.int 3)))) (sSeq (sRet (dJoin (dC (.str " ")) (dOp rAdd (dVar 2) (dSl (dVar 2) (dPart (dVar 3)) dNoPart)))) sNext) sNext) (sSeq (sAsg (dCall 2 sp_law_draw_v3 (dCons (dVar 0) (dCons (dOp rAdd (dFn rLen (dCons (dVar 1) dNil)) (dC (.int 1))) dNil))) (.nm 5)) (sSeq (sAsg (dOp rIx (dLst (dCons (dC (.str "0")) (dCons (dC (.str "1")) (dCons (dC (.str "5")) (dCons (dC (.str "9")) (dCons (dC (.str "-")) (dCons (dC (.str " ")) (dCons (dC (.str "+")) (dCons (dC (.str "_")) (dCons (dC (.str ",")) (dCons (dC (.str ":")) (dCons (dC (.str "for")) (dCons (dC (.str "x")) dNil))))))))))))) (dCall 2 sp_law_draw_v3 (dCons (dVar 0) (dCons (dC (.int 12)) dNil)))) (.nm 6)) (sSeq (sRet (dOp rAdd (dOp rAdd (dSlT (dVar 1) dNoPart (dPart (dVar 5))) (dOp rMulS (dVar 6) (dCall 2 sp_law_draw_v3 (dCons (dVar 0) (dCons (dC (.int 2)) dNil))))) (dSlT (dVar 1) (dPart (dOp rAdd (dVar 5) (dCall 2 sp_law_draw_v3 (dCons (dVar 0) (dCons (dC (.int 2)) dNil))))) dNoPart))) sNext))))))))))
theorem zip_same : ∀ {xs : List D} {d : D}, d ∈ zipD xs xs → ∃ y ∈ xs, d = .tup [y, y]
  | [], _, h => by cases h
  | x :: xs, d, h => by
    rw [zipD] at h
    rcases List.mem_cons.mp h with rfl | h
    · exact ⟨x, List.mem_cons_self, rfl⟩
    · obtain ⟨y, hy, e⟩ := zip_same h
      exact ⟨y, List.mem_cons_of_mem _ hy, e⟩
theorem rp_law_same_v2 (n : Nat) (ds : List D) (M : MS) (Φ : DQ) (h : rs_law_same_v2 n ds M Φ noX) : t_law_same_v2 (rself_s n) { nx := fun _ M' => Φ .non M', rt := Φ } (startD 4 ds) M := by
  obtain ⟨x, rfl, hs, hst, q⟩ := h
  rw [show startD 4 [x, x] = [some x, some x, none, none] from rfl]
  simp only [t_law_same_v2, sSeq, sRet, sRetN, sNext, sIf, sAsg, sPar, sPar3, sSetI, sAug, sAugI, sDrop, sBreak, sCont, dOp, dUn, dCons, dNil, dFn, dC, dTup, dLst, dLstM, dIf, dTest, dTru, dAnd, dOr, dNot, dAndV, dOrV, dNotE, dChain, dSl, dNoPart, dPart, dSeq, dEnum, dZip, dRng1, dRng2, dYes, dCall, dMt, dVar, dDic0, dDic1, put_nm, put_tp, puts_nil, puts_cons, List.getElem?_cons_zero, List.getElem?_cons_succ, List.set_cons_zero, List.set_cons_succ, startD, List.map_cons, List.map_nil, List.cons_append, List.nil_append, List.length_cons, List.length_nil, List.replicate_succ, List.replicate_zero, Nat.reduceSub, Nat.reduceAdd, Nat.zero_add, wipeD, keyD, gSeq, gPlain, gNil, gYield, gFor, dTupP, dRngP, dCallG, sForG, dLcG, GE.at, dTupRg, dStar, sPutT, dKeysT, dDicT0, dDicT1, sAsgL, dMake, dMakeF, dProp, dMeth, dCallO, dOp3, dLenO, dStrO, sFld, sFldAug, noXs, sRaise0, sRaise1, sTry, goneE, dCntB]
  refine rIsi_tup hst ?_
  cases x with
  | tup xs =>
    cases n with
    | zero => cases hs
    | succ n =>
    simp only [isTup, truD, if_true]
    refine rIsi_tup hst ?_
    simp only [isTup, truD, Bool.not_true, Bool.false_eq_true, if_false]
    refine rLen_seq (x := .tup xs) (fun z e => nomatch e) rfl ?_
    refine rLen_seq (x := .tup xs) (fun z e => nomatch e) rfl (rNe_i ?_)
    dsimp only
    rw [if_neg (by simp)]
    simp only [dLc, dZip, sSeq, sRet, sRetN, sNext, sIf, sAsg, sPar, sPar3, sSetI, sAug, sAugI, sDrop, sBreak, sCont, dOp, dUn, dCons, dNil, dFn, dC, dTup, dLst, dLstM, dIf, dTest, dTru, dAnd, dOr, dNot, dAndV, dOrV, dNotE, dChain, dSl, dNoPart, dPart, dSeq, dEnum, dZip, dRng1, dRng2, dYes, dCall, dMt, dVar, dDic0, dDic1, put_nm, put_tp, puts_nil, puts_cons, List.getElem?_cons_zero, List.getElem?_cons_succ, List.set_cons_zero, List.set_cons_succ, startD, List.map_cons, List.map_nil, List.cons_append, List.nil_append, List.length_cons, List.length_nil, List.replicate_succ, List.replicate_zero, Nat.reduceSub, Nat.reduceAdd, Nat.zero_add, wipeD, keyD, gSeq, gPlain, gNil, gYield, gFor, dTupP, dRngP, dCallG, sForG, dLcG, GE.at, dTupRg, dStar, sPutT, dKeysT, dDicT0, dDicT1, sAsgL, dMake, dMakeF, dProp, dMeth, dCallO, dOp3, dLenO, dStrO, sFld, sFldAug, noXs, sRaise0, sRaise1, sTry, goneE, dCntB, seqA]
    rw [smp, Bool.and_eq_true, decide_eq_true_eq] at hs
    obtain ⟨hs1, hs⟩ := hs
    have hst' : stills xs = true := by simpa only [still] using hst
    refine lcW_map (fun _ => none) _ ⟨trivial, trivial⟩ ?_ (fun d hd => ?_) ?_
    · rw [zipD_length]; have := hs1; omega
    · obtain ⟨y, hy, rfl⟩ := zip_same hd
      refine ⟨_, rfl, fun acc Nx hl k => ?_⟩
      simp only [sSeq, sRet, sRetN, sNext, sIf, sAsg, sPar, sPar3, sSetI, sAug, sAugI, sDrop, sBreak, sCont, dOp, dUn, dCons, dNil, dFn, dC, dTup, dLst, dLstM, dIf, dTest, dTru, dAnd, dOr, dNot, dAndV, dOrV, dNotE, dChain, dSl, dNoPart, dPart, dSeq, dEnum, dZip, dRng1, dRng2, dYes, dCall, dMt, dVar, dDic0, dDic1, put_nm, put_tp, puts_nil, puts_cons, List.getElem?_cons_zero, List.getElem?_cons_succ, List.set_cons_zero, List.set_cons_succ, startD, List.map_cons, List.map_nil, List.cons_append, List.nil_append, List.length_cons, List.length_nil, List.replicate_succ, List.replicate_zero, Nat.reduceSub, Nat.reduceAdd, Nat.zero_add, wipeD, keyD, gSeq, gPlain, gNil, gYield, gFor, dTupP, dRngP, dCallG, sForG, dLcG, GE.at, dTupRg, dStar, sPutT, dKeysT, dDicT0, dDicT1, sAsgL, dMake, dMakeF, dProp, dMeth, dCallO, dOp3, dLenO, dStrO, sFld, sFldAug, noXs, sRaise0, sRaise1, sTry, goneE, dCntB]
      refine ⟨trivial, y, rfl, List.all_eq_true.mp hs y hy, stills_get hst' hy, ?_⟩
      simp only [truD, Bool.not_true, Bool.false_eq_true, if_false]
      simpa using k
    · have e : (zipD xs xs).filterMap (fun _ => (none : Option D)) = [] := by
        induction zipD xs xs with
        | nil => rfl
        | cons _ _ ih => rw [List.filterMap_cons]; exact ih
      rw [e]
      exact ⟨by decide, rEq_lnil q⟩
  | non => exact q
  | str z =>
    simp only [isTup, truD, Bool.false_eq_true, if_false, rIs, isN]
    refine rIsi_str rfl ?_
    simp only [isStr, truD, if_true]
    refine rIsi_str rfl ?_
    simp only [isStr, truD, if_true]
    exact rEq_s (by rw [beq_self_eq_true]; exact q)
  | int i =>
    simp only [isTup, truD, Bool.false_eq_true, if_false, rIs, isN]
    refine rIsi_str rfl ?_
    simp only [isStr, truD, Bool.false_eq_true, if_false]
    refine rIsi_o2 (s := .int) (by decide) rfl ?_
    simp only [isaT, truD, decide_true, if_true]
    refine rIsi_o2 (s := .int) (by decide) rfl ?_
    refine rIsi_o2 (s := .int) (by decide) rfl ?_
    refine rEq_still rfl (by decide) rfl (by decide) ?_
    dsimp only
    rw [if_pos (by decide)]
    exact rEq_i (by rw [beq_self_eq_true]; exact q)
  | _ => cases n <;> cases hs
def Sm (z : Str) : Prop := z.cps.all (· < 4294967296) = true
theorem sm_iff {z : Str} : Sm z ↔ ∀ c ∈ tl z, c < 4294967296 := by
  unfold Sm
  rw [Array.all_eq_true_iff_forall_mem]
  unfold tl
  constructor
  · intro h c hc
    have := h c (by simpa using hc)
    simpa using this
  · intro h c hc
    have := h c (by simpa using hc)
    simpa using this
theorem txB_iff {n : Nat} {z : Str} : txB n z = true ↔ z.length ≤ n ∧ Sm z := by
  unfold txB Sm
  rw [Bool.and_eq_true, decide_eq_true_eq]
theorem spl_mem {S : List Nat} : ∀ (l : List Nat) (k : Nat) (acc p : List Nat), p ∈ spl S k acc l → ∀ c ∈ p, c ∈ acc ∨ c ∈ l
  | [], k, acc, p, hp, c, hc => by
    rw [spl_nil] at hp
    rw [List.mem_singleton.mp hp] at hc
    exact .inl hc
  | x :: l, k, acc, p, hp, c, hc => by
    cases k with
    | zero =>
      cases hpre : pre S (x :: l) with
      | true =>
        rw [spl_hit hpre] at hp
        rcases List.mem_cons.mp hp with rfl | hp
        · exact .inl hc
        · rcases spl_mem l _ [] p hp c hc with h | h
          · cases h
          · exact .inr (List.mem_cons_of_mem _ h)
      | false =>
        rw [spl_miss hpre] at hp
        rcases spl_mem l _ _ p hp c hc with h | h
        · rcases List.mem_append.mp h with h | h
          · exact .inl h
          · exact .inr (by rw [List.mem_singleton.mp h]; exact List.mem_cons_self)
        · exact .inr (List.mem_cons_of_mem _ h)
    | succ k =>
      rw [spl_pass] at hp
      rw [List.drop_succ_cons] at hp
      rw [← spl_pass] at hp
      rcases spl_mem l _ _ p hp c hc with h | h
      · exact .inl h
      · exact .inr (List.mem_cons_of_mem _ h)
theorem sm_part {z w : Str} (h : Sm z) (hw : w ∈ Txt.split z (Str.ofString " ")) : Sm w := by
  rw [sm_iff] at h ⊢
  intro c hc
  have e := split_spl z (Str.ofString " ") (by decide +kernel) (kind_ok (by decide +kernel))
  have hm : tl w ∈ (Txt.split z (Str.ofString " ")).map tl := List.mem_map.mpr ⟨w, hw, rfl⟩
  rw [e] at hm
  rcases spl_mem _ _ _ _ hm c hc with h2 | h2
  · cases h2
  · exact h c h2
theorem sm_join {L : List Str} (h : ∀ y ∈ L, Sm y) : Sm (Txt.join (Str.ofString " ") L) := by
  rw [sm_iff]
  intro c hc
  rw [join_eq, tl_join] at hc
  rcases mem_joinL hc with z | ⟨q, hq, hc2⟩
  · have e : tl (Str.ofString " ") = [32] := by decide +kernel
    rw [e] at z
    simp at z
    omega
  · obtain ⟨y, hy, rfl⟩ := List.mem_map.mp hq
    exact sm_iff.mp (h y hy) c hc2
theorem sm_cut {z : Str} (h : Sm z) (lo hi : Option Int) : Sm (cutS z lo hi) := by
  rw [sm_iff] at h ⊢
  intro c hc
  unfold cutS at hc
  rw [tl_mk] at hc
  exact h c (List.mem_of_mem_drop (List.mem_of_mem_take hc))
theorem sm_app {a b : Str} (ha : Sm a) (hb : Sm b) : Sm (a ++ b) := by
  rw [sm_iff] at ha hb ⊢
  intro c hc
  rw [tl_append] at hc
  exact (List.mem_append.mp hc).elim (ha c) (hb c)
/-- the weight of words -/
def wlS (L : List Str) : Nat := (L.map (·.length)).sum + L.length
theorem wlS_app (a b : List Str) : wlS (a ++ b) = wlS a + wlS b := by
  unfold wlS
  rw [List.map_append, List.sum_append, List.length_append]
  omega
theorem wlS_cut (i : Nat) (W : List Str) : wlS (W.take i) + wlS (W.drop i) = wlS W := by
  rw [← wlS_app, List.take_append_drop]
theorem use_joinS {W L : List Str} {n : Nat} {M : MS} {Φ : DQ} (hs : ∀ y ∈ L, y ∈ W) (hw : wlS L ≤ 2 * n + 4) (hn : n ≤ 5000) (hW : ∀ y ∈ W, Sm y) (q : ∀ y, txB (2 * n + 4) y = true → Φ (.str y) M) :
    (L.map (·.length)).sum + L.length * (Str.ofString " ").length ≤ 16777216 ∧ Φ (.str (Txt.join (Str.ofString " ") L)) M := by
  have e : (Str.ofString " ").length = 1 := by decide +kernel
  have h2 := join_len2 (Str.ofString " ") L
  unfold wlS at hw
  rw [e] at h2 ⊢
  exact ⟨by omega, q _ (txB_iff.mpr ⟨by omega, sm_join fun y hy => hW y (hs y hy)⟩)⟩
def signs5 : List Str := [Str.ofString "0", Str.ofString "1", Str.ofString "5", Str.ofString "9", Str.ofString "-", Str.ofString " ", Str.ofString "+", Str.ofString "_", Str.ofString ",", Str.ofString ":", Str.ofString "for", Str.ofString "x"]
theorem signs5_all : ∀ s ∈ signs5, s.length ≤ 1000 ∧ txB 3 (Txt.mul s 0) = true ∧ txB 3 (Txt.mul s 1) = true := by decide +kernel
theorem p_law_bent_v4 (ds : List D) (M : MS) (Φ : DQ) (h : sp_law_bent_v4 ds M Φ noX) : t_law_bent_v4 { nx := fun _ M' => Φ .non M', rt := Φ } (startD 7 ds) M := by
  obtain ⟨a, c, k, n, z, rfl, hD, hz, hn, h⟩ := h
  rw [show startD 7 [D.ref a, .str z] = [some (.ref a), some (.str z), none, none, none, none, none] from rfl]
  obtain ⟨hz1, hz2⟩ := txB_iff.mp hz
  obtain ⟨W, hW⟩ : ∃ W, Txt.split z (Str.ofString " ") = W := ⟨_, rfl⟩
  have hSm : ∀ y ∈ W, Sm y := fun y hy => sm_part hz2 (hW ▸ hy)
  have hwt : wlS W ≤ z.length + 1 := by rw [← hW]; exact split_weight z _ sp_one
  have hne : W ≠ [] := by rw [← hW]; exact words_ne z
  have hlen := split_few z (Str.ofString " ") sp_one
  rw [hW] at hlen
  have hpos : 0 < W.length := List.length_pos_iff.mpr hne
  unfold t_law_bent_v4
  refine seq_post (fun ρ M1 => ρ = [some (.ref a), some (.str z), some (.lst (W.map D.str)), none, none, none, none] ∧ M1 = M) (fun ρ M1 q => ?_) (fun K nk => ?_)
  rotate_left
  · simp only [dSplit, sSeq, sRet, sRetN, sNext, sIf, sAsg, sPar, sPar3, sSetI, sAug, sAugI, sDrop, sBreak, sCont, dOp, dUn, dCons, dNil, dFn, dC, dTup, dLst, dLstM, dIf, dTest, dTru, dAnd, dOr, dNot, dAndV, dOrV, dNotE, dChain, dSl, dNoPart, dPart, dSeq, dEnum, dZip, dRng1, dRng2, dYes, dCall, dMt, dVar, dDic0, dDic1, put_nm, put_tp, puts_nil, puts_cons, List.getElem?_cons_zero, List.getElem?_cons_succ, List.set_cons_zero, List.set_cons_succ, startD, List.map_cons, List.map_nil, List.cons_append, List.nil_append, List.length_cons, List.length_nil, List.replicate_succ, List.replicate_zero, Nat.reduceSub, Nat.reduceAdd, Nat.zero_add, wipeD, keyD, gSeq, gPlain, gNil, gYield, gFor, dTupP, dRngP, dCallG, sForG, dLcG, GE.at, dTupRg, dStar, sPutT, dKeysT, dDicT0, dDicT1, sAsgL, dMake, dMakeF, dProp, dMeth, dCallO, dOp3, dLenO, dStrO, sFld, sFldAug, noXs, sRaise0, sRaise1, sTry, goneE, dCntB]
    refine ⟨by decide +kernel, by omega, ?_⟩
    rw [hW]
    exact nk _ _ ⟨rfl, rfl⟩
  obtain ⟨rfl, rfl⟩ := q
  refine seq_post (fun ρ M2 => ∃ i : Nat, i < W.length ∧ ρ = [some (.ref a), some (.str z), some (.lst (W.map D.str)), some (.int (i : Nat)), none, none, none] ∧ Dk M2 a c (k + 5) ∧ Kp a c M1 M2) (fun ρ M2 q => ?_) (fun K nk => ?_)
  rotate_left
  · simp only [sSeq, sRet, sRetN, sNext, sIf, sAsg, sPar, sPar3, sSetI, sAug, sAugI, sDrop, sBreak, sCont, dOp, dUn, dCons, dNil, dFn, dC, dTup, dLst, dLstM, dIf, dTest, dTru, dAnd, dOr, dNot, dAndV, dOrV, dNotE, dChain, dSl, dNoPart, dPart, dSeq, dEnum, dZip, dRng1, dRng2, dYes, dCall, dMt, dVar, dDic0, dDic1, put_nm, put_tp, puts_nil, puts_cons, List.getElem?_cons_zero, List.getElem?_cons_succ, List.set_cons_zero, List.set_cons_succ, startD, List.map_cons, List.map_nil, List.cons_append, List.nil_append, List.length_cons, List.length_nil, List.replicate_succ, List.replicate_zero, Nat.reduceSub, Nat.reduceAdd, Nat.zero_add, wipeD, keyD, gSeq, gPlain, gNil, gYield, gFor, dTupP, dRngP, dCallG, sForG, dLcG, GE.at, dTupRg, dStar, sPutT, dKeysT, dDicT0, dDicT1, sAsgL, dMake, dMakeF, dProp, dMeth, dCallO, dOp3, dLenO, dStrO, sFld, sFldAug, noXs, sRaise0, sRaise1, sTry, goneE, dCntB]
    refine rLen_seq (x := .lst _) (fun z e => nomatch e) rfl ?_
    rw [List.length_map]
    refine use_draw3 (hD : Dk M1 a c (k + 5 + 1)) (by omega) (by omega) fun r M2 hD1 hK1 r0 r1 => ?_
    exact nk _ _ ⟨r.toNat, by omega, by rw [Int.toNat_of_nonneg r0], hD1, hK1⟩
  clear hD
  obtain ⟨i, hi, rfl, hD, hK⟩ := q
  refine seq_post (fun ρ M3 => ∃ r : Int, ρ = [some (.ref a), some (.str z), some (.lst (W.map D.str)), some (.int (i : Nat)), some (.int r), none, none] ∧ Dk M3 a c (k + 4) ∧ Kp a c M1 M3) (fun ρ M3 q => ?_) (fun K nk => ?_)
  rotate_left
  · simp only [sSeq, sRet, sRetN, sNext, sIf, sAsg, sPar, sPar3, sSetI, sAug, sAugI, sDrop, sBreak, sCont, dOp, dUn, dCons, dNil, dFn, dC, dTup, dLst, dLstM, dIf, dTest, dTru, dAnd, dOr, dNot, dAndV, dOrV, dNotE, dChain, dSl, dNoPart, dPart, dSeq, dEnum, dZip, dRng1, dRng2, dYes, dCall, dMt, dVar, dDic0, dDic1, put_nm, put_tp, puts_nil, puts_cons, List.getElem?_cons_zero, List.getElem?_cons_succ, List.set_cons_zero, List.set_cons_succ, startD, List.map_cons, List.map_nil, List.cons_append, List.nil_append, List.length_cons, List.length_nil, List.replicate_succ, List.replicate_zero, Nat.reduceSub, Nat.reduceAdd, Nat.zero_add, wipeD, keyD, gSeq, gPlain, gNil, gYield, gFor, dTupP, dRngP, dCallG, sForG, dLcG, GE.at, dTupRg, dStar, sPutT, dKeysT, dDicT0, dDicT1, sAsgL, dMake, dMakeF, dProp, dMeth, dCallO, dOp3, dLenO, dStrO, sFld, sFldAug, noXs, sRaise0, sRaise1, sTry, goneE, dCntB]
    exact use_draw3 (hD : Dk M2 a c (k + 4 + 1)) (by decide) (by decide) fun r M3 hD1 hK1 r0 r1 => nk _ _ ⟨r, rfl, hD1, hK.trans hK1⟩
  clear hD hK
  obtain ⟨r, rfl, hD, hK⟩ := q
  have c1 : cutD (W.map D.str) none (some ((i : Nat) : Int)) = (W.take i).map D.str := by rw [cut_to, List.map_take]
  have c2 : cutD (W.map D.str) (some ((i : Nat) : Int)) none = (W.drop i).map D.str := by rw [cut_from, List.map_drop]
  have c3 : cutD (W.map D.str) (some ((i : Nat) : Int)) (some (((i : Nat) : Int) + 1)) = ((W.drop i).take 1).map D.str := by
    rw [show ((i : Nat) : Int) + 1 = ((i + 1 : Nat) : Int) by omega, cut_be D.str (by omega) (by omega), show i + 1 - i = 1 by omega]
  have c4 : cutD (W.map D.str) (some (((i : Nat) : Int) + 1)) none = (W.drop (i + 1)).map D.str := by
    rw [show ((i : Nat) : Int) + 1 = ((i + 1 : Nat) : Int) by omega, cut_from, List.map_drop]
  have w1 := wlS_cut i W
  have w2 := wlS_cut 1 (W.drop i)
  have w3 := wlS_cut (i + 1) W
  have m1 : ∀ y ∈ W.take i, y ∈ W := fun y hy => List.mem_of_mem_take hy
  have m2 : ∀ y ∈ W.drop i, y ∈ W := fun y hy => List.mem_of_mem_drop hy
  have m3 : ∀ y ∈ (W.drop i).take 1, y ∈ W := fun y hy => m2 y (List.mem_of_mem_take hy)
  have m4 : ∀ y ∈ W.drop (i + 1), y ∈ W := fun y hy => List.mem_of_mem_drop hy
  have l1 : (W.take i).length ≤ 5001 := by rw [List.length_take]; omega
  have l2 : (W.drop i).length ≤ 5001 := by rw [List.length_drop]; omega
  have l3 : ((W.drop i).take 1).length ≤ 1 := by rw [List.length_take]; omega
  have l4 : (W.drop (i + 1)).length ≤ 5001 := by rw [List.length_drop]; omega
  have out : ∀ {L : List Str}, (∀ y ∈ L, y ∈ W) → wlS L ≤ 2 * n + 4 → (L.map (·.length)).sum + L.length * (Str.ofString " ").length ≤ 16777216 ∧ Φ (.str (Txt.join (Str.ofString " ") L)) M3 :=
    fun hs hw => use_joinS hs hw hn hSm fun y hy => h y M3 (hD.mono (by omega)) hK hy
  have mm : ∀ {A B : List Str}, (∀ y ∈ A, y ∈ W) → (∀ y ∈ B, y ∈ W) → ∀ y ∈ A ++ B, y ∈ W := fun ha hb y hy => (List.mem_append.mp hy).elim (ha y) (hb y)
  have addI : ∀ {a b : Int} {M : MS} {K : DQ}, K (.int (a + b)) M → rAdd (.int a) (.int b) M K := fun q => q
  refine seq_post (fun ρ M4 => ρ = [some (.ref a), some (.str z), some (.lst (W.map D.str)), some (.int (i : Nat)), some (.int r), none, none] ∧ M4 = M3) (fun ρ M4 q => ?_) (fun K nk => ?_)
  rotate_left
  · simp only [dJoin, sSeq, sRet, sRetN, sNext, sIf, sAsg, sPar, sPar3, sSetI, sAug, sAugI, sDrop, sBreak, sCont, dOp, dUn, dCons, dNil, dFn, dC, dTup, dLst, dLstM, dIf, dTest, dTru, dAnd, dOr, dNot, dAndV, dOrV, dNotE, dChain, dSl, dNoPart, dPart, dSeq, dEnum, dZip, dRng1, dRng2, dYes, dCall, dMt, dVar, dDic0, dDic1, put_nm, put_tp, puts_nil, puts_cons, List.getElem?_cons_zero, List.getElem?_cons_succ, List.set_cons_zero, List.set_cons_succ, startD, List.map_cons, List.map_nil, List.cons_append, List.nil_append, List.length_cons, List.length_nil, List.replicate_succ, List.replicate_zero, Nat.reduceSub, Nat.reduceAdd, Nat.zero_add, wipeD, keyD, gSeq, gPlain, gNil, gYield, gFor, dTupP, dRngP, dCallG, sForG, dLcG, GE.at, dTupRg, dStar, sPutT, dKeysT, dDicT0, dDicT1, sAsgL, dMake, dMakeF, dProp, dMeth, dCallO, dOp3, dLenO, dStrO, sFld, sFldAug, noXs, sRaise0, sRaise1, sTry, goneE, dCntB, rSl, seqL]
    refine rEq_i ?_
    dsimp only
    by_cases h0 : r = 0
    · rw [if_pos (by rw [h0]; decide)]
      rw [c1]
      refine addI ?_
      dsimp only
      rw [c3]
      refine rAdd_l (by rw [List.length_map, List.length_map]; omega) ?_
      rw [← List.map_append, c2]
      refine rAdd_l (by rw [List.length_map, List.length_map, List.length_append]; omega) ?_
      rw [← List.map_append]
      simp only [seqA, Option.bind_some, asStrs_map]
      exact out (mm (mm m1 m3) m2) (by rw [wlS_app, wlS_app]; omega)
    · rw [if_neg (by simpa using h0)]
      exact nk _ _ ⟨rfl, rfl⟩
  obtain ⟨rfl, rfl⟩ := q
  refine seq_post (fun ρ M5 => ρ = [some (.ref a), some (.str z), some (.lst (W.map D.str)), some (.int (i : Nat)), some (.int r), none, none] ∧ M5 = M4) (fun ρ M5 q => ?_) (fun K nk => ?_)
  rotate_left
  · simp only [dJoin, sSeq, sRet, sRetN, sNext, sIf, sAsg, sPar, sPar3, sSetI, sAug, sAugI, sDrop, sBreak, sCont, dOp, dUn, dCons, dNil, dFn, dC, dTup, dLst, dLstM, dIf, dTest, dTru, dAnd, dOr, dNot, dAndV, dOrV, dNotE, dChain, dSl, dNoPart, dPart, dSeq, dEnum, dZip, dRng1, dRng2, dYes, dCall, dMt, dVar, dDic0, dDic1, put_nm, put_tp, puts_nil, puts_cons, List.getElem?_cons_zero, List.getElem?_cons_succ, List.set_cons_zero, List.set_cons_succ, startD, List.map_cons, List.map_nil, List.cons_append, List.nil_append, List.length_cons, List.length_nil, List.replicate_succ, List.replicate_zero, Nat.reduceSub, Nat.reduceAdd, Nat.zero_add, wipeD, keyD, gSeq, gPlain, gNil, gYield, gFor, dTupP, dRngP, dCallG, sForG, dLcG, GE.at, dTupRg, dStar, sPutT, dKeysT, dDicT0, dDicT1, sAsgL, dMake, dMakeF, dProp, dMeth, dCallO, dOp3, dLenO, dStrO, sFld, sFldAug, noXs, sRaise0, sRaise1, sTry, goneE, dCntB, rSl, seqL]
    refine rEq_i ?_
    dsimp only
    by_cases h0 : r = 1
    · rw [if_pos (by rw [h0]; decide)]
      rw [c1, c2]
      refine rAdd_l (by rw [List.length_map, List.length_map]; omega) ?_
      rw [← List.map_append]
      simp only [seqA, Option.bind_some, asStrs_map]
      exact out (mm m2 m1) (by rw [wlS_app]; omega)
    · rw [if_neg (by simpa using h0)]
      exact nk _ _ ⟨rfl, rfl⟩
  obtain ⟨rfl, rfl⟩ := q
  refine seq_post (fun ρ M6 => ρ = [some (.ref a), some (.str z), some (.lst (W.map D.str)), some (.int (i : Nat)), some (.int r), none, none] ∧ M6 = M5) (fun ρ M6 q => ?_) (fun K nk => ?_)
  rotate_left
  · simp only [dJoin, sSeq, sRet, sRetN, sNext, sIf, sAsg, sPar, sPar3, sSetI, sAug, sAugI, sDrop, sBreak, sCont, dOp, dUn, dCons, dNil, dFn, dC, dTup, dLst, dLstM, dIf, dTest, dTru, dAnd, dOr, dNot, dAndV, dOrV, dNotE, dChain, dSl, dNoPart, dPart, dSeq, dEnum, dZip, dRng1, dRng2, dYes, dCall, dMt, dVar, dDic0, dDic1, put_nm, put_tp, puts_nil, puts_cons, List.getElem?_cons_zero, List.getElem?_cons_succ, List.set_cons_zero, List.set_cons_succ, startD, List.map_cons, List.map_nil, List.cons_append, List.nil_append, List.length_cons, List.length_nil, List.replicate_succ, List.replicate_zero, Nat.reduceSub, Nat.reduceAdd, Nat.zero_add, wipeD, keyD, gSeq, gPlain, gNil, gYield, gFor, dTupP, dRngP, dCallG, sForG, dLcG, GE.at, dTupRg, dStar, sPutT, dKeysT, dDicT0, dDicT1, sAsgL, dMake, dMakeF, dProp, dMeth, dCallO, dOp3, dLenO, dStrO, sFld, sFldAug, noXs, sRaise0, sRaise1, sTry, goneE, dCntB, rSl, seqL]
    refine rEq_i ?_
    dsimp only
    by_cases h0 : r = 2
    · rw [if_pos (by rw [h0]; decide)]
      rw [c1]
      refine addI ?_
      dsimp only
      rw [c4]
      refine rAdd_l (by rw [List.length_map, List.length_map]; omega) ?_
      rw [← List.map_append]
      simp only [seqA, Option.bind_some, asStrs_map]
      exact out (mm m1 m4) (by rw [wlS_app]; omega)
    · rw [if_neg (by simpa using h0)]
      exact nk _ _ ⟨rfl, rfl⟩
  obtain ⟨rfl, rfl⟩ := q
  refine seq_post (fun ρ M7 => ρ = [some (.ref a), some (.str z), some (.lst (W.map D.str)), some (.int (i : Nat)), some (.int r), none, none] ∧ M7 = M6) (fun ρ M7 q => ?_) (fun K nk => ?_)
  rotate_left
  · simp only [dJoin, sSeq, sRet, sRetN, sNext, sIf, sAsg, sPar, sPar3, sSetI, sAug, sAugI, sDrop, sBreak, sCont, dOp, dUn, dCons, dNil, dFn, dC, dTup, dLst, dLstM, dIf, dTest, dTru, dAnd, dOr, dNot, dAndV, dOrV, dNotE, dChain, dSl, dNoPart, dPart, dSeq, dEnum, dZip, dRng1, dRng2, dYes, dCall, dMt, dVar, dDic0, dDic1, put_nm, put_tp, puts_nil, puts_cons, List.getElem?_cons_zero, List.getElem?_cons_succ, List.set_cons_zero, List.set_cons_succ, startD, List.map_cons, List.map_nil, List.cons_append, List.nil_append, List.length_cons, List.length_nil, List.replicate_succ, List.replicate_zero, Nat.reduceSub, Nat.reduceAdd, Nat.zero_add, wipeD, keyD, gSeq, gPlain, gNil, gYield, gFor, dTupP, dRngP, dCallG, sForG, dLcG, GE.at, dTupRg, dStar, sPutT, dKeysT, dDicT0, dDicT1, sAsgL, dMake, dMakeF, dProp, dMeth, dCallO, dOp3, dLenO, dStrO, sFld, sFldAug, noXs, sRaise0, sRaise1, sTry, goneE, dCntB, rSl, seqL]
    refine rEq_i ?_
    dsimp only
    by_cases h0 : r = 3
    · rw [if_pos (by rw [h0]; decide)]
      rw [c2]
      refine rAdd_l (by rw [List.length_map, List.length_map]; omega) ?_
      rw [← List.map_append]
      simp only [seqA, Option.bind_some, asStrs_map]
      exact out (mm (fun y hy => hy) m2) (by rw [wlS_app]; omega)
    · rw [if_neg (by simpa using h0)]
      exact nk _ _ ⟨rfl, rfl⟩
  obtain ⟨rfl, rfl⟩ := q
  simp only [dSlT, sSeq, sRet, sRetN, sNext, sIf, sAsg, sPar, sPar3, sSetI, sAug, sAugI, sDrop, sBreak, sCont, dOp, dUn, dCons, dNil, dFn, dC, dTup, dLst, dLstM, dIf, dTest, dTru, dAnd, dOr, dNot, dAndV, dOrV, dNotE, dChain, dSl, dNoPart, dPart, dSeq, dEnum, dZip, dRng1, dRng2, dYes, dCall, dMt, dVar, dDic0, dDic1, put_nm, put_tp, puts_nil, puts_cons, List.getElem?_cons_zero, List.getElem?_cons_succ, List.set_cons_zero, List.set_cons_succ, startD, List.map_cons, List.map_nil, List.cons_append, List.nil_append, List.length_cons, List.length_nil, List.replicate_succ, List.replicate_zero, Nat.reduceSub, Nat.reduceAdd, Nat.zero_add, wipeD, keyD, gSeq, gPlain, gNil, gYield, gFor, dTupP, dRngP, dCallG, sForG, dLcG, GE.at, dTupRg, dStar, sPutT, dKeysT, dDicT0, dDicT1, sAsgL, dMake, dMakeF, dProp, dMeth, dCallO, dOp3, dLenO, dStrO, sFld, sFldAug, noXs, sRaise0, sRaise1, sTry, goneE, dCntB, rLen]
  refine ⟨by omega, addI ?_⟩
  refine use_draw3 (hD : Dk M7 a c (k + 3 + 1)) (by omega) (by omega) fun r1 M8 hD8 hK8 _ _ => ?_
  refine ⟨by decide, use_draw3 (l := 12) (hD8 : Dk M8 a c (k + 2 + 1)) (by decide) (by decide) fun r2 M9 hD9 hK9 t0 t1 => ?_⟩
  have hl : signs5.length = 12 := rfl
  refine rIx_any (L := signs5.map D.str) t0 (by rw [List.length_map]; omega) fun d hd => ?_
  obtain ⟨s, hs, rfl⟩ := List.mem_map.mp hd
  obtain ⟨s1, s2, s3⟩ := signs5_all s hs
  dsimp only
  refine ⟨by omega, ?_⟩
  refine use_draw3 (l := 2) (hD9 : Dk M9 a c (k + 1 + 1)) (by decide) (by decide) fun r3 M10 hD10 hK10 u0 u1 => ?_
  have hmul : txB 3 (Txt.mul s r3) = true := by
    have : r3 = 0 ∨ r3 = 1 := by omega
    rcases this with rfl | rfl
    · exact s2
    · exact s3
  obtain ⟨v1, v2⟩ := txB_iff.mp hmul
  refine ⟨s1, by omega, by omega, ?_⟩
  have q1 := cutS_length z none (some r1)
  refine ⟨by omega, ?_⟩
  refine use_draw3 (l := 2) (hD10 : Dk M10 a c (k + 1)) (by decide) (by decide) fun r4 M11 hD11 hK11 _ _ => ?_
  refine addI ?_
  dsimp only
  have q2 := cutS_length z (some (r1 + r4)) none
  refine ⟨by omega, ?_⟩
  have q3 : (cutS z none (some r1) ++ Txt.mul s r3).length ≤ n + 3 := by rw [Str.length_append]; omega
  refine ⟨by omega, h _ _ hD11 ((((hK.trans hK8).trans hK9).trans hK10).trans hK11) (txB_iff.mpr ⟨?_, sm_app (sm_app (sm_cut hz2 _ _) v2) (sm_cut hz2 _ _)⟩)⟩
  rw [Str.length_append]
  omega
end DL
namespace DL
open PySem PySem.Spec PyProof.Rows L2 TL
def notS : D → Bool
  | .non => true
  | .bl _ => true
  | .int _ => true
  | .tup _ => true
  | .lst _ => true
  | .dic _ _ => true
  | _ => false
def ItOk (d : D) : Prop := (∃ z, d = .str z ∧ txB 20000 z = true) ∨ (notS d = true ∧ Fin2 d 300000)
def Its (ds : List D) : Prop := ∀ d ∈ ds, ItOk d
/-- the list of things -/
structure Th (M : MS) (a c p : Addr) (k n : Nat) : Prop where
  dk : Dk M a c k
  l : ∃ L, M.map p = some (.lst L) ∧ L.length ≤ n ∧ Its L
  na : p ≠ a
  nc : p ≠ c
theorem Th.mono {M : MS} {a c p : Addr} {k n k' n' : Nat} (T : Th M a c p k n) (hk : k' ≤ k) (hn : n ≤ n') : Th M a c p k' n' := by
  obtain ⟨L, e, hL, hI⟩ := T.l
  exact ⟨T.dk.mono hk, ⟨L, e, by omega, hI⟩, T.na, T.nc⟩
theorem Th.kp {M M' : MS} {a c p : Addr} {k n k' : Nat} (T : Th M a c p k n) (hD : Dk M' a c k') (hK : Kp a c M M') : Th M' a c p k' n := by
  obtain ⟨L, e, hL, hI⟩ := T.l
  exact ⟨hD, ⟨L, hK.keep T.na T.nc e, hL, hI⟩, T.na, T.nc⟩
theorem txB_len {n : Nat} {z : Str} (h : txB n z = true) : z.length ≤ n := by
  unfold txB at h
  simp only [Bool.and_eq_true, decide_eq_true_eq] at h
  exact h.1
theorem cs_smp (st : CSt) (h : st.1.length ≤ 10 ∧ st.2.1.length ≤ 40 ∧ st.2.2.length ≤ 10) : smp 4 (csD st) = true := by
  obtain ⟨h1, h2, h3⟩ := h
  have hi : ∀ (n : Nat) (ns : List Int), (ns.map D.int).all (smp n) = true := fun n ns => List.all_eq_true.mpr fun x hx => by
    obtain ⟨i, _, rfl⟩ := List.mem_map.mp hx
    cases n <;> rfl
  have hw : (st.2.1.map wayD).all (smp 2) = true := List.all_eq_true.mpr fun x hx => by
    obtain ⟨w, _, rfl⟩ := List.mem_map.mp hx
    rfl
  simp only [csD, stateD, smp, List.all_cons, List.all_nil, hi, hw, Bool.and_true, List.length_map, decide_eq_true (show st.1.length ≤ 1000 by omega), decide_eq_true (show st.2.1.length ≤ 1000 by omega), decide_eq_true (show st.2.2.length ≤ 1000 by omega)]
  rfl
theorem cs_still (st : CSt) : still (csD st) = true := by
  simp only [csD, stateD, still, stills, stills_ints, Bool.and_true, Bool.true_and]
  exact stills_ways _
end DL
namespace DL
open PySem PySem.Spec PyProof.Rows L2
def wTryU (K : PySem.W.Frag) (c : Value) (ts : L2.TS) (Wout : WX) (D : Ends) : WX := fun cls d σ H => ∃ b, PySem.W.exmOne K cls c = some b ∧ (b = false → Wout cls d σ H) ∧ (b = true → ts D σ H)
section
variable {X : Cx} {x : Str} {c : Value} {body suite : List Stmt} {b₀ : Stmt} {np pos pos' : Pos} {tb : WX → L2.TS} {ts : L2.TS} {Wout : WX}
theorem ps_tryU (stk : X.stack = X.env :: X.outer) (frm : X.env.frame = some X.env.locals) (cn : Names X x c) (tk : Takes X Wout) (hex : X.ex = [])
    (inBody : ∀ (W : WX) (pn : List (Addr × Obj)) (xe : Value → Shared → Prop), Takes (X.tr pn xe) W → PassesOwn (model X.prog X.w) X.A X.env xe → PSs (X.tr pn xe) body (tb W))
    (inSuite : ∀ (a : Addr) (pn : List (Addr × Obj)), PSs (hotX X a pn) (b₀ :: suite) ts) :
    PS X (.Try body [.ExceptHandler (some (.Name x np)) none (b₀ :: suite) pos'] [] [] pos) (fun D σ H => tb (wTryU X.K c ts Wout D) D σ H) := by
  refine ⟨fun pins s σ H D I wish => ?_⟩
  have ok := I.ok
  have frA : X.A.frames = some (X.env :: X.outer) := ok.frames.trans (congrArg some stk)
  let xb : Value → Shared → Prop := fun u z => wpAny (model X.prog X.w) X.A (noteFrame u X.env) (fun _ z => wpAny (model X.prog X.w) X.A (setFlight u none) (fun _ z => wpAny (model X.prog X.w) X.A (handleBy u X.env [.ExceptHandler (some (.Name x np)) none (b₀ :: suite) pos']) (SP X pins D) X.xe z) X.xe z) X.xe z
  have caught : ∀ u z, XE (X.tr (X.pn ++ pins) xb) (wTryU X.K c ts Wout D) u z → xb u z := by
    intro u z ⟨a, G, z0, pins0, τ, H0, cls, d, eu, J0, new, grow, air, hn, eos, bare, b, hb, wNo, wYes⟩
    subst eu
    have J : Inv X pins τ H0 z0 := Inv.ofTry J0 ok
    rw [show (X.tr (X.pn ++ pins) xb).stack = X.env :: X.outer from stk] at air
    refine Sky.land Zc.steady frA frm air fun h3 air3 grow3 => ?_
    have J3 : Inv X pins τ H0 { z with heap := h3 } := J.landed new air3.1 (grow.trans grow3) eos bare
    obtain ⟨ob3, fv3, g3, zc3, df3⟩ := air3.there
    have H3 := hot_in J3 a
    refine wpAny_handleBy_cons (codeAny_handlers_test ?_) (by intro q; cases q)
    have lt : PySem.W.Looks (model X.prog X.w) h3 (typeOf (.ref a)) cls := fun A Q E s k q => wpAny_typeOf_ref (k _ _ g3) (by rw [zc3.1]; exact q)
    have lm := PySem.W.exm_one (M := model X.prog X.w) J3.kIn lt hb
    have named : ∀ {Q : Value → Shared → Prop} {E : Value → Shared → Prop}, Q c { z with heap := h3 } → wpAny (model X.prog X.w) (X.A.mark (some (.ref a))) (eval (.Name x np) X.env) Q E { z with heap := h3 } := fun {Q E} q => by
      obtain ⟨hg, hdb, hm | ⟨hm, hv, hnn⟩⟩ := cn
      · exact ld_glob (X := hotX X a (X.pn ++ pins)) H3 hg hm q hdb
      · exact ld_blt (X := hotX X a (X.pn ++ pins)) H3 hg hm hv q hnn hdb
    refine named (lm.here ?_)
    cases b with
    | false =>
      show wpAny _ X.A (handleBy (.ref a) X.env []) _ _ _
      refine wpAny_handleBy_nil ?_
      obtain ⟨_, _, _, ob, vs, T, _, _, go, _, dn, h1, _⟩ := id air3
      have on : wpAny (model X.prog X.w) X.A (setFlight (.ref a) X.env.frame) (fun _ y => wpAny (model X.prog X.w) X.A (throw (.ref a) : Sem Flow) (SP X pins D) X.xe y) X.xe { z with heap := h3 } := by
        rw [frm]
        exact HandSPX.setFlight_upZ air3 fun h4 air4 grow4 => wpAny_throw (tk _ _ ⟨a, G, z0, pins, τ, H0, cls, d, rfl, J, new, (grow.trans grow3).trans grow4, .inr (.inr (by rw [stk]; exact air4)), hn, eos, bare, wNo rfl⟩)
      unfold PySem.passOn
      refine wpAny_bind (wpAny_field go dn h1 ?_)
      rw [if_neg (by simp)]
      first
        | exact wpAny_bind (wpAny_pure (wpAny_bind on))
        | exact wpAny_bind on
    | true =>
      refine codeAny_handlers_suite (HandSPX.lands_againZ air3 fun h4 air4 grow4 => ?_)
      have J4 : Inv X pins τ H0 { z with heap := h4 } := J.landed new air4.1 ((grow.trans grow3).trans grow4) eos bare
      have H4 := hot_in J4 a
      refine wpAny_mono ((inSuite a (X.pn ++ pins)).run [] _ _ _ _ H4 (wYes rfl)) (fun f z6 sp => ?_) (fun _ _ q => False.elim q)
      cases f with
      | ret u =>
        obtain ⟨v, τ', H', H6, rv, q⟩ := sp
        exact ⟨_, _, _, hot_out ok H6, rv, q⟩
      | next =>
        obtain ⟨τ', H', H6, q⟩ := sp
        exact ⟨_, _, hot_out ok H6, q⟩
      | brk =>
        obtain ⟨τ', H', H6, q⟩ := sp
        exact ⟨_, _, hot_out ok H6, q⟩
      | cont =>
        obtain ⟨τ', H', H6, q⟩ := sp
        exact ⟨_, _, hot_out ok H6, q⟩
  refine wpAny_Try_except (wpAny_mono ((inBody (wTryU X.K c ts Wout D) (X.pn ++ pins) xb caught PassesOwn.looking).run [] s σ H D (I.toTry _) wish) (fun f z sp => ?_) fun u z q => q)
  cases f with
  | ret u =>
    obtain ⟨v, τ, H', J, rv, q⟩ := sp
    exact ⟨v, τ, H', J.ofTry ok, rv, q⟩
  | next =>
    obtain ⟨τ, H', J, q⟩ := sp
    exact wpAny_execs_nil ⟨τ, H', J.ofTry ok, q⟩
  | brk =>
    obtain ⟨τ, H', J, q⟩ := sp
    exact ⟨τ, H', J.ofTry ok, q⟩
  | cont =>
    obtain ⟨τ, H', J, q⟩ := sp
    exact ⟨τ, H', J.ofTry ok, q⟩
end
def sTryU (c : Str) (tb : DXs → DS) (ts : DS) (ξ : DXs) : DS := fun Δ ρ M => tb (fun ρ' n fs M' => if subB n c = true then ts Δ ρ' M' else ξ ρ' n fs M') Δ ρ M
section
variable {X : Cx} {O : Og X.K} {ξ : DXs} {c : Str} {body suite : List Stmt} {b₀ : Stmt} {np pos pos' : Pos} {tb : DXs → DS} {ts : DS}
theorem z_tryU (stk : X.stack = X.env :: X.outer) (frm : X.env.frame = some X.env.locals) (hex : X.ex = []) (tk : Tk X O ξ)
    (hg : Gl X c) (hdb : (c == ("__debug__" : Str)) = false) (gC : X.mg c = some (.ref (He.ga X.K c))) (hc : c ∈ clsNames) (hp : presB X.K c = true) (hi : c ∉ insNames)
    (inBody : ∀ (pn : List (Addr × Obj)) (xe : Value → Shared → Prop) (O' : Og X.K) (ξ' : DXs), Tk (X.tr pn xe) O' ξ' → PassesOwn (model X.prog X.w) X.A X.env xe → PSs (X.tr pn xe) body (loS X.K O' (tb ξ')))
    (inSuite : ∀ (a : Addr) (pn : List (Addr × Obj)) (O' : Og X.K), PSs (hotX X a pn) (b₀ :: suite) (loS X.K O' ts)) :
    PS X (.Try body [.ExceptHandler (some (.Name c np)) none (b₀ :: suite) pos'] [] [] pos) (loS X.K O (sTryU c tb ts ξ)) := by
  refine PS.imp (ps_tryU (c := .ref (He.ga X.K c)) (ts := fun D σ H => ∃ O' : Og X.K, loS X.K O' ts D σ H) (tb := fun W D σ H => ∃ (O' : Og X.K) (ξ' : DXs), (∀ cls d σ H, loW X.K O' ξ' cls d σ H → W cls d σ H) ∧ loS X.K O' (tb ξ') D σ H) stk frm ⟨hg, hdb, .inl gC⟩ tk hex
    (fun W pn xe tW pass => ⟨fun pins s σ H D I h => by
      obtain ⟨O', ξ', im, h⟩ := h
      exact (inBody pn xe O' ξ' (Takes.imp tW im) pass).run pins s σ H D I h⟩)
    (fun a pn => ⟨fun pins s σ H D I h => by
      obtain ⟨O', h⟩ := h
      exact (inSuite a pn O').run pins s σ H D I h⟩)) fun D σ H h => ?_
  obtain ⟨F, M, ρ, Δ, A, h, k⟩ := h
  refine ⟨(Og.at X.K F H M).and O, _, fun cls d σ' H' w => ?_, F, M, ρ, Δ, ⟨A.am, A.env, Lm.refl, A.og⟩, h, ⟨fun σ' H' F' M' ρ' l B q => k.nx _ _ _ _ _ l ⟨B.am, B.env, B.og.2⟩ q, k.rt, fun σ' H' F' M' ρ' l B q => k.bk _ _ _ _ _ l ⟨B.am, B.env, B.og.2⟩ q, fun σ' H' F' M' ρ' l B q => k.ct _ _ _ _ _ l ⟨B.am, B.env, B.og.2⟩ q⟩⟩
  obtain ⟨F', M', ρ', m, fs, B, er, q⟩ := w
  refine ⟨subB m c, er.2.1 ▸ exm_at er.1 hc hp hi, fun hb => ?_, fun hb => ?_⟩
  · rw [if_neg (by rw [hb]; exact Bool.false_ne_true)] at q
    exact ⟨F', M', ρ', m, fs, ⟨B.am, B.env, B.og.2⟩, er, q⟩
  · rw [if_pos hb] at q
    refine ⟨(Og.at X.K F H M).and O, F', M', ρ', Δ, B, q, ⟨fun σ' H' F' M' ρ' l B q => ?_, fun v H' q => ?_, fun σ' H' F' M' ρ' l B q => ?_, fun σ' H' F' M' ρ' l B q => ?_⟩⟩
    · exact k.nx _ _ _ _ _ (B.og.1) ⟨B.am, B.env, B.og.2⟩ q
    · exact k.rt v H' (q.le (B.og.1))
    · exact k.bk _ _ _ _ _ (B.og.1) ⟨B.am, B.env, B.og.2⟩ q
    · exact k.ct _ _ _ _ _ (B.og.1) ⟨B.am, B.env, B.og.2⟩ q
end
def dCntS (to te : DE) : DE := fun ρ M Φ => to ρ M fun x M1 => match x with
  | .str a => te ρ M1 fun y M2 => (match y with
    | .str b => Φ (.int (Txt.count a b)) M2
    | _ => False)
  | _ => False
section
variable {X : Cx} {o e : Expr} {to te : DE} {apos pos : Pos}
variable {O : Og X.K}
theorem q_cntS (ho : PE X o (lo X.K O to)) (he : PE X e (lo X.K O te)) (hs : starEach [e] X.env = [(false, eval e X.env)]) (hbase : attributeBase o "count" X.env (eval o X.env) = eval o X.env) (hline : (apos.endLine == pos.line) = true) :
    PE X (.Call (.Attribute o "count" apos) [e] [] pos) (lo X.K O (dCntS to te)) :=
  PE.imp (pe_m1 F.slot_str_count F.type_str_count mt_count ho he hs hbase hline) fun σ H Q h => by
    obtain ⟨F, M, ρ, Φ, A, h, k⟩ := h
    refine ⟨F, M, ρ, _, A, h, fun v H1 ⟨F1, M1, x, l1, a1, r1, h1⟩ => ?_⟩
    dsimp only at h1
    split at h1
    · rename_i a
      obtain rfl : v = .str a := r1
      refine ⟨⟨a, rfl⟩, F1, M1, ρ, _, (A.go l1 a1), h1, fun w H2 ⟨F2, M2, y, l2, a2, r2, h2⟩ => ?_⟩
      dsimp only at h2
      split at h2
      · rename_i b
        obtain rfl : w = .str b := r2
        exact ⟨a, b, rfl, rfl, k _ _ (((loQ.here a2 (show Rep X.K F2 H2 (.int (Txt.count a b)) (.int (Txt.count a b)) from rfl) h2).le l2).le l1)⟩
      · exact h2.elim
    · exact h1.elim
end
end DL
namespace DL
open PySem PySem.Spec PyProof.Rows L2 TL
theorem numL_ok : ∀ n : Nat, n < 601 → numO (numL n) = some n := by decide +kernel
theorem numO_num {i : Int} (h0 : 0 ≤ i) (h1 : i ≤ 600) : numO (numT i).cps.toList = some i.toNat := by
  have e : (numT i).cps.toList = numL i.toNat := tl_numT h0
  rw [e]
  exact numL_ok _ (by omega)
theorem allO_map (l : List Nat) : allO (l.map some) = some l := by
  induction l with
  | nil => rfl
  | cons n l ih => rw [List.map_cons, allO, ih]; rfl
theorem split_nums {ns : List Int} (h : intsIn ns 600) (hl : 1 ≤ ns.length) : Txt.split (numsT ns) comT = ns.map numT :=
  split_join (y := comT) (s := 44) (S := []) tl_com (by decide +kernel) (fun e => by rw [List.map_eq_nil_iff.mp e] at hl; simp at hl) fun p hp => by
    obtain ⟨i, hi, rfl⟩ := List.mem_map.mp hp
    exact numT_free (h i hi).1 (.inl (by decide))
theorem numsO_nums {ns : List Int} (h : intsIn ns 600) (hl : 1 ≤ ns.length) : numsO (numsT ns) (Str.ofString ",") = some (ns.map Int.toNat) := by
  unfold numsO
  rw [split_nums h hl, List.map_map, ← allO_map, List.map_map]
  congr 1
  exact List.map_congr_left fun i hi => numO_num (h i hi).1 (h i hi).2
theorem toI_toNat {ns : List Int} (h : intsIn ns 600) : toI (ns.map Int.toNat) = ns := by
  unfold toI
  rw [List.map_map]
  conv => rhs; rw [← List.map_id ns]
  exact List.map_congr_left fun i hi => by
    have := (h i hi).1
    show ((i.toNat : Nat) : Int) = i
    omega
theorem split_way {w : Int × Int} (hw : 0 ≤ w.1 ∧ 0 ≤ w.2) : Txt.split (wayT w) dashT = [numT w.1, numT w.2] := by
  rw [wayT_join]
  refine split_join (y := dashT) (s := 45) (S := []) tl_dash (by decide +kernel) (by simp) fun p hp => ?_
  simp only [List.mem_cons, List.not_mem_nil, or_false] at hp
  rcases hp with rfl | rfl
  · exact numT_free hw.1 (.inl (by decide))
  · exact numT_free hw.2 (.inl (by decide))
theorem numsO_way {w : Int × Int} (h : 0 ≤ w.1 ∧ w.1 ≤ 600 ∧ 0 ≤ w.2 ∧ w.2 ≤ 600) : numsO (wayT w) (Str.ofString "-") = some [w.1.toNat, w.2.toNat] := by
  unfold numsO
  rw [split_way ⟨h.1, h.2.2.1⟩]
  show allO [numO (numT w.1).cps.toList, numO (numT w.2).cps.toList] = _
  rw [numO_num h.1 h.2.1, numO_num h.2.2.1 h.2.2.2]
  rfl
theorem way_for {w : Int × Int} (h : 0 ≤ w.1 ∧ w.1 ≤ 600 ∧ 0 ≤ w.2 ∧ w.2 ≤ 600) : wayT w ≠ Str.ofString "for" := fun e => by
  have h1 := numsO_way h
  rw [e] at h1
  have h2 : numsO (Str.ofString "for") (Str.ofString "-") = none := by decide +kernel
  rw [h2] at h1
  cases h1
theorem split_corT {r : List Int} {w : List (Int × Int)} {u : List Int} (hs : StOk r w u) : Txt.split (corT r w u) spT = wordsT r w u := by
  have nsp : ∀ {c : List Int}, intsIn c 600 → 32 ∉ tl (numsT c) := fun {c} hc hm => by
    unfold numsT at hm
    rw [join_eq, tl_join, tl_com] at hm
    rcases mem_joinL hm with z | ⟨q, hq, hc2⟩
    · simp at z
    · obtain ⟨y, hy, rfl⟩ := List.mem_map.mp hq
      obtain ⟨i, hi, rfl⟩ := List.mem_map.mp hy
      exact numT_free (hc i hi).1 (.inl (by decide)) hc2
  have wsp : ∀ {w : Int × Int}, 0 ≤ w.1 ∧ 0 ≤ w.2 → 32 ∉ tl (wayT w) := fun {w} hw hm => by
    unfold wayT at hm
    rw [tl_append, tl_append, tl_dash] at hm
    rcases List.mem_append.mp hm with hm | hm
    · rcases List.mem_append.mp hm with hm | hm
      · exact numT_free hw.1 (.inl (by decide)) hm
      · simp at hm
    · exact numT_free hw.2 (.inl (by decide)) hm
  refine split_join (y := spT) (s := 32) (S := []) tl_sp (by decide +kernel) (by unfold wordsT; simp) fun p hp => ?_
  unfold wordsT at hp
  rcases List.mem_cons.mp hp with rfl | hp
  · exact nsp hs.ri
  · rcases List.mem_append.mp hp with hp | hp
    · obtain ⟨v, hv, rfl⟩ := List.mem_map.mp hp
      exact wsp ⟨(hs.wi v hv).1, (hs.wi v hv).2.2.1⟩
    · simp only [List.mem_cons, List.not_mem_nil, or_false] at hp
      rcases hp with rfl | rfl
      · exact tl_for
      · exact nsp hs.ui
theorem rowO_nums {r : List Int} (h : intsIn r 50) (h1 : 2 ≤ r.length) (h2 : r.length ≤ 10) : rowO (numsT r) = some r := by
  have h6 : intsIn r 600 := fun x hx => ⟨(h x hx).1, by have := (h x hx).2; omega⟩
  unfold rowO
  rw [numsO_nums h6 (by omega)]
  dsimp only
  rw [if_pos, toI_toNat h6]
  rw [List.length_map, Bool.and_eq_true, Bool.and_eq_true, decide_eq_true_eq, decide_eq_true_eq]
  refine ⟨⟨h1, h2⟩, List.all_eq_true.mpr fun x hx => ?_⟩
  obtain ⟨i, hi, rfl⟩ := List.mem_map.mp hx
  have := h i hi
  rw [decide_eq_true_eq]
  omega
theorem wantsO_nums {n : Nat} {u : List Int} (h : intsIn u 500) (hl : u.length = n) (hn : 1 ≤ n) : wantsO n (numsT u) = some u := by
  have h6 : intsIn u 600 := fun x hx => ⟨(h x hx).1, by have := (h x hx).2; omega⟩
  unfold wantsO
  rw [numsO_nums h6 (by omega)]
  dsimp only
  rw [if_pos, toI_toNat h6]
  rw [List.length_map, Bool.and_eq_true, decide_eq_true_eq]
  refine ⟨List.all_eq_true.mpr fun x hx => ?_, hl⟩
  obtain ⟨i, hi, rfl⟩ := List.mem_map.mp hx
  have := h i hi
  rw [decide_eq_true_eq]
  omega
theorem wayO_way {n : Nat} {w : Int × Int} (h0 : 0 ≤ w.1) (h1 : w.1 < w.2) (h2 : w.2 < (n : Int)) (hn : n ≤ 10) : wayO n (wayT w) = some w := by
  unfold wayO
  rw [numsO_way ⟨h0, by omega, by omega, by omega⟩]
  dsimp only
  rw [if_pos (by omega)]
  congr 1
  exact Prod.ext (by show ((w.1.toNat : Nat) : Int) = w.1; omega) (by show ((w.2.toNat : Nat) : Int) = w.2; omega)
theorem walk_ways {row : List Int} (hn : row.length ≤ 10) : ∀ (ws : List (Int × Int)) (rest : List Str) (k : Nat) (acc : List (Int × Int)), waysIn ws (row.length : Nat) → acc.length + ws.length ≤ 40 →
    walkS row (ws.map wayT ++ rest) k acc = walkS row rest (k + ws.length) (acc ++ ws)
  | [], rest, k, acc, _, _ => by simp
  | w :: ws, rest, k, acc, hw, hl => by
    obtain ⟨a, b, c⟩ := hw w List.mem_cons_self
    rw [List.length_cons] at hl
    rw [List.map_cons, List.cons_append, walkS, if_neg (way_for ⟨a, by omega, by omega, by omega⟩), wayO_way a b (by omega) hn]
    dsimp only
    rw [if_neg (by omega), walk_ways hn ws rest (k + 1) (acc ++ [w]) (fun x hx => hw x (List.mem_cons_of_mem _ hx)) (by rw [List.length_append, List.length_cons, List.length_nil]; omega), List.append_assoc, List.length_cons, show k + 1 + ws.length = k + (ws.length + 1) by omega]
    rfl
/-- what is written is read again -/
theorem prs_corT {st : CSt} (ok : CorOk st) : prs (corT st.1 st.2.1 st.2.2) = .ok st := by
  have r1 := ok.r1
  have r2 := ok.r2
  unfold prs
  have e : Txt.split (corT st.1 st.2.1 st.2.2) (Str.ofString " ") = wordsT st.1 st.2.1 st.2.2 := split_corT ok.stOk
  rw [e]
  unfold wordsT
  dsimp only
  rw [rowO_nums ok.ri r1 r2]
  dsimp only
  rw [walk_ways r2 _ _ _ _ ok.wi (by simpa using ok.w), walkS, if_pos rfl]
  simp only [tailS]
  rw [wantsO_nums ok.ui ok.u (by omega)]
  rfl
theorem joinL_spl (s : Nat) : ∀ (l acc : List Nat), joinL [s] (spl [s] 0 acc l) = acc ++ l
  | [], acc => by rw [spl_nil, List.append_nil]; rfl
  | c :: r, acc => by
    cases h : pre [s] (c :: r) with
    | true =>
      have hc : c = s := by
        unfold pre at h
        simpa using h
      rw [spl_hit h]
      have ih := joinL_spl s r []
      rw [show [s].length - 1 = 0 from rfl]
      cases e : spl [s] 0 [] r with
      | nil =>
        exfalso
        have key : ∀ (l acc : List Nat), spl [s] 0 acc l ≠ [] := fun l => by
          induction l with
          | nil => intro acc; rw [spl_nil]; simp
          | cons x l ih2 =>
            intro acc
            cases h2 : pre [s] (x :: l) with
            | true => rw [spl_hit h2]; simp
            | false => rw [spl_miss h2]; exact ih2 _
        exact key _ _ e
      | cons p ps =>
        rw [e] at ih
        show acc ++ ([s] ++ joinL [s] (p :: ps)) = _
        rw [ih, hc]
        rfl
    | false =>
      rw [spl_miss h, joinL_spl s r, List.append_assoc]
      rfl
theorem join_split {z y : Str} {s : Nat} (hy : tl y = [s]) (hk : y.cps.all (· < 256) = true) : Txt.join y (Txt.split z y) = z := by
  refine TL.ext_tl ?_
  rw [join_eq, tl_join, split_spl z y (by rw [hy]; simp) (kind_ok hk), hy, joinL_spl]
  rfl
theorem digB_all {l : List Nat} (h : l.all digB = true) : NumText.AllDigits l := fun c hc => by
  have := List.all_eq_true.mp h c hc
  unfold digB at this
  simpa using this
theorem numO_back {l : List Nat} {n : Nat} (h : numO l = some n) : l = numL n := by
  unfold numO at h
  split at h
  · rename_i hc
    simp only [Bool.and_eq_true, decide_eq_true_eq] at hc
    split at h
    · cases h
    · rename_i hz
      injection h with h
      subst h
      have hd := digB_all hc.2
      have hh : l.length - 1 = 0 ∨ ∃ c r, l = c :: r ∧ 49 ≤ c := by
        cases l with
        | nil => exact .inl rfl
        | cons c r =>
          have h48 := (hd c List.mem_cons_self).1
          by_cases e : c = 48
          · left
            have : c :: r = [48] := Classical.byContradiction fun z => hz ⟨by rw [e]; rfl, z⟩
            rw [this]; rfl
          · exact .inr ⟨c, r, rfl, by omega⟩
      have := NumText.toDigits_digitsVal (l.length - 1) l (by omega) hd hh
      unfold numL
      rw [this, List.map_map]
      conv => lhs; rw [← List.map_id l]
      refine List.map_congr_left fun c hc2 => ?_
      have h1 := hd c hc2
      show c = (Char.ofNat c).toNat
      have key : ∀ c, c < 58 → (Char.ofNat c).toNat = c := by decide
      exact (key c (by omega)).symm
  · cases h
theorem numO_text {w : Str} {n : Nat} (h : numO w.cps.toList = some n) : w = numT (n : Nat) := by
  refine TL.ext_tl ?_
  rw [tl_numT (Int.natCast_nonneg n), Int.toNat_natCast]
  exact numO_back h
theorem numsO_back {w s : Str} {c : Nat} {ns : List Nat} (hy : tl s = [c]) (hk : s.cps.all (· < 256) = true) (h : numsO w s = some ns) : w = Txt.join s ((toI ns).map numT) := by
  have e := allO_some h
  have e2 : Txt.split w s = (toI ns).map numT := by
    have hl := congrArg List.length e
    rw [List.length_map, List.length_map] at hl
    unfold toI
    refine List.ext_getElem? fun i => ?_
    have ei := congrArg (fun l => l[i]?) e
    simp only [List.getElem?_map] at ei ⊢
    cases hw : (Txt.split w s)[i]? with
    | none =>
      rw [hw] at ei
      cases hn : ns[i]? with
      | none => rfl
      | some n => rw [hn] at ei; cases ei
    | some p =>
      rw [hw] at ei
      cases hn : ns[i]? with
      | none => rw [hn] at ei; cases ei
      | some n =>
        rw [hn] at ei
        have := numO_text (Option.some.inj ei)
        rw [this]
        rfl
  rw [← e2]
  exact (join_split hy hk).symm
theorem rowO_back {w : Str} {r : List Int} (h : rowO w = some r) : w = numsT r ∧ 2 ≤ r.length ∧ r.length ≤ 10 ∧ intsIn r 50 := by
  unfold rowO at h
  split at h
  · rename_i ns hn
    split at h
    · rename_i hc
      injection h with h
      subst h
      simp only [Bool.and_eq_true, decide_eq_true_eq] at hc
      have hl : (toI ns).length = ns.length := by unfold toI; rw [List.length_map]
      refine ⟨numsO_back tl_com (by decide +kernel) hn, by omega, by omega, fun x hx => ?_⟩
      obtain ⟨n, hn2, rfl⟩ := List.mem_map.mp hx
      have := List.all_eq_true.mp hc.2 n hn2
      rw [decide_eq_true_eq] at this
      exact ⟨Int.natCast_nonneg n, by omega⟩
    · cases h
  · cases h
theorem wantsO_back {n : Nat} {w : Str} {u : List Int} (h : wantsO n w = some u) : w = numsT u ∧ u.length = n ∧ intsIn u 500 := by
  unfold wantsO at h
  split at h
  · rename_i ns hn
    split at h
    · rename_i hc
      injection h with h
      subst h
      simp only [Bool.and_eq_true, decide_eq_true_eq] at hc
      have hl : (toI ns).length = ns.length := by unfold toI; rw [List.length_map]
      refine ⟨numsO_back tl_com (by decide +kernel) hn, by omega, fun x hx => ?_⟩
      obtain ⟨n, hn2, rfl⟩ := List.mem_map.mp hx
      have := List.all_eq_true.mp hc.1 n hn2
      rw [decide_eq_true_eq] at this
      exact ⟨Int.natCast_nonneg n, by omega⟩
    · cases h
  · cases h
theorem wayO_back {n : Nat} {w : Str} {x : Int × Int} (h : wayO n w = some x) : w = wayT x ∧ 0 ≤ x.1 ∧ x.1 < x.2 ∧ x.2 < (n : Int) := by
  unfold wayO at h
  split at h
  · rename_i a b hn
    split at h
    · rename_i hc
      injection h with h
      subst h
      refine ⟨?_, Int.natCast_nonneg a, by show (a : Int) < (b : Int); omega, by show (b : Int) < (n : Int); omega⟩
      rw [wayT_join]
      exact numsO_back tl_dash (by decide +kernel) hn
    · cases h
  · cases h
theorem walkS_back {row : List Int} : ∀ (l : List Str) (k : Nat) (acc : List (Int × Int)) (st : CSt), walkS row l k acc = .ok st → acc.length ≤ 40 → ∃ ws us, st = (row, acc ++ ws, us) ∧ l = ws.map wayT ++ [forT, numsT us] ∧ waysIn ws (row.length : Nat) ∧ (acc ++ ws).length ≤ 40 ∧ us.length = row.length ∧ intsIn us 500
  | [], _, _, _, h, _ => by cases h
  | w :: r, k, acc, st, h, hl => by
    rw [walkS] at h
    split at h
    · rename_i hf
      cases r with
      | nil => cases h
      | cons u r2 =>
        simp only [tailS] at h
        cases hw : wantsO row.length u with
        | none => rw [hw] at h; cases h
        | some us =>
          rw [hw] at h
          dsimp only at h
          split at h
          · rename_i he
            injection h with h
            obtain ⟨b1, b2, b3⟩ := wantsO_back hw
            refine ⟨[], us, by rw [List.append_nil]; exact h.symm, ?_, fun x hx => (List.not_mem_nil hx).elim, by rw [List.append_nil]; exact hl, b2, b3⟩
            rw [hf, b1, List.isEmpty_iff.mp he]
            rfl
          · cases h
    · cases hy : wayO row.length w with
      | none => rw [hy] at h; cases h
      | some x =>
        rw [hy] at h
        dsimp only at h
        split at h
        · cases h
        · obtain ⟨ws, us, e1, e2, e3, e4, e5, e6⟩ := walkS_back r (k + 1) (acc ++ [x]) st h (by rw [List.length_append, List.length_cons, List.length_nil]; omega)
          obtain ⟨b1, b2, b3, b4⟩ := wayO_back hy
          refine ⟨x :: ws, us, by rw [e1, List.append_assoc]; rfl, by rw [e2, b1]; rfl, fun y hy2 => ?_, by rw [List.append_assoc] at e4; exact e4, e5, e6⟩
          rcases List.mem_cons.mp hy2 with rfl | hy2
          · exact ⟨b2, b3, by omega⟩
          · exact e3 y hy2
theorem prs_back {z : Str} {st : CSt} (h : prs z = .ok st) : CorOk st ∧ corT st.1 st.2.1 st.2.2 = z := by
  unfold prs at h
  cases hs : Txt.split z (Str.ofString " ") with
  | nil => rw [hs] at h; cases h
  | cons w0 r =>
    rw [hs] at h
    dsimp only at h
    cases hr : rowO w0 with
    | none => rw [hr] at h; cases h
    | some row =>
      rw [hr] at h
      dsimp only at h
      obtain ⟨ws, us, e1, e2, e3, e4, e5, e6⟩ := walkS_back _ _ _ _ h (by simp)
      obtain ⟨b1, b2, b3, b4⟩ := rowO_back hr
      rw [List.nil_append] at e1 e4
      subst e1
      refine ⟨⟨b2, b3, e5, e4, b4, e6, e3⟩, ?_⟩
      have ej := join_split (z := z) (y := Str.ofString " ") tl_sp (by decide +kernel)
      rw [hs, e2, b1] at ej
      exact ej
end DL
namespace DL
open PySem PySem.Spec PyProof.Rows L2 TL
def sp_law_accepted_right : DSp := fun ds M Φ _ => ∃ z, ds = [.str z] ∧ z.length ≤ 20000 ∧ ∀ M', Ext M M' → Φ (.bl true) M'
def sp_law_words : DSp := fun ds M Φ _ => ∃ (r : List Int) (ws : List (Int × Int)) (u : List Int), ds = [.tup (r.map D.int), .tup (ws.map wayD), .tup (u.map D.int)] ∧ StOk r ws u ∧ Φ (.lst ((wordsT r ws u).map D.str)) M
def sp_law_words_right_v2 : DSp := fun ds M Φ _ => ∃ (a c : Addr) (k : Nat) (st : CSt), ds = [.ref a, .tup (st.1.map D.int), .tup (st.2.1.map wayD), .tup (st.2.2.map D.int)] ∧ CorOk st ∧ Dk M a c (k + 2) ∧ ∀ M', Dk M' a c k → Φ (.bl true) M'
def t_law_accepted_right : DS := (sSeq (sTryU "BadText" (fun ξ1 => (sSeq (sAsg (dCallX 1 sp_parse_corridor_x ξ1 (dCons (dVar 0) dNil)) (.nm 1)) sNext)) (sSeq (sRet (dC (.bl true))) sNext) noXs) (sSeq (sRet (dOp rEq (dCall 3 sp_corridor_text (dCons (dOp rIx (dVar 1) (dC (.int 0))) (dCons (dOp rIx (dVar 1) (dC (.int 1))) (dCons (dOp rIx (dVar 1) (dC (.int 2))) dNil)))) (dVar 0))) sNext))
def t_law_words : DS := (sSeq (sRet (dSplit (dCall 3 sp_corridor_text (dCons (dVar 0) (dCons (dVar 1) (dCons (dVar 2) dNil)))) (dC (.str " ")))) sNext)
def t_law_words_right_v2 : DS := (sSeq (sPar 4 5 (dCons (dCall 3 sp_law_words (dCons (dVar 1) (dCons (dVar 2) (dCons (dVar 3) dNil)))) (dCons (dFn rLen (dCons (dVar 1) dNil)) dNil))) (sSeq (sIf (dOr (dTest (dOp rNe (dFn rLen (dCons (dVar 4) dNil)) (dOp rAdd (dFn rLen (dCons (dVar 2) dNil)) (dC (.int 3))))) (dTest (dOp rNe (dOp rIx (dVar 4) (dUn rNeg (dC (.int 2)))) (dC (.str "for"))))) (sSeq (sRet (dC (.bl false))) sNext) sNext) (sSeq (sIf (dTest (dOp rNe (dCall 3 sp_law_words (dCons (dVar 1) (dCons (dRev (dVar 2)) (dCons (dVar 3) dNil)))) (dOp rAdd (dOp rAdd (dSl (dVar 4) dNoPart (dPart (dC (.int 1)))) (dRev (dSl (dVar 4) (dPart (dC (.int 1))) (dPart (dUn rNeg (dC (.int 2))))))) (dSl (dVar 4) (dPart (dUn rNeg (dC (.int 2)))) dNoPart)))) (sSeq (sRet (dC (.bl false))) sNext) sNext) (sSeq (sIf (dTest (dOp rLt (dFn rLen (dCons (dVar 2) dNil)) (dC (.int 40)))) (sSeq (sAsg (dCall 2 sp_law_draw_v3 (dCons (dVar 0) (dCons (dOp rSub (dVar 5) (dC (.int 1))) dNil))) (.nm 6)) (sSeq (sAsg (dOp rAdd (dOp rAdd (dVar 6) (dC (.int 1))) (dCall 2 sp_law_draw_v3 (dCons (dVar 0) (dCons (dOp rSub (dOp rSub (dVar 5) (dC (.int 1))) (dVar 6)) dNil)))) (.nm 7)) (sSeq (sAsg (dOp rAdd (dOp rAdd (dSl (dVar 4) dNoPart (dPart (dUn rNeg (dC (.int 2))))) (dLst (dCons (dOp rAdd (dOp rAdd (dFn rStr (dCons (dVar 6) dNil)) (dC (.str "-"))) (dFn rStr (dCons (dVar 7) dNil))) dNil))) (dSl (dVar 4) (dPart (dUn rNeg (dC (.int 2)))) dNoPart)) (.nm 8)) (sSeq (sIf (dTest (dOp rNe (dCall 3 sp_law_words (dCons (dVar 1) (dCons (dOp rAdd (dVar 2) (dTup (dCons (dTup (dCons (dVar 6) (dCons (dVar 7) dNil))) dNil))) (dCons (dVar 3) dNil)))) (dVar 8))) (sSeq (sRet (dC (.bl false))) sNext) sNext) sNext)))) sNext) (sSeq (sIf (dTest (dOp rNe (dCall 3 sp_law_words (dCons (dVar 1) (dCons (dVar 2) (dCons (dVar 1) dNil)))) (dOp rAdd (dSl (dVar 4) dNoPart (dPart (dUn rNeg (dC (.int 1))))) (dSl (dVar 4) dNoPart (dPart (dC (.int 1))))))) (sSeq (sRet (dC (.bl false))) sNext) sNext) (sSeq (sAsg (dCall 3 sp_row_after (dCons (dVar 1) (dCons (dVar 2) (dCons (dCall 2 sp_rule_plan (dCons (dVar 1) (dCons (dVar 2) dNil))) dNil)))) (.nm 9)) (sSeq (sIf (dTest (dOp rGt (dFn rMaxA (dCons (dVar 9) dNil)) (dC (.int 50)))) (sSeq (sRet (dOp rEq (dFn rSum (dCons (dVar 9) dNil)) (dFn rSum (dCons (dVar 1) dNil)))) sNext) sNext) (sSeq (sAsg (dOp rIx (dCall 3 sp_law_words (dCons (dVar 9) (dCons (dVar 2) (dCons (dVar 3) dNil)))) (dC (.int 0))) (.nm 10)) (sSeq (sRet (dAndV (dOp rEq (dFn rSum (dCons (dLc (dSeq (dSplit (dVar 10) (dC (.str ",")))) (.nm 11) [11] dYes (dFn rIntS (dCons (dVar 11) dNil))) dNil)) (dFn rSum (dCons (dVar 1) dNil))) (dOp rEq (dCntS (dVar 10) (dC (.str ","))) (dOp rSub (dVar 5) (dC (.int 1)))))) sNext)))))))))
theorem p_law_accepted_right (ds : List D) (M : MS) (Φ : DQ) (h : sp_law_accepted_right ds M Φ noX) : t_law_accepted_right { nx := fun _ M' => Φ .non M', rt := Φ } (startD 2 ds) M := by
  obtain ⟨z, rfl, hz, h⟩ := h
  rw [show startD 2 [D.str z] = [some (.str z), none] from rfl]
  simp only [t_law_accepted_right, sTryU, dCallX, sSeq, sRet, sRetN, sNext, sIf, sAsg, sPar, sPar3, sSetI, sAug, sAugI, sDrop, sBreak, sCont, dOp, dUn, dCons, dNil, dFn, dC, dTup, dLst, dLstM, dIf, dTest, dTru, dAnd, dOr, dNot, dAndV, dOrV, dNotE, dChain, dSl, dNoPart, dPart, dSeq, dEnum, dZip, dRng1, dRng2, dYes, dCall, dMt, dVar, dDic0, dDic1, put_nm, put_tp, puts_nil, puts_cons, List.getElem?_cons_zero, List.getElem?_cons_succ, List.set_cons_zero, List.set_cons_succ, startD, List.map_cons, List.map_nil, List.cons_append, List.nil_append, List.length_cons, List.length_nil, List.replicate_succ, List.replicate_zero, Nat.reduceSub, Nat.reduceAdd, Nat.zero_add, wipeD, keyD, gSeq, gPlain, gNil, gYield, gFor, dTupP, dRngP, dCallG, sForG, dLcG, GE.at, dTupRg, dStar, sPutT, dKeysT, dDicT0, dDicT1, sAsgL, dMake, dMakeF, dProp, dMeth, dCallO, dOp3, dLenO, dStrO, sFld, sFldAug, noXs, sRaise0, sRaise1, sTry, goneE, dCntB]
  refine ⟨trivial, _, rfl, .inl ⟨z, rfl, hz, fun k hk M' x => ?_, fun st hst M' x => ?_⟩⟩
  · dsimp only
    rw [if_pos (by decide)]
    exact h M' x
  · obtain ⟨ok, e⟩ := prs_back hst
    unfold csD stateD
    refine rIx_seq (x := .tup _) rfl (by rw [at0]; rfl) ?_
    refine rIx_seq (x := .tup _) rfl (by rw [at1]; rfl) ?_
    refine rIx_seq (x := .tup _) rfl (by rw [at2]; rfl) ?_
    refine ⟨trivial, _, _, _, rfl, ok.stOk, rEq_s ?_⟩
    rw [e, beq_self_eq_true]
    exact h M' x
theorem p_law_words (ds : List D) (M : MS) (Φ : DQ) (h : sp_law_words ds M Φ noX) : t_law_words { nx := fun _ M' => Φ .non M', rt := Φ } (startD 3 ds) M := by
  obtain ⟨r, ws, u, rfl, ok, h⟩ := h
  rw [show startD 3 [D.tup (r.map D.int), .tup (ws.map wayD), .tup (u.map D.int)] = [some (.tup (r.map D.int)), some (.tup (ws.map wayD)), some (.tup (u.map D.int))] from rfl]
  simp only [t_law_words, dSplit, sSeq, sRet, sRetN, sNext, sIf, sAsg, sPar, sPar3, sSetI, sAug, sAugI, sDrop, sBreak, sCont, dOp, dUn, dCons, dNil, dFn, dC, dTup, dLst, dLstM, dIf, dTest, dTru, dAnd, dOr, dNot, dAndV, dOrV, dNotE, dChain, dSl, dNoPart, dPart, dSeq, dEnum, dZip, dRng1, dRng2, dYes, dCall, dMt, dVar, dDic0, dDic1, put_nm, put_tp, puts_nil, puts_cons, List.getElem?_cons_zero, List.getElem?_cons_succ, List.set_cons_zero, List.set_cons_succ, startD, List.map_cons, List.map_nil, List.cons_append, List.nil_append, List.length_cons, List.length_nil, List.replicate_succ, List.replicate_zero, Nat.reduceSub, Nat.reduceAdd, Nat.zero_add, wipeD, keyD, gSeq, gPlain, gNil, gYield, gFor, dTupP, dRngP, dCallG, sForG, dLcG, GE.at, dTupRg, dStar, sPutT, dKeysT, dDicT0, dDicT1, sAsgL, dMake, dMakeF, dProp, dMeth, dCallO, dOp3, dLenO, dStrO, sFld, sFldAug, noXs, sRaise0, sRaise1, sTry, goneE, dCntB]
  refine ⟨trivial, r, ws, u, rfl, ok, ?_⟩
  dsimp only
  have hl : (corT r ws u).length ≤ 5000 := Nat.le_trans (join_len2 _ _) (words_fit ok)
  refine ⟨by decide +kernel, by omega, ?_⟩
  rw [show Txt.split (corT r ws u) (Str.ofString " ") = wordsT r ws u from split_corT ok]
  exact h
theorem asc_num {i : Int} (h : 0 ≤ i) {c : Nat} (hc : c ∈ tl (numT i)) : c < 128 := by
  rw [tl_numT h] at hc
  have := numL_digits _ _ hc
  omega
theorem words_asc {r : List Int} {ws : List (Int × Int)} {u : List Int} (hs : StOk r ws u) : ∀ y ∈ wordsT r ws u, PyData.strOk y = true := fun y hy => by
  have nsp : ∀ {l : List Int}, intsIn l 600 → ∀ c ∈ tl (numsT l), c < 128 := fun {l} hl c hm => by
    unfold numsT at hm
    rw [join_eq, tl_join, tl_com] at hm
    rcases mem_joinL hm with z | ⟨q, hq, hc2⟩
    · simp at z; omega
    · obtain ⟨y, hy, rfl⟩ := List.mem_map.mp hq
      obtain ⟨i, hi, rfl⟩ := List.mem_map.mp hy
      exact asc_num (hl i hi).1 hc2
  have key : ∀ c ∈ tl y, c < 128 := fun c hc3 => by
    unfold wordsT at hy
    rcases List.mem_cons.mp hy with rfl | hy
    · exact nsp hs.ri c hc3
    · rcases List.mem_append.mp hy with hy | hy
      · obtain ⟨w, hw, rfl⟩ := List.mem_map.mp hy
        have hw2 := hs.wi w hw
        unfold wayT at hc3
        rw [tl_append, tl_append, tl_dash] at hc3
        rcases List.mem_append.mp hc3 with hm | hm
        · rcases List.mem_append.mp hm with hm | hm
          · exact asc_num hw2.1 hm
          · simp at hm; omega
        · exact asc_num hw2.2.2.1 hm
      · simp only [List.mem_cons, List.not_mem_nil, or_false] at hy
        rcases hy with rfl | rfl
        · have e : tl forT = [102, 111, 114] := by decide +kernel
          rw [e] at hc3
          simp at hc3
          omega
        · exact nsp hs.ui c hc3
  rw [sOk_iff]
  intro c hc
  have := key c hc
  omega
theorem strs_plain : ∀ {L : List Str}, (∀ y ∈ L, PyData.strOk y = true) → plains (L.map D.str) = true ∧ deps (L.map D.str) = 0
  | [], _ => ⟨rfl, rfl⟩
  | y :: L, h => by
    obtain ⟨a, b⟩ := strs_plain (L := L) fun x hx => h x (List.mem_cons_of_mem _ hx)
    rw [List.map_cons, plains, deps, a, b]
    exact ⟨by rw [Bool.and_true]; exact h y List.mem_cons_self, rfl⟩
theorem rNe_words {L L' : List Str} {M : MS} {Φ : DQ} (e : L = L') (h : ∀ y ∈ L, PyData.strOk y = true) (q : Φ (.bl false) M) : rNe (.lst (L.map D.str)) (.lst (L'.map D.str)) M Φ := by
  subst e
  obtain ⟨a, b⟩ := strs_plain h
  exact rNe_same (by rw [plain]; exact a) (by rw [dep, b]; decide) q
theorem use_words {r : List Int} {ws : List (Int × Int)} {u : List Int} {M : MS} {Φ : DQ} (ok : StOk r ws u) (q : Φ (.lst ((wordsT r ws u).map D.str)) M) : True ∧ sp_law_words [.tup (r.map D.int), .tup (ws.map wayD), .tup (u.map D.int)] M Φ noX := ⟨trivial, r, ws, u, rfl, ok, q⟩
theorem words_len (r : List Int) (ws : List (Int × Int)) (u : List Int) : (wordsT r ws u).length = ws.length + 3 := by unfold wordsT; simp
theorem cut_back (L : List Str) (x y : Str) : cutD ((L ++ [x, y]).map D.str) (some (-2)) none = [x, y].map D.str := by
  have hl : (L ++ [x, y]).length = L.length + 2 := by simp
  unfold cutD
  rw [List.length_map, hl]
  have e1 : HT.sIx (L.length + 2) 0 (some (-2)) = L.length := by unfold HT.sIx; simp; omega
  have e2 : HT.sIx (L.length + 2) (L.length + 2) none = L.length + 2 := HT.sIx_none _ _
  rw [e1, e2, List.map_append, List.drop_left' (by rw [List.length_map]), Nat.add_sub_cancel_left]
  rfl
theorem cut_front (L : List Str) (x y : Str) : cutD ((L ++ [x, y]).map D.str) none (some (-2)) = L.map D.str := by
  have hl : (L ++ [x, y]).length = L.length + 2 := by simp
  unfold cutD
  rw [List.length_map, hl]
  have e1 : HT.sIx (L.length + 2) 0 none = 0 := HT.sIx_none _ _
  have e2 : HT.sIx (L.length + 2) (L.length + 2) (some (-2)) = L.length := by unfold HT.sIx; simp; omega
  rw [e1, e2, List.map_append, List.drop_zero, Nat.sub_zero, List.take_left' (by rw [List.length_map])]
theorem cut_mid (z : Str) (L : List Str) (x y : Str) : cutD ((z :: L ++ [x, y]).map D.str) (some 1) (some (-2)) = L.map D.str := by
  have hl : (z :: L ++ [x, y]).length = L.length + 3 := by simp
  unfold cutD
  rw [List.length_map, hl]
  have e1 : HT.sIx (L.length + 3) 0 (some 1) = 1 := by unfold HT.sIx; simp
  have e2 : HT.sIx (L.length + 3) (L.length + 3) (some (-2)) = L.length + 1 := by unfold HT.sIx; simp; omega
  rw [e1, e2, List.map_append, List.map_cons, List.cons_append, List.drop_one, List.tail_cons, Nat.add_sub_cancel, List.take_left' (by rw [List.length_map])]
theorem cut_last (L : List Str) (y : Str) : cutD ((L ++ [y]).map D.str) none (some (-1)) = L.map D.str := by
  have hl : (L ++ [y]).length = L.length + 1 := by simp
  unfold cutD
  rw [List.length_map, hl]
  have e1 : HT.sIx (L.length + 1) 0 none = 0 := HT.sIx_none _ _
  have e2 : HT.sIx (L.length + 1) (L.length + 1) (some (-1)) = L.length := by unfold HT.sIx; simp; omega
  rw [e1, e2, List.map_append, List.drop_zero, Nat.sub_zero, List.take_left' (by rw [List.length_map])]
theorem cut_first (x : Str) (L : List Str) : cutD ((x :: L).map D.str) none (some 1) = [x].map D.str := by
  unfold cutD
  have e1 : HT.sIx ((x :: L).map D.str).length 0 none = 0 := HT.sIx_none _ _
  have e2 : HT.sIx ((x :: L).map D.str).length ((x :: L).map D.str).length (some 1) = 1 := by unfold HT.sIx; simp
  rw [e1, e2]
  rfl
theorem atI_m2 (L : List Str) (x y : Str) : atI ((L ++ [x, y]).map D.str) (-2) = some (.str x) := by
  have hl : ((L ++ [x, y]).map D.str).length = L.length + 2 := by simp
  unfold atI
  have e : ixN ((L ++ [x, y]).map D.str).length (-2) = some L.length := by
    rw [hl]
    unfold ixN
    simp
    omega
  rw [e]
  simp
theorem p_law_words_right_v2 (ds : List D) (M : MS) (Φ : DQ) (h : sp_law_words_right_v2 ds M Φ noX) : t_law_words_right_v2 { nx := fun _ M' => Φ .non M', rt := Φ } (startD 12 ds) M := by
  obtain ⟨a, c, k, st, rfl, ok, hD, h⟩ := h
  obtain ⟨r, ws, us⟩ := st
  dsimp only at ok ⊢
  rw [show startD 12 [D.ref a, .tup (r.map D.int), .tup (ws.map wayD), .tup (us.map D.int)] = [some (.ref a), some (.tup (r.map D.int)), some (.tup (ws.map wayD)), some (.tup (us.map D.int)), none, none, none, none, none, none, none, none] from rfl]
  have r1 := ok.r1
  have r2 := ok.r2
  have hs := ok.stOk
  have hw40 := ok.w
  dsimp only at r1 r2 hs hw40
  have hwl := words_len r ws us
  have hasc := words_asc hs
  obtain ⟨W, eW⟩ : ∃ W, W = wordsT r ws us := ⟨_, rfl⟩
  rw [← eW] at hwl
  have eW2 : W = (numsT r :: ws.map wayT) ++ [forT, numsT us] := eW
  unfold t_law_words_right_v2
  refine seq_post (fun ρ M1 => ρ = [some (.ref a), some (.tup (r.map D.int)), some (.tup (ws.map wayD)), some (.tup (us.map D.int)), some (.lst (W.map D.str)), some (.int (r.length : Nat)), none, none, none, none, none, none] ∧ M1 = M) (fun ρ M1 q => ?_) (fun K nk => ?_)
  rotate_left
  · simp only [sPar, sSeq, sRet, sRetN, sNext, sIf, sAsg, sPar, sPar3, sSetI, sAug, sAugI, sDrop, sBreak, sCont, dOp, dUn, dCons, dNil, dFn, dC, dTup, dLst, dLstM, dIf, dTest, dTru, dAnd, dOr, dNot, dAndV, dOrV, dNotE, dChain, dSl, dNoPart, dPart, dSeq, dEnum, dZip, dRng1, dRng2, dYes, dCall, dMt, dVar, dDic0, dDic1, put_nm, put_tp, puts_nil, puts_cons, List.getElem?_cons_zero, List.getElem?_cons_succ, List.set_cons_zero, List.set_cons_succ, startD, List.map_cons, List.map_nil, List.cons_append, List.nil_append, List.length_cons, List.length_nil, List.replicate_succ, List.replicate_zero, Nat.reduceSub, Nat.reduceAdd, Nat.zero_add, wipeD, keyD, gSeq, gPlain, gNil, gYield, gFor, dTupP, dRngP, dCallG, sForG, dLcG, GE.at, dTupRg, dStar, sPutT, dKeysT, dDicT0, dDicT1, sAsgL, dMake, dMakeF, dProp, dMeth, dCallO, dOp3, dLenO, dStrO, sFld, sFldAug, noXs, sRaise0, sRaise1, sTry, goneE, dCntB]
    refine use_words hs ?_
    refine rLen_seq (x := .tup _) (fun z e => nomatch e) rfl ?_
    rw [List.length_map, ← eW]
    exact nk _ _ ⟨rfl, rfl⟩
  obtain ⟨rfl, rfl⟩ := q
  refine seq_post (fun ρ M2 => ρ = [some (.ref a), some (.tup (r.map D.int)), some (.tup (ws.map wayD)), some (.tup (us.map D.int)), some (.lst (W.map D.str)), some (.int (r.length : Nat)), none, none, none, none, none, none] ∧ M2 = M1) (fun ρ M2 q => ?_) (fun K nk => ?_)
  rotate_left
  · simp only [sSeq, sRet, sRetN, sNext, sIf, sAsg, sPar, sPar3, sSetI, sAug, sAugI, sDrop, sBreak, sCont, dOp, dUn, dCons, dNil, dFn, dC, dTup, dLst, dLstM, dIf, dTest, dTru, dAnd, dOr, dNot, dAndV, dOrV, dNotE, dChain, dSl, dNoPart, dPart, dSeq, dEnum, dZip, dRng1, dRng2, dYes, dCall, dMt, dVar, dDic0, dDic1, put_nm, put_tp, puts_nil, puts_cons, List.getElem?_cons_zero, List.getElem?_cons_succ, List.set_cons_zero, List.set_cons_succ, startD, List.map_cons, List.map_nil, List.cons_append, List.nil_append, List.length_cons, List.length_nil, List.replicate_succ, List.replicate_zero, Nat.reduceSub, Nat.reduceAdd, Nat.zero_add, wipeD, keyD, gSeq, gPlain, gNil, gYield, gFor, dTupP, dRngP, dCallG, sForG, dLcG, GE.at, dTupRg, dStar, sPutT, dKeysT, dDicT0, dDicT1, sAsgL, dMake, dMakeF, dProp, dMeth, dCallO, dOp3, dLenO, dStrO, sFld, sFldAug, noXs, sRaise0, sRaise1, sTry, goneE, dCntB]
    refine rLen_seq (x := .lst _) (fun z e => nomatch e) rfl ?_
    refine rLen_seq (x := .tup _) (fun z e => nomatch e) rfl ?_
    rw [List.length_map, List.length_map, hwl]
    refine rAdd_i (rNe_i ?_)
    dsimp only
    rw [if_neg (by simp)]
    simp only [rNeg]
    refine rIx_seq (x := .lst _) rfl (d := .str forT) (by rw [eW2]; exact atI_m2 _ _ _) (rNe_s ?_)
    rw [show (forT == Str.ofString "for") = true from beq_self_eq_true _]
    exact nk _ _ ⟨rfl, rfl⟩
  obtain ⟨rfl, rfl⟩ := q
  have c1 : cutD (W.map D.str) none (some 1) = [numsT r].map D.str := by rw [eW2]; exact cut_first _ _
  have c2 : cutD (W.map D.str) (some 1) (some (-2)) = (ws.map wayT).map D.str := by rw [eW2]; exact cut_mid _ _ _ _
  have c3 : cutD (W.map D.str) (some (-2)) none = [forT, numsT us].map D.str := by rw [eW2]; exact cut_back _ _ _
  have c4 : cutD (W.map D.str) none (some (-2)) = (numsT r :: ws.map wayT).map D.str := by rw [eW2]; exact cut_front _ _ _
  have c5 : cutD (W.map D.str) none (some (-1)) = (numsT r :: ws.map wayT ++ [forT]).map D.str := by
    have e : W = (numsT r :: ws.map wayT ++ [forT]) ++ [numsT us] := by rw [eW2]; simp
    rw [e]; exact cut_last _ _
  refine seq_post (fun ρ M3 => ρ = [some (.ref a), some (.tup (r.map D.int)), some (.tup (ws.map wayD)), some (.tup (us.map D.int)), some (.lst (W.map D.str)), some (.int (r.length : Nat)), none, none, none, none, none, none] ∧ M3 = M2) (fun ρ M3 q => ?_) (fun K nk => ?_)
  rotate_left
  · simp only [dRev, sSeq, sRet, sRetN, sNext, sIf, sAsg, sPar, sPar3, sSetI, sAug, sAugI, sDrop, sBreak, sCont, dOp, dUn, dCons, dNil, dFn, dC, dTup, dLst, dLstM, dIf, dTest, dTru, dAnd, dOr, dNot, dAndV, dOrV, dNotE, dChain, dSl, dNoPart, dPart, dSeq, dEnum, dZip, dRng1, dRng2, dYes, dCall, dMt, dVar, dDic0, dDic1, put_nm, put_tp, puts_nil, puts_cons, List.getElem?_cons_zero, List.getElem?_cons_succ, List.set_cons_zero, List.set_cons_succ, startD, List.map_cons, List.map_nil, List.cons_append, List.nil_append, List.length_cons, List.length_nil, List.replicate_succ, List.replicate_zero, Nat.reduceSub, Nat.reduceAdd, Nat.zero_add, wipeD, keyD, gSeq, gPlain, gNil, gYield, gFor, dTupP, dRngP, dCallG, sForG, dLcG, GE.at, dTupRg, dStar, sPutT, dKeysT, dDicT0, dDicT1, sAsgL, dMake, dMakeF, dProp, dMeth, dCallO, dOp3, dLenO, dStrO, sFld, sFldAug, noXs, sRaise0, sRaise1, sTry, goneE, dCntB, rSl, seqL, rNeg, seqA]
    have hs2 : StOk r ws.reverse us := ⟨hs.r1, hs.r2, hs.u1, hs.u2, by rw [List.length_reverse]; exact hs.w, hs.ri, hs.ui, fun x hx => hs.wi x (List.mem_reverse.mp hx)⟩
    rw [← List.map_reverse]
    refine use_words hs2 ?_
    rw [c1, c2, c3]
    refine rAdd_l (by rw [List.length_reverse, List.length_map, List.length_map, List.length_map]; show 1 + _ ≤ _; omega) ?_
    refine rAdd_l (by rw [List.length_append, List.length_reverse, List.length_map, List.length_map, List.length_map]; show 1 + _ + 2 ≤ _; omega) ?_
    rw [← List.map_reverse, ← List.map_append, ← List.map_append]
    refine rNe_words ?_ (words_asc hs2) ?_
    · unfold wordsT
      rw [List.map_reverse]
      simp
    · exact nk _ _ ⟨rfl, rfl⟩
  obtain ⟨rfl, rfl⟩ := q
  refine seq_post (fun ρ M4 => ∃ r6 r7 r8, ρ = [some (.ref a), some (.tup (r.map D.int)), some (.tup (ws.map wayD)), some (.tup (us.map D.int)), some (.lst (W.map D.str)), some (.int (r.length : Nat)), r6, r7, r8, none, none, none] ∧ Dk M4 a c k) (fun ρ M4 q => ?_) (fun K nk => ?_)
  rotate_left
  · simp only [sSeq, sRet, sRetN, sNext, sIf, sAsg, sPar, sPar3, sSetI, sAug, sAugI, sDrop, sBreak, sCont, dOp, dUn, dCons, dNil, dFn, dC, dTup, dLst, dLstM, dIf, dTest, dTru, dAnd, dOr, dNot, dAndV, dOrV, dNotE, dChain, dSl, dNoPart, dPart, dSeq, dEnum, dZip, dRng1, dRng2, dYes, dCall, dMt, dVar, dDic0, dDic1, put_nm, put_tp, puts_nil, puts_cons, List.getElem?_cons_zero, List.getElem?_cons_succ, List.set_cons_zero, List.set_cons_succ, startD, List.map_cons, List.map_nil, List.cons_append, List.nil_append, List.length_cons, List.length_nil, List.replicate_succ, List.replicate_zero, Nat.reduceSub, Nat.reduceAdd, Nat.zero_add, wipeD, keyD, gSeq, gPlain, gNil, gYield, gFor, dTupP, dRngP, dCallG, sForG, dLcG, GE.at, dTupRg, dStar, sPutT, dKeysT, dDicT0, dDicT1, sAsgL, dMake, dMakeF, dProp, dMeth, dCallO, dOp3, dLenO, dStrO, sFld, sFldAug, noXs, sRaise0, sRaise1, sTry, goneE, dCntB]
    refine rLen_seq (x := .tup _) (fun z e => nomatch e) rfl (rCmp_i ?_)
    rw [List.length_map]
    dsimp only
    by_cases h40 : ws.length < 40
    · rw [if_pos (by rw [decide_eq_true_eq]; omega)]
      refine rSub_i ?_
      refine use_draw3 (hD : Dk M3 a c (k + 1 + 1)) (by omega) (by omega) fun f M4 hD4 hK4 f0 f1 => ?_
      refine rAdd_i (rSub_i (rSub_i ?_))
      refine use_draw3 (hD4 : Dk M4 a c (k + 1)) (by omega) (by omega) fun g M5 hD5 hK5 g0 g1 => ?_
      refine rAdd_i ?_
      simp only [sSeq, sRet, sRetN, sNext, sIf, sAsg, sPar, sPar3, sSetI, sAug, sAugI, sDrop, sBreak, sCont, dOp, dUn, dCons, dNil, dFn, dC, dTup, dLst, dLstM, dIf, dTest, dTru, dAnd, dOr, dNot, dAndV, dOrV, dNotE, dChain, dSl, dNoPart, dPart, dSeq, dEnum, dZip, dRng1, dRng2, dYes, dCall, dMt, dVar, dDic0, dDic1, put_nm, put_tp, puts_nil, puts_cons, List.getElem?_cons_zero, List.getElem?_cons_succ, List.set_cons_zero, List.set_cons_succ, startD, List.map_cons, List.map_nil, List.cons_append, List.nil_append, List.length_cons, List.length_nil, List.replicate_succ, List.replicate_zero, Nat.reduceSub, Nat.reduceAdd, Nat.zero_add, wipeD, keyD, gSeq, gPlain, gNil, gYield, gFor, dTupP, dRngP, dCallG, sForG, dLcG, GE.at, dTupRg, dStar, sPutT, dKeysT, dDicT0, dDicT1, sAsgL, dMake, dMakeF, dProp, dMeth, dCallO, dOp3, dLenO, dStrO, sFld, sFldAug, noXs, sRaise0, sRaise1, sTry, goneE, dCntB, rSl, seqL, rNeg, rStr]
      have hf : 0 ≤ f ∧ f ≤ 600 := by omega
      have hg : 0 ≤ f + 1 + g ∧ f + 1 + g ≤ 600 := by omega
      have n1 := numT_len hf.1 hf.2
      have n2 := numT_len hg.1 hg.2
      have l1 := log_small hf.1 (by omega)
      have l2 := log_small hg.1 (by omega)
      have d1 : (Str.ofString "-").length = 1 := by decide +kernel
      have hs3 : StOk r (ws ++ [(f, f + 1 + g)]) us := ⟨hs.r1, hs.r2, hs.u1, hs.u2, by rw [List.length_append]; show _ + 1 ≤ _; omega, hs.ri, hs.ui, fun x hx => by
        rcases List.mem_append.mp hx with hx | hx
        · exact hs.wi x hx
        · rw [List.mem_singleton.mp hx]; exact ⟨hf.1, hf.2, hg.1, hg.2⟩⟩
      refine ⟨l1, ?_⟩
      show rAdd (.str (numT f)) (.str dashT) M5 _
      refine ⟨by rw [d1]; omega, l2, ?_⟩
      show rAdd (.str (numT f ++ dashT)) (.str (numT (f + 1 + g))) M5 _
      refine ⟨by rw [Str.length_append, d1]; omega, by decide, ?_⟩
      show rAdd _ (.lst ([wayT (f, f + 1 + g)].map D.str)) M5 _
      rw [c3, c4]
      refine rAdd_l (by rw [List.length_map, List.length_cons, List.length_map]; show _ + 1 + 1 ≤ _; omega) ?_
      rw [← List.map_append]
      refine rAdd_l (by rw [List.length_map, List.length_append, List.length_cons, List.length_map]; show _ + 1 + 1 + 2 ≤ _; omega) ?_
      rw [← List.map_append]
      refine ⟨by decide, by decide, rAdd_t (by rw [List.length_map]; show _ + 1 ≤ _; omega) ?_⟩
      show True ∧ sp_law_words [_, .tup (ws.map wayD ++ [(f, f + 1 + g)].map wayD), _] M5 _ _
      rw [← List.map_append]
      refine use_words hs3 (rNe_words ?_ (words_asc hs3) ?_)
      · unfold wordsT
        simp
      · exact nk _ _ ⟨_, _, _, rfl, hD5⟩
    · rw [if_neg (by rw [decide_eq_true_eq]; omega)]
      exact nk _ _ ⟨_, _, _, rfl, hD.mono (by omega)⟩
  clear hD
  obtain ⟨r6, r7, r8, rfl, hD⟩ := q
  refine seq_post (fun ρ M5 => ρ = [some (.ref a), some (.tup (r.map D.int)), some (.tup (ws.map wayD)), some (.tup (us.map D.int)), some (.lst (W.map D.str)), some (.int (r.length : Nat)), r6, r7, r8, none, none, none] ∧ M5 = M4) (fun ρ M5 q => ?_) (fun K nk => ?_)
  rotate_left
  · simp only [sSeq, sRet, sRetN, sNext, sIf, sAsg, sPar, sPar3, sSetI, sAug, sAugI, sDrop, sBreak, sCont, dOp, dUn, dCons, dNil, dFn, dC, dTup, dLst, dLstM, dIf, dTest, dTru, dAnd, dOr, dNot, dAndV, dOrV, dNotE, dChain, dSl, dNoPart, dPart, dSeq, dEnum, dZip, dRng1, dRng2, dYes, dCall, dMt, dVar, dDic0, dDic1, put_nm, put_tp, puts_nil, puts_cons, List.getElem?_cons_zero, List.getElem?_cons_succ, List.set_cons_zero, List.set_cons_succ, startD, List.map_cons, List.map_nil, List.cons_append, List.nil_append, List.length_cons, List.length_nil, List.replicate_succ, List.replicate_zero, Nat.reduceSub, Nat.reduceAdd, Nat.zero_add, wipeD, keyD, gSeq, gPlain, gNil, gYield, gFor, dTupP, dRngP, dCallG, sForG, dLcG, GE.at, dTupRg, dStar, sPutT, dKeysT, dDicT0, dDicT1, sAsgL, dMake, dMakeF, dProp, dMeth, dCallO, dOp3, dLenO, dStrO, sFld, sFldAug, noXs, sRaise0, sRaise1, sTry, goneE, dCntB, rSl, seqL, rNeg]
    have hs2 : StOk r ws r := ⟨hs.r1, hs.r2, hs.r1, hs.r2, hs.w, hs.ri, hs.ri, hs.wi⟩
    refine use_words hs2 ?_
    rw [c1, c5]
    refine rAdd_l (by rw [List.length_map, List.length_map, List.length_append, List.length_cons, List.length_map]; show _ + 1 + 1 + 1 ≤ _; omega) ?_
    rw [← List.map_append]
    refine rNe_words ?_ (words_asc hs2) ?_
    · unfold wordsT
      simp
    · exact nk _ _ ⟨rfl, rfl⟩
  obtain ⟨rfl, rfl⟩ := q
  have PP := ruleP_plan ws r ok.nn ok.wi
  have hst := PP.st ok.wi
  have hnn : nonN (afters r (ruleP r ws)) := PP.nn ok.wi ok.nn
  have hsum := afters_sum (ruleP r ws) r hst
  have hal := afters_len (ruleP r ws) r
  obtain ⟨A, eA⟩ : ∃ A, A = afters r (ruleP r ws) := ⟨_, rfl⟩
  rw [← eA] at hnn hsum hal
  refine seq_post (fun ρ M6 => ρ = [some (.ref a), some (.tup (r.map D.int)), some (.tup (ws.map wayD)), some (.tup (us.map D.int)), some (.lst (W.map D.str)), some (.int (r.length : Nat)), r6, r7, r8, some (.tup (A.map D.int)), none, none] ∧ Dk M6 a c k) (fun ρ M6 q => ?_) (fun K nk => ?_)
  rotate_left
  · simp only [sSeq, sRet, sRetN, sNext, sIf, sAsg, sPar, sPar3, sSetI, sAug, sAugI, sDrop, sBreak, sCont, dOp, dUn, dCons, dNil, dFn, dC, dTup, dLst, dLstM, dIf, dTest, dTru, dAnd, dOr, dNot, dAndV, dOrV, dNotE, dChain, dSl, dNoPart, dPart, dSeq, dEnum, dZip, dRng1, dRng2, dYes, dCall, dMt, dVar, dDic0, dDic1, put_nm, put_tp, puts_nil, puts_cons, List.getElem?_cons_zero, List.getElem?_cons_succ, List.set_cons_zero, List.set_cons_succ, startD, List.map_cons, List.map_nil, List.cons_append, List.nil_append, List.length_cons, List.length_nil, List.replicate_succ, List.replicate_zero, Nat.reduceSub, Nat.reduceAdd, Nat.zero_add, wipeD, keyD, gSeq, gPlain, gNil, gYield, gFor, dTupP, dRngP, dCallG, sForG, dLcG, GE.at, dTupRg, dStar, sPutT, dKeysT, dDicT0, dDicT1, sAsgL, dMake, dMakeF, dProp, dMeth, dCallO, dOp3, dLenO, dStrO, sFld, sFldAug, noXs, sRaise0, sRaise1, sTry, goneE, dCntB]
    refine ⟨trivial, r, ws, rfl, ok.wi, by omega, by omega, trivial, r, _, ruleP r ws, rfl, hst, fun M' x => ?_⟩
    rw [← eA]
    exact nk _ _ ⟨rfl, x.dk hD⟩
  clear hD
  obtain ⟨rfl, hD⟩ := q
  refine seq_post (fun ρ M7 => (ρ = [some (.ref a), some (.tup (r.map D.int)), some (.tup (ws.map wayD)), some (.tup (us.map D.int)), some (.lst (W.map D.str)), some (.int (r.length : Nat)), r6, r7, r8, some (.tup (A.map D.int)), none, none] ∧ M7 = M6) ∧ mxI A ≤ 50) (fun ρ M7 q => ?_) (fun K nk => ?_)
  rotate_left
  · simp only [sSeq, sRet, sRetN, sNext, sIf, sAsg, sPar, sPar3, sSetI, sAug, sAugI, sDrop, sBreak, sCont, dOp, dUn, dCons, dNil, dFn, dC, dTup, dLst, dLstM, dIf, dTest, dTru, dAnd, dOr, dNot, dAndV, dOrV, dNotE, dChain, dSl, dNoPart, dPart, dSeq, dEnum, dZip, dRng1, dRng2, dYes, dCall, dMt, dVar, dDic0, dDic1, put_nm, put_tp, puts_nil, puts_cons, List.getElem?_cons_zero, List.getElem?_cons_succ, List.set_cons_zero, List.set_cons_succ, startD, List.map_cons, List.map_nil, List.cons_append, List.nil_append, List.length_cons, List.length_nil, List.replicate_succ, List.replicate_zero, Nat.reduceSub, Nat.reduceAdd, Nat.zero_add, wipeD, keyD, gSeq, gPlain, gNil, gYield, gFor, dTupP, dRngP, dCallG, sForG, dLcG, GE.at, dTupRg, dStar, sPutT, dKeysT, dDicT0, dDicT1, sAsgL, dMake, dMakeF, dProp, dMeth, dCallO, dOp3, dLenO, dStrO, sFld, sFldAug, noXs, sRaise0, sRaise1, sTry, goneE, dCntB]
    refine rMaxA_tup (by omega) (rCmp_i ?_)
    dsimp only
    by_cases hm : mxI A ≤ 50
    · rw [if_neg (by rw [decide_eq_true_eq]; omega)]
      exact nk _ _ ⟨⟨rfl, rfl⟩, hm⟩
    · rw [if_pos (by rw [decide_eq_true_eq]; omega)]
      refine rSum_tup (rSum_tup (rEq_i ?_))
      rw [hsum, beq_self_eq_true]
      exact h _ hD
  obtain ⟨⟨rfl, rfl⟩, hm⟩ := q
  have hA50 : intsIn A 50 := fun x hx => ⟨by
    obtain ⟨i, hi, rfl⟩ := List.mem_iff_getElem.mp hx
    have := hnn i
    rw [List.getD_eq_getElem?_getD, List.getElem?_eq_getElem hi] at this
    exact this, by
    have := (mxI_mem (ns := A) (by omega)).2 x hx
    omega⟩
  have hA6 : intsIn A 600 := fun x hx => ⟨(hA50 x hx).1, by have := (hA50 x hx).2; omega⟩
  have hs4 : StOk A ws us := ⟨by omega, by omega, hs.u1, hs.u2, hs.w, hA6, hs.ui, hs.wi⟩
  simp only [dLc, dSplit, dCntS, sSeq, sRet, sRetN, sNext, sIf, sAsg, sPar, sPar3, sSetI, sAug, sAugI, sDrop, sBreak, sCont, dOp, dUn, dCons, dNil, dFn, dC, dTup, dLst, dLstM, dIf, dTest, dTru, dAnd, dOr, dNot, dAndV, dOrV, dNotE, dChain, dSl, dNoPart, dPart, dSeq, dEnum, dZip, dRng1, dRng2, dYes, dCall, dMt, dVar, dDic0, dDic1, put_nm, put_tp, puts_nil, puts_cons, List.getElem?_cons_zero, List.getElem?_cons_succ, List.set_cons_zero, List.set_cons_succ, startD, List.map_cons, List.map_nil, List.cons_append, List.nil_append, List.length_cons, List.length_nil, List.replicate_succ, List.replicate_zero, Nat.reduceSub, Nat.reduceAdd, Nat.zero_add, wipeD, keyD, gSeq, gPlain, gNil, gYield, gFor, dTupP, dRngP, dCallG, sForG, dLcG, GE.at, dTupRg, dStar, sPutT, dKeysT, dDicT0, dDicT1, sAsgL, dMake, dMakeF, dProp, dMeth, dCallO, dOp3, dLenO, dStrO, sFld, sFldAug, noXs, sRaise0, sRaise1, sTry, goneE, dCntB]
  refine use_words hs4 ?_
  refine rIx_seq (x := .lst _) rfl (d := .str (numsT A)) (by rw [at0]; rfl) ?_
  dsimp only
  have hnl := numsT_len hA6
  refine ⟨by decide +kernel, by omega, ?_⟩
  rw [show Txt.split (numsT A) (Str.ofString ",") = A.map numT from split_nums hA6 (by omega)]
  simp only [seqA]
  refine lcW_map (fun d => match d with | .str y => some (oneD2 (numO y.cps.toList)) | _ => none) _ trivial (by rw [List.length_map, List.length_map]; omega) (fun x hx => ?_) ?_
  · rw [List.map_map] at hx
    obtain ⟨i, hi, rfl⟩ := List.mem_map.mp hx
    refine ⟨_, rfl, fun acc Nx hl k => ?_⟩
    simp only [sSeq, sRet, sRetN, sNext, sIf, sAsg, sPar, sPar3, sSetI, sAug, sAugI, sDrop, sBreak, sCont, dOp, dUn, dCons, dNil, dFn, dC, dTup, dLst, dLstM, dIf, dTest, dTru, dAnd, dOr, dNot, dAndV, dOrV, dNotE, dChain, dSl, dNoPart, dPart, dSeq, dEnum, dZip, dRng1, dRng2, dYes, dCall, dMt, dVar, dDic0, dDic1, put_nm, put_tp, puts_nil, puts_cons, List.getElem?_cons_zero, List.getElem?_cons_succ, List.set_cons_zero, List.set_cons_succ, startD, List.map_cons, List.map_nil, List.cons_append, List.nil_append, List.length_cons, List.length_nil, List.replicate_succ, List.replicate_zero, Nat.reduceSub, Nat.reduceAdd, Nat.zero_add, wipeD, keyD, gSeq, gPlain, gNil, gYield, gFor, dTupP, dRngP, dCallG, sForG, dLcG, GE.at, dTupRg, dStar, sPutT, dKeysT, dDicT0, dDicT1, sAsgL, dMake, dMakeF, dProp, dMeth, dCallO, dOp3, dLenO, dStrO, sFld, sFldAug, noXs, sRaise0, sRaise1, sTry, goneE, dCntB, if_true]
    have en := numO_num (hA6 i hi).1 (hA6 i hi).2
    dsimp only [Function.comp] at k
    rw [en] at k
    exact use_intS en ⟨hl, k⟩
  · rw [List.map_map, List.filterMap_map]
    have e : ∀ l : List Int, intsIn l 600 → List.filterMap ((fun d => match d with | D.str y => some (oneD2 (numO y.cps.toList)) | _ => none) ∘ (D.str ∘ numT)) l = l.map D.int := fun l => by
      induction l with
      | nil => intro _; rfl
      | cons i l ih =>
        intro hl
        have hi := hl i List.mem_cons_self
        have e1 : ((fun d => match d with | D.str y => some (oneD2 (numO y.cps.toList)) | _ => none) ∘ (D.str ∘ numT)) i = some (D.int i) := by
          show some (oneD2 (numO (numT i).cps.toList)) = _
          rw [numO_num hi.1 hi.2]
          show some (D.int ((i.toNat : Nat) : Int)) = _
          rw [Int.toNat_of_nonneg hi.1]
        rw [List.filterMap_cons_some e1, ih fun x hx => hl x (List.mem_cons_of_mem _ hx), List.map_cons]
    rw [e A hA6]
    simp only [rSum, seqA, Option.bind_some, asInts_map]
    refine rEq_i ?_
    rw [hsum, beq_self_eq_true]
    simp only [truD, if_true]
    refine rSub_i (rEq_i ?_)
    have ec : Txt.count (numsT A) (Str.ofString ",") = ((r.length - 1 : Nat) : Int) := by
      have e1 := count_cnt (numsT A) 44
      have e2 : (Str.ofString ",") = (⟨#[44]⟩ : Str) := by decide +kernel
      rw [e2, e1]
      unfold numsT
      rw [join_eq, cnt_join comT 44 (by decide +kernel) _ fun t ht hc => by
        obtain ⟨i, hi, rfl⟩ := List.mem_map.mp ht
        exact numT_free (hA6 i hi).1 (.inl (by decide)) hc]
      rw [List.length_map, hal]
    rw [ec, show (((r.length - 1 : Nat) : Int) == ((r.length : Nat) : Int) - 1) = true by rw [beq_iff_eq]; omega]
    exact h _ hD
theorem cor_tx2 {st : CSt} (ok : CorOk st) : txB 2000 (corT st.1 st.2.1 st.2.2) = true := by
  have hs := ok.stOk
  rw [txB_iff]
  constructor
  · have h1 := sumT_le (ys := wordsT st.1 st.2.1 st.2.2) (B := 40) fun y hy => by
      unfold wordsT at hy
      rcases List.mem_cons.mp hy with rfl | hy
      · have := numsT_len hs.ri
        have := hs.r2
        omega
      · rcases List.mem_append.mp hy with hy | hy
        · obtain ⟨w, hw, rfl⟩ := List.mem_map.mp hy
          have := wayT_len (hs.wi w hw)
          omega
        · simp only [List.mem_cons, List.not_mem_nil, or_false] at hy
          rcases hy with rfl | rfl
          · decide +kernel
          · have := numsT_len hs.ui
            have := hs.u2
            omega
    have h2 := join_len2 spT (wordsT st.1 st.2.1 st.2.2)
    have e : spT.length = 1 := by decide +kernel
    have hl := words_len st.1 st.2.1 st.2.2
    have := ok.w
    rw [e] at h2
    rw [hl] at h1 h2
    unfold corT
    omega
  · refine sm_join fun y hy => sm_iff.mpr fun c hc => ?_
    have := sOk_iff.mp (words_asc hs y hy) c hc
    omega
def sp_law_k63 : DSp := fun ds M Φ _ => ∃ ns : List Int, ds = [.scr ns] ∧ ∀ M', Φ (.bl true) M'
def t_law_k63 : DS := (sSeq (sAsg (dCall 1 sp_law_deck (dCons (dVar 0) dNil)) (.nm 1)) (sSeq (sFor (dRng1 (dC (.int 5))) (.nm 2) (sSeq (sAsg (dCall 3 sp_law_state_c (dCons (dVar 1) (dCons (dOp rIx (dLst (dCons (dC (.int 10)) (dCons (dC (.int 4)) dNil))) (dOp rMod (dVar 2) (dC (.int 2)))) (dCons (dOp rIx (dLst (dCons (dC (.int 40)) (dCons (dC (.int 6)) (dCons (dC (.int 12)) (dCons (dC (.int 3)) (dCons (dC (.int 0)) dNil)))))) (dVar 2)) dNil)))) (.tp [(.nm 3), (.nm 4), (.nm 5)])) (sSeq (sAsg (dCall 3 sp_corridor_text (dCons (dVar 3) (dCons (dVar 4) (dCons (dVar 5) dNil)))) (.nm 6)) (sSeq (sIf (dNot (dTru (dCall 2 sp_law_same_v2 (dCons (dCallX 1 sp_parse_corridor_x noXs (dCons (dVar 6) dNil)) (dCons (dTup (dCons (dVar 3) (dCons (dVar 4) (dCons (dVar 5) dNil)))) dNil))))) (sSeq (sRet (dC (.bl false))) sNext) sNext) (sSeq (sIf (dNot (dTru (dCall 4 sp_law_words_right_v2 (dCons (dVar 1) (dCons (dVar 3) (dCons (dVar 4) (dCons (dVar 5) dNil))))))) (sSeq (sRet (dC (.bl false))) sNext) sNext) (sSeq (sFor (dRng1 (dC (.int 10))) (.nm 7) (sSeq (sAsg (dCall 2 sp_law_bent_v4 (dCons (dVar 1) (dCons (dVar 6) dNil))) (.nm 8)) (sSeq (sIf (dOr (dNot (dTru (dCall 1 sp_law_accepted_right (dCons (dVar 8) dNil)))) (dNot (dTru (dCall 1 sp_law_accepted_right (dCons (dCall 2 sp_law_bent_v4 (dCons (dVar 1) (dCons (dVar 8) dNil))) dNil))))) (sSeq (sRet (dC (.bl false))) sNext) sNext) sNext))) sNext)))))) (sSeq (sRet (dC (.bl true))) sNext)))
theorem p_law_k63 (ds : List D) (M : MS) (Φ : DQ) (h : sp_law_k63 ds M Φ noX) : t_law_k63 { nx := fun _ M' => Φ .non M', rt := Φ } (startD 9 ds) M := by
  obtain ⟨ns, rfl, h⟩ := h
  rw [show startD 9 [D.scr ns] = [some (.scr ns), none, none, none, none, none, none, none, none] from rfl]
  unfold t_law_k63
  refine seq_post (fun ρ M => ∃ a c, ρ = [some (.scr ns), some (.ref a), none, none, none, none, none, none, none] ∧ Dk M a c (2 ^ 40)) (fun ρ M q => ?_) (fun K nk => ?_)
  rotate_left
  · simp only [sSeq, sRet, sRetN, sNext, sIf, sAsg, sPar, sPar3, sSetI, sAug, sAugI, sDrop, sBreak, sCont, dOp, dUn, dCons, dNil, dFn, dC, dTup, dLst, dLstM, dIf, dTest, dTru, dAnd, dOr, dNot, dAndV, dOrV, dNotE, dChain, dSl, dNoPart, dPart, dSeq, dEnum, dZip, dRng1, dRng2, dYes, dCall, dMt, dVar, dDic0, dDic1, put_nm, put_tp, puts_nil, puts_cons, List.getElem?_cons_zero, List.getElem?_cons_succ, List.set_cons_zero, List.set_cons_succ, startD, List.map_cons, List.map_nil, List.cons_append, List.nil_append, List.length_cons, List.length_nil, List.replicate_succ, List.replicate_zero, Nat.reduceSub, Nat.reduceAdd, Nat.zero_add, wipeD, keyD, gSeq, gPlain, gNil, gYield, gFor, dTupP, dRngP, dCallG, sForG, dLcG, GE.at, dTupRg, dStar, sPutT, dKeysT, dDicT0, dDicT1, sAsgL, dMake, dMakeF, dProp, dMeth, dCallO, dOp3, dLenO, dStrO, sFld, sFldAug, noXs, sRaise0, sRaise1, sTry, goneE, dCntB]
    exact ⟨trivial, ns, rfl, fun a c M' _ _ hD _ => nk _ _ ⟨a, c, rfl, hD⟩⟩
  obtain ⟨a, c, rfl, hD0⟩ := q
  refine seq_post (fun ρ M => True) (fun ρ M q => ?_) (fun K nk => ?_)
  · simp only [sSeq, sRet, sRetN, sNext, sIf, sAsg, sPar, sPar3, sSetI, sAug, sAugI, sDrop, sBreak, sCont, dOp, dUn, dCons, dNil, dFn, dC, dTup, dLst, dLstM, dIf, dTest, dTru, dAnd, dOr, dNot, dAndV, dOrV, dNotE, dChain, dSl, dNoPart, dPart, dSeq, dEnum, dZip, dRng1, dRng2, dYes, dCall, dMt, dVar, dDic0, dDic1, put_nm, put_tp, puts_nil, puts_cons, List.getElem?_cons_zero, List.getElem?_cons_succ, List.set_cons_zero, List.set_cons_succ, startD, List.map_cons, List.map_nil, List.cons_append, List.nil_append, List.length_cons, List.length_nil, List.replicate_succ, List.replicate_zero, Nat.reduceSub, Nat.reduceAdd, Nat.zero_add, wipeD, keyD, gSeq, gPlain, gNil, gYield, gFor, dTupP, dRngP, dCallG, sForG, dLcG, GE.at, dTupRg, dStar, sPutT, dKeysT, dDicT0, dDicT1, sAsgL, dMake, dMakeF, dProp, dMeth, dCallO, dOp3, dLenO, dStrO, sFld, sFldAug, noXs, sRaise0, sRaise1, sTry, goneE, dCntB]
    exact h M
  simp only [sFor, dRng1, dC]
  refine ⟨by decide, by decide, ?_⟩
  refine forW_inv (fun ds ρ M => ∃ (i : Nat) (r2 r3 r4 r5 r6 r7 r8 : Option D), ds = rangeD (i : Nat) ds.length ∧ i + ds.length = 5 ∧ ρ = [some (.scr ns), some (.ref a), r2, r3, r4, r5, r6, r7, r8] ∧ Dk M a c (400 * ds.length)) (fun _ _ _ _ => trivial) (fun ρ M' q => nk _ _ trivial) (fun d ds ρ M' Nx q nx => ?_) _ _ _
    ⟨0, none, none, none, none, none, none, none, by rw [rangeD_length]; rfl, by rw [rangeD_length]; rfl, rfl, hD0.mono (by rw [rangeD_length]; decide)⟩
  clear hD0
  obtain ⟨i, r2, r3, r4, r5, r6, r7, r8, e, hi, rfl, hD⟩ := q
  rw [List.length_cons] at hD hi
  rw [List.length_cons, rangeD_succ] at e
  injection e with e1 e2
  subst e1
  refine ⟨[some (.scr ns), some (.ref a), some (.int (i : Nat)), r3, r4, r5, r6, r7, r8], rfl, ?_⟩
  refine seq_post (fun ρ M => ∃ st : CSt, CorOk st ∧ ρ = [some (.scr ns), some (.ref a), some (.int (i : Nat)), some (.tup (st.1.map D.int)), some (.tup (st.2.1.map wayD)), some (.tup (st.2.2.map D.int)), r6, r7, r8] ∧ Dk M a c (400 * ds.length + 200)) (fun ρ M q => ?_) (fun K nk => ?_)
  rotate_left
  · simp only [sSeq, sRet, sRetN, sNext, sIf, sAsg, sPar, sPar3, sSetI, sAug, sAugI, sDrop, sBreak, sCont, dOp, dUn, dCons, dNil, dFn, dC, dTup, dLst, dLstM, dIf, dTest, dTru, dAnd, dOr, dNot, dAndV, dOrV, dNotE, dChain, dSl, dNoPart, dPart, dSeq, dEnum, dZip, dRng1, dRng2, dYes, dCall, dMt, dVar, dDic0, dDic1, put_nm, put_tp, puts_nil, puts_cons, List.getElem?_cons_zero, List.getElem?_cons_succ, List.set_cons_zero, List.set_cons_succ, startD, List.map_cons, List.map_nil, List.cons_append, List.nil_append, List.length_cons, List.length_nil, List.replicate_succ, List.replicate_zero, Nat.reduceSub, Nat.reduceAdd, Nat.zero_add, wipeD, keyD, gSeq, gPlain, gNil, gYield, gFor, dTupP, dRngP, dCallG, sForG, dLcG, GE.at, dTupRg, dStar, sPutT, dKeysT, dDicT0, dDicT1, sAsgL, dMake, dMakeF, dProp, dMeth, dCallO, dOp3, dLenO, dStrO, sFld, sFldAug, noXs, sRaise0, sRaise1, sTry, goneE, dCntB]
    refine ⟨by decide, rMod_i (by decide) ?_⟩
    have h2 : ∀ {Φ : DQ}, (∀ n : Nat, 2 ≤ n → n ≤ 10 → Φ (.int (n : Nat)) M') → rIx (.lst [.int 10, .int 4]) (.int (((i : Nat) : Int) % 2)) M' Φ := fun q => by
      refine rIx_any (by omega) (by show _ < ((2 : Nat) : Int); omega) fun d hd => ?_
      simp only [List.mem_cons, List.not_mem_nil, or_false] at hd
      rcases hd with rfl | rfl
      · exact q 10 (by decide) (by decide)
      · exact q 4 (by decide) (by decide)
    have h5 : ∀ {Φ : DQ}, (∀ n : Nat, n ≤ 40 → Φ (.int (n : Nat)) M') → rIx (.lst [.int 40, .int 6, .int 12, .int 3, .int 0]) (.int (i : Nat)) M' Φ := fun q => by
      refine rIx_any (by omega) (by show _ < ((5 : Nat) : Int); omega) fun d hd => ?_
      simp only [List.mem_cons, List.not_mem_nil, or_false] at hd
      rcases hd with rfl | rfl | rfl | rfl | rfl
      · exact q 40 (by decide)
      · exact q 6 (by decide)
      · exact q 12 (by decide)
      · exact q 3 (by decide)
      · exact q 0 (by decide)
    refine h2 fun n n1 n2 => ⟨by decide, h5 fun m hm => ?_⟩
    refine ⟨trivial, a, c, 400 * ds.length + 200, n, m, rfl, n1, n2, hm, hD.mono (by omega), fun st M2 d2 k2 ok _ _ => ?_⟩
    simp only [csD, stateD, puts_cons, puts_nil, put_tp, put_nm, List.set_cons_zero, List.set_cons_succ]
    exact nk _ _ ⟨st, ok, rfl, d2⟩
  clear hD
  obtain ⟨st, ok, rfl, hD⟩ := q
  have htx := cor_tx2 ok
  obtain ⟨z, ez⟩ : ∃ z, z = corT st.1 st.2.1 st.2.2 := ⟨_, rfl⟩
  rw [← ez] at htx
  have hzl := txB_len htx
  refine seq_post (fun ρ M => ρ = [some (.scr ns), some (.ref a), some (.int (i : Nat)), some (.tup (st.1.map D.int)), some (.tup (st.2.1.map wayD)), some (.tup (st.2.2.map D.int)), some (.str z), r7, r8] ∧ Dk M a c (400 * ds.length + 200)) (fun ρ M q => ?_) (fun K nk => ?_)
  rotate_left
  · simp only [sSeq, sRet, sRetN, sNext, sIf, sAsg, sPar, sPar3, sSetI, sAug, sAugI, sDrop, sBreak, sCont, dOp, dUn, dCons, dNil, dFn, dC, dTup, dLst, dLstM, dIf, dTest, dTru, dAnd, dOr, dNot, dAndV, dOrV, dNotE, dChain, dSl, dNoPart, dPart, dSeq, dEnum, dZip, dRng1, dRng2, dYes, dCall, dMt, dVar, dDic0, dDic1, put_nm, put_tp, puts_nil, puts_cons, List.getElem?_cons_zero, List.getElem?_cons_succ, List.set_cons_zero, List.set_cons_succ, startD, List.map_cons, List.map_nil, List.cons_append, List.nil_append, List.length_cons, List.length_nil, List.replicate_succ, List.replicate_zero, Nat.reduceSub, Nat.reduceAdd, Nat.zero_add, wipeD, keyD, gSeq, gPlain, gNil, gYield, gFor, dTupP, dRngP, dCallG, sForG, dLcG, GE.at, dTupRg, dStar, sPutT, dKeysT, dDicT0, dDicT1, sAsgL, dMake, dMakeF, dProp, dMeth, dCallO, dOp3, dLenO, dStrO, sFld, sFldAug, noXs, sRaise0, sRaise1, sTry, goneE, dCntB]
    refine ⟨trivial, _, _, _, rfl, ok.stOk, ?_⟩
    rw [← ez]
    exact nk _ _ ⟨rfl, hD⟩
  clear hD
  obtain ⟨rfl, hD⟩ := q
  have hprs : prs z = .ok st := by rw [ez]; exact prs_corT ok
  refine seq_post (fun ρ M => ρ = [some (.scr ns), some (.ref a), some (.int (i : Nat)), some (.tup (st.1.map D.int)), some (.tup (st.2.1.map wayD)), some (.tup (st.2.2.map D.int)), some (.str z), r7, r8] ∧ Dk M a c (400 * ds.length + 200)) (fun ρ M q => ?_) (fun K nk => ?_)
  rotate_left
  · simp only [dCallX, sSeq, sRet, sRetN, sNext, sIf, sAsg, sPar, sPar3, sSetI, sAug, sAugI, sDrop, sBreak, sCont, dOp, dUn, dCons, dNil, dFn, dC, dTup, dLst, dLstM, dIf, dTest, dTru, dAnd, dOr, dNot, dAndV, dOrV, dNotE, dChain, dSl, dNoPart, dPart, dSeq, dEnum, dZip, dRng1, dRng2, dYes, dCall, dMt, dVar, dDic0, dDic1, put_nm, put_tp, puts_nil, puts_cons, List.getElem?_cons_zero, List.getElem?_cons_succ, List.set_cons_zero, List.set_cons_succ, startD, List.map_cons, List.map_nil, List.cons_append, List.nil_append, List.length_cons, List.length_nil, List.replicate_succ, List.replicate_zero, Nat.reduceSub, Nat.reduceAdd, Nat.zero_add, wipeD, keyD, gSeq, gPlain, gNil, gYield, gFor, dTupP, dRngP, dCallG, sForG, dLcG, GE.at, dTupRg, dStar, sPutT, dKeysT, dDicT0, dDicT1, sAsgL, dMake, dMakeF, dProp, dMeth, dCallO, dOp3, dLenO, dStrO, sFld, sFldAug, noXs, sRaise0, sRaise1, sTry, goneE, dCntB]
    refine ⟨trivial, _, rfl, .inl ⟨z, rfl, by omega, fun k hk => ?_, fun st' hst M2 x => ?_⟩⟩
    · rw [hprs] at hk; cases hk
    · rw [hprs] at hst
      injection hst with hst
      subst hst
      refine ⟨by decide, trivial, csD st, rfl, cs_smp st ⟨ok.r2, ok.w, by have := ok.u; have := ok.r2; omega⟩, cs_still st, ?_⟩
      simp only [truD, Bool.not_true, Bool.false_eq_true, if_false]
      exact nk _ _ ⟨rfl, x.dk hD⟩
  clear hD
  obtain ⟨rfl, hD⟩ := q
  refine seq_post (fun ρ M => ρ = [some (.scr ns), some (.ref a), some (.int (i : Nat)), some (.tup (st.1.map D.int)), some (.tup (st.2.1.map wayD)), some (.tup (st.2.2.map D.int)), some (.str z), r7, r8] ∧ Dk M a c (400 * ds.length + 150)) (fun ρ M q => ?_) (fun K nk => ?_)
  rotate_left
  · simp only [sSeq, sRet, sRetN, sNext, sIf, sAsg, sPar, sPar3, sSetI, sAug, sAugI, sDrop, sBreak, sCont, dOp, dUn, dCons, dNil, dFn, dC, dTup, dLst, dLstM, dIf, dTest, dTru, dAnd, dOr, dNot, dAndV, dOrV, dNotE, dChain, dSl, dNoPart, dPart, dSeq, dEnum, dZip, dRng1, dRng2, dYes, dCall, dMt, dVar, dDic0, dDic1, put_nm, put_tp, puts_nil, puts_cons, List.getElem?_cons_zero, List.getElem?_cons_succ, List.set_cons_zero, List.set_cons_succ, startD, List.map_cons, List.map_nil, List.cons_append, List.nil_append, List.length_cons, List.length_nil, List.replicate_succ, List.replicate_zero, Nat.reduceSub, Nat.reduceAdd, Nat.zero_add, wipeD, keyD, gSeq, gPlain, gNil, gYield, gFor, dTupP, dRngP, dCallG, sForG, dLcG, GE.at, dTupRg, dStar, sPutT, dKeysT, dDicT0, dDicT1, sAsgL, dMake, dMakeF, dProp, dMeth, dCallO, dOp3, dLenO, dStrO, sFld, sFldAug, noXs, sRaise0, sRaise1, sTry, goneE, dCntB]
    refine ⟨trivial, a, c, 400 * ds.length + 150, st, rfl, ok, hD.mono (by omega), fun M2 d2 => ?_⟩
    simp only [truD, Bool.not_true, Bool.false_eq_true, if_false]
    exact nk _ _ ⟨rfl, d2⟩
  clear hD
  obtain ⟨rfl, hD⟩ := q
  simp only [sFor, dRng1, sSeq, sRet, sRetN, sNext, sIf, sAsg, sPar, sPar3, sSetI, sAug, sAugI, sDrop, sBreak, sCont, dOp, dUn, dCons, dNil, dFn, dC, dTup, dLst, dLstM, dIf, dTest, dTru, dAnd, dOr, dNot, dAndV, dOrV, dNotE, dChain, dSl, dNoPart, dPart, dSeq, dEnum, dZip, dRng1, dRng2, dYes, dCall, dMt, dVar, dDic0, dDic1, put_nm, put_tp, puts_nil, puts_cons, List.getElem?_cons_zero, List.getElem?_cons_succ, List.set_cons_zero, List.set_cons_succ, startD, List.map_cons, List.map_nil, List.cons_append, List.nil_append, List.length_cons, List.length_nil, List.replicate_succ, List.replicate_zero, Nat.reduceSub, Nat.reduceAdd, Nat.zero_add, wipeD, keyD, gSeq, gPlain, gNil, gYield, gFor, dTupP, dRngP, dCallG, sForG, dLcG, GE.at, dTupRg, dStar, sPutT, dKeysT, dDicT0, dDicT1, sAsgL, dMake, dMakeF, dProp, dMeth, dCallO, dOp3, dLenO, dStrO, sFld, sFldAug, noXs, sRaise0, sRaise1, sTry, goneE, dCntB]
  refine ⟨by decide, by decide, ?_⟩
  refine forW_inv (fun ds' ρ M => (∃ r7 r8, ρ = [some (.scr ns), some (.ref a), some (.int (i : Nat)), some (.tup (st.1.map D.int)), some (.tup (st.2.1.map wayD)), some (.tup (st.2.2.map D.int)), some (.str z), r7, r8]) ∧ Dk M a c (400 * ds.length + 12 * ds'.length)) (fun _ _ _ _ => trivial) (fun ρ M q => ?_) (fun d' ds' ρ M Ny q ny => ?_) _ _ _
    ⟨⟨r7, r8, rfl⟩, hD.mono (by rw [rangeD_length]; show _ + 12 * 10 ≤ _; omega)⟩
  · obtain ⟨⟨r7, r8, rfl⟩, hD⟩ := q
    exact nx _ _ ⟨i + 1, _, _, _, _, _, _, _, by rw [show ((i + 1 : Nat) : Int) = (i : Int) + 1 by omega]; exact e2, by omega, rfl, hD.mono (by simp)⟩
  · clear hD
    obtain ⟨⟨r7, r8, rfl⟩, hD⟩ := q
    rw [List.length_cons] at hD
    refine ⟨[some (.scr ns), some (.ref a), some (.int (i : Nat)), some (.tup (st.1.map D.int)), some (.tup (st.2.1.map wayD)), some (.tup (st.2.2.map D.int)), some (.str z), some d', r8], rfl, ?_⟩
    simp only [sSeq, sRet, sRetN, sNext, sIf, sAsg, sPar, sPar3, sSetI, sAug, sAugI, sDrop, sBreak, sCont, dOp, dUn, dCons, dNil, dFn, dC, dTup, dLst, dLstM, dIf, dTest, dTru, dAnd, dOr, dNot, dAndV, dOrV, dNotE, dChain, dSl, dNoPart, dPart, dSeq, dEnum, dZip, dRng1, dRng2, dYes, dCall, dMt, dVar, dDic0, dDic1, put_nm, put_tp, puts_nil, puts_cons, List.getElem?_cons_zero, List.getElem?_cons_succ, List.set_cons_zero, List.set_cons_succ, startD, List.map_cons, List.map_nil, List.cons_append, List.nil_append, List.length_cons, List.length_nil, List.replicate_succ, List.replicate_zero, Nat.reduceSub, Nat.reduceAdd, Nat.zero_add, wipeD, keyD, gSeq, gPlain, gNil, gYield, gFor, dTupP, dRngP, dCallG, sForG, dLcG, GE.at, dTupRg, dStar, sPutT, dKeysT, dDicT0, dDicT1, sAsgL, dMake, dMakeF, dProp, dMeth, dCallO, dOp3, dLenO, dStrO, sFld, sFldAug, noXs, sRaise0, sRaise1, sTry, goneE, dCntB]
    refine ⟨trivial, a, c, 400 * ds.length + 12 * ds'.length + 6, 2000, z, rfl, hD.mono (by omega), htx, by decide, fun y1 M1 d1 k1 h1 => ?_⟩
    have hy1 := txB_len h1
    refine ⟨trivial, y1, rfl, by omega, fun M2 x2 => ?_⟩
    simp only [truD, Bool.not_true, Bool.false_eq_true, if_false]
    refine ⟨trivial, a, c, 400 * ds.length + 12 * ds'.length, 4004, y1, rfl, x2.dk d1, h1, by decide, fun y2 M3 d3 k3 h3 => ?_⟩
    have hy2 := txB_len h3
    refine ⟨trivial, y2, rfl, by omega, fun M4 x4 => ?_⟩
    simp only [truD, Bool.not_true, Bool.false_eq_true, if_false]
    exact ny _ _ ⟨⟨_, _, rfl⟩, x4.dk d3⟩
end DL
namespace LK
open PySem PySem.Spec PyProof.Rows L2 DL
structure Tab (K : PySem.W.Frag) (mg : Str → Option Value) : Prop where
  sm : (K.lookup sysModules).isSome = true
  f_ValueError : mg "ValueError" = none
  f_abs : mg "abs" = none
  f_all : mg "all" = none
  f_bool : mg "bool" = none
  f_enumerate : mg "enumerate" = none
  f_int : mg "int" = none
  f_isinstance : mg "isinstance" = none
  f_len : mg "len" = none
  f_list : mg "list" = none
  f_max : mg "max" = none
  f_range : mg "range" = none
  f_str : mg "str" = none
  f_sum : mg "sum" = none
  f_tuple : mg "tuple" = none
  f_zip : mg "zip" = none
  i_MAX_STATIONS : ∃ t, mg "MAX_STATIONS" = some (.int 10 t)
  i_MAX_CHAIRS : ∃ t, mg "MAX_CHAIRS" = some (.int 50 t)
  i_MAX_WALKERS : ∃ t, mg "MAX_WALKERS" = some (.int 40 t)
  i_MAX_WANT : ∃ t, mg "MAX_WANT" = some (.int 500 t)
  i_LONGEST : ∃ t, mg "LONGEST" = some (.int 4 t)
  s_FIGURES : ∃ t, mg "FIGURES" = some (.str "0123456789" t)
  s_COMMA : ∃ t, mg "COMMA" = some (.str "," t)
  s_DASH : ∃ t, mg "DASH" = some (.str "-" t)
  s_MIDDLE : ∃ t, mg "MIDDLE" = some (.str "for" t)
  g_BadText : mg "BadText" = some (.ref (He.ga K "BadText"))
  k_BadText : cclsB K "BadText" = true
variable {P : Program} {w : World} {K : PySem.W.Frag} {mg : Str → Option Value} {base : Heap}
abbrev n_is_number : List Str := ["value", "low", "high"]
theorem b_is_number (T : Tab K mg) {cdv : Value} {A : Around} {outer : List Env} {s : Shared} {H : Hp} {E : XK} {f : Addr} (hr : Room 0 (A.deeper (envOfC "is_number" (defScope Hd.s_is_number) s.heap.objs.size f cdv))) (hg : (A.deeper (envOfC "is_number" (defScope Hd.s_is_number) s.heap.objs.size f cdv)).guards = some []) :
    PSs (cxOf CX0 P w K mg base n_is_number "is_number" (defScope Hd.s_is_number) f cdv A outer s H E).nox (defBody Hd.s_is_number) (loS K Og.top t_is_number) := by
  have nd : n_is_number.Nodup := by decide +kernel
  exact (z_cons (z_ret (q_andV (q_callB c_isi rfl T.f_isinstance bt_isinstance (q_cons (q_var (i := 0) rfl (.inl rfl) rfl rfl) (q_cons (q_ty .int rfl T.f_int bt_int (by decide) rfl) q_nil rfl) rfl) (by decide) rfl rfl rfl) (q_andV (q_notE (q_callB c_isi rfl T.f_isinstance bt_isinstance (q_cons (q_var (i := 0) rfl (.inl rfl) rfl rfl) (q_cons (q_ty .bool rfl T.f_bool bt_bool (by decide) rfl) q_nil rfl) rfl) (by decide) rfl rfl rfl)) (q_one (q_chain (o_cmp op_le) (o_cmp op_le) (q_var (i := 1) rfl (.inl rfl) rfl rfl) (q_var (i := 0) rfl (.inl rfl) rfl rfl) (q_var (i := 2) rfl (.inl rfl) rfl rfl) (by with_unfolding_all rfl)))))) z_nil)
abbrev n_row_error : List Str := ["value", "station", "number"]
theorem b_row_error (T : Tab K mg) (C_is_number : Callee P w K mg base 1 "is_number" 3 sp_is_number) {cdv : Value} {A : Around} {outer : List Env} {s : Shared} {H : Hp} {E : XK} {f : Addr} (hr : Room 1 (A.deeper (envOfC "row_error" (defScope Hd.s_row_error) s.heap.objs.size f cdv))) (hg : (A.deeper (envOfC "row_error" (defScope Hd.s_row_error) s.heap.objs.size f cdv)).guards = some []) :
    PSs (cxOf CX0 P w K mg base n_row_error "row_error" (defScope Hd.s_row_error) f cdv A outer s H E).nox (defBody Hd.s_row_error) (loS K Og.top t_row_error) := by
  have nd : n_row_error.Nodup := by decide +kernel
  exact (z_cons (z_if (PW.pt (q_or (q_not (q_tru (q_callB c_isi rfl T.f_isinstance bt_isinstance (q_cons (q_var (i := 0) rfl (.inl rfl) rfl rfl) (q_cons (q_ty .tuple rfl T.f_tuple bt_tuple (by decide) rfl) q_nil rfl) rfl) (by decide) rfl rfl rfl) (fun _ => rfl))) (q_or1 (q_not (q_chainT (o_cmp op_le) (o_cmp op_le) q_int (q_callB c_len rfl T.f_len bt_len (q_cons (q_var (i := 0) rfl (.inl rfl) rfl rfl) q_nil rfl) (by decide) rfl rfl rfl) (q_gint rfl T.i_MAX_STATIONS rfl) (by with_unfolding_all rfl)))))) (z_cons (z_ret (q_tup (q_cons q_non (q_cons q_str q_nil rfl) rfl))) z_nil) z_nil) (z_cons (z_for PassesOwn.never rfl (pi_enumK rfl T.f_enumerate (q_var (i := 0) rfl (.inl rfl) rfl rfl) rfl rfl) (g_tp rfl (gs_cons (g_nm (i := 1) nd rfl (.inl rfl) (.inr rfl)) (gs_cons (g_nm (i := 2) nd rfl (.inl rfl) (.inr rfl)) gs_nil rfl) rfl) rfl rfl) (z_cons (z_if (q_not (q_tru (q_call C_is_number hr (by decide) hg rfl (q_cons (q_var (i := 2) rfl (.inl rfl) rfl rfl) (q_cons q_int (q_cons (q_gint rfl T.i_MAX_CHAIRS rfl) q_nil rfl) rfl) rfl) rfl rfl rfl) (fun _ => rfl))) (z_cons (z_ret (q_tup (q_cons (q_var (i := 1) rfl (.inl rfl) rfl rfl) (q_cons q_str q_nil rfl) rfl))) z_nil) z_nil) z_nil) (fun _ => rfl)) (z_cons (z_ret q_non) z_nil)))
abbrev n_is_row : List Str := ["value"]
theorem b_is_row (T : Tab K mg) (C_row_error : Callee P w K mg base 2 "row_error" 1 sp_row_error) {cdv : Value} {A : Around} {outer : List Env} {s : Shared} {H : Hp} {E : XK} {f : Addr} (hr : Room 2 (A.deeper (envOfC "is_row" (defScope Hd.s_is_row) s.heap.objs.size f cdv))) (hg : (A.deeper (envOfC "is_row" (defScope Hd.s_is_row) s.heap.objs.size f cdv)).guards = some []) :
    PSs (cxOf CX0 P w K mg base n_is_row "is_row" (defScope Hd.s_is_row) f cdv A outer s H E).nox (defBody Hd.s_is_row) (loS K Og.top t_is_row) := by
  have nd : n_is_row.Nodup := by decide +kernel
  exact (z_cons (z_ret (q_cmp o_is (q_call C_row_error hr (by decide) hg rfl (q_cons (q_var (i := 0) rfl (.inl rfl) rfl rfl) q_nil rfl) rfl rfl rfl) q_non (nomark _))) z_nil)
abbrev n_is_way : List Str := ["stations", "value"]
theorem b_is_way (T : Tab K mg) (C_is_number : Callee P w K mg base 1 "is_number" 3 sp_is_number) {cdv : Value} {A : Around} {outer : List Env} {s : Shared} {H : Hp} {E : XK} {f : Addr} (hr : Room 1 (A.deeper (envOfC "is_way" (defScope Hd.s_is_way) s.heap.objs.size f cdv))) (hg : (A.deeper (envOfC "is_way" (defScope Hd.s_is_way) s.heap.objs.size f cdv)).guards = some []) :
    PSs (cxOf CX0 P w K mg base n_is_way "is_way" (defScope Hd.s_is_way) f cdv A outer s H E).nox (defBody Hd.s_is_way) (loS K Og.top t_is_way) := by
  have nd : n_is_way.Nodup := by decide +kernel
  exact (z_cons (z_if (PW.pt (q_or (q_not (q_tru (q_callB c_isi rfl T.f_isinstance bt_isinstance (q_cons (q_var (i := 1) rfl (.inl rfl) rfl rfl) (q_cons (q_ty .tuple rfl T.f_tuple bt_tuple (by decide) rfl) q_nil rfl) rfl) (by decide) rfl rfl rfl) (fun _ => rfl))) (q_or1 (q_cmpT (o_ne hr.u64) (q_callB c_len rfl T.f_len bt_len (q_cons (q_var (i := 1) rfl (.inl rfl) rfl rfl) q_nil rfl) (by decide) rfl rfl rfl) q_int (nomark _))))) (z_cons (z_ret q_bl) z_nil) z_nil) (z_cons (z_ret (q_andV (q_call C_is_number hr (by decide) hg rfl (q_cons (q_ix (q_var (i := 1) rfl (.inl rfl) rfl rfl) q_int (fun _ _ => rfl)) (q_cons q_int (q_cons (q_op o_sub (q_var (i := 0) rfl (.inl rfl) rfl rfl) q_int) q_nil rfl) rfl) rfl) rfl rfl rfl) (q_one (q_call C_is_number hr (by decide) hg rfl (q_cons (q_ix (q_var (i := 1) rfl (.inl rfl) rfl rfl) q_int (fun _ _ => rfl)) (q_cons q_int (q_cons (q_op o_sub (q_ix (q_var (i := 1) rfl (.inl rfl) rfl rfl) q_int (fun _ _ => rfl)) q_int) q_nil rfl) rfl) rfl) rfl rfl rfl)))) z_nil))
abbrev n_are_walkers : List Str := ["stations", "value", "way"]
theorem b_are_walkers (T : Tab K mg) (C_is_way : Callee P w K mg base 2 "is_way" 2 sp_is_way) {cdv : Value} {A : Around} {outer : List Env} {s : Shared} {H : Hp} {E : XK} {f : Addr} (hr : Room 2 (A.deeper (envOfC "are_walkers" (defScope Hd.s_are_walkers) s.heap.objs.size f cdv))) (hg : (A.deeper (envOfC "are_walkers" (defScope Hd.s_are_walkers) s.heap.objs.size f cdv)).guards = some []) :
    PSs (cxOf CX0 P w K mg base n_are_walkers "are_walkers" (defScope Hd.s_are_walkers) f cdv A outer s H E).nox (defBody Hd.s_are_walkers) (loS K Og.top t_are_walkers) := by
  have nd : n_are_walkers.Nodup := by decide +kernel
  exact (z_cons (z_if (PW.pt (q_or (q_not (q_tru (q_callB c_isi rfl T.f_isinstance bt_isinstance (q_cons (q_var (i := 1) rfl (.inl rfl) rfl rfl) (q_cons (q_ty .tuple rfl T.f_tuple bt_tuple (by decide) rfl) q_nil rfl) rfl) (by decide) rfl rfl rfl) (fun _ => rfl))) (q_or1 (q_cmpT (o_cmp op_gt) (q_callB c_len rfl T.f_len bt_len (q_cons (q_var (i := 1) rfl (.inl rfl) rfl rfl) q_nil rfl) (by decide) rfl rfl rfl) (q_gint rfl T.i_MAX_WALKERS rfl) (nomark _))))) (z_cons (z_ret q_bl) z_nil) z_nil) (z_cons (z_ret (q_callB (c_all rfl) rfl T.f_all bt_all (q_cons (q_lc (own := [("way", 2)]) rfl nd (pi_seq (q_var (i := 1) rfl (.inl rfl) rfl rfl)) (blkOk_by (by kernel_rfl)) (fun _ _ _ _ _ => (g_nm (i := 2) nd rfl (.inl rfl) (.inr rfl))) (fun _ _ _ _ _ => q_yes) (fun _ _ _ _ _ => (q_call C_is_way hr (by decide) hg rfl (q_cons (q_var (i := 0) rfl (.inr (.inl rfl)) rfl rfl) (q_cons (q_var (i := 2) rfl (.inl rfl) rfl rfl) q_nil rfl) rfl) rfl rfl rfl)) (fun _ => rfl) (by decide)) q_nil rfl) (by decide) rfl rfl rfl)) z_nil))
abbrev n_chairs_after : List Str := ["numbers", "stages", "found", "is_possible", "stage"]
theorem b_chairs_after (T : Tab K mg) {cdv : Value} {A : Around} {outer : List Env} {s : Shared} {H : Hp} {E : XK} {f : Addr} (hr : Room 0 (A.deeper (envOfC "chairs_after" (defScope Hd.s_chairs_after) s.heap.objs.size f cdv))) (hg : (A.deeper (envOfC "chairs_after" (defScope Hd.s_chairs_after) s.heap.objs.size f cdv)).guards = some []) :
    PSs (cxOf CX0 P w K mg base n_chairs_after "chairs_after" (defScope Hd.s_chairs_after) f cdv A outer s H E).nox (defBody Hd.s_chairs_after) (loS K Og.top t_chairs_after) := by
  have nd : n_chairs_after.Nodup := by decide +kernel
  exact (z_cons (z_par (i := 2) (j := 3) rfl nd rfl rfl (by decide) rfl rfl (q_cons (q_callT c_listM rfl T.f_list bt_list (q_cons (q_var (i := 0) rfl (.inl rfl) rfl rfl) q_nil rfl) (by decide) rfl rfl rfl) (q_cons q_bl q_nil rfl) rfl) rfl rfl) (z_cons (z_for PassesOwn.never rfl (pi_seq (q_var (i := 1) rfl (.inl rfl) rfl rfl)) (g_nm (i := 4) nd rfl (.inl rfl) (.inr rfl)) (z_cons (z_set (i := 3) nd rfl (.inl rfl) (q_andV (q_var (i := 3) rfl (.inl rfl) rfl rfl) (q_one (q_cmp (o_cmp op_gt) (q_ix (q_var (i := 2) rfl (.inl rfl) rfl rfl) (q_var (i := 4) rfl (.inl rfl) rfl rfl) (fun _ _ => rfl)) q_int (nomark _)))) rfl (.inr rfl)) (z_cons (z_augI (q_var (i := 2) rfl (.inl rfl) rfl rfl) (q_var (i := 4) rfl (.inl rfl) rfl rfl) q_int ip_sub (fun _ _ _ => rfl)) (z_cons (z_augI (q_var (i := 2) rfl (.inl rfl) rfl rfl) (q_op o_add (q_var (i := 4) rfl (.inl rfl) rfl rfl) q_int) q_int ip_add (fun _ _ _ => rfl)) z_nil))) (fun _ => rfl)) (z_cons (z_ret (q_tup (q_cons (q_callT c_tuple rfl T.f_tuple bt_tuple (q_cons (q_var (i := 2) rfl (.inl rfl) rfl rfl) q_nil rfl) (by decide) rfl rfl rfl) (q_cons (q_var (i := 3) rfl (.inl rfl) rfl rfl) q_nil rfl) rfl))) z_nil)))
abbrev n_row_after : List Str := ["row", "walkers", "plan", "numbers", "stages", "is_possible"]
theorem b_row_after (T : Tab K mg) (C_chairs_after : Callee P w K mg base 1 "chairs_after" 2 sp_chairs_after) {cdv : Value} {A : Around} {outer : List Env} {s : Shared} {H : Hp} {E : XK} {f : Addr} (hr : Room 1 (A.deeper (envOfC "row_after" (defScope Hd.s_row_after) s.heap.objs.size f cdv))) (hg : (A.deeper (envOfC "row_after" (defScope Hd.s_row_after) s.heap.objs.size f cdv)).guards = some []) :
    PSs (cxOf CX0 P w K mg base n_row_after "row_after" (defScope Hd.s_row_after) f cdv A outer s H E).nox (defBody Hd.s_row_after) (loS K Og.top t_row_after) := by
  have nd : n_row_after.Nodup := by decide +kernel
  exact (z_cons (z_set (i := 3) nd rfl (.inl rfl) (q_var (i := 0) rfl (.inl rfl) rfl rfl) rfl (.inr rfl)) (z_cons (z_for PassesOwn.never rfl (pi_seq (q_var (i := 2) rfl (.inl rfl) rfl rfl)) (g_nm (i := 4) nd rfl (.inl rfl) (.inr rfl)) (z_cons (z_asg (p := (.tp [(.nm 3), (.nm 5)])) (q_call C_chairs_after hr (by decide) hg rfl (q_cons (q_var (i := 3) rfl (.inl rfl) rfl rfl) (q_cons (q_var (i := 4) rfl (.inl rfl) rfl rfl) q_nil rfl) rfl) rfl rfl rfl) (g_tp rfl (gs_cons (g_nm (i := 3) nd rfl (.inl rfl) (.inr rfl)) (gs_cons (g_nm (i := 5) nd rfl (.inl rfl) (.inr rfl)) gs_nil rfl) rfl) rfl rfl) rfl rfl rfl) z_nil) (fun _ => rfl)) (z_cons (z_ret (q_var (i := 3) rfl (.inl rfl) rfl rfl)) z_nil)))
abbrev n_rule_stages : List Str := ["numbers", "way", "found", "first", "brought", "stage"]
theorem b_rule_stages (T : Tab K mg) {cdv : Value} {A : Around} {outer : List Env} {s : Shared} {H : Hp} {E : XK} {f : Addr} (hr : Room 0 (A.deeper (envOfC "rule_stages" (defScope Hd.s_rule_stages) s.heap.objs.size f cdv))) (hg : (A.deeper (envOfC "rule_stages" (defScope Hd.s_rule_stages) s.heap.objs.size f cdv)).guards = some []) :
    PSs (cxOf CX0 P w K mg base n_rule_stages "rule_stages" (defScope Hd.s_rule_stages) f cdv A outer s H E).nox (defBody Hd.s_rule_stages) (loS K Og.top t_rule_stages) := by
  have nd : n_rule_stages.Nodup := by decide +kernel
  exact (z_cons (z_par3 (i := 2) (j := 3) (l := 4) rfl nd rfl rfl rfl (by decide) (by decide) (by decide) rfl rfl rfl (q_cons (q_lstM q_nil) (q_cons (q_ix (q_var (i := 1) rfl (.inl rfl) rfl rfl) q_int (fun _ _ => rfl)) (q_cons q_int q_nil rfl) rfl) rfl) rfl rfl) (z_cons (z_for PassesOwn.never rfl (pi_rng2 rfl T.f_range (q_var (i := 3) rfl (.inl rfl) rfl rfl) (q_ix (q_var (i := 1) rfl (.inl rfl) rfl rfl) q_int (fun _ _ => rfl)) rfl rfl rfl rfl) (g_nm (i := 5) nd rfl (.inl rfl) (.inr rfl)) (z_cons (z_set (i := 4) nd rfl (.inl rfl) (q_callT c_int rfl T.f_int bt_int (q_cons (q_cmp (o_cmp op_gt) (q_op o_add (q_ix (q_var (i := 0) rfl (.inl rfl) rfl rfl) (q_var (i := 5) rfl (.inl rfl) rfl rfl) (fun _ _ => rfl)) (q_var (i := 4) rfl (.inl rfl) rfl rfl)) q_int (nomark _)) q_nil rfl) (by decide) rfl rfl rfl) rfl (.inr rfl)) (z_cons (z_expr (q_extend (q_var (i := 2) rfl (.inl rfl) rfl rfl) (q_op o_mul (q_lst (q_cons (q_var (i := 5) rfl (.inl rfl) rfl rfl) q_nil rfl)) (q_var (i := 4) rfl (.inl rfl) rfl rfl)) rfl rfl rfl rfl rfl) rfl) z_nil)) (fun _ => rfl)) (z_cons (z_ret (q_callT c_tuple rfl T.f_tuple bt_tuple (q_cons (q_var (i := 2) rfl (.inl rfl) rfl rfl) q_nil rfl) (by decide) rfl rfl rfl)) z_nil)))
abbrev n_each_walk : List Str := ["row", "walkers", "numbers", "way", "stages", "is_possible"]
theorem b_each_walk (T : Tab K mg) (C_rule_stages : Callee P w K mg base 1 "rule_stages" 2 sp_rule_stages) (C_chairs_after : Callee P w K mg base 1 "chairs_after" 2 sp_chairs_after) {n0 f : Addr} {cdv : Value} {outer : List Env} {g : Nat} : GSxs ⟨P, w, K, mg, base, n_each_walk, "each_walk", defScope Hd.s_each_walk, n0, f, cdv, outer, g⟩ 1 (defBody Hd.s_each_walk) t_each_walk := by
  have nd : n_each_walk.Nodup := by decide +kernel
  exact (gxs_cons (gx_plain (fun A s0 H0 a _ => have hr := a.room; have hg := a.gd; (z_set (i := 2) nd rfl (.inl rfl) (q_var (i := 0) rfl (.inl rfl) rfl rfl) rfl (.inr rfl)))) (gxs_cons (gx_for (fun A s0 H0 a _ => have hr := a.room; have hg := a.gd; (pip_tup (q_var (i := 1) rfl (.inl rfl) rfl rfl))) (fun A s0 H0 a _ => have hr := a.room; have hg := a.gd; (g_nm (i := 3) nd rfl (.inl rfl) (.inr rfl))) (gxs_cons (gx_plain (fun A s0 H0 a _ => have hr := a.room; have hg := a.gd; (z_set (i := 4) nd rfl (.inl rfl) (q_call C_rule_stages hr (by decide) hg rfl (q_cons (q_var (i := 2) rfl (.inl rfl) rfl rfl) (q_cons (q_var (i := 3) rfl (.inl rfl) rfl rfl) q_nil rfl) rfl) rfl rfl rfl) rfl (.inr rfl)))) (gxs_cons (gx_plain (fun A s0 H0 a _ => have hr := a.room; have hg := a.gd; (z_asg (p := (.tp [(.nm 2), (.nm 5)])) (q_call C_chairs_after hr (by decide) hg rfl (q_cons (q_var (i := 2) rfl (.inl rfl) rfl rfl) (q_cons (q_var (i := 4) rfl (.inl rfl) rfl rfl) q_nil rfl) rfl) rfl rfl rfl) (g_tp rfl (gs_cons (g_nm (i := 2) nd rfl (.inl rfl) (.inr rfl)) (gs_cons (g_nm (i := 5) nd rfl (.inl rfl) (.inr rfl)) gs_nil rfl) rfl) rfl rfl) rfl rfl rfl))) (gxs_cons (gx_yield (fun A s0 H0 a _ => have hr := a.room; have hg := a.gd; (q_tup (q_cons (q_var (i := 4) rfl (.inl rfl) rfl rfl) (q_cons (q_var (i := 2) rfl (.inl rfl) rfl rfl) q_nil rfl) rfl))) rfl) gxs_nil))) (fun _ => rfl)) gxs_nil))
abbrev n_rule_plan : List Str := ["row", "walkers", "stages", "numbers"]
theorem b_rule_plan (T : Tab K mg) (C_each_walk : GCallee P w K mg base 2 "each_walk" 2 sp_each_walk) {cdv : Value} {A : Around} {outer : List Env} {s : Shared} {H : Hp} {E : XK} {f : Addr} (hr : Room 3 (A.deeper (envOfC "rule_plan" (defScope Hd.s_rule_plan) s.heap.objs.size f cdv))) (hg : (A.deeper (envOfC "rule_plan" (defScope Hd.s_rule_plan) s.heap.objs.size f cdv)).guards = some []) :
    PSs (cxOf CX0 P w K mg base n_rule_plan "rule_plan" (defScope Hd.s_rule_plan) f cdv A outer s H E).nox (defBody Hd.s_rule_plan) (loS K Og.top t_rule_plan) := by
  have nd : n_rule_plan.Nodup := by decide +kernel
  exact (z_cons (z_ret (q_callT c_tuple rfl T.f_tuple bt_tuple (q_cons (q_lcG (own := [("stages", 2), ("numbers", 3)]) rfl nd (hr.mono (by decide)) hg (g_call C_each_walk (hr.mono (by decide)) rfl (q_cons (q_var (i := 0) rfl (.inl rfl) rfl rfl) (q_cons (q_var (i := 1) rfl (.inl rfl) rfl rfl) q_nil rfl) rfl) rfl rfl rfl) (blkOk_by (by kernel_rfl)) (fun _ _ _ _ _ => (g_tp rfl (gs_cons (g_nm (i := 2) nd rfl (.inl rfl) (.inr rfl)) (gs_cons (g_nm (i := 3) nd rfl (.inl rfl) (.inr rfl)) gs_nil rfl) rfl) rfl rfl)) (fun _ _ _ _ _ => q_yes) (fun _ _ _ _ _ => (q_var (i := 2) rfl (.inl rfl) rfl rfl)) (fun _ => rfl) (by decide)) q_nil rfl) (by decide) rfl rfl rfl)) z_nil)
abbrev n_is_within : List Str := ["value", "low", "high"]
theorem b_is_within (T : Tab K mg) {cdv : Value} {A : Around} {outer : List Env} {s : Shared} {H : Hp} {E : XK} {f : Addr} (hr : Room 0 (A.deeper (envOfC "is_within" (defScope Hd.s_is_within) s.heap.objs.size f cdv))) (hg : (A.deeper (envOfC "is_within" (defScope Hd.s_is_within) s.heap.objs.size f cdv)).guards = some []) :
    PSs (cxOf CX0 P w K mg base n_is_within "is_within" (defScope Hd.s_is_within) f cdv A outer s H E).nox (defBody Hd.s_is_within) (loS K Og.top t_is_within) := by
  have nd : n_is_within.Nodup := by decide +kernel
  exact (z_cons (z_ret (q_andV (q_callB c_isi rfl T.f_isinstance bt_isinstance (q_cons (q_var (i := 0) rfl (.inl rfl) rfl rfl) (q_cons (q_ty .int rfl T.f_int bt_int (by decide) rfl) q_nil rfl) rfl) (by decide) rfl rfl rfl) (q_andV (q_notE (q_callB c_isi rfl T.f_isinstance bt_isinstance (q_cons (q_var (i := 0) rfl (.inl rfl) rfl rfl) (q_cons (q_ty .bool rfl T.f_bool bt_bool (by decide) rfl) q_nil rfl) rfl) (by decide) rfl rfl rfl)) (q_one (q_chain (o_cmp op_le) (o_cmp op_le) (q_var (i := 1) rfl (.inl rfl) rfl rfl) (q_var (i := 0) rfl (.inl rfl) rfl rfl) (q_var (i := 2) rfl (.inl rfl) rfl rfl) (by with_unfolding_all rfl)))))) z_nil)
abbrev n_are_within : List Str := ["value", "high", "number"]
theorem b_are_within (T : Tab K mg) (C_is_within : Callee P w K mg base 1 "is_within" 3 sp_is_within) {cdv : Value} {A : Around} {outer : List Env} {s : Shared} {H : Hp} {E : XK} {f : Addr} (hr : Room 1 (A.deeper (envOfC "are_within" (defScope Hd.s_are_within) s.heap.objs.size f cdv))) (hg : (A.deeper (envOfC "are_within" (defScope Hd.s_are_within) s.heap.objs.size f cdv)).guards = some []) :
    PSs (cxOf CX0 P w K mg base n_are_within "are_within" (defScope Hd.s_are_within) f cdv A outer s H E).nox (defBody Hd.s_are_within) (loS K Og.top t_are_within) := by
  have nd : n_are_within.Nodup := by decide +kernel
  exact (z_cons (z_ret (q_andV (q_callB c_isi rfl T.f_isinstance bt_isinstance (q_cons (q_var (i := 0) rfl (.inl rfl) rfl rfl) (q_cons (q_ty .tuple rfl T.f_tuple bt_tuple (by decide) rfl) q_nil rfl) rfl) (by decide) rfl rfl rfl) (q_one (q_callB (c_all rfl) rfl T.f_all bt_all (q_cons (q_lc (own := [("number", 2)]) rfl nd (pi_seq (q_var (i := 0) rfl (.inl rfl) rfl rfl)) (blkOk_by (by kernel_rfl)) (fun _ _ _ _ _ => (g_nm (i := 2) nd rfl (.inl rfl) (.inr rfl))) (fun _ _ _ _ _ => q_yes) (fun _ _ _ _ _ => (q_call C_is_within hr (by decide) hg rfl (q_cons (q_var (i := 2) rfl (.inl rfl) rfl rfl) (q_cons q_int (q_cons (q_var (i := 1) rfl (.inr (.inl rfl)) rfl rfl) q_nil rfl) rfl) rfl) rfl rfl rfl)) (fun _ => rfl) (by decide)) q_nil rfl) (by decide) rfl rfl rfl)))) z_nil)
abbrev n_are_wants : List Str := ["stations", "value"]
theorem b_are_wants (T : Tab K mg) (C_are_within : Callee P w K mg base 2 "are_within" 2 sp_are_within) {cdv : Value} {A : Around} {outer : List Env} {s : Shared} {H : Hp} {E : XK} {f : Addr} (hr : Room 2 (A.deeper (envOfC "are_wants" (defScope Hd.s_are_wants) s.heap.objs.size f cdv))) (hg : (A.deeper (envOfC "are_wants" (defScope Hd.s_are_wants) s.heap.objs.size f cdv)).guards = some []) :
    PSs (cxOf CX0 P w K mg base n_are_wants "are_wants" (defScope Hd.s_are_wants) f cdv A outer s H E).nox (defBody Hd.s_are_wants) (loS K Og.top t_are_wants) := by
  have nd : n_are_wants.Nodup := by decide +kernel
  exact (z_cons (z_ret (q_andV (q_call C_are_within hr (by decide) hg rfl (q_cons (q_var (i := 1) rfl (.inl rfl) rfl rfl) (q_cons (q_gint rfl T.i_MAX_WANT rfl) q_nil rfl) rfl) rfl rfl rfl) (q_one (q_cmp (o_eq hr.u64) (q_callB c_len rfl T.f_len bt_len (q_cons (q_var (i := 1) rfl (.inl rfl) rfl rfl) q_nil rfl) (by decide) rfl rfl rfl) (q_var (i := 0) rfl (.inl rfl) rfl rfl) (nomark _))))) z_nil)
abbrev n_parse_number : List Str := ["word", "figure"]
theorem b_parse_number (T : Tab K mg) {cdv : Value} {A : Around} {outer : List Env} {s : Shared} {H : Hp} {E : XK} {f : Addr} (hr : Room 0 (A.deeper (envOfC "parse_number" (defScope Hd.s_parse_number) s.heap.objs.size f cdv))) (hg : (A.deeper (envOfC "parse_number" (defScope Hd.s_parse_number) s.heap.objs.size f cdv)).guards = some []) :
    PSs (cxOf CX0 P w K mg base n_parse_number "parse_number" (defScope Hd.s_parse_number) f cdv A outer s H E).nox (defBody Hd.s_parse_number) (loS K Og.top t_parse_number) := by
  have nd : n_parse_number.Nodup := by decide +kernel
  exact (z_cons (z_if (PW.pt (q_or (q_not (q_chainT (o_cmp op_le) (o_cmp op_le) q_int (q_callB c_len rfl T.f_len bt_len (q_cons (q_var (i := 0) rfl (.inl rfl) rfl rfl) q_nil rfl) (by decide) rfl rfl rfl) (q_gint rfl T.i_LONGEST rfl) (by with_unfolding_all rfl))) (q_or1 (q_not (q_tru (q_callB (c_all rfl) rfl T.f_all bt_all (q_cons (q_lc (own := [("figure", 1)]) rfl nd (pi_chars (q_var (i := 0) rfl (.inl rfl) rfl rfl)) (blkOk_by (by kernel_rfl)) (fun _ _ _ _ _ => (g_nm (i := 1) nd rfl (.inl rfl) (.inr rfl))) (fun _ _ _ _ _ => q_yes) (fun _ _ _ _ _ => (q_cmp o_in (q_var (i := 1) rfl (.inl rfl) rfl rfl) (q_gstr rfl T.s_FIGURES rfl) rfl)) (fun _ => rfl) (by decide)) q_nil rfl) (by decide) rfl rfl rfl) (fun _ => rfl)))))) (z_cons (z_ret q_non) z_nil) z_nil) (z_cons (z_ret (q_if (PW.pt (q_and (q_cmpT (o_eq hr.u64) (q_ix (q_var (i := 0) rfl (.inl rfl) rfl rfl) q_int (fun _ _ => rfl)) q_str (nomark _)) (q_and1 (q_cmpT (o_ne hr.u64) (q_var (i := 0) rfl (.inl rfl) rfl rfl) q_str (nomark _))))) q_non (q_callT c_intS rfl T.f_int bt_int (q_cons (q_var (i := 0) rfl (.inl rfl) rfl rfl) q_nil rfl) (by decide) rfl rfl rfl))) z_nil))
abbrev n_parse_numbers : List Str := ["word", "sign", "numbers", "part"]
theorem b_parse_numbers (T : Tab K mg) (C_parse_number : Callee P w K mg base 1 "parse_number" 1 sp_parse_number) {cdv : Value} {A : Around} {outer : List Env} {s : Shared} {H : Hp} {E : XK} {f : Addr} (hr : Room 1 (A.deeper (envOfC "parse_numbers" (defScope Hd.s_parse_numbers) s.heap.objs.size f cdv))) (hg : (A.deeper (envOfC "parse_numbers" (defScope Hd.s_parse_numbers) s.heap.objs.size f cdv)).guards = some []) :
    PSs (cxOf CX0 P w K mg base n_parse_numbers "parse_numbers" (defScope Hd.s_parse_numbers) f cdv A outer s H E).nox (defBody Hd.s_parse_numbers) (loS K Og.top t_parse_numbers) := by
  have nd : n_parse_numbers.Nodup := by decide +kernel
  exact (z_cons (z_set (i := 2) nd rfl (.inl rfl) (q_callT c_tuple rfl T.f_tuple bt_tuple (q_cons (q_lc (own := [("part", 3)]) rfl nd (pi_seq (q_split (q_var (i := 0) rfl (.inl rfl) rfl rfl) (q_var (i := 1) rfl (.inl rfl) rfl rfl) rfl rfl rfl)) (blkOk_by (by kernel_rfl)) (fun _ _ _ _ _ => (g_nm (i := 3) nd rfl (.inl rfl) (.inr rfl))) (fun _ _ _ _ _ => q_yes) (fun _ _ _ _ _ => (q_call C_parse_number hr (by decide) hg rfl (q_cons (q_var (i := 3) rfl (.inl rfl) rfl rfl) q_nil rfl) rfl rfl rfl)) (fun _ => rfl) (by decide)) q_nil rfl) (by decide) rfl rfl rfl) rfl (.inr rfl)) (z_cons (z_ret (q_if (q_cmpT o_in q_non (q_var (i := 2) rfl (.inl rfl) rfl rfl) rfl) q_non (q_var (i := 2) rfl (.inl rfl) rfl rfl))) z_nil))
abbrev n_numbers_text : List Str := ["numbers", "number"]
theorem b_numbers_text (T : Tab K mg) {cdv : Value} {A : Around} {outer : List Env} {s : Shared} {H : Hp} {E : XK} {f : Addr} (hr : Room 0 (A.deeper (envOfC "numbers_text" (defScope Hd.s_numbers_text) s.heap.objs.size f cdv))) (hg : (A.deeper (envOfC "numbers_text" (defScope Hd.s_numbers_text) s.heap.objs.size f cdv)).guards = some []) :
    PSs (cxOf CX0 P w K mg base n_numbers_text "numbers_text" (defScope Hd.s_numbers_text) f cdv A outer s H E).nox (defBody Hd.s_numbers_text) (loS K Og.top t_numbers_text) := by
  have nd : n_numbers_text.Nodup := by decide +kernel
  exact (z_cons (z_ret (q_join (q_gstr rfl T.s_COMMA rfl) (q_lc (own := [("number", 1)]) rfl nd (pi_seq (q_var (i := 0) rfl (.inl rfl) rfl rfl)) (blkOk_by (by kernel_rfl)) (fun _ _ _ _ _ => (g_nm (i := 1) nd rfl (.inl rfl) (.inr rfl))) (fun _ _ _ _ _ => q_yes) (fun _ _ _ _ _ => (q_callT c_str rfl T.f_str bt_str (q_cons (q_var (i := 1) rfl (.inl rfl) rfl rfl) q_nil rfl) (by decide) rfl rfl rfl)) (fun _ => rfl) (by decide)) rfl rfl rfl)) z_nil)
abbrev n_corridor_text : List Str := ["row", "walkers", "wants", "ways", "first", "last"]
theorem b_corridor_text (T : Tab K mg) (C_numbers_text : Callee P w K mg base 1 "numbers_text" 1 sp_numbers_text) {cdv : Value} {A : Around} {outer : List Env} {s : Shared} {H : Hp} {E : XK} {f : Addr} (hr : Room 1 (A.deeper (envOfC "corridor_text" (defScope Hd.s_corridor_text) s.heap.objs.size f cdv))) (hg : (A.deeper (envOfC "corridor_text" (defScope Hd.s_corridor_text) s.heap.objs.size f cdv)).guards = some []) :
    PSs (cxOf CX0 P w K mg base n_corridor_text "corridor_text" (defScope Hd.s_corridor_text) f cdv A outer s H E).nox (defBody Hd.s_corridor_text) (loS K Og.top t_corridor_text) := by
  have nd : n_corridor_text.Nodup := by decide +kernel
  exact (z_cons (z_setLc0 (i := 3) (own := [("first", 4), ("last", 5)]) rfl nd rfl rfl (by kernel_rfl) (pi_seq (q_var (i := 1) rfl (.inl rfl) rfl rfl)) (blkOk_by (by kernel_rfl)) (fun _ _ _ _ _ => (g_tp rfl (gs_cons (g_nm (i := 4) nd rfl (.inl rfl) (.inr rfl)) (gs_cons (g_nm (i := 5) nd rfl (.inl rfl) (.inr rfl)) gs_nil rfl) rfl) rfl rfl)) (fun _ _ _ _ _ => q_yes) (fun _ _ _ _ _ => (q_joined (.cons (q_fmt (q_var (i := 4) rfl (.inl rfl) rfl rfl)) (.cons (q_fmt (q_gstr rfl T.s_DASH rfl)) (.cons (q_fmt (q_var (i := 5) rfl (.inl rfl) rfl rfl)) .nil))))) (fun _ => rfl) (by decide)) (z_cons (z_ret (q_join q_str (q_lst (q_cons (q_call C_numbers_text hr (by decide) hg rfl (q_cons (q_var (i := 0) rfl (.inl rfl) rfl rfl) q_nil rfl) rfl rfl rfl) (q_star (q_var (i := 3) rfl (.inl rfl) rfl rfl) (q_cons (q_gstr rfl T.s_MIDDLE rfl) (q_cons (q_call C_numbers_text hr (by decide) hg rfl (q_cons (q_var (i := 2) rfl (.inl rfl) rfl rfl) q_nil rfl) rfl rfl rfl) q_nil rfl) rfl) rfl) rfl)) rfl rfl rfl)) z_nil))
abbrev n_parse_walkers_x : List Str := ["stations", "words", "walkers", "index", "word", "way"]
theorem b_parse_walkers_x (T : Tab K mg) (C_parse_numbers : Callee P w K mg base 2 "parse_numbers" 2 sp_parse_numbers) (C_are_walkers : Callee P w K mg base 3 "are_walkers" 2 sp_are_walkers) (X_BadText : XCallee P w K mg base "BadText" "index") {cdv : Value} {A : Around} {outer : List Env} {s : Shared} {H : Hp} {E : XK} {f : Addr} (hr : Room 3 (A.deeper (envOfC "parse_walkers" (defScope Hd.s_parse_walkers) s.heap.objs.size f cdv))) (hg : (A.deeper (envOfC "parse_walkers" (defScope Hd.s_parse_walkers) s.heap.objs.size f cdv)).guards = some [])
    {O : Og K} {ξ : DXs} (tk : Tk (cxOf (CX P w) P w K mg base n_parse_walkers_x "parse_walkers" (defScope Hd.s_parse_walkers) f cdv A outer s H E) O ξ) (ps : PassesOwn (model P w) (A.deeper (envOfC "parse_walkers" (defScope Hd.s_parse_walkers) s.heap.objs.size f cdv)) (envOfC "parse_walkers" (defScope Hd.s_parse_walkers) s.heap.objs.size f cdv) (cxOf (CX P w) P w K mg base n_parse_walkers_x "parse_walkers" (defScope Hd.s_parse_walkers) f cdv A outer s H E).xe) :
    PSs (cxOf (CX P w) P w K mg base n_parse_walkers_x "parse_walkers" (defScope Hd.s_parse_walkers) f cdv A outer s H E) (defBody Hd.s_parse_walkers) (loS K O (t_parse_walkers_x ξ)) := by
  have nd : n_parse_walkers_x.Nodup := by decide +kernel
  exact (z_cons (z_set (i := 2) nd rfl (.inl rfl) (q_lstM q_nil) rfl (.inr rfl)) (z_cons (z_for ps rfl (pi_enumS rfl T.f_enumerate (q_var (i := 1) rfl (.inl rfl) rfl rfl) q_int rfl rfl rfl) (g_tp rfl (gs_cons (g_nm (i := 3) nd rfl (.inl rfl) (.inr rfl)) (gs_cons (g_nm (i := 4) nd rfl (.inl rfl) (.inr rfl)) gs_nil rfl) rfl) rfl rfl) (z_cons (z_set (i := 5) nd rfl (.inl rfl) (q_call C_parse_numbers hr (by decide) hg rfl (q_cons (q_var (i := 4) rfl (.inl rfl) rfl rfl) (q_cons (q_gstr rfl T.s_DASH rfl) q_nil rfl) rfl) rfl rfl rfl) rfl (.inr rfl)) (z_cons (z_if (PW.pt (q_or (q_cmpT o_is (q_var (i := 5) rfl (.inl rfl) rfl rfl) q_non (nomark _)) (q_or (q_not (q_tru (q_call C_are_walkers hr (by decide) hg rfl (q_cons (q_var (i := 0) rfl (.inl rfl) rfl rfl) (q_cons (q_tup (q_cons (q_var (i := 5) rfl (.inl rfl) rfl rfl) q_nil rfl)) q_nil rfl) rfl) rfl rfl rfl) (fun _ => rfl))) (q_or1 (q_cmpT (o_eq hr.u64) (q_callB c_len rfl T.f_len bt_len (q_cons (q_var (i := 2) rfl (.inl rfl) rfl rfl) q_nil rfl) (by decide) rfl rfl rfl) (q_gint rfl T.i_MAX_WALKERS rfl) (nomark _)))))) (z_cons (z_raise1 hr (by decide) rfl tk X_BadText (q_var (i := 3) rfl (.inl rfl) rfl rfl) rfl rfl rfl rfl) z_nil) z_nil) (z_cons (z_expr (q_append (q_var (i := 2) rfl (.inl rfl) rfl rfl) (q_var (i := 5) rfl (.inl rfl) rfl rfl) rfl rfl rfl rfl rfl) rfl) z_nil))) (fun _ => rfl)) (z_cons (z_ret (q_callT c_tuple rfl T.f_tuple bt_tuple (q_cons (q_var (i := 2) rfl (.inl rfl) rfl rfl) q_nil rfl) (by decide) rfl rfl rfl)) z_nil)))
abbrev n_parse_corridor_x : List Str := ["value", "words", "row", "end", "walkers", "wants"]
theorem b_parse_corridor_x (T : Tab K mg) (X_BadText : XCallee P w K mg base "BadText" "index") (C_parse_numbers : Callee P w K mg base 2 "parse_numbers" 2 sp_parse_numbers) (C_is_row : Callee P w K mg base 3 "is_row" 1 sp_is_row) (C_parse_walkers_x : CalleeX P w K mg base 4 "parse_walkers" 2 sp_parse_walkers_x) (C_are_wants : Callee P w K mg base 3 "are_wants" 2 sp_are_wants) {cdv : Value} {A : Around} {outer : List Env} {s : Shared} {H : Hp} {E : XK} {f : Addr} (hr : Room 4 (A.deeper (envOfC "parse_corridor" (defScope Hd.s_parse_corridor) s.heap.objs.size f cdv))) (hg : (A.deeper (envOfC "parse_corridor" (defScope Hd.s_parse_corridor) s.heap.objs.size f cdv)).guards = some [])
    {O : Og K} {ξ : DXs} (tk : Tk (cxOf (CX P w) P w K mg base n_parse_corridor_x "parse_corridor" (defScope Hd.s_parse_corridor) f cdv A outer s H E) O ξ) (ps : PassesOwn (model P w) (A.deeper (envOfC "parse_corridor" (defScope Hd.s_parse_corridor) s.heap.objs.size f cdv)) (envOfC "parse_corridor" (defScope Hd.s_parse_corridor) s.heap.objs.size f cdv) (cxOf (CX P w) P w K mg base n_parse_corridor_x "parse_corridor" (defScope Hd.s_parse_corridor) f cdv A outer s H E).xe) :
    PSs (cxOf (CX P w) P w K mg base n_parse_corridor_x "parse_corridor" (defScope Hd.s_parse_corridor) f cdv A outer s H E) (defBody Hd.s_parse_corridor) (loS K O (t_parse_corridor_x ξ)) := by
  have nd : n_parse_corridor_x.Nodup := by decide +kernel
  exact (z_cons (z_if (q_not (q_tru (q_callB c_isi rfl T.f_isinstance bt_isinstance (q_cons (q_var (i := 0) rfl (.inl rfl) rfl rfl) (q_cons (q_ty .str rfl T.f_str bt_str (by decide) rfl) q_nil rfl) rfl) (by decide) rfl rfl rfl) (fun _ => rfl))) (z_cons (z_raise1 hr (by decide) rfl tk X_BadText q_non rfl rfl rfl rfl) z_nil) z_nil) (z_cons (z_set (i := 1) nd rfl (.inl rfl) (q_split (q_var (i := 0) rfl (.inl rfl) rfl rfl) q_str rfl rfl rfl) rfl (.inr rfl)) (z_cons (z_set (i := 2) nd rfl (.inl rfl) (q_call C_parse_numbers hr (by decide) hg rfl (q_cons (q_ix (q_var (i := 1) rfl (.inl rfl) rfl rfl) q_int (fun _ _ => rfl)) (q_cons (q_gstr rfl T.s_COMMA rfl) q_nil rfl) rfl) rfl rfl rfl) rfl (.inr rfl)) (z_cons (z_if (PW.pt (q_or (q_cmpT o_is (q_var (i := 2) rfl (.inl rfl) rfl rfl) q_non (nomark _)) (q_or1 (q_not (q_tru (q_call C_is_row hr (by decide) hg rfl (q_cons (q_var (i := 2) rfl (.inl rfl) rfl rfl) q_nil rfl) rfl rfl rfl) (fun _ => rfl)))))) (z_cons (z_raise1 hr (by decide) rfl tk X_BadText q_int rfl rfl rfl rfl) z_nil) z_nil) (z_cons (z_set (i := 3) nd rfl (.inl rfl) (q_if (q_cmpT o_in (q_gstr rfl T.s_MIDDLE rfl) (q_var (i := 1) rfl (.inl rfl) rfl rfl) rfl) (q_idxS (q_var (i := 1) rfl (.inl rfl) rfl rfl) (q_gstr rfl T.s_MIDDLE rfl) rfl rfl rfl rfl rfl) (q_callB c_len rfl T.f_len bt_len (q_cons (q_var (i := 1) rfl (.inl rfl) rfl rfl) q_nil rfl) (by decide) rfl rfl rfl)) rfl (.inr rfl)) (z_cons (z_set (i := 4) nd rfl (.inl rfl) (q_callX C_parse_walkers_x hr (by decide) hg tk rfl (q_cons (q_callB c_len rfl T.f_len bt_len (q_cons (q_var (i := 2) rfl (.inl rfl) rfl rfl) q_nil rfl) (by decide) rfl rfl rfl) (q_cons (q_sl (q_var (i := 1) rfl (.inl rfl) rfl rfl) (q_part q_int) (q_part (q_var (i := 3) rfl (.inl rfl) rfl rfl))) q_nil rfl) rfl) rfl rfl rfl) rfl (.inr rfl)) (z_cons (z_if (q_cmpT (o_cmp op_lt) (q_callB c_len rfl T.f_len bt_len (q_cons (q_var (i := 1) rfl (.inl rfl) rfl rfl) q_nil rfl) (by decide) rfl rfl rfl) (q_op o_add (q_var (i := 3) rfl (.inl rfl) rfl rfl) q_int) (nomark _)) (z_cons (z_raise1 hr (by decide) rfl tk X_BadText (q_callB c_len rfl T.f_len bt_len (q_cons (q_var (i := 1) rfl (.inl rfl) rfl rfl) q_nil rfl) (by decide) rfl rfl rfl) rfl rfl rfl rfl) z_nil) z_nil) (z_cons (z_set (i := 5) nd rfl (.inl rfl) (q_call C_parse_numbers hr (by decide) hg rfl (q_cons (q_ix (q_var (i := 1) rfl (.inl rfl) rfl rfl) (q_op o_add (q_var (i := 3) rfl (.inl rfl) rfl rfl) q_int) (fun _ _ => rfl)) (q_cons (q_gstr rfl T.s_COMMA rfl) q_nil rfl) rfl) rfl rfl rfl) rfl (.inr rfl)) (z_cons (z_if (PW.pt (q_or (q_cmpT o_is (q_var (i := 5) rfl (.inl rfl) rfl rfl) q_non (nomark _)) (q_or1 (q_not (q_tru (q_call C_are_wants hr (by decide) hg rfl (q_cons (q_callB c_len rfl T.f_len bt_len (q_cons (q_var (i := 2) rfl (.inl rfl) rfl rfl) q_nil rfl) (by decide) rfl rfl rfl) (q_cons (q_var (i := 5) rfl (.inl rfl) rfl rfl) q_nil rfl) rfl) rfl rfl rfl) (fun _ => rfl)))))) (z_cons (z_raise1 hr (by decide) rfl tk X_BadText (q_op o_add (q_var (i := 3) rfl (.inl rfl) rfl rfl) q_int) rfl rfl rfl rfl) z_nil) z_nil) (z_cons (z_if (q_cmpT (o_cmp op_gt) (q_callB c_len rfl T.f_len bt_len (q_cons (q_var (i := 1) rfl (.inl rfl) rfl rfl) q_nil rfl) (by decide) rfl rfl rfl) (q_op o_add (q_var (i := 3) rfl (.inl rfl) rfl rfl) q_int) (nomark _)) (z_cons (z_raise1 hr (by decide) rfl tk X_BadText (q_op o_add (q_var (i := 3) rfl (.inl rfl) rfl rfl) q_int) rfl rfl rfl rfl) z_nil) z_nil) (z_cons (z_ret (q_tup (q_cons (q_var (i := 2) rfl (.inl rfl) rfl rfl) (q_cons (q_var (i := 4) rfl (.inl rfl) rfl rfl) (q_cons (q_var (i := 5) rfl (.inl rfl) rfl rfl) q_nil rfl) rfl) rfl))) z_nil)))))))))))
abbrev n_law_deck : List Str := ["script", "cell"]
theorem b_law_deck (T : Tab K mg) {cdv : Value} {A : Around} {outer : List Env} {s : Shared} {H : Hp} {E : XK} {f : Addr} (hr : Room 0 (A.deeper (envOfC "_law_deck" (defScope Hd.s_law_deck) s.heap.objs.size f cdv))) (hg : (A.deeper (envOfC "_law_deck" (defScope Hd.s_law_deck) s.heap.objs.size f cdv)).guards = some []) :
    PSs (cxOf CX0 P w K mg base n_law_deck "_law_deck" (defScope Hd.s_law_deck) f cdv A outer s H E).nox (defBody Hd.s_law_deck) (loS K Og.top t_law_deck) := by
  have nd : n_law_deck.Nodup := by decide +kernel
  exact (z_cons (z_ret (q_lstM (q_cons (q_lcM (own := [("cell", 1)]) rfl nd (pi_seq (q_sl (q_var (i := 0) rfl (.inl rfl) rfl rfl) q_nopart (q_part q_int))) (blkOk_by (by kernel_rfl)) (fun _ _ _ _ _ => (g_nm (i := 1) nd rfl (.inl rfl) (.inr rfl))) (fun _ _ _ _ _ => q_yes) (fun _ _ _ _ _ => (q_callB c_abs rfl T.f_abs bt_abs (q_cons (q_var (i := 1) rfl (.inl rfl) rfl rfl) q_nil rfl) (by decide) rfl rfl rfl)) (fun _ => rfl) (by decide)) (q_cons q_int q_nil rfl) rfl))) z_nil)
abbrev n_law_draw_v3 : List Str := ["deck", "many", "cell", "place"]
theorem b_law_draw_v3 (T : Tab K mg) {cdv : Value} {A : Around} {outer : List Env} {s : Shared} {H : Hp} {E : XK} {f : Addr} (hr : Room 0 (A.deeper (envOfC "_law_draw" (defScope Hd.s_law_draw) s.heap.objs.size f cdv))) (hg : (A.deeper (envOfC "_law_draw" (defScope Hd.s_law_draw) s.heap.objs.size f cdv)).guards = some []) :
    PSs (cxOf CX0 P w K mg base n_law_draw_v3 "_law_draw" (defScope Hd.s_law_draw) f cdv A outer s H E).nox (defBody Hd.s_law_draw) (loS K Og.top t_law_draw_v3) := by
  have nd : n_law_draw_v3.Nodup := by decide +kernel
  exact (z_cons (z_setI (q_op o_add (q_ix (q_var (i := 0) rfl (.inl rfl) rfl rfl) q_int (fun _ _ => rfl)) q_int) (q_var (i := 0) rfl (.inl rfl) rfl rfl) q_int (fun _ => rfl) rfl rfl rfl) (z_cons (z_set (i := 2) nd rfl (.inl rfl) q_int rfl (.inr rfl)) (z_cons (z_set (i := 3) nd rfl (.inl rfl) (q_un o_neg q_int) rfl (.inr rfl)) (z_cons (z_if (q_cmpT (o_cmp op_gt) (q_callB c_len rfl T.f_len bt_len (q_cons (q_ix (q_var (i := 0) rfl (.inl rfl) rfl rfl) q_int (fun _ _ => rfl)) q_nil rfl) (by decide) rfl rfl rfl) q_int (nomark _)) (z_cons (z_set (i := 3) nd rfl (.inl rfl) (q_op o_mod (q_ix (q_var (i := 0) rfl (.inl rfl) rfl rfl) q_int (fun _ _ => rfl)) (q_callB c_len rfl T.f_len bt_len (q_cons (q_ix (q_var (i := 0) rfl (.inl rfl) rfl rfl) q_int (fun _ _ => rfl)) q_nil rfl) (by decide) rfl rfl rfl)) rfl (.inr rfl)) (z_cons (z_set (i := 2) nd rfl (.inl rfl) (q_ix (q_ix (q_var (i := 0) rfl (.inl rfl) rfl rfl) q_int (fun _ _ => rfl)) (q_var (i := 3) rfl (.inl rfl) rfl rfl) (fun _ _ => rfl)) rfl (.inr rfl)) z_nil)) z_nil) (z_cons (z_if (q_cmpT (o_cmp op_ge) (q_var (i := 2) rfl (.inl rfl) rfl rfl) (q_op o_pow q_int q_int) (nomark _)) (z_cons (z_setI (q_op o_div (q_var (i := 2) rfl (.inl rfl) rfl rfl) (q_var (i := 1) rfl (.inl rfl) rfl rfl)) (q_ix (q_var (i := 0) rfl (.inl rfl) rfl rfl) q_int (fun _ _ => rfl)) (q_var (i := 3) rfl (.inl rfl) rfl rfl) (fun _ => rfl) rfl rfl rfl) (z_cons (z_ret (q_op o_mod (q_var (i := 2) rfl (.inl rfl) rfl rfl) (q_var (i := 1) rfl (.inl rfl) rfl rfl))) z_nil)) z_nil) (z_cons (z_ret (q_op o_mod (q_op o_mod (q_op o_pow (q_op o_add (q_op o_add (q_op o_mod (q_var (i := 2) rfl (.inl rfl) rfl rfl) q_int) (q_op o_mul q_int (q_ix (q_var (i := 0) rfl (.inl rfl) rfl rfl) q_int (fun _ _ => rfl)))) q_int) q_int) q_int) (q_var (i := 1) rfl (.inl rfl) rfl rfl))) z_nil))))))
abbrev n_law_same_v2 : List Str := ["found", "due", "one", "other"]
theorem b_law_same_v2 (T : Tab K mg) {sp_self : DSp} {k j : Nat} (hjk : j ≤ k) (hk : 0 ≤ k) (C_self : Callee P w K mg base j "_law_same" 2 sp_self) {cdv : Value} {A : Around} {outer : List Env} {s : Shared} {H : Hp} {E : XK} {f : Addr} (hr : Room k (A.deeper (envOfC "_law_same" (defScope Hd.s_law_same) s.heap.objs.size f cdv))) (hg : (A.deeper (envOfC "_law_same" (defScope Hd.s_law_same) s.heap.objs.size f cdv)).guards = some []) :
    PSs (cxOf CX0 P w K mg base n_law_same_v2 "_law_same" (defScope Hd.s_law_same) f cdv A outer s H E).nox (defBody Hd.s_law_same) (loS K Og.top (t_law_same_v2 sp_self)) := by
  have nd : n_law_same_v2.Nodup := by decide +kernel
  exact (z_cons (z_if (q_tru (q_callB c_isi rfl T.f_isinstance bt_isinstance (q_cons (q_var (i := 1) rfl (.inl rfl) rfl rfl) (q_cons (q_ty .tuple rfl T.f_tuple bt_tuple (by decide) rfl) q_nil rfl) rfl) (by decide) rfl rfl rfl) (fun _ => rfl)) (z_cons (z_if (PW.pt (q_or (q_not (q_tru (q_callB c_isi rfl T.f_isinstance bt_isinstance (q_cons (q_var (i := 0) rfl (.inl rfl) rfl rfl) (q_cons (q_ty .tuple rfl T.f_tuple bt_tuple (by decide) rfl) q_nil rfl) rfl) (by decide) rfl rfl rfl) (fun _ => rfl))) (q_or1 (q_cmpT (o_ne hr.u64) (q_callB c_len rfl T.f_len bt_len (q_cons (q_var (i := 0) rfl (.inl rfl) rfl rfl) q_nil rfl) (by decide) rfl rfl rfl) (q_callB c_len rfl T.f_len bt_len (q_cons (q_var (i := 1) rfl (.inl rfl) rfl rfl) q_nil rfl) (by decide) rfl rfl rfl) (nomark _))))) (z_cons (z_ret q_bl) z_nil) z_nil) (z_cons (z_ret (q_cmp (o_eq hr.u64) (q_lc (own := [("one", 2), ("other", 3)]) rfl nd (pi_zipK rfl T.f_zip (q_var (i := 0) rfl (.inl rfl) rfl rfl) (q_var (i := 1) rfl (.inl rfl) rfl rfl) rfl rfl rfl) (blkOk_by (by kernel_rfl)) (fun _ _ _ _ _ => (g_tp rfl (gs_cons (g_nm (i := 2) nd rfl (.inl rfl) (.inr rfl)) (gs_cons (g_nm (i := 3) nd rfl (.inl rfl) (.inr rfl)) gs_nil rfl) rfl) rfl rfl)) (fun _ _ _ _ _ => (pts_one (q_not (q_tru (q_call C_self hr hjk hg rfl (q_cons (q_var (i := 2) rfl (.inl rfl) rfl rfl) (q_cons (q_var (i := 3) rfl (.inl rfl) rfl rfl) q_nil rfl) rfl) rfl rfl rfl) (fun _ => rfl))))) (fun _ _ _ _ _ => q_int) (fun _ => rfl) (by decide)) (q_lst q_nil) (nomark _))) z_nil)) z_nil) (z_cons (z_if (q_cmpT o_is (q_var (i := 1) rfl (.inl rfl) rfl rfl) q_non (nomark _)) (z_cons (z_ret (q_cmp o_is (q_var (i := 0) rfl (.inl rfl) rfl rfl) q_non (nomark _))) z_nil) z_nil) (z_cons (z_if (q_tru (q_callB c_isi rfl T.f_isinstance bt_isinstance (q_cons (q_var (i := 1) rfl (.inl rfl) rfl rfl) (q_cons (q_ty .str rfl T.f_str bt_str (by decide) rfl) q_nil rfl) rfl) (by decide) rfl rfl rfl) (fun _ => rfl)) (z_cons (z_ret (q_andV (q_callB c_isi rfl T.f_isinstance bt_isinstance (q_cons (q_var (i := 0) rfl (.inl rfl) rfl rfl) (q_cons (q_ty .str rfl T.f_str bt_str (by decide) rfl) q_nil rfl) rfl) (by decide) rfl rfl rfl) (q_one (q_cmp (o_eq hr.u64) (q_var (i := 0) rfl (.inl rfl) rfl rfl) (q_var (i := 1) rfl (.inl rfl) rfl rfl) (nomark _))))) z_nil) z_nil) (z_cons (z_ret (q_andV (q_callB c_isi rfl T.f_isinstance bt_isinstance (q_cons (q_var (i := 0) rfl (.inl rfl) rfl rfl) (q_cons (q_ty .int rfl T.f_int bt_int (by decide) rfl) q_nil rfl) rfl) (by decide) rfl rfl rfl) (q_andV (q_cmp (o_eq hr.u64) (q_callB c_isi rfl T.f_isinstance bt_isinstance (q_cons (q_var (i := 0) rfl (.inl rfl) rfl rfl) (q_cons (q_ty .bool rfl T.f_bool bt_bool (by decide) rfl) q_nil rfl) rfl) (by decide) rfl rfl rfl) (q_callB c_isi rfl T.f_isinstance bt_isinstance (q_cons (q_var (i := 1) rfl (.inl rfl) rfl rfl) (q_cons (q_ty .bool rfl T.f_bool bt_bool (by decide) rfl) q_nil rfl) rfl) (by decide) rfl rfl rfl) (nomark _)) (q_one (q_cmp (o_eq hr.u64) (q_var (i := 0) rfl (.inl rfl) rfl rfl) (q_var (i := 1) rfl (.inl rfl) rfl rfl) (nomark _)))))) z_nil))))
abbrev n_law_state_c : List Str := ["deck", "stations", "most", "many", "top", "chairs", "walkers", "bound", "wants", "k", "first"]
theorem b_law_state_c (T : Tab K mg) (C_law_draw_v3 : Callee P w K mg base 1 "_law_draw" 2 sp_law_draw_v3) {cdv : Value} {A : Around} {outer : List Env} {s : Shared} {H : Hp} {E : XK} {f : Addr} (hr : Room 1 (A.deeper (envOfC "_law_state" (defScope Hd.s_law_state) s.heap.objs.size f cdv))) (hg : (A.deeper (envOfC "_law_state" (defScope Hd.s_law_state) s.heap.objs.size f cdv)).guards = some []) :
    PSs (cxOf CX0 P w K mg base n_law_state_c "_law_state" (defScope Hd.s_law_state) f cdv A outer s H E).nox (defBody Hd.s_law_state) (loS K Og.top t_law_state_c) := by
  have nd : n_law_state_c.Nodup := by decide +kernel
  exact (z_cons (z_asg (p := (.tp [(.nm 3), (.nm 4)])) (q_tup (q_cons (q_op o_add q_int (q_call C_law_draw_v3 hr (by decide) hg rfl (q_cons (q_var (i := 0) rfl (.inr (.inl rfl)) rfl rfl) (q_cons (q_op o_sub (q_var (i := 1) rfl (.inl rfl) rfl rfl) q_int) q_nil rfl) rfl) rfl rfl rfl)) (q_cons (q_ix (q_lst (q_cons q_int (q_cons q_int (q_cons q_int q_nil rfl) rfl) rfl)) (q_call C_law_draw_v3 hr (by decide) hg rfl (q_cons (q_var (i := 0) rfl (.inr (.inl rfl)) rfl rfl) (q_cons q_int q_nil rfl) rfl) rfl rfl rfl) (fun _ _ => rfl)) q_nil rfl) rfl)) (g_tp rfl (gs_cons (g_nm (i := 3) nd rfl (.inl rfl) (.inr rfl)) (gs_cons (g_nm (i := 4) nd rfl (.inr rfl) (.inl rfl)) gs_nil rfl) rfl) rfl rfl) rfl rfl rfl) (z_cons (z_set (i := 5) nd rfl (.inl rfl) (q_callT c_tuple rfl T.f_tuple bt_tuple (q_cons (q_lc (own := [("k", 9)]) rfl nd (pi_rng1 rfl T.f_range (q_var (i := 3) rfl (.inl rfl) rfl rfl) rfl rfl) (blkOk_by (by kernel_rfl)) (fun _ _ _ _ _ => (g_nm (i := 9) nd rfl (.inl rfl) (.inr rfl))) (fun _ _ _ _ _ => q_yes) (fun _ _ _ _ _ => (q_op o_mul (q_call C_law_draw_v3 hr (by decide) hg rfl (q_cons (q_var (i := 0) rfl (.inr (.inl rfl)) rfl rfl) (q_cons (q_op o_add (q_var (i := 4) rfl (.inr (.inl rfl)) rfl rfl) q_int) q_nil rfl) rfl) rfl rfl rfl) (q_callT c_int rfl T.f_int bt_int (q_cons (q_cmp (o_cmp op_gt) (q_call C_law_draw_v3 hr (by decide) hg rfl (q_cons (q_var (i := 0) rfl (.inr (.inl rfl)) rfl rfl) (q_cons q_int q_nil rfl) rfl) rfl rfl rfl) q_int (nomark _)) q_nil rfl) (by decide) rfl rfl rfl))) (fun _ => rfl) (by decide)) q_nil rfl) (by decide) rfl rfl rfl) rfl (.inr rfl)) (z_cons (z_par3 (i := 6) (j := 7) (l := 8) rfl nd rfl rfl rfl (by decide) (by decide) (by decide) rfl rfl rfl (q_cons (q_lstM q_nil) (q_cons (q_ix (q_lst (q_cons q_int (q_cons q_int (q_cons (q_op o_add (q_var (i := 4) rfl (.inr (.inl rfl)) rfl rfl) q_int) (q_cons q_int q_nil rfl) rfl) rfl) rfl)) (q_call C_law_draw_v3 hr (by decide) hg rfl (q_cons (q_var (i := 0) rfl (.inr (.inl rfl)) rfl rfl) (q_cons q_int q_nil rfl) rfl) rfl rfl rfl) (fun _ _ => rfl)) (q_cons (q_lstM q_nil) q_nil rfl) rfl) rfl) rfl rfl) (z_cons (z_for PassesOwn.never rfl (pi_rng1 rfl T.f_range (q_call C_law_draw_v3 hr (by decide) hg rfl (q_cons (q_var (i := 0) rfl (.inr (.inl rfl)) rfl rfl) (q_cons (q_op o_add (q_var (i := 2) rfl (.inl rfl) rfl rfl) q_int) q_nil rfl) rfl) rfl rfl rfl) rfl rfl) (g_nm (i := 9) nd rfl (.inl rfl) (.inr rfl)) (z_cons (z_set (i := 10) nd rfl (.inl rfl) (q_call C_law_draw_v3 hr (by decide) hg rfl (q_cons (q_var (i := 0) rfl (.inr (.inl rfl)) rfl rfl) (q_cons (q_op o_sub (q_var (i := 3) rfl (.inl rfl) rfl rfl) q_int) q_nil rfl) rfl) rfl rfl rfl) rfl (.inr rfl)) (z_cons (z_expr (q_append (q_var (i := 6) rfl (.inl rfl) rfl rfl) (q_tup (q_cons (q_var (i := 10) rfl (.inl rfl) rfl rfl) (q_cons (q_op o_add (q_op o_add (q_var (i := 10) rfl (.inl rfl) rfl rfl) q_int) (q_call C_law_draw_v3 hr (by decide) hg rfl (q_cons (q_var (i := 0) rfl (.inr (.inl rfl)) rfl rfl) (q_cons (q_ix (q_lst (q_cons q_int (q_cons (q_op o_sub (q_op o_sub (q_var (i := 3) rfl (.inl rfl) rfl rfl) q_int) (q_var (i := 10) rfl (.inl rfl) rfl rfl)) q_nil rfl) rfl)) (q_call C_law_draw_v3 hr (by decide) hg rfl (q_cons (q_var (i := 0) rfl (.inr (.inl rfl)) rfl rfl) (q_cons q_int q_nil rfl) rfl) rfl rfl rfl) (fun _ _ => rfl)) q_nil rfl) rfl) rfl rfl rfl)) q_nil rfl) rfl)) rfl rfl rfl rfl rfl) rfl) z_nil)) (fun _ => rfl)) (z_cons (z_for PassesOwn.never rfl (pi_rng1 rfl T.f_range (q_var (i := 3) rfl (.inl rfl) rfl rfl) rfl rfl) (g_nm (i := 9) nd rfl (.inl rfl) (.inr rfl)) (z_cons (z_expr (q_append (q_var (i := 8) rfl (.inl rfl) rfl rfl) (q_op o_mul (q_call C_law_draw_v3 hr (by decide) hg rfl (q_cons (q_var (i := 0) rfl (.inr (.inl rfl)) rfl rfl) (q_cons (q_op o_add (q_var (i := 7) rfl (.inl rfl) rfl rfl) q_int) q_nil rfl) rfl) rfl rfl rfl) (q_callT c_int rfl T.f_int bt_int (q_cons (q_cmp (o_eq hr.u64) (q_call C_law_draw_v3 hr (by decide) hg rfl (q_cons (q_var (i := 0) rfl (.inr (.inl rfl)) rfl rfl) (q_cons q_int q_nil rfl) rfl) rfl rfl rfl) q_int (nomark _)) q_nil rfl) (by decide) rfl rfl rfl)) rfl rfl rfl rfl rfl) rfl) z_nil) (fun _ => rfl)) (z_cons (z_ret (q_tup (q_cons (q_var (i := 5) rfl (.inl rfl) rfl rfl) (q_cons (q_callT c_tuple rfl T.f_tuple bt_tuple (q_cons (q_var (i := 6) rfl (.inl rfl) rfl rfl) q_nil rfl) (by decide) rfl rfl rfl) (q_cons (q_callT c_tuple rfl T.f_tuple bt_tuple (q_cons (q_var (i := 8) rfl (.inl rfl) rfl rfl) q_nil rfl) (by decide) rfl rfl rfl) q_nil rfl) rfl) rfl))) z_nil))))))
abbrev n_law_bent_v4 : List Str := ["deck", "text", "words", "at", "way", "place", "sign"]
theorem b_law_bent_v4 (T : Tab K mg) (C_law_draw_v3 : Callee P w K mg base 1 "_law_draw" 2 sp_law_draw_v3) {cdv : Value} {A : Around} {outer : List Env} {s : Shared} {H : Hp} {E : XK} {f : Addr} (hr : Room 1 (A.deeper (envOfC "_law_bent" (defScope Hd.s_law_bent) s.heap.objs.size f cdv))) (hg : (A.deeper (envOfC "_law_bent" (defScope Hd.s_law_bent) s.heap.objs.size f cdv)).guards = some []) :
    PSs (cxOf CX0 P w K mg base n_law_bent_v4 "_law_bent" (defScope Hd.s_law_bent) f cdv A outer s H E).nox (defBody Hd.s_law_bent) (loS K Og.top t_law_bent_v4) := by
  have nd : n_law_bent_v4.Nodup := by decide +kernel
  exact (z_cons (z_set (i := 2) nd rfl (.inl rfl) (q_split (q_var (i := 1) rfl (.inl rfl) rfl rfl) q_str rfl rfl rfl) rfl (.inr rfl)) (z_cons (z_set (i := 3) nd rfl (.inl rfl) (q_call C_law_draw_v3 hr (by decide) hg rfl (q_cons (q_var (i := 0) rfl (.inl rfl) rfl rfl) (q_cons (q_callB c_len rfl T.f_len bt_len (q_cons (q_var (i := 2) rfl (.inl rfl) rfl rfl) q_nil rfl) (by decide) rfl rfl rfl) q_nil rfl) rfl) rfl rfl rfl) rfl (.inr rfl)) (z_cons (z_set (i := 4) nd rfl (.inl rfl) (q_call C_law_draw_v3 hr (by decide) hg rfl (q_cons (q_var (i := 0) rfl (.inl rfl) rfl rfl) (q_cons q_int q_nil rfl) rfl) rfl rfl rfl) rfl (.inr rfl)) (z_cons (z_if (q_cmpT (o_eq hr.u64) (q_var (i := 4) rfl (.inl rfl) rfl rfl) q_int (nomark _)) (z_cons (z_ret (q_join q_str (q_op o_add (q_op o_add (q_sl (q_var (i := 2) rfl (.inl rfl) rfl rfl) q_nopart (q_part (q_var (i := 3) rfl (.inl rfl) rfl rfl))) (q_sl (q_var (i := 2) rfl (.inl rfl) rfl rfl) (q_part (q_var (i := 3) rfl (.inl rfl) rfl rfl)) (q_part (q_op o_add (q_var (i := 3) rfl (.inl rfl) rfl rfl) q_int)))) (q_sl (q_var (i := 2) rfl (.inl rfl) rfl rfl) (q_part (q_var (i := 3) rfl (.inl rfl) rfl rfl)) q_nopart)) rfl rfl rfl)) z_nil) z_nil) (z_cons (z_if (q_cmpT (o_eq hr.u64) (q_var (i := 4) rfl (.inl rfl) rfl rfl) q_int (nomark _)) (z_cons (z_ret (q_join q_str (q_op o_add (q_sl (q_var (i := 2) rfl (.inl rfl) rfl rfl) (q_part (q_var (i := 3) rfl (.inl rfl) rfl rfl)) q_nopart) (q_sl (q_var (i := 2) rfl (.inl rfl) rfl rfl) q_nopart (q_part (q_var (i := 3) rfl (.inl rfl) rfl rfl)))) rfl rfl rfl)) z_nil) z_nil) (z_cons (z_if (q_cmpT (o_eq hr.u64) (q_var (i := 4) rfl (.inl rfl) rfl rfl) q_int (nomark _)) (z_cons (z_ret (q_join q_str (q_op o_add (q_sl (q_var (i := 2) rfl (.inl rfl) rfl rfl) q_nopart (q_part (q_var (i := 3) rfl (.inl rfl) rfl rfl))) (q_sl (q_var (i := 2) rfl (.inl rfl) rfl rfl) (q_part (q_op o_add (q_var (i := 3) rfl (.inl rfl) rfl rfl) q_int)) q_nopart)) rfl rfl rfl)) z_nil) z_nil) (z_cons (z_if (q_cmpT (o_eq hr.u64) (q_var (i := 4) rfl (.inl rfl) rfl rfl) q_int (nomark _)) (z_cons (z_ret (q_join q_str (q_op o_add (q_var (i := 2) rfl (.inl rfl) rfl rfl) (q_sl (q_var (i := 2) rfl (.inl rfl) rfl rfl) (q_part (q_var (i := 3) rfl (.inl rfl) rfl rfl)) q_nopart)) rfl rfl rfl)) z_nil) z_nil) (z_cons (z_set (i := 5) nd rfl (.inl rfl) (q_call C_law_draw_v3 hr (by decide) hg rfl (q_cons (q_var (i := 0) rfl (.inl rfl) rfl rfl) (q_cons (q_op o_add (q_callB c_len rfl T.f_len bt_len (q_cons (q_var (i := 1) rfl (.inl rfl) rfl rfl) q_nil rfl) (by decide) rfl rfl rfl) q_int) q_nil rfl) rfl) rfl rfl rfl) rfl (.inr rfl)) (z_cons (z_set (i := 6) nd rfl (.inl rfl) (q_ix (q_lst (q_cons q_str (q_cons q_str (q_cons q_str (q_cons q_str (q_cons q_str (q_cons q_str (q_cons q_str (q_cons q_str (q_cons q_str (q_cons q_str (q_cons q_str (q_cons q_str q_nil rfl) rfl) rfl) rfl) rfl) rfl) rfl) rfl) rfl) rfl) rfl) rfl)) (q_call C_law_draw_v3 hr (by decide) hg rfl (q_cons (q_var (i := 0) rfl (.inl rfl) rfl rfl) (q_cons q_int q_nil rfl) rfl) rfl rfl rfl) (fun _ _ => rfl)) rfl (.inr rfl)) (z_cons (z_ret (q_op o_add (q_op o_add (q_slT (q_var (i := 1) rfl (.inl rfl) rfl rfl) q_nopart (q_part (q_var (i := 5) rfl (.inl rfl) rfl rfl))) (q_op o_mulS (q_var (i := 6) rfl (.inl rfl) rfl rfl) (q_call C_law_draw_v3 hr (by decide) hg rfl (q_cons (q_var (i := 0) rfl (.inl rfl) rfl rfl) (q_cons q_int q_nil rfl) rfl) rfl rfl rfl))) (q_slT (q_var (i := 1) rfl (.inl rfl) rfl rfl) (q_part (q_op o_add (q_var (i := 5) rfl (.inl rfl) rfl rfl) (q_call C_law_draw_v3 hr (by decide) hg rfl (q_cons (q_var (i := 0) rfl (.inl rfl) rfl rfl) (q_cons q_int q_nil rfl) rfl) rfl rfl rfl))) q_nopart))) z_nil))))))))))
abbrev n_law_accepted_right : List Str := ["text", "found"]
theorem b_law_accepted_right (T : Tab K mg) (C_parse_corridor_x : CalleeX P w K mg base 5 "parse_corridor" 1 sp_parse_corridor_x) (C_corridor_text : Callee P w K mg base 2 "corridor_text" 3 sp_corridor_text) {cdv : Value} {A : Around} {outer : List Env} {s : Shared} {H : Hp} {E : XK} {f : Addr} (hr : Room 5 (A.deeper (envOfC "_law_accepted_right" (defScope Hd.s_law_accepted_right) s.heap.objs.size f cdv))) (hg : (A.deeper (envOfC "_law_accepted_right" (defScope Hd.s_law_accepted_right) s.heap.objs.size f cdv)).guards = some []) :
    PSs (cxOf CX0 P w K mg base n_law_accepted_right "_law_accepted_right" (defScope Hd.s_law_accepted_right) f cdv A outer s H E).nox (defBody Hd.s_law_accepted_right) (loS K Og.top t_law_accepted_right) := by
  have nd : n_law_accepted_right.Nodup := by decide +kernel
  exact (z_cons (z_tryU rfl rfl rfl Tk.no rfl rfl T.g_BadText (by decide) (ccls_ok T.k_BadText).2.1 (by decide) (fun pn1 xe1 O1 ξ1 tk1 ps1 => (z_cons (z_set (i := 1) nd rfl (.inl rfl) (q_callX C_parse_corridor_x hr (by decide) hg tk1 rfl (q_cons (q_var (i := 0) rfl (.inl rfl) rfl rfl) q_nil rfl) rfl rfl rfl) rfl (.inr rfl)) z_nil)) (fun a1 pn1 O1 => (z_cons (z_ret q_bl) z_nil))) (z_cons (z_ret (q_cmp (o_eq hr.u64) (q_call C_corridor_text hr (by decide) hg rfl (q_cons (q_ix (q_var (i := 1) rfl (.inl rfl) rfl rfl) q_int (fun _ _ => rfl)) (q_cons (q_ix (q_var (i := 1) rfl (.inl rfl) rfl rfl) q_int (fun _ _ => rfl)) (q_cons (q_ix (q_var (i := 1) rfl (.inl rfl) rfl rfl) q_int (fun _ _ => rfl)) q_nil rfl) rfl) rfl) rfl rfl rfl) (q_var (i := 0) rfl (.inl rfl) rfl rfl) (nomark _))) z_nil))
abbrev n_law_words : List Str := ["chairs", "walkers", "wants"]
theorem b_law_words (T : Tab K mg) (C_corridor_text : Callee P w K mg base 2 "corridor_text" 3 sp_corridor_text) {cdv : Value} {A : Around} {outer : List Env} {s : Shared} {H : Hp} {E : XK} {f : Addr} (hr : Room 2 (A.deeper (envOfC "_law_words" (defScope Hd.s_law_words) s.heap.objs.size f cdv))) (hg : (A.deeper (envOfC "_law_words" (defScope Hd.s_law_words) s.heap.objs.size f cdv)).guards = some []) :
    PSs (cxOf CX0 P w K mg base n_law_words "_law_words" (defScope Hd.s_law_words) f cdv A outer s H E).nox (defBody Hd.s_law_words) (loS K Og.top t_law_words) := by
  have nd : n_law_words.Nodup := by decide +kernel
  exact (z_cons (z_ret (q_split (q_call C_corridor_text hr (by decide) hg rfl (q_cons (q_var (i := 0) rfl (.inl rfl) rfl rfl) (q_cons (q_var (i := 1) rfl (.inl rfl) rfl rfl) (q_cons (q_var (i := 2) rfl (.inl rfl) rfl rfl) q_nil rfl) rfl) rfl) rfl rfl rfl) q_str rfl rfl rfl)) z_nil)
abbrev n_law_words_right_v2 : List Str := ["deck", "chairs", "walkers", "wants", "words", "many", "first", "last", "more", "after", "first_word", "part"]
theorem b_law_words_right_v2 (T : Tab K mg) (C_law_words : Callee P w K mg base 3 "_law_words" 3 sp_law_words) (C_law_draw_v3 : Callee P w K mg base 1 "_law_draw" 2 sp_law_draw_v3) (C_rule_plan : Callee P w K mg base 4 "rule_plan" 2 sp_rule_plan) (C_row_after : Callee P w K mg base 2 "row_after" 3 sp_row_after) {cdv : Value} {A : Around} {outer : List Env} {s : Shared} {H : Hp} {E : XK} {f : Addr} (hr : Room 4 (A.deeper (envOfC "_law_words_right" (defScope Hd.s_law_words_right) s.heap.objs.size f cdv))) (hg : (A.deeper (envOfC "_law_words_right" (defScope Hd.s_law_words_right) s.heap.objs.size f cdv)).guards = some []) :
    PSs (cxOf CX0 P w K mg base n_law_words_right_v2 "_law_words_right" (defScope Hd.s_law_words_right) f cdv A outer s H E).nox (defBody Hd.s_law_words_right) (loS K Og.top t_law_words_right_v2) := by
  have nd : n_law_words_right_v2.Nodup := by decide +kernel
  exact (z_cons (z_par (i := 4) (j := 5) rfl nd rfl rfl (by decide) rfl rfl (q_cons (q_call C_law_words hr (by decide) hg rfl (q_cons (q_var (i := 1) rfl (.inl rfl) rfl rfl) (q_cons (q_var (i := 2) rfl (.inl rfl) rfl rfl) (q_cons (q_var (i := 3) rfl (.inl rfl) rfl rfl) q_nil rfl) rfl) rfl) rfl rfl rfl) (q_cons (q_callB c_len rfl T.f_len bt_len (q_cons (q_var (i := 1) rfl (.inl rfl) rfl rfl) q_nil rfl) (by decide) rfl rfl rfl) q_nil rfl) rfl) rfl rfl) (z_cons (z_if (PW.pt (q_or (q_cmpT (o_ne hr.u64) (q_callB c_len rfl T.f_len bt_len (q_cons (q_var (i := 4) rfl (.inl rfl) rfl rfl) q_nil rfl) (by decide) rfl rfl rfl) (q_op o_add (q_callB c_len rfl T.f_len bt_len (q_cons (q_var (i := 2) rfl (.inl rfl) rfl rfl) q_nil rfl) (by decide) rfl rfl rfl) q_int) (nomark _)) (q_or1 (q_cmpT (o_ne hr.u64) (q_ix (q_var (i := 4) rfl (.inl rfl) rfl rfl) (q_un o_neg q_int) (fun _ _ => rfl)) q_str (nomark _))))) (z_cons (z_ret q_bl) z_nil) z_nil) (z_cons (z_if (q_cmpT (o_ne hr.u64) (q_call C_law_words hr (by decide) hg rfl (q_cons (q_var (i := 1) rfl (.inl rfl) rfl rfl) (q_cons (q_rev (q_var (i := 2) rfl (.inl rfl) rfl rfl)) (q_cons (q_var (i := 3) rfl (.inl rfl) rfl rfl) q_nil rfl) rfl) rfl) rfl rfl rfl) (q_op o_add (q_op o_add (q_sl (q_var (i := 4) rfl (.inl rfl) rfl rfl) q_nopart (q_part q_int)) (q_rev (q_sl (q_var (i := 4) rfl (.inl rfl) rfl rfl) (q_part q_int) (q_part (q_un o_neg q_int))))) (q_sl (q_var (i := 4) rfl (.inl rfl) rfl rfl) (q_part (q_un o_neg q_int)) q_nopart)) (nomark _)) (z_cons (z_ret q_bl) z_nil) z_nil) (z_cons (z_if (q_cmpT (o_cmp op_lt) (q_callB c_len rfl T.f_len bt_len (q_cons (q_var (i := 2) rfl (.inl rfl) rfl rfl) q_nil rfl) (by decide) rfl rfl rfl) q_int (nomark _)) (z_cons (z_set (i := 6) nd rfl (.inl rfl) (q_call C_law_draw_v3 hr (by decide) hg rfl (q_cons (q_var (i := 0) rfl (.inl rfl) rfl rfl) (q_cons (q_op o_sub (q_var (i := 5) rfl (.inl rfl) rfl rfl) q_int) q_nil rfl) rfl) rfl rfl rfl) rfl (.inr rfl)) (z_cons (z_set (i := 7) nd rfl (.inl rfl) (q_op o_add (q_op o_add (q_var (i := 6) rfl (.inl rfl) rfl rfl) q_int) (q_call C_law_draw_v3 hr (by decide) hg rfl (q_cons (q_var (i := 0) rfl (.inl rfl) rfl rfl) (q_cons (q_op o_sub (q_op o_sub (q_var (i := 5) rfl (.inl rfl) rfl rfl) q_int) (q_var (i := 6) rfl (.inl rfl) rfl rfl)) q_nil rfl) rfl) rfl rfl rfl)) rfl (.inr rfl)) (z_cons (z_set (i := 8) nd rfl (.inl rfl) (q_op o_add (q_op o_add (q_sl (q_var (i := 4) rfl (.inl rfl) rfl rfl) q_nopart (q_part (q_un o_neg q_int))) (q_lst (q_cons (q_op o_add (q_op o_add (q_callT c_str rfl T.f_str bt_str (q_cons (q_var (i := 6) rfl (.inl rfl) rfl rfl) q_nil rfl) (by decide) rfl rfl rfl) q_str) (q_callT c_str rfl T.f_str bt_str (q_cons (q_var (i := 7) rfl (.inl rfl) rfl rfl) q_nil rfl) (by decide) rfl rfl rfl)) q_nil rfl))) (q_sl (q_var (i := 4) rfl (.inl rfl) rfl rfl) (q_part (q_un o_neg q_int)) q_nopart)) rfl (.inr rfl)) (z_cons (z_if (q_cmpT (o_ne hr.u64) (q_call C_law_words hr (by decide) hg rfl (q_cons (q_var (i := 1) rfl (.inl rfl) rfl rfl) (q_cons (q_op o_add (q_var (i := 2) rfl (.inl rfl) rfl rfl) (q_tup (q_cons (q_tup (q_cons (q_var (i := 6) rfl (.inl rfl) rfl rfl) (q_cons (q_var (i := 7) rfl (.inl rfl) rfl rfl) q_nil rfl) rfl)) q_nil rfl))) (q_cons (q_var (i := 3) rfl (.inl rfl) rfl rfl) q_nil rfl) rfl) rfl) rfl rfl rfl) (q_var (i := 8) rfl (.inl rfl) rfl rfl) (nomark _)) (z_cons (z_ret q_bl) z_nil) z_nil) z_nil)))) z_nil) (z_cons (z_if (q_cmpT (o_ne hr.u64) (q_call C_law_words hr (by decide) hg rfl (q_cons (q_var (i := 1) rfl (.inl rfl) rfl rfl) (q_cons (q_var (i := 2) rfl (.inl rfl) rfl rfl) (q_cons (q_var (i := 1) rfl (.inl rfl) rfl rfl) q_nil rfl) rfl) rfl) rfl rfl rfl) (q_op o_add (q_sl (q_var (i := 4) rfl (.inl rfl) rfl rfl) q_nopart (q_part (q_un o_neg q_int))) (q_sl (q_var (i := 4) rfl (.inl rfl) rfl rfl) q_nopart (q_part q_int))) (nomark _)) (z_cons (z_ret q_bl) z_nil) z_nil) (z_cons (z_set (i := 9) nd rfl (.inl rfl) (q_call C_row_after hr (by decide) hg rfl (q_cons (q_var (i := 1) rfl (.inl rfl) rfl rfl) (q_cons (q_var (i := 2) rfl (.inl rfl) rfl rfl) (q_cons (q_call C_rule_plan hr (by decide) hg rfl (q_cons (q_var (i := 1) rfl (.inl rfl) rfl rfl) (q_cons (q_var (i := 2) rfl (.inl rfl) rfl rfl) q_nil rfl) rfl) rfl rfl rfl) q_nil rfl) rfl) rfl) rfl rfl rfl) rfl (.inr rfl)) (z_cons (z_if (q_cmpT (o_cmp op_gt) (q_callB (c_maxA rfl hr.u64) rfl T.f_max bt_max (q_cons (q_var (i := 9) rfl (.inl rfl) rfl rfl) q_nil rfl) (by decide) rfl rfl rfl) q_int (nomark _)) (z_cons (z_ret (q_cmp (o_eq hr.u64) (q_callB (c_sum rfl) rfl T.f_sum bt_sum (q_cons (q_var (i := 9) rfl (.inl rfl) rfl rfl) q_nil rfl) (by decide) rfl rfl rfl) (q_callB (c_sum rfl) rfl T.f_sum bt_sum (q_cons (q_var (i := 1) rfl (.inl rfl) rfl rfl) q_nil rfl) (by decide) rfl rfl rfl) (nomark _))) z_nil) z_nil) (z_cons (z_set (i := 10) nd rfl (.inl rfl) (q_ix (q_call C_law_words hr (by decide) hg rfl (q_cons (q_var (i := 9) rfl (.inl rfl) rfl rfl) (q_cons (q_var (i := 2) rfl (.inl rfl) rfl rfl) (q_cons (q_var (i := 3) rfl (.inl rfl) rfl rfl) q_nil rfl) rfl) rfl) rfl rfl rfl) q_int (fun _ _ => rfl)) rfl (.inr rfl)) (z_cons (z_ret (q_andV (q_cmp (o_eq hr.u64) (q_callB (c_sum rfl) rfl T.f_sum bt_sum (q_cons (q_lc (own := [("part", 11)]) rfl nd (pi_seq (q_split (q_var (i := 10) rfl (.inl rfl) rfl rfl) q_str rfl rfl rfl)) (blkOk_by (by kernel_rfl)) (fun _ _ _ _ _ => (g_nm (i := 11) nd rfl (.inl rfl) (.inr rfl))) (fun _ _ _ _ _ => q_yes) (fun _ _ _ _ _ => (q_callT c_intS rfl T.f_int bt_int (q_cons (q_var (i := 11) rfl (.inl rfl) rfl rfl) q_nil rfl) (by decide) rfl rfl rfl)) (fun _ => rfl) (by decide)) q_nil rfl) (by decide) rfl rfl rfl) (q_callB (c_sum rfl) rfl T.f_sum bt_sum (q_cons (q_var (i := 1) rfl (.inl rfl) rfl rfl) q_nil rfl) (by decide) rfl rfl rfl) (nomark _)) (q_one (q_cmp (o_eq hr.u64) (q_cntS (q_var (i := 10) rfl (.inl rfl) rfl rfl) q_str rfl rfl rfl) (q_op o_sub (q_var (i := 5) rfl (.inl rfl) rfl rfl) q_int) (nomark _))))) z_nil)))))))))
abbrev n_law_k63 : List Str := ["script", "deck", "turn", "chairs", "walkers", "wants", "text", "k", "once"]
theorem b_law_k63 (T : Tab K mg) (C_law_deck : Callee P w K mg base 1 "_law_deck" 1 sp_law_deck) (C_law_state_c : Callee P w K mg base 2 "_law_state" 3 sp_law_state_c) (C_corridor_text : Callee P w K mg base 2 "corridor_text" 3 sp_corridor_text) (C_parse_corridor_x : CalleeX P w K mg base 5 "parse_corridor" 1 sp_parse_corridor_x) (C_law_same_v2 : Callee P w K mg base 5 "_law_same" 2 sp_law_same_v2) (C_law_words_right_v2 : Callee P w K mg base 5 "_law_words_right" 4 sp_law_words_right_v2) (C_law_bent_v4 : Callee P w K mg base 2 "_law_bent" 2 sp_law_bent_v4) (C_law_accepted_right : Callee P w K mg base 6 "_law_accepted_right" 1 sp_law_accepted_right) {cdv : Value} {A : Around} {outer : List Env} {s : Shared} {H : Hp} {E : XK} {f : Addr} (hr : Room 6 (A.deeper (envOfC "law" (defScope Hd.s_law) s.heap.objs.size f cdv))) (hg : (A.deeper (envOfC "law" (defScope Hd.s_law) s.heap.objs.size f cdv)).guards = some []) :
    PSs (cxOf CX0 P w K mg base n_law_k63 "law" (defScope Hd.s_law) f cdv A outer s H E).nox (defBody Hd.s_law) (loS K Og.top t_law_k63) := by
  have nd : n_law_k63.Nodup := by decide +kernel
  exact (z_cons (z_set (i := 1) nd rfl (.inl rfl) (q_call C_law_deck hr (by decide) hg rfl (q_cons (q_var (i := 0) rfl (.inl rfl) rfl rfl) q_nil rfl) rfl rfl rfl) rfl (.inr rfl)) (z_cons (z_for PassesOwn.never rfl (pi_rng1 rfl T.f_range q_int rfl rfl) (g_nm (i := 2) nd rfl (.inl rfl) (.inr rfl)) (z_cons (z_asg (p := (.tp [(.nm 3), (.nm 4), (.nm 5)])) (q_call C_law_state_c hr (by decide) hg rfl (q_cons (q_var (i := 1) rfl (.inl rfl) rfl rfl) (q_cons (q_ix (q_lst (q_cons q_int (q_cons q_int q_nil rfl) rfl)) (q_op o_mod (q_var (i := 2) rfl (.inl rfl) rfl rfl) q_int) (fun _ _ => rfl)) (q_cons (q_ix (q_lst (q_cons q_int (q_cons q_int (q_cons q_int (q_cons q_int (q_cons q_int q_nil rfl) rfl) rfl) rfl) rfl)) (q_var (i := 2) rfl (.inl rfl) rfl rfl) (fun _ _ => rfl)) q_nil rfl) rfl) rfl) rfl rfl rfl) (g_tp rfl (gs_cons (g_nm (i := 3) nd rfl (.inl rfl) (.inr rfl)) (gs_cons (g_nm (i := 4) nd rfl (.inl rfl) (.inr rfl)) (gs_cons (g_nm (i := 5) nd rfl (.inl rfl) (.inr rfl)) gs_nil rfl) rfl) rfl) rfl rfl) rfl rfl rfl) (z_cons (z_set (i := 6) nd rfl (.inl rfl) (q_call C_corridor_text hr (by decide) hg rfl (q_cons (q_var (i := 3) rfl (.inl rfl) rfl rfl) (q_cons (q_var (i := 4) rfl (.inl rfl) rfl rfl) (q_cons (q_var (i := 5) rfl (.inl rfl) rfl rfl) q_nil rfl) rfl) rfl) rfl rfl rfl) rfl (.inr rfl)) (z_cons (z_if (q_not (q_tru (q_call C_law_same_v2 hr (by decide) hg rfl (q_cons (q_callX C_parse_corridor_x hr (by decide) hg Tk.no rfl (q_cons (q_var (i := 6) rfl (.inl rfl) rfl rfl) q_nil rfl) rfl rfl rfl) (q_cons (q_tup (q_cons (q_var (i := 3) rfl (.inl rfl) rfl rfl) (q_cons (q_var (i := 4) rfl (.inl rfl) rfl rfl) (q_cons (q_var (i := 5) rfl (.inl rfl) rfl rfl) q_nil rfl) rfl) rfl)) q_nil rfl) rfl) rfl rfl rfl) (fun _ => rfl))) (z_cons (z_ret q_bl) z_nil) z_nil) (z_cons (z_if (q_not (q_tru (q_call C_law_words_right_v2 hr (by decide) hg rfl (q_cons (q_var (i := 1) rfl (.inl rfl) rfl rfl) (q_cons (q_var (i := 3) rfl (.inl rfl) rfl rfl) (q_cons (q_var (i := 4) rfl (.inl rfl) rfl rfl) (q_cons (q_var (i := 5) rfl (.inl rfl) rfl rfl) q_nil rfl) rfl) rfl) rfl) rfl rfl rfl) (fun _ => rfl))) (z_cons (z_ret q_bl) z_nil) z_nil) (z_cons (z_for PassesOwn.never rfl (pi_rng1 rfl T.f_range q_int rfl rfl) (g_nm (i := 7) nd rfl (.inl rfl) (.inr rfl)) (z_cons (z_set (i := 8) nd rfl (.inl rfl) (q_call C_law_bent_v4 hr (by decide) hg rfl (q_cons (q_var (i := 1) rfl (.inl rfl) rfl rfl) (q_cons (q_var (i := 6) rfl (.inl rfl) rfl rfl) q_nil rfl) rfl) rfl rfl rfl) rfl (.inr rfl)) (z_cons (z_if (PW.pt (q_or (q_not (q_tru (q_call C_law_accepted_right hr (by decide) hg rfl (q_cons (q_var (i := 8) rfl (.inl rfl) rfl rfl) q_nil rfl) rfl rfl rfl) (fun _ => rfl))) (q_or1 (q_not (q_tru (q_call C_law_accepted_right hr (by decide) hg rfl (q_cons (q_call C_law_bent_v4 hr (by decide) hg rfl (q_cons (q_var (i := 1) rfl (.inl rfl) rfl rfl) (q_cons (q_var (i := 8) rfl (.inl rfl) rfl rfl) q_nil rfl) rfl) rfl rfl rfl) q_nil rfl) rfl rfl rfl) (fun _ => rfl)))))) (z_cons (z_ret q_bl) z_nil) z_nil) z_nil)) (fun _ => rfl)) z_nil))))) (fun _ => rfl)) (z_cons (z_ret q_bl) z_nil)))
theorem sc_is_number : FnScope n_is_number ["value", "low", "high"] (defScope Hd.s_is_number) := ⟨rfl, rfl, rfl, by decide +kernel, rfl, by decide +kernel, by decide +kernel⟩
abbrev F_is_number (K : PySem.W.Frag) (f : Addr) (fd : FuncData) : Prop := FunD K "is_number" "is_number" (defArgs Hd.s_is_number) (defBody Hd.s_is_number) (defScope Hd.s_is_number) [] [] f fd
theorem bi_is_number {f : Addr} {fd : FuncData} (F : F_is_number K f fd) : Binds K fd ["value", "low", "high"] [] :=
  F.bindsN fun _ _ _ _ _ _ us hl => match us, hl with | [_, _, _], _ => rfl
theorem r_is_number (T : Tab K mg) {f : Addr} {fd : FuncData} (F : F_is_number K f fd) : FnG P w K mg base CX0 1 f fd ["value", "low", "high"] (loSp K sp_is_number 3) :=
  fnR F sc_is_number rfl (fun _ _ _ _ _ _ hr hg => b_is_number T hr hg) fun ds M Φ _ h => p_is_number ds M Φ h
theorem c_is_number (T : Tab K mg) {f : Addr} {fd : FuncData} (F : F_is_number K f fd) (hm : mg "is_number" = some (.ref f)) : Callee P w K mg base 1 "is_number" 3 sp_is_number :=
  ⟨f, fd, _, rfl, hm, F.kp, bi_is_number F, r_is_number T F⟩
theorem sc_row_error : FnScope n_row_error ["value"] (defScope Hd.s_row_error) := ⟨rfl, rfl, rfl, by decide +kernel, rfl, by decide +kernel, by decide +kernel⟩
abbrev F_row_error (K : PySem.W.Frag) (f : Addr) (fd : FuncData) : Prop := FunD K "row_error" "row_error" (defArgs Hd.s_row_error) (defBody Hd.s_row_error) (defScope Hd.s_row_error) [] [] f fd
theorem bi_row_error {f : Addr} {fd : FuncData} (F : F_row_error K f fd) : Binds K fd ["value"] [] :=
  F.bindsN fun _ _ _ _ _ _ us hl => match us, hl with | [_], _ => rfl
theorem r_row_error (T : Tab K mg) (C_is_number : Callee P w K mg base 1 "is_number" 3 sp_is_number) {f : Addr} {fd : FuncData} (F : F_row_error K f fd) : FnG P w K mg base CX0 2 f fd ["value"] (loSp K sp_row_error 1) :=
  fnR F sc_row_error rfl (fun _ _ _ _ _ _ hr hg => b_row_error T C_is_number hr hg) fun ds M Φ _ h => p_row_error ds M Φ h
theorem c_row_error (T : Tab K mg) (C_is_number : Callee P w K mg base 1 "is_number" 3 sp_is_number) {f : Addr} {fd : FuncData} (F : F_row_error K f fd) (hm : mg "row_error" = some (.ref f)) : Callee P w K mg base 2 "row_error" 1 sp_row_error :=
  ⟨f, fd, _, rfl, hm, F.kp, bi_row_error F, r_row_error T C_is_number F⟩
theorem sc_is_row : FnScope n_is_row ["value"] (defScope Hd.s_is_row) := ⟨rfl, rfl, rfl, by decide +kernel, rfl, by decide +kernel, by decide +kernel⟩
abbrev F_is_row (K : PySem.W.Frag) (f : Addr) (fd : FuncData) : Prop := FunD K "is_row" "is_row" (defArgs Hd.s_is_row) (defBody Hd.s_is_row) (defScope Hd.s_is_row) [] [] f fd
theorem bi_is_row {f : Addr} {fd : FuncData} (F : F_is_row K f fd) : Binds K fd ["value"] [] :=
  F.bindsN fun _ _ _ _ _ _ us hl => match us, hl with | [_], _ => rfl
theorem r_is_row (T : Tab K mg) (C_row_error : Callee P w K mg base 2 "row_error" 1 sp_row_error) {f : Addr} {fd : FuncData} (F : F_is_row K f fd) : FnG P w K mg base CX0 3 f fd ["value"] (loSp K sp_is_row 1) :=
  fnR F sc_is_row rfl (fun _ _ _ _ _ _ hr hg => b_is_row T C_row_error hr hg) fun ds M Φ _ h => p_is_row ds M Φ h
theorem c_is_row (T : Tab K mg) (C_row_error : Callee P w K mg base 2 "row_error" 1 sp_row_error) {f : Addr} {fd : FuncData} (F : F_is_row K f fd) (hm : mg "is_row" = some (.ref f)) : Callee P w K mg base 3 "is_row" 1 sp_is_row :=
  ⟨f, fd, _, rfl, hm, F.kp, bi_is_row F, r_is_row T C_row_error F⟩
theorem sc_is_way : FnScope n_is_way ["stations", "value"] (defScope Hd.s_is_way) := ⟨rfl, rfl, rfl, by decide +kernel, rfl, by decide +kernel, by decide +kernel⟩
abbrev F_is_way (K : PySem.W.Frag) (f : Addr) (fd : FuncData) : Prop := FunD K "is_way" "is_way" (defArgs Hd.s_is_way) (defBody Hd.s_is_way) (defScope Hd.s_is_way) [] [] f fd
theorem bi_is_way {f : Addr} {fd : FuncData} (F : F_is_way K f fd) : Binds K fd ["stations", "value"] [] :=
  F.bindsN fun _ _ _ _ _ _ us hl => match us, hl with | [_, _], _ => rfl
theorem r_is_way (T : Tab K mg) (C_is_number : Callee P w K mg base 1 "is_number" 3 sp_is_number) {f : Addr} {fd : FuncData} (F : F_is_way K f fd) : FnG P w K mg base CX0 2 f fd ["stations", "value"] (loSp K sp_is_way 2) :=
  fnR F sc_is_way rfl (fun _ _ _ _ _ _ hr hg => b_is_way T C_is_number hr hg) fun ds M Φ _ h => p_is_way ds M Φ h
theorem c_is_way (T : Tab K mg) (C_is_number : Callee P w K mg base 1 "is_number" 3 sp_is_number) {f : Addr} {fd : FuncData} (F : F_is_way K f fd) (hm : mg "is_way" = some (.ref f)) : Callee P w K mg base 2 "is_way" 2 sp_is_way :=
  ⟨f, fd, _, rfl, hm, F.kp, bi_is_way F, r_is_way T C_is_number F⟩
theorem sc_are_walkers : FnScope n_are_walkers ["stations", "value"] (defScope Hd.s_are_walkers) := ⟨rfl, rfl, rfl, by decide +kernel, rfl, by decide +kernel, by decide +kernel⟩
abbrev F_are_walkers (K : PySem.W.Frag) (f : Addr) (fd : FuncData) : Prop := FunD K "are_walkers" "are_walkers" (defArgs Hd.s_are_walkers) (defBody Hd.s_are_walkers) (defScope Hd.s_are_walkers) [] [] f fd
theorem bi_are_walkers {f : Addr} {fd : FuncData} (F : F_are_walkers K f fd) : Binds K fd ["stations", "value"] [] :=
  F.bindsN fun _ _ _ _ _ _ us hl => match us, hl with | [_, _], _ => rfl
theorem r_are_walkers (T : Tab K mg) (C_is_way : Callee P w K mg base 2 "is_way" 2 sp_is_way) {f : Addr} {fd : FuncData} (F : F_are_walkers K f fd) : FnG P w K mg base CX0 3 f fd ["stations", "value"] (loSp K sp_are_walkers 2) :=
  fnR F sc_are_walkers rfl (fun _ _ _ _ _ _ hr hg => b_are_walkers T C_is_way hr hg) fun ds M Φ _ h => p_are_walkers ds M Φ h
theorem c_are_walkers (T : Tab K mg) (C_is_way : Callee P w K mg base 2 "is_way" 2 sp_is_way) {f : Addr} {fd : FuncData} (F : F_are_walkers K f fd) (hm : mg "are_walkers" = some (.ref f)) : Callee P w K mg base 3 "are_walkers" 2 sp_are_walkers :=
  ⟨f, fd, _, rfl, hm, F.kp, bi_are_walkers F, r_are_walkers T C_is_way F⟩
theorem sc_chairs_after : FnScope n_chairs_after ["numbers", "stages"] (defScope Hd.s_chairs_after) := ⟨rfl, rfl, rfl, by decide +kernel, rfl, by decide +kernel, by decide +kernel⟩
abbrev F_chairs_after (K : PySem.W.Frag) (f : Addr) (fd : FuncData) : Prop := FunD K "chairs_after" "chairs_after" (defArgs Hd.s_chairs_after) (defBody Hd.s_chairs_after) (defScope Hd.s_chairs_after) [] [] f fd
theorem bi_chairs_after {f : Addr} {fd : FuncData} (F : F_chairs_after K f fd) : Binds K fd ["numbers", "stages"] [] :=
  F.bindsN fun _ _ _ _ _ _ us hl => match us, hl with | [_, _], _ => rfl
theorem r_chairs_after (T : Tab K mg) {f : Addr} {fd : FuncData} (F : F_chairs_after K f fd) : FnG P w K mg base CX0 1 f fd ["numbers", "stages"] (loSp K sp_chairs_after 2) :=
  fnR F sc_chairs_after rfl (fun _ _ _ _ _ _ hr hg => b_chairs_after T hr hg) fun ds M Φ _ h => p_chairs_after ds M Φ h
theorem c_chairs_after (T : Tab K mg) {f : Addr} {fd : FuncData} (F : F_chairs_after K f fd) (hm : mg "chairs_after" = some (.ref f)) : Callee P w K mg base 1 "chairs_after" 2 sp_chairs_after :=
  ⟨f, fd, _, rfl, hm, F.kp, bi_chairs_after F, r_chairs_after T F⟩
theorem sc_row_after : FnScope n_row_after ["row", "walkers", "plan"] (defScope Hd.s_row_after) := ⟨rfl, rfl, rfl, by decide +kernel, rfl, by decide +kernel, by decide +kernel⟩
abbrev F_row_after (K : PySem.W.Frag) (f : Addr) (fd : FuncData) : Prop := FunD K "row_after" "row_after" (defArgs Hd.s_row_after) (defBody Hd.s_row_after) (defScope Hd.s_row_after) [] [] f fd
theorem bi_row_after {f : Addr} {fd : FuncData} (F : F_row_after K f fd) : Binds K fd ["row", "walkers", "plan"] [] :=
  F.bindsN fun _ _ _ _ _ _ us hl => match us, hl with | [_, _, _], _ => rfl
theorem r_row_after (T : Tab K mg) (C_chairs_after : Callee P w K mg base 1 "chairs_after" 2 sp_chairs_after) {f : Addr} {fd : FuncData} (F : F_row_after K f fd) : FnG P w K mg base CX0 2 f fd ["row", "walkers", "plan"] (loSp K sp_row_after 3) :=
  fnR F sc_row_after rfl (fun _ _ _ _ _ _ hr hg => b_row_after T C_chairs_after hr hg) fun ds M Φ _ h => p_row_after ds M Φ h
theorem c_row_after (T : Tab K mg) (C_chairs_after : Callee P w K mg base 1 "chairs_after" 2 sp_chairs_after) {f : Addr} {fd : FuncData} (F : F_row_after K f fd) (hm : mg "row_after" = some (.ref f)) : Callee P w K mg base 2 "row_after" 3 sp_row_after :=
  ⟨f, fd, _, rfl, hm, F.kp, bi_row_after F, r_row_after T C_chairs_after F⟩
theorem sc_rule_stages : FnScope n_rule_stages ["numbers", "way"] (defScope Hd.s_rule_stages) := ⟨rfl, rfl, rfl, by decide +kernel, rfl, by decide +kernel, by decide +kernel⟩
abbrev F_rule_stages (K : PySem.W.Frag) (f : Addr) (fd : FuncData) : Prop := FunD K "rule_stages" "rule_stages" (defArgs Hd.s_rule_stages) (defBody Hd.s_rule_stages) (defScope Hd.s_rule_stages) [] [] f fd
theorem bi_rule_stages {f : Addr} {fd : FuncData} (F : F_rule_stages K f fd) : Binds K fd ["numbers", "way"] [] :=
  F.bindsN fun _ _ _ _ _ _ us hl => match us, hl with | [_, _], _ => rfl
theorem r_rule_stages (T : Tab K mg) {f : Addr} {fd : FuncData} (F : F_rule_stages K f fd) : FnG P w K mg base CX0 1 f fd ["numbers", "way"] (loSp K sp_rule_stages 2) :=
  fnR F sc_rule_stages rfl (fun _ _ _ _ _ _ hr hg => b_rule_stages T hr hg) fun ds M Φ _ h => p_rule_stages ds M Φ h
theorem c_rule_stages (T : Tab K mg) {f : Addr} {fd : FuncData} (F : F_rule_stages K f fd) (hm : mg "rule_stages" = some (.ref f)) : Callee P w K mg base 1 "rule_stages" 2 sp_rule_stages :=
  ⟨f, fd, _, rfl, hm, F.kp, bi_rule_stages F, r_rule_stages T F⟩
theorem sc_each_walk : GScope n_each_walk ["row", "walkers"] (defScope Hd.s_each_walk) := ⟨rfl, rfl, rfl, by decide +kernel, rfl, by decide +kernel, by decide +kernel⟩
abbrev F_each_walk (K : PySem.W.Frag) (f : Addr) (fd : FuncData) : Prop := FunD K "each_walk" "each_walk" (defArgs Hd.s_each_walk) (defBody Hd.s_each_walk) (defScope Hd.s_each_walk) [] [] f fd
theorem bi_each_walk {f : Addr} {fd : FuncData} (F : F_each_walk K f fd) : Binds K fd ["row", "walkers"] [] :=
  F.bindsN fun _ _ _ _ _ _ us hl => match us, hl with | [_, _], _ => rfl
theorem c_each_walk (T : Tab K mg) (C_rule_stages : Callee P w K mg base 1 "rule_stages" 2 sp_rule_stages) (C_chairs_after : Callee P w K mg base 1 "chairs_after" 2 sp_chairs_after) {f : Addr} {fd : FuncData} (F : F_each_walk K f fd) (hm : mg "each_walk" = some (.ref f)) : GCallee P w K mg base 2 "each_walk" 2 sp_each_walk :=
  gcal F hm (bi_each_walk F) (gfnD F sc_each_walk rfl (fun _ => rfl) (fun n0 cdv outer g => b_each_walk T C_rule_stages C_chairs_after) fun ds xs _ _ h => p_each_walk ds xs h)
theorem sc_rule_plan : FnScope n_rule_plan ["row", "walkers"] (defScope Hd.s_rule_plan) := ⟨rfl, rfl, rfl, by decide +kernel, rfl, by decide +kernel, by decide +kernel⟩
abbrev F_rule_plan (K : PySem.W.Frag) (f : Addr) (fd : FuncData) : Prop := FunD K "rule_plan" "rule_plan" (defArgs Hd.s_rule_plan) (defBody Hd.s_rule_plan) (defScope Hd.s_rule_plan) [] [] f fd
theorem bi_rule_plan {f : Addr} {fd : FuncData} (F : F_rule_plan K f fd) : Binds K fd ["row", "walkers"] [] :=
  F.bindsN fun _ _ _ _ _ _ us hl => match us, hl with | [_, _], _ => rfl
theorem r_rule_plan (T : Tab K mg) (C_each_walk : GCallee P w K mg base 2 "each_walk" 2 sp_each_walk) {f : Addr} {fd : FuncData} (F : F_rule_plan K f fd) : FnG P w K mg base CX0 4 f fd ["row", "walkers"] (loSp K sp_rule_plan 2) :=
  fnR F sc_rule_plan rfl (fun _ _ _ _ _ _ hr hg => b_rule_plan T C_each_walk hr hg) fun ds M Φ _ h => p_rule_plan ds M Φ h
theorem c_rule_plan (T : Tab K mg) (C_each_walk : GCallee P w K mg base 2 "each_walk" 2 sp_each_walk) {f : Addr} {fd : FuncData} (F : F_rule_plan K f fd) (hm : mg "rule_plan" = some (.ref f)) : Callee P w K mg base 4 "rule_plan" 2 sp_rule_plan :=
  ⟨f, fd, _, rfl, hm, F.kp, bi_rule_plan F, r_rule_plan T C_each_walk F⟩
theorem sc_is_within : FnScope n_is_within ["value", "low", "high"] (defScope Hd.s_is_within) := ⟨rfl, rfl, rfl, by decide +kernel, rfl, by decide +kernel, by decide +kernel⟩
abbrev F_is_within (K : PySem.W.Frag) (f : Addr) (fd : FuncData) : Prop := FunD K "is_within" "is_within" (defArgs Hd.s_is_within) (defBody Hd.s_is_within) (defScope Hd.s_is_within) [] [] f fd
theorem bi_is_within {f : Addr} {fd : FuncData} (F : F_is_within K f fd) : Binds K fd ["value", "low", "high"] [] :=
  F.bindsN fun _ _ _ _ _ _ us hl => match us, hl with | [_, _, _], _ => rfl
theorem r_is_within (T : Tab K mg) {f : Addr} {fd : FuncData} (F : F_is_within K f fd) : FnG P w K mg base CX0 1 f fd ["value", "low", "high"] (loSp K sp_is_within 3) :=
  fnR F sc_is_within rfl (fun _ _ _ _ _ _ hr hg => b_is_within T hr hg) fun ds M Φ _ h => p_is_within ds M Φ h
theorem c_is_within (T : Tab K mg) {f : Addr} {fd : FuncData} (F : F_is_within K f fd) (hm : mg "is_within" = some (.ref f)) : Callee P w K mg base 1 "is_within" 3 sp_is_within :=
  ⟨f, fd, _, rfl, hm, F.kp, bi_is_within F, r_is_within T F⟩
theorem sc_are_within : FnScope n_are_within ["value", "high"] (defScope Hd.s_are_within) := ⟨rfl, rfl, rfl, by decide +kernel, rfl, by decide +kernel, by decide +kernel⟩
abbrev F_are_within (K : PySem.W.Frag) (f : Addr) (fd : FuncData) : Prop := FunD K "are_within" "are_within" (defArgs Hd.s_are_within) (defBody Hd.s_are_within) (defScope Hd.s_are_within) [] [] f fd
theorem bi_are_within {f : Addr} {fd : FuncData} (F : F_are_within K f fd) : Binds K fd ["value", "high"] [] :=
  F.bindsN fun _ _ _ _ _ _ us hl => match us, hl with | [_, _], _ => rfl
theorem r_are_within (T : Tab K mg) (C_is_within : Callee P w K mg base 1 "is_within" 3 sp_is_within) {f : Addr} {fd : FuncData} (F : F_are_within K f fd) : FnG P w K mg base CX0 2 f fd ["value", "high"] (loSp K sp_are_within 2) :=
  fnR F sc_are_within rfl (fun _ _ _ _ _ _ hr hg => b_are_within T C_is_within hr hg) fun ds M Φ _ h => p_are_within ds M Φ h
theorem c_are_within (T : Tab K mg) (C_is_within : Callee P w K mg base 1 "is_within" 3 sp_is_within) {f : Addr} {fd : FuncData} (F : F_are_within K f fd) (hm : mg "are_within" = some (.ref f)) : Callee P w K mg base 2 "are_within" 2 sp_are_within :=
  ⟨f, fd, _, rfl, hm, F.kp, bi_are_within F, r_are_within T C_is_within F⟩
theorem sc_are_wants : FnScope n_are_wants ["stations", "value"] (defScope Hd.s_are_wants) := ⟨rfl, rfl, rfl, by decide +kernel, rfl, by decide +kernel, by decide +kernel⟩
abbrev F_are_wants (K : PySem.W.Frag) (f : Addr) (fd : FuncData) : Prop := FunD K "are_wants" "are_wants" (defArgs Hd.s_are_wants) (defBody Hd.s_are_wants) (defScope Hd.s_are_wants) [] [] f fd
theorem bi_are_wants {f : Addr} {fd : FuncData} (F : F_are_wants K f fd) : Binds K fd ["stations", "value"] [] :=
  F.bindsN fun _ _ _ _ _ _ us hl => match us, hl with | [_, _], _ => rfl
theorem r_are_wants (T : Tab K mg) (C_are_within : Callee P w K mg base 2 "are_within" 2 sp_are_within) {f : Addr} {fd : FuncData} (F : F_are_wants K f fd) : FnG P w K mg base CX0 3 f fd ["stations", "value"] (loSp K sp_are_wants 2) :=
  fnR F sc_are_wants rfl (fun _ _ _ _ _ _ hr hg => b_are_wants T C_are_within hr hg) fun ds M Φ _ h => p_are_wants ds M Φ h
theorem c_are_wants (T : Tab K mg) (C_are_within : Callee P w K mg base 2 "are_within" 2 sp_are_within) {f : Addr} {fd : FuncData} (F : F_are_wants K f fd) (hm : mg "are_wants" = some (.ref f)) : Callee P w K mg base 3 "are_wants" 2 sp_are_wants :=
  ⟨f, fd, _, rfl, hm, F.kp, bi_are_wants F, r_are_wants T C_are_within F⟩
theorem sc_parse_number : FnScope n_parse_number ["word"] (defScope Hd.s_parse_number) := ⟨rfl, rfl, rfl, by decide +kernel, rfl, by decide +kernel, by decide +kernel⟩
abbrev F_parse_number (K : PySem.W.Frag) (f : Addr) (fd : FuncData) : Prop := FunD K "parse_number" "parse_number" (defArgs Hd.s_parse_number) (defBody Hd.s_parse_number) (defScope Hd.s_parse_number) [] [] f fd
theorem bi_parse_number {f : Addr} {fd : FuncData} (F : F_parse_number K f fd) : Binds K fd ["word"] [] :=
  F.bindsN fun _ _ _ _ _ _ us hl => match us, hl with | [_], _ => rfl
theorem r_parse_number (T : Tab K mg) {f : Addr} {fd : FuncData} (F : F_parse_number K f fd) : FnG P w K mg base CX0 1 f fd ["word"] (loSp K sp_parse_number 1) :=
  fnR F sc_parse_number rfl (fun _ _ _ _ _ _ hr hg => b_parse_number T hr hg) fun ds M Φ _ h => p_parse_number ds M Φ h
theorem c_parse_number (T : Tab K mg) {f : Addr} {fd : FuncData} (F : F_parse_number K f fd) (hm : mg "parse_number" = some (.ref f)) : Callee P w K mg base 1 "parse_number" 1 sp_parse_number :=
  ⟨f, fd, _, rfl, hm, F.kp, bi_parse_number F, r_parse_number T F⟩
theorem sc_parse_numbers : FnScope n_parse_numbers ["word", "sign"] (defScope Hd.s_parse_numbers) := ⟨rfl, rfl, rfl, by decide +kernel, rfl, by decide +kernel, by decide +kernel⟩
abbrev F_parse_numbers (K : PySem.W.Frag) (f : Addr) (fd : FuncData) : Prop := FunD K "parse_numbers" "parse_numbers" (defArgs Hd.s_parse_numbers) (defBody Hd.s_parse_numbers) (defScope Hd.s_parse_numbers) [] [] f fd
theorem bi_parse_numbers {f : Addr} {fd : FuncData} (F : F_parse_numbers K f fd) : Binds K fd ["word", "sign"] [] :=
  F.bindsN fun _ _ _ _ _ _ us hl => match us, hl with | [_, _], _ => rfl
theorem r_parse_numbers (T : Tab K mg) (C_parse_number : Callee P w K mg base 1 "parse_number" 1 sp_parse_number) {f : Addr} {fd : FuncData} (F : F_parse_numbers K f fd) : FnG P w K mg base CX0 2 f fd ["word", "sign"] (loSp K sp_parse_numbers 2) :=
  fnR F sc_parse_numbers rfl (fun _ _ _ _ _ _ hr hg => b_parse_numbers T C_parse_number hr hg) fun ds M Φ _ h => p_parse_numbers ds M Φ h
theorem c_parse_numbers (T : Tab K mg) (C_parse_number : Callee P w K mg base 1 "parse_number" 1 sp_parse_number) {f : Addr} {fd : FuncData} (F : F_parse_numbers K f fd) (hm : mg "parse_numbers" = some (.ref f)) : Callee P w K mg base 2 "parse_numbers" 2 sp_parse_numbers :=
  ⟨f, fd, _, rfl, hm, F.kp, bi_parse_numbers F, r_parse_numbers T C_parse_number F⟩
theorem sc_numbers_text : FnScope n_numbers_text ["numbers"] (defScope Hd.s_numbers_text) := ⟨rfl, rfl, rfl, by decide +kernel, rfl, by decide +kernel, by decide +kernel⟩
abbrev F_numbers_text (K : PySem.W.Frag) (f : Addr) (fd : FuncData) : Prop := FunD K "numbers_text" "numbers_text" (defArgs Hd.s_numbers_text) (defBody Hd.s_numbers_text) (defScope Hd.s_numbers_text) [] [] f fd
theorem bi_numbers_text {f : Addr} {fd : FuncData} (F : F_numbers_text K f fd) : Binds K fd ["numbers"] [] :=
  F.bindsN fun _ _ _ _ _ _ us hl => match us, hl with | [_], _ => rfl
theorem r_numbers_text (T : Tab K mg) {f : Addr} {fd : FuncData} (F : F_numbers_text K f fd) : FnG P w K mg base CX0 1 f fd ["numbers"] (loSp K sp_numbers_text 1) :=
  fnR F sc_numbers_text rfl (fun _ _ _ _ _ _ hr hg => b_numbers_text T hr hg) fun ds M Φ _ h => p_numbers_text ds M Φ h
theorem c_numbers_text (T : Tab K mg) {f : Addr} {fd : FuncData} (F : F_numbers_text K f fd) (hm : mg "numbers_text" = some (.ref f)) : Callee P w K mg base 1 "numbers_text" 1 sp_numbers_text :=
  ⟨f, fd, _, rfl, hm, F.kp, bi_numbers_text F, r_numbers_text T F⟩
theorem sc_corridor_text : FnScope n_corridor_text ["row", "walkers", "wants"] (defScope Hd.s_corridor_text) := ⟨rfl, rfl, rfl, by decide +kernel, rfl, by decide +kernel, by decide +kernel⟩
abbrev F_corridor_text (K : PySem.W.Frag) (f : Addr) (fd : FuncData) : Prop := FunD K "corridor_text" "corridor_text" (defArgs Hd.s_corridor_text) (defBody Hd.s_corridor_text) (defScope Hd.s_corridor_text) [] [] f fd
theorem bi_corridor_text {f : Addr} {fd : FuncData} (F : F_corridor_text K f fd) : Binds K fd ["row", "walkers", "wants"] [] :=
  F.bindsN fun _ _ _ _ _ _ us hl => match us, hl with | [_, _, _], _ => rfl
theorem r_corridor_text (T : Tab K mg) (C_numbers_text : Callee P w K mg base 1 "numbers_text" 1 sp_numbers_text) {f : Addr} {fd : FuncData} (F : F_corridor_text K f fd) : FnG P w K mg base CX0 2 f fd ["row", "walkers", "wants"] (loSp K sp_corridor_text 3) :=
  fnR F sc_corridor_text rfl (fun _ _ _ _ _ _ hr hg => b_corridor_text T C_numbers_text hr hg) fun ds M Φ _ h => p_corridor_text ds M Φ h
theorem c_corridor_text (T : Tab K mg) (C_numbers_text : Callee P w K mg base 1 "numbers_text" 1 sp_numbers_text) {f : Addr} {fd : FuncData} (F : F_corridor_text K f fd) (hm : mg "corridor_text" = some (.ref f)) : Callee P w K mg base 2 "corridor_text" 3 sp_corridor_text :=
  ⟨f, fd, _, rfl, hm, F.kp, bi_corridor_text F, r_corridor_text T C_numbers_text F⟩
theorem sc_parse_walkers_x : FnScope n_parse_walkers_x ["stations", "words"] (defScope Hd.s_parse_walkers) := ⟨rfl, rfl, rfl, by decide +kernel, rfl, by decide +kernel, by decide +kernel⟩
abbrev F_parse_walkers_x (K : PySem.W.Frag) (f : Addr) (fd : FuncData) : Prop := FunD K "parse_walkers" "parse_walkers" (defArgs Hd.s_parse_walkers) (defBody Hd.s_parse_walkers) (defScope Hd.s_parse_walkers) [] [] f fd
theorem bi_parse_walkers_x {f : Addr} {fd : FuncData} (F : F_parse_walkers_x K f fd) : Binds K fd ["stations", "words"] [] :=
  F.bindsN fun _ _ _ _ _ _ us hl => match us, hl with | [_, _], _ => rfl
theorem r_parse_walkers_x (T : Tab K mg) (C_parse_numbers : Callee P w K mg base 2 "parse_numbers" 2 sp_parse_numbers) (C_are_walkers : Callee P w K mg base 3 "are_walkers" 2 sp_are_walkers) (X_BadText : XCallee P w K mg base "BadText" "index") {f : Addr} {fd : FuncData} (F : F_parse_walkers_x K f fd) : FnG P w K mg base (CX P w) 4 f fd ["stations", "words"] (loSpX K sp_parse_walkers_x 2) :=
  fnRX F sc_parse_walkers_x rfl (fun _ _ _ _ _ _ hr hg O ξ tk ps => b_parse_walkers_x T C_parse_numbers C_are_walkers X_BadText hr hg tk ps) fun ds M Φ ξ _ h => p_parse_walkers_x ds M Φ ξ h
theorem c_parse_walkers_x (T : Tab K mg) (C_parse_numbers : Callee P w K mg base 2 "parse_numbers" 2 sp_parse_numbers) (C_are_walkers : Callee P w K mg base 3 "are_walkers" 2 sp_are_walkers) (X_BadText : XCallee P w K mg base "BadText" "index") {f : Addr} {fd : FuncData} (F : F_parse_walkers_x K f fd) (hm : mg "parse_walkers" = some (.ref f)) : CalleeX P w K mg base 4 "parse_walkers" 2 sp_parse_walkers_x :=
  ⟨f, fd, _, rfl, hm, F.kp, bi_parse_walkers_x F, r_parse_walkers_x T C_parse_numbers C_are_walkers X_BadText F⟩
theorem sc_parse_corridor_x : FnScope n_parse_corridor_x ["value"] (defScope Hd.s_parse_corridor) := ⟨rfl, rfl, rfl, by decide +kernel, rfl, by decide +kernel, by decide +kernel⟩
abbrev F_parse_corridor_x (K : PySem.W.Frag) (f : Addr) (fd : FuncData) : Prop := FunD K "parse_corridor" "parse_corridor" (defArgs Hd.s_parse_corridor) (defBody Hd.s_parse_corridor) (defScope Hd.s_parse_corridor) [] [] f fd
theorem bi_parse_corridor_x {f : Addr} {fd : FuncData} (F : F_parse_corridor_x K f fd) : Binds K fd ["value"] [] :=
  F.bindsN fun _ _ _ _ _ _ us hl => match us, hl with | [_], _ => rfl
theorem r_parse_corridor_x (T : Tab K mg) (X_BadText : XCallee P w K mg base "BadText" "index") (C_parse_numbers : Callee P w K mg base 2 "parse_numbers" 2 sp_parse_numbers) (C_is_row : Callee P w K mg base 3 "is_row" 1 sp_is_row) (C_parse_walkers_x : CalleeX P w K mg base 4 "parse_walkers" 2 sp_parse_walkers_x) (C_are_wants : Callee P w K mg base 3 "are_wants" 2 sp_are_wants) {f : Addr} {fd : FuncData} (F : F_parse_corridor_x K f fd) : FnG P w K mg base (CX P w) 5 f fd ["value"] (loSpX K sp_parse_corridor_x 1) :=
  fnRX F sc_parse_corridor_x rfl (fun _ _ _ _ _ _ hr hg O ξ tk ps => b_parse_corridor_x T X_BadText C_parse_numbers C_is_row C_parse_walkers_x C_are_wants hr hg tk ps) fun ds M Φ ξ _ h => p_parse_corridor_x ds M Φ ξ h
theorem c_parse_corridor_x (T : Tab K mg) (X_BadText : XCallee P w K mg base "BadText" "index") (C_parse_numbers : Callee P w K mg base 2 "parse_numbers" 2 sp_parse_numbers) (C_is_row : Callee P w K mg base 3 "is_row" 1 sp_is_row) (C_parse_walkers_x : CalleeX P w K mg base 4 "parse_walkers" 2 sp_parse_walkers_x) (C_are_wants : Callee P w K mg base 3 "are_wants" 2 sp_are_wants) {f : Addr} {fd : FuncData} (F : F_parse_corridor_x K f fd) (hm : mg "parse_corridor" = some (.ref f)) : CalleeX P w K mg base 5 "parse_corridor" 1 sp_parse_corridor_x :=
  ⟨f, fd, _, rfl, hm, F.kp, bi_parse_corridor_x F, r_parse_corridor_x T X_BadText C_parse_numbers C_is_row C_parse_walkers_x C_are_wants F⟩
theorem sc_law_deck : FnScope n_law_deck ["script"] (defScope Hd.s_law_deck) := ⟨rfl, rfl, rfl, by decide +kernel, rfl, by decide +kernel, by decide +kernel⟩
abbrev F_law_deck (K : PySem.W.Frag) (f : Addr) (fd : FuncData) : Prop := FunD K "_law_deck" "_law_deck" (defArgs Hd.s_law_deck) (defBody Hd.s_law_deck) (defScope Hd.s_law_deck) [] [] f fd
theorem bi_law_deck {f : Addr} {fd : FuncData} (F : F_law_deck K f fd) : Binds K fd ["script"] [] :=
  F.bindsN fun _ _ _ _ _ _ us hl => match us, hl with | [_], _ => rfl
theorem r_law_deck (T : Tab K mg) {f : Addr} {fd : FuncData} (F : F_law_deck K f fd) : FnG P w K mg base CX0 1 f fd ["script"] (loSp K sp_law_deck 1) :=
  fnR F sc_law_deck rfl (fun _ _ _ _ _ _ hr hg => b_law_deck T hr hg) fun ds M Φ _ h => p_law_deck ds M Φ h
theorem c_law_deck (T : Tab K mg) {f : Addr} {fd : FuncData} (F : F_law_deck K f fd) (hm : mg "_law_deck" = some (.ref f)) : Callee P w K mg base 1 "_law_deck" 1 sp_law_deck :=
  ⟨f, fd, _, rfl, hm, F.kp, bi_law_deck F, r_law_deck T F⟩
theorem sc_law_draw_v3 : FnScope n_law_draw_v3 ["deck", "many"] (defScope Hd.s_law_draw) := ⟨rfl, rfl, rfl, by decide +kernel, rfl, by decide +kernel, by decide +kernel⟩
abbrev F_law_draw_v3 (K : PySem.W.Frag) (f : Addr) (fd : FuncData) : Prop := FunD K "_law_draw" "_law_draw" (defArgs Hd.s_law_draw) (defBody Hd.s_law_draw) (defScope Hd.s_law_draw) [] [] f fd
theorem bi_law_draw_v3 {f : Addr} {fd : FuncData} (F : F_law_draw_v3 K f fd) : Binds K fd ["deck", "many"] [] :=
  F.bindsN fun _ _ _ _ _ _ us hl => match us, hl with | [_, _], _ => rfl
theorem r_law_draw_v3 (T : Tab K mg) {f : Addr} {fd : FuncData} (F : F_law_draw_v3 K f fd) : FnG P w K mg base CX0 1 f fd ["deck", "many"] (loSp K sp_law_draw_v3 2) :=
  fnR F sc_law_draw_v3 rfl (fun _ _ _ _ _ _ hr hg => b_law_draw_v3 T hr hg) fun ds M Φ _ h => p_law_draw_v3 ds M Φ h
theorem c_law_draw_v3 (T : Tab K mg) {f : Addr} {fd : FuncData} (F : F_law_draw_v3 K f fd) (hm : mg "_law_draw" = some (.ref f)) : Callee P w K mg base 1 "_law_draw" 2 sp_law_draw_v3 :=
  ⟨f, fd, _, rfl, hm, F.kp, bi_law_draw_v3 F, r_law_draw_v3 T F⟩
theorem sc_law_same_v2 : FnScope n_law_same_v2 ["found", "due"] (defScope Hd.s_law_same) := ⟨rfl, rfl, rfl, by decide +kernel, rfl, by decide +kernel, by decide +kernel⟩
abbrev F_law_same_v2 (K : PySem.W.Frag) (f : Addr) (fd : FuncData) : Prop := FunD K "_law_same" "_law_same" (defArgs Hd.s_law_same) (defBody Hd.s_law_same) (defScope Hd.s_law_same) [] [] f fd
theorem bi_law_same_v2 {f : Addr} {fd : FuncData} (F : F_law_same_v2 K f fd) : Binds K fd ["found", "due"] [] :=
  F.bindsN fun _ _ _ _ _ _ us hl => match us, hl with | [_, _], _ => rfl
theorem c_law_same_v2 (T : Tab K mg) {f : Addr} {fd : FuncData} (F : F_law_same_v2 K f fd) (hm : mg "_law_same" = some (.ref f)) : Callee P w K mg base 5 "_law_same" 2 sp_law_same_v2 := by
  have C0 : Callee P w K mg base 0 "_law_same" 2 spNo := ⟨f, fd, ["found", "due"], rfl, hm, F.kp, bi_law_same_v2 F, FnG.no⟩
  have C1 : Callee P w K mg base 1 "_law_same" 2 (rs_law_same_v2 0) := fnD F sc_law_same_v2 hm (bi_law_same_v2 F) rfl (fun _ _ _ _ _ _ hr hg => b_law_same_v2 T (by decide) (Nat.le_trans (by decide) (Nat.le_refl 0)) C0 hr hg) fun ds M Φ _ h => rp_law_same_v2 0 ds M Φ h
  have C2 : Callee P w K mg base 2 "_law_same" 2 (rs_law_same_v2 1) := fnD F sc_law_same_v2 hm (bi_law_same_v2 F) rfl (fun _ _ _ _ _ _ hr hg => b_law_same_v2 T (by decide) (Nat.le_trans (by decide) (Nat.le_refl 1)) C1 hr hg) fun ds M Φ _ h => rp_law_same_v2 1 ds M Φ h
  have C3 : Callee P w K mg base 3 "_law_same" 2 (rs_law_same_v2 2) := fnD F sc_law_same_v2 hm (bi_law_same_v2 F) rfl (fun _ _ _ _ _ _ hr hg => b_law_same_v2 T (by decide) (Nat.le_trans (by decide) (Nat.le_refl 2)) C2 hr hg) fun ds M Φ _ h => rp_law_same_v2 2 ds M Φ h
  have C4 : Callee P w K mg base 4 "_law_same" 2 (rs_law_same_v2 3) := fnD F sc_law_same_v2 hm (bi_law_same_v2 F) rfl (fun _ _ _ _ _ _ hr hg => b_law_same_v2 T (by decide) (Nat.le_trans (by decide) (Nat.le_refl 3)) C3 hr hg) fun ds M Φ _ h => rp_law_same_v2 3 ds M Φ h
  have C5 : Callee P w K mg base 5 "_law_same" 2 (rs_law_same_v2 4) := fnD F sc_law_same_v2 hm (bi_law_same_v2 F) rfl (fun _ _ _ _ _ _ hr hg => b_law_same_v2 T (by decide) (Nat.le_trans (by decide) (Nat.le_refl 4)) C4 hr hg) fun ds M Φ _ h => rp_law_same_v2 4 ds M Φ h
  exact C5
theorem sc_law_state_c : FnScope n_law_state_c ["deck", "stations", "most"] (defScope Hd.s_law_state) := ⟨rfl, rfl, rfl, by decide +kernel, rfl, by decide +kernel, by decide +kernel⟩
abbrev F_law_state_c (K : PySem.W.Frag) (f : Addr) (fd : FuncData) : Prop := FunD K "_law_state" "_law_state" (defArgs Hd.s_law_state) (defBody Hd.s_law_state) (defScope Hd.s_law_state) [] [] f fd
theorem bi_law_state_c {f : Addr} {fd : FuncData} (F : F_law_state_c K f fd) : Binds K fd ["deck", "stations", "most"] [] :=
  F.bindsN fun _ _ _ _ _ _ us hl => match us, hl with | [_, _, _], _ => rfl
theorem r_law_state_c (T : Tab K mg) (C_law_draw_v3 : Callee P w K mg base 1 "_law_draw" 2 sp_law_draw_v3) {f : Addr} {fd : FuncData} (F : F_law_state_c K f fd) : FnG P w K mg base CX0 2 f fd ["deck", "stations", "most"] (loSp K sp_law_state_c 3) :=
  fnR F sc_law_state_c rfl (fun _ _ _ _ _ _ hr hg => b_law_state_c T C_law_draw_v3 hr hg) fun ds M Φ _ h => p_law_state_c ds M Φ h
theorem c_law_state_c (T : Tab K mg) (C_law_draw_v3 : Callee P w K mg base 1 "_law_draw" 2 sp_law_draw_v3) {f : Addr} {fd : FuncData} (F : F_law_state_c K f fd) (hm : mg "_law_state" = some (.ref f)) : Callee P w K mg base 2 "_law_state" 3 sp_law_state_c :=
  ⟨f, fd, _, rfl, hm, F.kp, bi_law_state_c F, r_law_state_c T C_law_draw_v3 F⟩
theorem sc_law_bent_v4 : FnScope n_law_bent_v4 ["deck", "text"] (defScope Hd.s_law_bent) := ⟨rfl, rfl, rfl, by decide +kernel, rfl, by decide +kernel, by decide +kernel⟩
abbrev F_law_bent_v4 (K : PySem.W.Frag) (f : Addr) (fd : FuncData) : Prop := FunD K "_law_bent" "_law_bent" (defArgs Hd.s_law_bent) (defBody Hd.s_law_bent) (defScope Hd.s_law_bent) [] [] f fd
theorem bi_law_bent_v4 {f : Addr} {fd : FuncData} (F : F_law_bent_v4 K f fd) : Binds K fd ["deck", "text"] [] :=
  F.bindsN fun _ _ _ _ _ _ us hl => match us, hl with | [_, _], _ => rfl
theorem r_law_bent_v4 (T : Tab K mg) (C_law_draw_v3 : Callee P w K mg base 1 "_law_draw" 2 sp_law_draw_v3) {f : Addr} {fd : FuncData} (F : F_law_bent_v4 K f fd) : FnG P w K mg base CX0 2 f fd ["deck", "text"] (loSp K sp_law_bent_v4 2) :=
  fnR F sc_law_bent_v4 rfl (fun _ _ _ _ _ _ hr hg => b_law_bent_v4 T C_law_draw_v3 hr hg) fun ds M Φ _ h => p_law_bent_v4 ds M Φ h
theorem c_law_bent_v4 (T : Tab K mg) (C_law_draw_v3 : Callee P w K mg base 1 "_law_draw" 2 sp_law_draw_v3) {f : Addr} {fd : FuncData} (F : F_law_bent_v4 K f fd) (hm : mg "_law_bent" = some (.ref f)) : Callee P w K mg base 2 "_law_bent" 2 sp_law_bent_v4 :=
  ⟨f, fd, _, rfl, hm, F.kp, bi_law_bent_v4 F, r_law_bent_v4 T C_law_draw_v3 F⟩
theorem sc_law_accepted_right : FnScope n_law_accepted_right ["text"] (defScope Hd.s_law_accepted_right) := ⟨rfl, rfl, rfl, by decide +kernel, rfl, by decide +kernel, by decide +kernel⟩
abbrev F_law_accepted_right (K : PySem.W.Frag) (f : Addr) (fd : FuncData) : Prop := FunD K "_law_accepted_right" "_law_accepted_right" (defArgs Hd.s_law_accepted_right) (defBody Hd.s_law_accepted_right) (defScope Hd.s_law_accepted_right) [] [] f fd
theorem bi_law_accepted_right {f : Addr} {fd : FuncData} (F : F_law_accepted_right K f fd) : Binds K fd ["text"] [] :=
  F.bindsN fun _ _ _ _ _ _ us hl => match us, hl with | [_], _ => rfl
theorem r_law_accepted_right (T : Tab K mg) (C_parse_corridor_x : CalleeX P w K mg base 5 "parse_corridor" 1 sp_parse_corridor_x) (C_corridor_text : Callee P w K mg base 2 "corridor_text" 3 sp_corridor_text) {f : Addr} {fd : FuncData} (F : F_law_accepted_right K f fd) : FnG P w K mg base CX0 6 f fd ["text"] (loSp K sp_law_accepted_right 1) :=
  fnR F sc_law_accepted_right rfl (fun _ _ _ _ _ _ hr hg => b_law_accepted_right T C_parse_corridor_x C_corridor_text hr hg) fun ds M Φ _ h => p_law_accepted_right ds M Φ h
theorem c_law_accepted_right (T : Tab K mg) (C_parse_corridor_x : CalleeX P w K mg base 5 "parse_corridor" 1 sp_parse_corridor_x) (C_corridor_text : Callee P w K mg base 2 "corridor_text" 3 sp_corridor_text) {f : Addr} {fd : FuncData} (F : F_law_accepted_right K f fd) (hm : mg "_law_accepted_right" = some (.ref f)) : Callee P w K mg base 6 "_law_accepted_right" 1 sp_law_accepted_right :=
  ⟨f, fd, _, rfl, hm, F.kp, bi_law_accepted_right F, r_law_accepted_right T C_parse_corridor_x C_corridor_text F⟩
theorem sc_law_words : FnScope n_law_words ["chairs", "walkers", "wants"] (defScope Hd.s_law_words) := ⟨rfl, rfl, rfl, by decide +kernel, rfl, by decide +kernel, by decide +kernel⟩
abbrev F_law_words (K : PySem.W.Frag) (f : Addr) (fd : FuncData) : Prop := FunD K "_law_words" "_law_words" (defArgs Hd.s_law_words) (defBody Hd.s_law_words) (defScope Hd.s_law_words) [] [] f fd
theorem bi_law_words {f : Addr} {fd : FuncData} (F : F_law_words K f fd) : Binds K fd ["chairs", "walkers", "wants"] [] :=
  F.bindsN fun _ _ _ _ _ _ us hl => match us, hl with | [_, _, _], _ => rfl
theorem r_law_words (T : Tab K mg) (C_corridor_text : Callee P w K mg base 2 "corridor_text" 3 sp_corridor_text) {f : Addr} {fd : FuncData} (F : F_law_words K f fd) : FnG P w K mg base CX0 3 f fd ["chairs", "walkers", "wants"] (loSp K sp_law_words 3) :=
  fnR F sc_law_words rfl (fun _ _ _ _ _ _ hr hg => b_law_words T C_corridor_text hr hg) fun ds M Φ _ h => p_law_words ds M Φ h
theorem c_law_words (T : Tab K mg) (C_corridor_text : Callee P w K mg base 2 "corridor_text" 3 sp_corridor_text) {f : Addr} {fd : FuncData} (F : F_law_words K f fd) (hm : mg "_law_words" = some (.ref f)) : Callee P w K mg base 3 "_law_words" 3 sp_law_words :=
  ⟨f, fd, _, rfl, hm, F.kp, bi_law_words F, r_law_words T C_corridor_text F⟩
theorem sc_law_words_right_v2 : FnScope n_law_words_right_v2 ["deck", "chairs", "walkers", "wants"] (defScope Hd.s_law_words_right) := ⟨rfl, rfl, rfl, by decide +kernel, rfl, by decide +kernel, by decide +kernel⟩
abbrev F_law_words_right_v2 (K : PySem.W.Frag) (f : Addr) (fd : FuncData) : Prop := FunD K "_law_words_right" "_law_words_right" (defArgs Hd.s_law_words_right) (defBody Hd.s_law_words_right) (defScope Hd.s_law_words_right) [] [] f fd
theorem bi_law_words_right_v2 {f : Addr} {fd : FuncData} (F : F_law_words_right_v2 K f fd) : Binds K fd ["deck", "chairs", "walkers", "wants"] [] :=
  F.bindsN fun _ _ _ _ _ _ us hl => match us, hl with | [_, _, _, _], _ => rfl
theorem r_law_words_right_v2 (T : Tab K mg) (C_law_words : Callee P w K mg base 3 "_law_words" 3 sp_law_words) (C_law_draw_v3 : Callee P w K mg base 1 "_law_draw" 2 sp_law_draw_v3) (C_rule_plan : Callee P w K mg base 4 "rule_plan" 2 sp_rule_plan) (C_row_after : Callee P w K mg base 2 "row_after" 3 sp_row_after) {f : Addr} {fd : FuncData} (F : F_law_words_right_v2 K f fd) : FnG P w K mg base CX0 5 f fd ["deck", "chairs", "walkers", "wants"] (loSp K sp_law_words_right_v2 4) :=
  fnR F sc_law_words_right_v2 rfl (fun _ _ _ _ _ _ hr hg => b_law_words_right_v2 T C_law_words C_law_draw_v3 C_rule_plan C_row_after hr hg) fun ds M Φ _ h => p_law_words_right_v2 ds M Φ h
theorem c_law_words_right_v2 (T : Tab K mg) (C_law_words : Callee P w K mg base 3 "_law_words" 3 sp_law_words) (C_law_draw_v3 : Callee P w K mg base 1 "_law_draw" 2 sp_law_draw_v3) (C_rule_plan : Callee P w K mg base 4 "rule_plan" 2 sp_rule_plan) (C_row_after : Callee P w K mg base 2 "row_after" 3 sp_row_after) {f : Addr} {fd : FuncData} (F : F_law_words_right_v2 K f fd) (hm : mg "_law_words_right" = some (.ref f)) : Callee P w K mg base 5 "_law_words_right" 4 sp_law_words_right_v2 :=
  ⟨f, fd, _, rfl, hm, F.kp, bi_law_words_right_v2 F, r_law_words_right_v2 T C_law_words C_law_draw_v3 C_rule_plan C_row_after F⟩
theorem sc_law_k63 : FnScope n_law_k63 ["script"] (defScope Hd.s_law) := ⟨rfl, rfl, rfl, by decide +kernel, rfl, by decide +kernel, by decide +kernel⟩
abbrev F_law_k63 (K : PySem.W.Frag) (f : Addr) (fd : FuncData) : Prop := FunD K "law" "law" (defArgs Hd.s_law) (defBody Hd.s_law) (defScope Hd.s_law) [] [] f fd
theorem r_law_k63 (T : Tab K mg) (C_law_deck : Callee P w K mg base 1 "_law_deck" 1 sp_law_deck) (C_law_state_c : Callee P w K mg base 2 "_law_state" 3 sp_law_state_c) (C_corridor_text : Callee P w K mg base 2 "corridor_text" 3 sp_corridor_text) (C_parse_corridor_x : CalleeX P w K mg base 5 "parse_corridor" 1 sp_parse_corridor_x) (C_law_same_v2 : Callee P w K mg base 5 "_law_same" 2 sp_law_same_v2) (C_law_words_right_v2 : Callee P w K mg base 5 "_law_words_right" 4 sp_law_words_right_v2) (C_law_bent_v4 : Callee P w K mg base 2 "_law_bent" 2 sp_law_bent_v4) (C_law_accepted_right : Callee P w K mg base 6 "_law_accepted_right" 1 sp_law_accepted_right) {f : Addr} {fd : FuncData} (F : F_law_k63 K f fd) : FnG P w K mg base CX0 7 f fd ["script"] (loSp K sp_law_k63 1) :=
  fnR F sc_law_k63 rfl (fun _ _ _ _ _ _ hr hg => b_law_k63 T C_law_deck C_law_state_c C_corridor_text C_parse_corridor_x C_law_same_v2 C_law_words_right_v2 C_law_bent_v4 C_law_accepted_right hr hg) fun ds M Φ _ h => p_law_k63 ds M Φ h
theorem facts {h : Heap} {fa : Addr} (X : K.In h) (G : h.Ns mainGlobals mg) (hfa : mg "law" = some (.ref fa)) (Y : Hd.says K) :
    ∃ fd : FuncData, (∀ (s : Shared) (u : Value), BindsTo s fd ⟨[u], []⟩ [("script", u)]) ∧ ∀ base : Heap, K.In base → base.Ns mainGlobals mg → FnG P w K mg base CX0 7 fa fd ["script"] (loSp K sp_law_k63 1) := by
  obtain ⟨hsn, hx, hgt, c⟩ := Y
  have c : He.SaysD Hd.fa Hd.fn K := c
  have xk : ∀ {i : Nat} {x : Xf}, Hd.xf[i]? = some x → x.ok K = true := fun h => hx _ (List.mem_of_getElem? h)
  have T : Tab K mg := ⟨hsn, He.free_ok X G (c.fact 28 (f := .free "ValueError") rfl), He.free_ok X G (c.fact 29 (f := .free "abs") rfl), He.free_ok X G (c.fact 30 (f := .free "all") rfl), He.free_ok X G (c.fact 31 (f := .free "bool") rfl), He.free_ok X G (c.fact 32 (f := .free "enumerate") rfl), He.free_ok X G (c.fact 33 (f := .free "int") rfl), He.free_ok X G (c.fact 34 (f := .free "isinstance") rfl), He.free_ok X G (c.fact 35 (f := .free "len") rfl), He.free_ok X G (c.fact 36 (f := .free "list") rfl), He.free_ok X G (c.fact 37 (f := .free "max") rfl), He.free_ok X G (c.fact 38 (f := .free "range") rfl), He.free_ok X G (c.fact 39 (f := .free "str") rfl), He.free_ok X G (c.fact 40 (f := .free "sum") rfl), He.free_ok X G (c.fact 41 (f := .free "tuple") rfl), He.free_ok X G (c.fact 42 (f := .free "zip") rfl), He.int_ok X G (c.fact 43 (f := .int "MAX_STATIONS" 10) rfl), He.int_ok X G (c.fact 44 (f := .int "MAX_CHAIRS" 50) rfl), He.int_ok X G (c.fact 45 (f := .int "MAX_WALKERS" 40) rfl), He.int_ok X G (c.fact 46 (f := .int "MAX_WANT" 500) rfl), He.int_ok X G (c.fact 47 (f := .int "LONGEST" 4) rfl), He.str_ok X G (c.fact 48 (f := .str "FIGURES" "0123456789") rfl), He.str_ok X G (c.fact 49 (f := .str "COMMA" ",") rfl), He.str_ok X G (c.fact 50 (f := .str "DASH" "-") rfl), He.str_ok X G (c.fact 51 (f := .str "MIDDLE" "for") rfl), He.glo_ok X G (c.fact 52 (f := .glo "BadText") rfl), (xk (i := 0) (x := .ccls "BadText") rfl)⟩
  obtain ⟨fd_BadText_init, F_BadText_init⟩ := c.def_ 0 (d := Hd.ds_BadText_init) rfl
  obtain ⟨fd_is_number, F_is_number⟩ := c.def_ 1 (d := Hd.ds_is_number) rfl
  obtain ⟨fd_row_error, F_row_error⟩ := c.def_ 2 (d := Hd.ds_row_error) rfl
  obtain ⟨fd_is_row, F_is_row⟩ := c.def_ 3 (d := Hd.ds_is_row) rfl
  obtain ⟨fd_is_way, F_is_way⟩ := c.def_ 4 (d := Hd.ds_is_way) rfl
  obtain ⟨fd_are_walkers, F_are_walkers⟩ := c.def_ 5 (d := Hd.ds_are_walkers) rfl
  obtain ⟨fd_chairs_after, F_chairs_after⟩ := c.def_ 6 (d := Hd.ds_chairs_after) rfl
  obtain ⟨fd_row_after, F_row_after⟩ := c.def_ 7 (d := Hd.ds_row_after) rfl
  obtain ⟨fd_rule_stages, F_rule_stages⟩ := c.def_ 8 (d := Hd.ds_rule_stages) rfl
  obtain ⟨fd_each_walk, F_each_walk⟩ := c.def_ 9 (d := Hd.ds_each_walk) rfl
  obtain ⟨fd_rule_plan, F_rule_plan⟩ := c.def_ 10 (d := Hd.ds_rule_plan) rfl
  obtain ⟨fd_is_within, F_is_within⟩ := c.def_ 11 (d := Hd.ds_is_within) rfl
  obtain ⟨fd_are_within, F_are_within⟩ := c.def_ 12 (d := Hd.ds_are_within) rfl
  obtain ⟨fd_are_wants, F_are_wants⟩ := c.def_ 13 (d := Hd.ds_are_wants) rfl
  obtain ⟨fd_parse_number, F_parse_number⟩ := c.def_ 14 (d := Hd.ds_parse_number) rfl
  obtain ⟨fd_parse_numbers, F_parse_numbers⟩ := c.def_ 15 (d := Hd.ds_parse_numbers) rfl
  obtain ⟨fd_numbers_text, F_numbers_text⟩ := c.def_ 16 (d := Hd.ds_numbers_text) rfl
  obtain ⟨fd_corridor_text, F_corridor_text⟩ := c.def_ 17 (d := Hd.ds_corridor_text) rfl
  obtain ⟨fd_parse_walkers_x, F_parse_walkers_x⟩ := c.def_ 18 (d := Hd.ds_parse_walkers) rfl
  obtain ⟨fd_parse_corridor_x, F_parse_corridor_x⟩ := c.def_ 19 (d := Hd.ds_parse_corridor) rfl
  obtain ⟨fd_law_deck, F_law_deck⟩ := c.def_ 20 (d := Hd.ds_law_deck) rfl
  obtain ⟨fd_law_draw_v3, F_law_draw_v3⟩ := c.def_ 21 (d := Hd.ds_law_draw) rfl
  obtain ⟨fd_law_same_v2, F_law_same_v2⟩ := c.def_ 22 (d := Hd.ds_law_same) rfl
  obtain ⟨fd_law_state_c, F_law_state_c⟩ := c.def_ 23 (d := Hd.ds_law_state) rfl
  obtain ⟨fd_law_bent_v4, F_law_bent_v4⟩ := c.def_ 24 (d := Hd.ds_law_bent) rfl
  obtain ⟨fd_law_accepted_right, F_law_accepted_right⟩ := c.def_ 25 (d := Hd.ds_law_accepted_right) rfl
  obtain ⟨fd_law_words, F_law_words⟩ := c.def_ 26 (d := Hd.ds_law_words) rfl
  obtain ⟨fd_law_words_right_v2, F_law_words_right_v2⟩ := c.def_ 27 (d := Hd.ds_law_words_right) rfl
  obtain ⟨fd_law_k63, F_law_k63⟩ := c.def_ 28 (d := Hd.ds_law) rfl
  have e := hfa.symm.trans (He.glo_ok X G (c.fact 27 (f := .glo "law") rfl))
  cases e
  refine ⟨fd_law_k63, fun s v => FunD.bindsA (ps := ["script"]) F_law_k63 (fun _ _ _ _ _ _ us hl => match us, hl with | [_], _ => rfl) s [v] rfl, fun base KB GB => ?_⟩
  have X_BadText : XCallee P w K mg base "BadText" "index" := xcal (xk (i := 1) (x := .xin "BadText" "index") rfl) (He.glo_ok X G (c.fact 52 (f := .glo "BadText") rfl)) F_BadText_init rfl rfl (by decide) (by decide) (by decide) (by decide) ⟨rfl, rfl, rfl, by decide +kernel, rfl, by decide +kernel, by decide +kernel⟩ (F_BadText_init.bindsN fun _ _ _ _ _ _ us hl => match us, hl with | [_, _], _ => rfl)
  have C_is_number : Callee P w K mg base 1 "is_number" 3 sp_is_number := c_is_number T F_is_number (He.glo_ok X G (c.fact 0 (f := .glo "is_number") rfl))
  have C_chairs_after : Callee P w K mg base 1 "chairs_after" 2 sp_chairs_after := c_chairs_after T F_chairs_after (He.glo_ok X G (c.fact 5 (f := .glo "chairs_after") rfl))
  have C_rule_stages : Callee P w K mg base 1 "rule_stages" 2 sp_rule_stages := c_rule_stages T F_rule_stages (He.glo_ok X G (c.fact 7 (f := .glo "rule_stages") rfl))
  have C_is_within : Callee P w K mg base 1 "is_within" 3 sp_is_within := c_is_within T F_is_within (He.glo_ok X G (c.fact 10 (f := .glo "is_within") rfl))
  have C_parse_number : Callee P w K mg base 1 "parse_number" 1 sp_parse_number := c_parse_number T F_parse_number (He.glo_ok X G (c.fact 13 (f := .glo "parse_number") rfl))
  have C_numbers_text : Callee P w K mg base 1 "numbers_text" 1 sp_numbers_text := c_numbers_text T F_numbers_text (He.glo_ok X G (c.fact 15 (f := .glo "numbers_text") rfl))
  have C_law_deck : Callee P w K mg base 1 "_law_deck" 1 sp_law_deck := c_law_deck T F_law_deck (He.glo_ok X G (c.fact 19 (f := .glo "_law_deck") rfl))
  have C_law_draw_v3 : Callee P w K mg base 1 "_law_draw" 2 sp_law_draw_v3 := c_law_draw_v3 T F_law_draw_v3 (He.glo_ok X G (c.fact 20 (f := .glo "_law_draw") rfl))
  have C_row_error : Callee P w K mg base 2 "row_error" 1 sp_row_error := c_row_error T C_is_number F_row_error (He.glo_ok X G (c.fact 1 (f := .glo "row_error") rfl))
  have C_is_way : Callee P w K mg base 2 "is_way" 2 sp_is_way := c_is_way T C_is_number F_is_way (He.glo_ok X G (c.fact 3 (f := .glo "is_way") rfl))
  have C_row_after : Callee P w K mg base 2 "row_after" 3 sp_row_after := c_row_after T C_chairs_after F_row_after (He.glo_ok X G (c.fact 6 (f := .glo "row_after") rfl))
  have C_each_walk : GCallee P w K mg base 2 "each_walk" 2 sp_each_walk := c_each_walk T C_rule_stages C_chairs_after F_each_walk (He.glo_ok X G (c.fact 8 (f := .glo "each_walk") rfl))
  have C_are_within : Callee P w K mg base 2 "are_within" 2 sp_are_within := c_are_within T C_is_within F_are_within (He.glo_ok X G (c.fact 11 (f := .glo "are_within") rfl))
  have C_parse_numbers : Callee P w K mg base 2 "parse_numbers" 2 sp_parse_numbers := c_parse_numbers T C_parse_number F_parse_numbers (He.glo_ok X G (c.fact 14 (f := .glo "parse_numbers") rfl))
  have C_corridor_text : Callee P w K mg base 2 "corridor_text" 3 sp_corridor_text := c_corridor_text T C_numbers_text F_corridor_text (He.glo_ok X G (c.fact 16 (f := .glo "corridor_text") rfl))
  have C_law_state_c : Callee P w K mg base 2 "_law_state" 3 sp_law_state_c := c_law_state_c T C_law_draw_v3 F_law_state_c (He.glo_ok X G (c.fact 22 (f := .glo "_law_state") rfl))
  have C_law_bent_v4 : Callee P w K mg base 2 "_law_bent" 2 sp_law_bent_v4 := c_law_bent_v4 T C_law_draw_v3 F_law_bent_v4 (He.glo_ok X G (c.fact 23 (f := .glo "_law_bent") rfl))
  have C_is_row : Callee P w K mg base 3 "is_row" 1 sp_is_row := c_is_row T C_row_error F_is_row (He.glo_ok X G (c.fact 2 (f := .glo "is_row") rfl))
  have C_are_walkers : Callee P w K mg base 3 "are_walkers" 2 sp_are_walkers := c_are_walkers T C_is_way F_are_walkers (He.glo_ok X G (c.fact 4 (f := .glo "are_walkers") rfl))
  have C_are_wants : Callee P w K mg base 3 "are_wants" 2 sp_are_wants := c_are_wants T C_are_within F_are_wants (He.glo_ok X G (c.fact 12 (f := .glo "are_wants") rfl))
  have C_law_words : Callee P w K mg base 3 "_law_words" 3 sp_law_words := c_law_words T C_corridor_text F_law_words (He.glo_ok X G (c.fact 25 (f := .glo "_law_words") rfl))
  have C_rule_plan : Callee P w K mg base 4 "rule_plan" 2 sp_rule_plan := c_rule_plan T C_each_walk F_rule_plan (He.glo_ok X G (c.fact 9 (f := .glo "rule_plan") rfl))
  have C_parse_walkers_x : CalleeX P w K mg base 4 "parse_walkers" 2 sp_parse_walkers_x := c_parse_walkers_x T C_parse_numbers C_are_walkers X_BadText F_parse_walkers_x (He.glo_ok X G (c.fact 17 (f := .glo "parse_walkers") rfl))
  have C_parse_corridor_x : CalleeX P w K mg base 5 "parse_corridor" 1 sp_parse_corridor_x := c_parse_corridor_x T X_BadText C_parse_numbers C_is_row C_parse_walkers_x C_are_wants F_parse_corridor_x (He.glo_ok X G (c.fact 18 (f := .glo "parse_corridor") rfl))
  have C_law_same_v2 : Callee P w K mg base 5 "_law_same" 2 sp_law_same_v2 := c_law_same_v2 T F_law_same_v2 (He.glo_ok X G (c.fact 21 (f := .glo "_law_same") rfl))
  have C_law_words_right_v2 : Callee P w K mg base 5 "_law_words_right" 4 sp_law_words_right_v2 := c_law_words_right_v2 T C_law_words C_law_draw_v3 C_rule_plan C_row_after F_law_words_right_v2 (He.glo_ok X G (c.fact 26 (f := .glo "_law_words_right") rfl))
  have C_law_accepted_right : Callee P w K mg base 6 "_law_accepted_right" 1 sp_law_accepted_right := c_law_accepted_right T C_parse_corridor_x C_corridor_text F_law_accepted_right (He.glo_ok X G (c.fact 24 (f := .glo "_law_accepted_right") rfl))
  exact r_law_k63 T C_law_deck C_law_state_c C_corridor_text C_parse_corridor_x C_law_same_v2 C_law_words_right_v2 C_law_bent_v4 C_law_accepted_right F_law_k63
end LK
open PySem PySem.W PySem.Calls PyProof.Rows
theorem PySem.Challenge.cw_chairwalks_k63_whole_texts_there_and_bac_holds : PySem.Challenge.rw_chairwalks_k63_whole_texts_there_and_bac.Holds := by
  w_on; o_law
  refine HandSHeadRun.head_any (r := OpenLaw.row PySem.Challenge.rw_chairwalks_k63_whole_texts_there_and_bac) (q := view (OpenLaw.row PySem.Challenge.rw_chairwalks_k63_whole_texts_there_and_bac).prog [44]) (H := Hd.hk) (ob := Hd.ob) (M := 4000) (loose := Hd.loose) (d := HandSHeadRun.topDef (OpenLaw.row PySem.Challenge.rw_chairwalks_k63_whole_texts_there_and_bac).prog 44) (kwd := []) Hd.ob_eq
    (by kernel_rfl) (fun s => by kernel_rfl) Hd.run (by kernel_rfl) (by kernel_rfl) (by kernel_rfl) (by rfl) (by first | assumption | decide +kernel) (by decide +kernel) ⟨rfl, rfl, rfl, rfl, rfl, by decide +kernel⟩ ?hw ?hc
  case hw => w_witness2
  case hc =>
    refine DL.walkG (l := PySem.Challenge.rw_chairwalks_k63_whole_texts_there_and_bac) (n := 63) (k := 7) (x := "script") (sp := DL.sp_law_k63) rfl (by decide) (by kernel_rfl) ⟨rfl, by decide, by decide⟩ (fun ns M Φ h => ⟨ns, rfl, h⟩) ?F
    intro w mg fa h Y G hmg0
    obtain ⟨K, KX, hsn⟩ := Y
    have hmg : mg ("law" : PySem.Str) = some (.ref fa) := by
      have e : (HandSHeadRun.topDef (OpenLaw.row PySem.Challenge.rw_chairwalks_k63_whole_texts_there_and_bac).prog 44).name = ("law" : PySem.Str) := by kernel_rfl
      rw [← e]; exact hmg0
    obtain ⟨fd, hb, hF⟩ := LK.facts (P := (PySem.Challenge.rw_chairwalks_k63_whole_texts_there_and_bac).prog) (w := w) KX G hmg hsn
    exact ⟨K, fd, KX, hb, hF⟩
