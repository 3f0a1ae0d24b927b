import PyProof.Rows.All
import Wide.All
import OpenK.AllK
import Wide.FinOn
import KE.KStateDown
import HandS.Base
import HandS.Call
import HandS.List
import HandS.Comp
import HandS.Iter
import HandS.Dict
import HandS.Text
import HandS.More
import HandS.Words
import HandS.WordsList
import HandS.WordsExc
import HandS.Ends
import HandS.IsInst
import HandS.Zip
import HandS.Walk
import HandS.TupAny
import HandS.TupMul
import HandS.TupLe
import HandS.Style
import HandS.Exc
import HandS.Defaults
import HandS.ExcIs
import HandS.ExcField
import HandS.ExcInit
import HandS.Property
import HandS.HeadHook1
import KE.GoesEnum
import KE.GoesZip
import KE.GoesMore
import PyProof.StrLawsRepr
import KE.KRevSl
import KE.KTupSum
import KE.DatumOrd
import HandS.Star
import HandS.SortInts
import HandS.SetFor
import HandS.Strs
import HandS.Conv
import PyProof.Gen
import PyProof.GenQ
import OpenK.XSeg
import HandS.GenList
import HandS.FStr
import PyProof.CollectIter
import KE.KStar
import KE.KEqNest
import HandS.HeadEnd
import KE.KDictDisplayH
import HandS.TryOnly
import PyProof.Rows.ChunkEnd
import HandS.Set
import PyProof.InstEq
import HandS.HeadHook2
import KE.OsSort
import HandS.ExcOwn
import HandS.HotCalls
import KE.KExcIs
import PyProof.Rows.StrIntSpec
import PyProof.FString3
import PyProof.Rows.StrMul
import PyProof.Rows.StrJoinRep
import PyProof.EqKinds
import PyProof.FactsAll.dict
import PyProof.Meets
import PyProof.Pure
import HandS.Head0
import HandS.Head1
import HandS.Head2
import HandS.HeadEnd
import HandS.HeadHook1
import HandS.HeadHook2
import PySem.Challenge.RW_chairwalks_k46_guards
set_option Elab.async false
set_option linter.all false
set_option maxRecDepth 100000
set_option maxHeartbeats 4000000
namespace DL
open PySem PySem.Spec PyProof.Rows L2
inductive Ty where
  | none | bool | int | str | tuple | list | dict | verr | lerr
  deriving DecidableEq
def Ty.name : Ty → String
  | .none => "NoneType" | .bool => "bool" | .int => "int" | .str => "str" | .tuple => "tuple" | .list => "list" | .dict => "dict" | .verr => "ValueError" | .lerr => "LookupError"
def clsNames : List Str := "ChairError" :: "OtherLength" :: "BadWay" :: "Busy" :: "TooManyEdits" :: "TooManyWalkers" :: "NothingToUndo" :: "BadEdits" :: "TooLarge" :: "BadNumbers" :: "TooMuch" :: "TooFew" :: "BadChairs" :: "BadRow" :: "BadWalkers" :: "BadWants" :: "BadCount" :: "BadWant" :: "BadEdit" :: "Rejected" :: "BadPost" :: "BadLeast" :: "TooLow" :: "BadText" :: "NoStation" :: "NoWalker" :: "NoVersion" :: "Chairs" :: "Walker" :: "Watching" :: "Corridor" :: "Guard" :: "GuardedCorridor" :: "Shell" :: []
def lookNames : List Str := ["NoStation", "NoWalker", "NoVersion"]
def insNames : List Str := ["Chairs", "Walker", "Watching", "Corridor", "Guard", "GuardedCorridor", "Shell"]
def mroT (n : Str) : List Str := if n ∈ insNames then (if n = "GuardedCorridor" then ["GuardedCorridor", "Corridor", "Guard"] else [n]) else if n ∈ lookNames then [n, "LookupError"] else [n, "ChairError", "ValueError"]
def subB (n c : Str) : Bool := decide (c ∈ mroT n)
def fieldsT (n : Str) : List Str := if n = "Chairs" then ["amounts"] else if n = "Walker" then ["way", "done"] else if n = "Watching" then ["corridor"] else if n = "Corridor" then ["states", "answers", "standing", "watching"] else if n = "Guard" then ["place", "bottom"] else
  if n = "GuardedCorridor" then ["states", "answers", "standing", "watching", "place", "bottom"] else if n = "Shell" then ["corridor"] else ["bound", "value", "total", "present", "error", "index", "number"]
def presB (K : PySem.W.Frag) (c : Str) : Bool := match PySem.W.nsIn K mainGlobals c with
  | some (some (.ref _)) => true
  | _ => false
/-- a class that may stand in isinstance: no value of a built-in type is one of it -/
def cclsB (K : PySem.W.Frag) (c : Str) : Bool := decide (c ∈ clsNames) && (presB K c && ([Ty.none, .bool, .int, .str, .tuple, .list, .dict].all fun t => decide (PySem.W.kitOne K (.type t.name) (.ref (He.ga K c)) = some false)))
/-- isinstance of what is of the class n -/
def kitsB (K : PySem.W.Frag) (n : Str) : Bool := (clsNames.all fun c => !presB K c || decide (PySem.W.kitOne K (.ref (He.ga K n)) (.ref (He.ga K c)) = some (subB n c))) &&
  ([Ty.bool, .int, .str, .tuple, .list, .dict, .verr, .lerr].all fun t => decide (PySem.W.kitOne K (.ref (He.ga K n)) (.type t.name) = some (subB n t.name)))
def findB (K : PySem.W.Frag) (n m : Str) (v : Option Value) : Bool := decide (PySem.W.findIn K (.ref (He.ga K n)) m = some v)
def classB (K : PySem.W.Frag) (n : Str) : Bool := findB K n "__class__" (some (.builtin "object.__class__")) && (decide (PySem.W.specialIn K (.builtin "object.__class__") "__get__" = some (some (.builtin "getset_descriptor.__get__"))) &&
  (decide (PySem.W.takesIn K (.builtin "object.__class__") = some true) && decide (PySem.W.mroIn K (He.ga K n) (.type "object") = some true)))
/-- a plain class -/
def cinsB (K : PySem.W.Frag) (n : Str) : Bool := (He.Fa.cls n).ok K && (classB K n && (kitsB K n && (cclsB K n && (decide (PySem.W.subIn K (.ref (He.ga K n)) (.type "NoneType") = some false) && (fieldsT n).all fun f => findB K n f none))))
/-- an exception's class -/
def cexcB (K : PySem.W.Frag) (n : Str) : Bool := xfB K (He.ga K n) && (classB K n && (kitsB K n && ((fieldsT n).all (fun f => findB K n f none) &&
  clsNames.all fun c => !presB K c || (decide (c ∈ insNames) || decide (PySem.W.exmOne K (.ref (He.ga K n)) (.ref (He.ga K c)) = some (subB n c))))))
/-- a value as a tree; ref: an object that may change (in the map), or any other object -/
inductive Kd where
  | ins | exc | cls | fn
  deriving DecidableEq
inductive D where
  | obj (t : Kd) (n : Str) (ks : List Str) (xs : List D)
  | non | bl (b : Bool) | int (i : Int) | str (s : Str)
  | tup (xs : List D) | lst (xs : List D) | dic (ks : List Key) (xs : List D) | ref (a : Addr) | scr (ns : List Int) | ty (t : Ty)
/-- the script's list: read, never written -/
def SqS (K : PySem.W.Frag) (H : Hp) (a : Addr) (vs : List V) : Prop := (∃ o, H a = some (.frz o (.lst vs))) ∨ SqL K (fun _ => none) a vs
theorem SqS.sq {K : PySem.W.Frag} {H : Hp} {a : Addr} {vs : List V} (h : SqS K H a vs) : SqL K H a vs := by
  rcases h with ⟨o, h⟩ | (h | h)
  · exact .inl (.inr ⟨o, h⟩)
  · rcases h with h | ⟨_, h⟩ <;> cases h
  · exact .inr h
theorem SqS.of {K : PySem.W.Frag} {H : Hp} {a : Addr} {vs : List V} (h : SqL K H a vs) (hn : ∀ ws, H a ≠ some (.lst ws)) : SqS K H a vs := by
  rcases h with (h | h) | h
  · exact absurd h (hn _)
  · exact .inl h
  · exact .inr (.inr h)
/-- an object that stays as it is -/
def xoO (oe : Obj) : HO := .frz oe (.ext fun _ => True)
mutual
def Rep (K : PySem.W.Frag) (F : Addr → Prop) (H : Hp) : D → V → Prop
  | .non, v => v = .non
  | .bl b, v => v = .bl b
  | .int i, v => v = .int i
  | .str s, v => v = .str s
  | .tup xs, v => ∃ a vs, v = .ref a ∧ SqT K H a vs ∧ Reps K F H xs vs
  | .lst xs, v => ∃ a vs, v = .ref a ∧ F a ∧ H a = some (.lst vs) ∧ Reps K F H xs vs
  | .dic ks xs, v => ∃ a vs, v = .ref a ∧ F a ∧ H a = some (.dK (ks.zip vs)) ∧ ks.length = xs.length ∧ Reps K F H xs vs
  | .ref a, v => v = .ref a
  | .scr ns, v => ∃ a, v = .ref a ∧ SqS K H a (ns.map V.int)
  | .ty t, v => v = .ty t.name
  | .obj .fn n _ _, v => v = .ref (He.ga K n)
  | .obj .cls n _ _, v => v = .ref (He.ga K n) ∧ cclsB K n = true
  | .obj .ins n ks xs, v => cinsB K n = true ∧ ∃ a dx vs, v = .ref a ∧ F a ∧ H a = some (.ins (He.ga K n) dx (ks.zip vs)) ∧ ks.length = xs.length ∧ Reps K F H xs vs
  | .obj .exc n ks xs, v => cexcB K n = true ∧ ∃ a oe vs, v = .ref a ∧ F a ∧ H a = some (xoO oe) ∧ oe.cls = .ref (He.ga K n) ∧ (∃ fv, oe.data = .fields fv) ∧ ks.length = xs.length ∧ Reps K F H xs vs ∧
      ((oe.dict = none ∧ ks = []) ∨ ∃ dd, oe.dict = some dd ∧ F dd ∧ H dd = some (.xd (ks.zip vs)))
def Reps (K : PySem.W.Frag) (F : Addr → Prop) (H : Hp) : List D → List V → Prop
  | [], vs => vs = []
  | x :: xs, vs => ∃ v r, vs = v :: r ∧ Rep K F H x v ∧ Reps K F H xs r
end
structure Le (K : PySem.W.Frag) (F : Addr → Prop) (H : Hp) (F' : Addr → Prop) (H' : Hp) : Prop where
  tup : ∀ a vs, SqT K H a vs → SqT K H' a vs
  sub : ∀ a, F a → F' a
  frz : ∀ a, F a → H' a = H a
  scr : ∀ a vs, SqS K H a vs → SqS K H' a vs
section
variable {K : PySem.W.Frag} {F F' F1 F2 : Addr → Prop} {H H' H1 H2 : Hp}
theorem Le.refl : Le K F H F H := ⟨fun _ _ h => h, fun _ h => h, fun _ _ => rfl, fun _ _ h => h⟩
theorem Le.trans (a : Le K F H F1 H1) (b : Le K F1 H1 F2 H2) : Le K F H F2 H2 :=
  ⟨fun x vs h => b.tup x vs (a.tup x vs h), fun x h => b.sub x (a.sub x h), fun x h => (b.frz x (a.sub x h)).trans (a.frz x h), fun x vs h => b.scr x vs (a.scr x vs h)⟩
mutual
theorem Rep.mono (l : Le K F H F' H') : ∀ {d : D} {v : V}, Rep K F H d v → Rep K F' H' d v
  | .non, _, h => h
  | .bl _, _, h => h
  | .int _, _, h => h
  | .str _, _, h => h
  | .tup xs, v, h => by
    simp only [Rep] at h ⊢
    obtain ⟨a, vs, e, s, r⟩ := h
    exact ⟨a, vs, e, l.tup _ _ s, Reps.mono l r⟩
  | .lst xs, v, h => by
    simp only [Rep] at h ⊢
    obtain ⟨a, vs, e, f, s, r⟩ := h
    exact ⟨a, vs, e, l.sub _ f, (l.frz a f).trans s, Reps.mono l r⟩
  | .dic ks xs, v, h => by
    simp only [Rep] at h ⊢
    obtain ⟨a, vs, e, f, s, n, r⟩ := h
    exact ⟨a, vs, e, l.sub _ f, (l.frz a f).trans s, n, Reps.mono l r⟩
  | .ref _, _, h => h
  | .scr ns, v, h => by
    simp only [Rep] at h ⊢
    obtain ⟨a, e, s⟩ := h
    exact ⟨a, e, l.scr _ _ s⟩
  | .ty _, _, h => h
  | .obj .fn _ _ _, _, h => h
  | .obj .cls _ _ _, _, h => h
  | .obj .ins n ks xs, v, h => by
    simp only [Rep] at h ⊢
    obtain ⟨c, a, dx, vs, e, f, s, n, r⟩ := h
    exact ⟨c, a, dx, vs, e, l.sub _ f, (l.frz a f).trans s, n, Reps.mono l r⟩
  | .obj .exc n ks xs, v, h => by
    simp only [Rep] at h ⊢
    obtain ⟨c, a, oe, vs, e, f, s, hc, hd, n, r, q⟩ := h
    refine ⟨c, a, oe, vs, e, l.sub _ f, (l.frz a f).trans s, hc, hd, n, Reps.mono l r, ?_⟩
    rcases q with q | ⟨dd, q1, q2, q3⟩
    · exact .inl q
    · exact .inr ⟨dd, q1, l.sub _ q2, (l.frz dd q2).trans q3⟩
theorem Reps.mono (l : Le K F H F' H') : ∀ {ds : List D} {vs : List V}, Reps K F H ds vs → Reps K F' H' ds vs
  | [], _, h => h
  | x :: xs, vs, h => by
    simp only [Reps] at h ⊢
    obtain ⟨v, r, e, h1, h2⟩ := h
    exact ⟨v, r, e, Rep.mono l h1, Reps.mono l h2⟩
end
theorem Reps.nil : Reps K F H [] [] := by simp only [Reps]
theorem Reps.cons {d : D} {v : V} {ds : List D} {vs : List V} (a : Rep K F H d v) (b : Reps K F H ds vs) : Reps K F H (d :: ds) (v :: vs) := by
  simp only [Reps]
  exact ⟨v, vs, rfl, a, b⟩
theorem Reps.length : ∀ {ds : List D} {vs : List V}, Reps K F H ds vs → ds.length = vs.length
  | [], _, h => by simp only [Reps] at h; subst h; rfl
  | x :: xs, vs, h => by
    simp only [Reps] at h
    obtain ⟨v, r, e, h1, h2⟩ := h
    subst e
    simp [Reps.length h2]
theorem Reps.get : ∀ {ds : List D} {vs : List V}, Reps K F H ds vs → ∀ {i : Nat} {d : D}, ds[i]? = some d → ∃ v, vs[i]? = some v ∧ Rep K F H d v
  | [], _, h, i, d, e => by simp at e
  | x :: xs, vs, h, i, d, e => by
    simp only [Reps] at h
    obtain ⟨v, r, e1, h1, h2⟩ := h
    subst e1
    cases i with
    | zero => simp at e; subst e; exact ⟨v, rfl, h1⟩
    | succ i => exact Reps.get h2 (by simpa using e)
theorem Reps.append : ∀ {ds es : List D} {vs ws : List V}, Reps K F H ds vs → Reps K F H es ws → Reps K F H (ds ++ es) (vs ++ ws)
  | [], _, _, _, h, h' => by simp only [Reps] at h; subst h; exact h'
  | x :: xs, es, vs, ws, h, h' => by
    simp only [Reps] at h
    obtain ⟨v, r, e1, h1, h2⟩ := h
    subst e1
    exact Reps.cons h1 (Reps.append h2 h')
theorem Reps.take : ∀ {ds : List D} {vs : List V} (n : Nat), Reps K F H ds vs → Reps K F H (ds.take n) (vs.take n)
  | [], _, n, h => by simp only [Reps] at h; subst h; simp [Reps.nil]
  | x :: xs, vs, n, h => by
    simp only [Reps] at h
    obtain ⟨v, r, e1, h1, h2⟩ := h
    subst e1
    cases n with
    | zero => exact Reps.nil
    | succ n => exact Reps.cons h1 (Reps.take n h2)
theorem Reps.drop : ∀ {ds : List D} {vs : List V} (n : Nat), Reps K F H ds vs → Reps K F H (ds.drop n) (vs.drop n)
  | [], _, n, h => by simp only [Reps] at h; subst h; simp [Reps.nil]
  | x :: xs, vs, n, h => by
    cases n with
    | zero => exact h
    | succ n =>
      simp only [Reps] at h
      obtain ⟨v, r, e1, h1, h2⟩ := h
      subst e1
      exact Reps.drop n h2
theorem Reps.set {d : D} {v : V} (hd : Rep K F H d v) : ∀ {ds : List D} {vs : List V} (i : Nat), Reps K F H ds vs → Reps K F H (ds.set i d) (vs.set i v)
  | [], _, i, h => by simp only [Reps] at h; subst h; simp [Reps.nil]
  | x :: xs, vs, i, h => by
    simp only [Reps] at h
    obtain ⟨w, r, e1, h1, h2⟩ := h
    subst e1
    cases i with
    | zero => exact Reps.cons hd h2
    | succ i => exact Reps.cons h1 (Reps.set hd i h2)
theorem Reps.rep {ds : List D} {vs : List V} (h : Reps K F H ds vs) : ∀ k : Nat, Reps K F H (List.replicate k ds).flatten (List.replicate k vs).flatten
  | 0 => by simp [Reps.nil]
  | k + 1 => by
    simp only [List.replicate_succ, List.flatten_cons]
    exact h.append (Reps.rep h k)
theorem Reps.ints : ∀ ns : List Int, Reps K F H (ns.map D.int) (ns.map V.int)
  | [] => Reps.nil
  | n :: ns => Reps.cons rfl (Reps.ints ns)
theorem reps_ints : ∀ {ns : List Int} {vs : List V}, Reps K F H (ns.map D.int) vs → vs = ns.map V.int
  | [], vs, h => by simpa [Reps] using h
  | n :: ns, vs, h => by
    simp only [List.map_cons, Reps, Rep] at h
    obtain ⟨v, r, e, rfl, h2⟩ := h
    rw [e, reps_ints h2]
    rfl
end
inductive MO where
  | lst (ds : List D)
  | ins (n : Str) (fs : List (Str × D))
  | deck (c : Addr)
  | cells
  /-- a dict: its keys are tuples of ints, its values all True; its object -/
  | dT (ks : List (List Int)) (o : Obj)
structure MS where
  map : Addr → Option MO
  bud : Nat
def MS.put (M : MS) (a : Addr) (o : MO) : MS := { M with map := fun b => if b = a then some o else M.map b }
theorem MS.put_same {M : MS} {a : Addr} {o : MO} : (M.put a o).map a = some o := by simp [MS.put]
theorem MS.put_ne {M : MS} {a b : Addr} {o : MO} (h : b ≠ a) : (M.put a o).map b = M.map b := by simp [MS.put, h]
/-- one object, known -/
def knownO (a : Addr) (o : Obj) : HO := .ext fun h => h.get? a = some o
def hashT (ks : List Int) : Int := reduceHash (Builtin.Tuple.tupleHashOf (ks.map hashInt))
def entT (x : List Int × Addr) : DictEntry := ⟨hashT x.1, .ref x.2, .bool true⟩
def ORep (K : PySem.W.Frag) (F : Addr → Prop) (H : Hp) (M : MS) (a : Addr) : MO → Prop
  | .lst ds => ∃ vs, H a = some (.lst vs) ∧ Reps K F H ds vs
  | .ins n fs => cinsB K n = true ∧ ∃ dx fs', H a = some (.ins (He.ga K n) dx fs') ∧ fs.map (·.1) = fs'.map (·.1) ∧ Reps K F H (fs.map (·.2)) (fs'.map (·.2))
  | .deck c => M.map c = some .cells ∧ ∃ (cells : List Int) (n : Int), H a = some (.lst [.ref c, .int n]) ∧ H c = some (.lst (cells.map V.int)) ∧ (∀ x ∈ cells, 0 ≤ x) ∧ cells.length ≤ 63 ∧ 0 ≤ n ∧ n + M.bud ≤ 2 ^ 40
  | .cells => ∃ vs, H a = some (.lst vs)
  | .dT ks o => (a == sysModules) = false ∧ H a = some (knownO a o) ∧ o.ExactDict ∧ ks.Nodup ∧ ∃ (es : Array DictEntry) (ep : Nat) (xs : List (List Int × Addr)), o.data = .dict es ep ∧ es.toList = xs.map entT ∧ xs.map (·.1) = ks ∧ ∀ x ∈ xs, SqT K H x.2 (x.1.map V.int)
structure AbsM (K : PySem.W.Frag) (F : Addr → Prop) (H : Hp) (M : MS) : Prop where
  fh : ∀ a, F a → H a ≠ none
  mp : ∀ a o, M.map a = some o → ¬ F a ∧ ORep K F H M a o
abbrev DEnv := List (Option D)
structure RepEnv (K : PySem.W.Frag) (F : Addr → Prop) (H : Hp) (σ : L2.St) (ρ : DEnv) : Prop where
  len : ρ.length = σ.length
  get : ∀ (i : Nat) (d : D), ρ[i]? = some (some d) → ∃ v, σ[i]? = some (some v) ∧ Rep K F H d v
section
variable {K : PySem.W.Frag} {F F' F1 F2 : Addr → Prop} {H H' H1 H2 : Hp} {M M' : MS} {σ : L2.St} {ρ : DEnv} {a p : Addr}
theorem ORep.there {o : MO} (h : ORep K F H M a o) : H a ≠ none := by
  cases o with
  | lst ds => obtain ⟨vs, e, _⟩ := h; rw [e]; simp
  | ins C fs => obtain ⟨_, _, _, e, _⟩ := h; rw [e]; simp
  | deck c => obtain ⟨_, _, _, e, _⟩ := h; rw [e]; simp
  | cells => obtain ⟨_, e⟩ := h; rw [e]; simp
  | dT ks o => obtain ⟨_, e, _⟩ := h; rw [e]; simp
theorem AbsM.fresh (x : AbsM K F H M) (h : H p = none) : ¬ F p ∧ M.map p = none := by
  refine ⟨fun f => x.fh p f h, ?_⟩
  cases e : M.map p with
  | none => rfl
  | some o => exact absurd h (x.mp p o e).2.there
theorem Le.upd {o : HO} (hF : ¬ F p) (ht : ∀ vs, ¬ Rd H p (.tup vs)) (hs : ∀ ob u, H p ≠ some (.frz ob u)) : Le K F H F (upd H p o) := by
  refine ⟨fun b vs h => ?_, fun _ h => h, fun b f => upd_ne (fun e => hF (e ▸ f)), fun b vs h => ?_⟩
  · rcases h with h | h
    · refine .inl ?_
      have hb : b ≠ p := fun e => ht vs (e ▸ h)
      unfold Rd at *
      rw [upd_ne hb]
      exact h
    · exact .inr h
  · rcases h with ⟨ob, h⟩ | h
    · refine .inl ⟨ob, ?_⟩
      rw [upd_ne (fun e => hs _ _ (e ▸ h))]
      exact h
    · exact .inr h
theorem Le.grow {F' : Addr → Prop} (l : Le K F H F H') (h : ∀ a, F a → F' a) : Le K F H F' H' := ⟨l.tup, h, l.frz, l.scr⟩
theorem nord_none {o : HO} (h : H p = none) : ¬ Rd H p o := by
  rintro (e | ⟨_, e⟩) <;> rw [h] at e <;> cases e
theorem nofrz_none (h : H p = none) : ∀ ob u, H p ≠ some (.frz ob u) := fun _ _ e => by rw [h] at e; cases e
theorem nofrz_lst {vs : List V} (h : H p = some (.lst vs)) : ∀ ob u, H p ≠ some (.frz ob u) := fun _ _ e => by rw [h] at e; cases e
theorem nofrz_ins {C dx : Addr} {fs : List (Str × V)} (h : H p = some (.ins C dx fs)) : ∀ ob u, H p ≠ some (.frz ob u) := fun _ _ e => by rw [h] at e; cases e
theorem nord_lst {vs ws : List V} (h : H p = some (.lst vs)) : ¬ Rd H p (.tup ws) := by
  rintro (e | ⟨_, e⟩) <;> rw [h] at e <;> cases e
theorem nord_ins {C dx : Addr} {fs : List (Str × V)} {ws : List V} (h : H p = some (.ins C dx fs)) : ¬ Rd H p (.tup ws) := by
  rintro (e | ⟨_, e⟩) <;> rw [h] at e <;> cases e
/-- an entry where nothing of its own changed -/
theorem ORep.keep {o : MO} (h : ORep K F H M a o) (l : Le K F H F' H') (ha : H' a = H a) (hc : ∀ c, M.map c = some .cells → H' c = H c ∧ M'.map c = some .cells) (hb : M'.bud ≤ M.bud) : ORep K F' H' M' a o := by
  cases o with
  | lst ds => obtain ⟨vs, e, r⟩ := h; exact ⟨vs, ha.trans e, r.mono l⟩
  | ins C fs => obtain ⟨c, dx, fs', e, k, r⟩ := h; exact ⟨c, dx, fs', ha.trans e, k, r.mono l⟩
  | deck c =>
    obtain ⟨m, cells, n, e, ec, h1, h2, h3, h4⟩ := h
    refine ⟨(hc c m).2, cells, n, ha.trans e, (hc c m).1.trans ec, h1, h2, h3, ?_⟩
    omega
  | cells => obtain ⟨vs, e⟩ := h; exact ⟨vs, ha.trans e⟩
  | dT ks o =>
    obtain ⟨z, e, x, n, es, ep, xs, h1, h2, h3, h4⟩ := h
    exact ⟨z, ha.trans e, x, n, es, ep, xs, h1, h2, h3, fun y hy => l.tup _ _ (h4 y hy)⟩
/-- a new object, of no account -/
theorem AbsM.laid {o : HO} (x : AbsM K F H M) (h : H p = none) : AbsM K F (L2.upd H p o) M := by
  have l : Le K F H F (L2.upd H p o) := Le.upd (x.fresh h).1 (fun vs => nord_none h) (nofrz_none h)
  have keep : ∀ b, H b ≠ none → L2.upd H p o b = H b := fun b hb => upd_ne fun e => hb (e ▸ h)
  refine ⟨fun a f e => ?_, fun a o' e => ?_⟩
  · rw [keep a (x.fh a f)] at e; exact x.fh a f e
  · obtain ⟨nf, r⟩ := x.mp a o' e
    exact ⟨nf, r.keep l (keep a r.there) (fun c hc => ⟨keep c (x.mp c _ hc).2.there, hc⟩) (Nat.le_refl _)⟩
/-- .. that nobody will change -/
theorem AbsM.frozen {o : HO} (x : AbsM K F H M) (h : H p = none) : AbsM K (fun b => F b ∨ b = p) (L2.upd H p o) M ∧ Le K F H (fun b => F b ∨ b = p) (L2.upd H p o) := by
  have l : Le K F H F (L2.upd H p o) := Le.upd (x.fresh h).1 (fun vs => nord_none h) (nofrz_none h)
  have l2 : Le K F H (fun b => F b ∨ b = p) (L2.upd H p o) := l.grow fun _ f => .inl f
  have y : AbsM K F (L2.upd H p o) M := x.laid h
  have l3 : Le K F (L2.upd H p o) (fun b => F b ∨ b = p) (L2.upd H p o) := Le.refl.grow fun _ f => .inl f
  refine ⟨⟨fun a f e => ?_, fun a o' e => ?_⟩, l2⟩
  · rcases f with f | f
    · exact y.fh a f e
    · subst f; rw [upd_same] at e; cases e
  · obtain ⟨nf, r⟩ := y.mp a o' e
    refine ⟨fun f => ?_, r.keep l3 rfl (fun c hc => ⟨rfl, hc⟩) (Nat.le_refl _)⟩
    rcases f with f | f
    · exact nf f
    · subst f; rw [(x.fresh h).2] at e; cases e
/-- .. that may change -/
theorem AbsM.newM {vs : List V} {ds : List D} (x : AbsM K F H M) (h : H p = none) (r : Reps K F H ds vs) : AbsM K F (L2.upd H p (.lst vs)) (M.put p (.lst ds)) := by
  have l : Le K F H F (L2.upd H p (.lst vs)) := Le.upd (x.fresh h).1 (fun vs => nord_none h) (nofrz_none h)
  have y : AbsM K F (L2.upd H p (.lst vs)) M := x.laid h
  refine ⟨y.fh, fun a o' e => ?_⟩
  by_cases ha : a = p
  · subst ha
    rw [MS.put_same] at e; cases e
    exact ⟨(x.fresh h).1, vs, upd_same, r.mono l⟩
  · rw [MS.put_ne ha] at e
    obtain ⟨nf, r⟩ := y.mp a o' e
    refine ⟨nf, r.keep Le.refl rfl (fun c hc => ⟨rfl, ?_⟩) (Nat.le_refl _)⟩
    rw [MS.put_ne (fun z => by subst z; rw [(x.fresh h).2] at hc; cases hc)]
    exact hc
/-- a list written -/
theorem AbsM.wrote {vs : List V} {ds es : List D} (x : AbsM K F H M) (h : M.map p = some (.lst es)) (r : Reps K F H ds vs) :
    AbsM K F (L2.upd H p (.lst vs)) (M.put p (.lst ds)) ∧ Le K F H F (L2.upd H p (.lst vs)) := by
  obtain ⟨nf, ws, e, r0⟩ := x.mp p _ h
  have l : Le K F H F (L2.upd H p (.lst vs)) := Le.upd nf (fun vs => nord_lst e) (nofrz_lst e)
  refine ⟨⟨fun a f z => ?_, fun a o' e' => ?_⟩, l⟩
  · by_cases ha : a = p
    · subst ha; exact nf f
    · rw [upd_ne ha] at z; exact x.fh a f z
  · by_cases ha : a = p
    · subst ha
      rw [MS.put_same] at e'; cases e'
      exact ⟨nf, vs, upd_same, r.mono l⟩
    · rw [MS.put_ne ha] at e'
      obtain ⟨nf', r'⟩ := x.mp a o' e'
      refine ⟨nf', r'.keep l (upd_ne ha) (fun c hc => ?_) (Nat.le_refl _)⟩
      have hcp : c ≠ p := fun z => by subst z; rw [h] at hc; cases hc
      exact ⟨upd_ne hcp, by rw [MS.put_ne hcp]; exact hc⟩
theorem RepEnv.mono (e : RepEnv K F H σ ρ) (l : Le K F H F' H') : RepEnv K F' H' σ ρ :=
  ⟨e.len, fun i d h => let ⟨v, a, b⟩ := e.get i d h; ⟨v, a, b.mono l⟩⟩
theorem RepEnv.set {d : D} {v : V} (e : RepEnv K F H σ ρ) (r : Rep K F H d v) (i : Nat) : RepEnv K F H (σ.set i (some v)) (ρ.set i (some d)) := by
  refine ⟨by simp [e.len], fun j d' h => ?_⟩
  by_cases hj : i = j
  · subst hj
    have hi : i < ρ.length := by
      by_cases hi : i < ρ.length
      · exact hi
      · rw [List.getElem?_eq_none (by simpa using hi)] at h; cases h
    rw [List.getElem?_set_self hi] at h
    cases h
    exact ⟨v, by rw [List.getElem?_set_self (by rw [← e.len]; exact hi)], r⟩
  · rw [List.getElem?_set_ne hj] at h
    obtain ⟨w, a, b⟩ := e.get j d' h
    exact ⟨w, by rw [List.getElem?_set_ne hj]; exact a, b⟩
end
/-- from F, H, M to F', H', M': trees stand as they stood, what is hidden stays hidden and as it is -/
structure Lm (K : PySem.W.Frag) (F : Addr → Prop) (H : Hp) (M : MS) (F' : Addr → Prop) (H' : Hp) (M' : MS) : Prop where
  le : Le K F H F' H'
  hid : ∀ a, H a ≠ none → ¬ F a → M.map a = none → ¬ F' a ∧ M'.map a = none ∧ H' a = H a
section
variable {K : PySem.W.Frag} {F F' F1 F2 : Addr → Prop} {H H' H1 H2 : Hp} {M M' M1 M2 : MS} {p : Addr}
theorem Lm.refl : Lm K F H M F H M := ⟨Le.refl, fun _ _ f m => ⟨f, m, rfl⟩⟩
theorem Lm.trans (a : Lm K F H M F1 H1 M1) (b : Lm K F1 H1 M1 F2 H2 M2) : Lm K F H M F2 H2 M2 :=
  ⟨a.le.trans b.le, fun x h f m => by
    obtain ⟨f1, m1, e1⟩ := a.hid x h f m
    obtain ⟨f2, m2, e2⟩ := b.hid x (by rw [e1]; exact h) f1 m1
    exact ⟨f2, m2, e2.trans e1⟩⟩
/-- a new object, of no account | frozen | in the map -/
theorem Lm.laid {o : HO} (x : AbsM K F H M) (h : H p = none) : Lm K F H M F (upd H p o) M :=
  ⟨Le.upd (x.fresh h).1 (fun _ => nord_none h) (nofrz_none h), fun a ha f m => ⟨f, m, upd_ne fun e => ha (e ▸ h)⟩⟩
theorem Lm.frozen {o : HO} (x : AbsM K F H M) (h : H p = none) : Lm K F H M (fun b => F b ∨ b = p) (upd H p o) M :=
  ⟨(x.frozen h).2, fun a ha f m => ⟨fun z => z.elim f fun e => ha (e ▸ h), m, upd_ne fun e => ha (e ▸ h)⟩⟩
theorem Lm.newM {o : HO} {mo : MO} (x : AbsM K F H M) (h : H p = none) : Lm K F H M F (upd H p o) (M.put p mo) :=
  ⟨Le.upd (x.fresh h).1 (fun _ => nord_none h) (nofrz_none h), fun a ha f m => by
    have hp : a ≠ p := fun e => ha (e ▸ h)
    exact ⟨f, by rw [MS.put_ne hp]; exact m, upd_ne hp⟩⟩
theorem Lm.wrote {vs : List V} {ds es : List D} (x : AbsM K F H M) (h : M.map p = some (.lst es)) (r : Reps K F H ds vs) : Lm K F H M F (upd H p (.lst vs)) (M.put p (.lst ds)) :=
  ⟨(x.wrote h r).2, fun a ha f m => by
    have hp : a ≠ p := fun e => by subst e; rw [h] at m; cases m
    exact ⟨f, by rw [MS.put_ne hp]; exact m, upd_ne hp⟩⟩
end
/-- where a walk began: what stays true of all that follows -/
structure Og (K : PySem.W.Frag) where
  z : (Addr → Prop) → Hp → MS → Prop
  cl : ∀ {F H M F' H' M'}, z F H M → Lm K F H M F' H' M' → z F' H' M'
def Og.top {K : PySem.W.Frag} : Og K := ⟨fun _ _ _ => True, fun _ _ => trivial⟩
def Og.at (K : PySem.W.Frag) (F : Addr → Prop) (H : Hp) (M : MS) : Og K := ⟨fun F' H' M' => Lm K F H M F' H' M', fun a b => a.trans b⟩
structure Abs (K : PySem.W.Frag) (O : Og K) (F : Addr → Prop) (H : Hp) (M : MS) (σ : L2.St) (ρ : DEnv) : Prop where
  am : AbsM K F H M
  env : RepEnv K F H σ ρ
  og : O.z F H M
section
variable {K : PySem.W.Frag} {O : Og K} {F F' : Addr → Prop} {H H' : Hp} {M M' : MS} {σ : L2.St} {ρ : DEnv}
theorem Abs.go (A : Abs K O F H M σ ρ) (l : Lm K F H M F' H' M') (a : AbsM K F' H' M') : Abs K O F' H' M' σ ρ := ⟨a, A.env.mono l.le, O.cl A.og l⟩
theorem Abs.set {d : D} {v : V} (A : Abs K O F H M σ ρ) (r : Rep K F H d v) (i : Nat) : Abs K O F H M (σ.set i (some v)) (ρ.set i (some d)) := ⟨A.am, A.env.set r i, A.og⟩
theorem Abs.put {σ' : L2.St} {ρ' : DEnv} (A : Abs K O F H M σ ρ) (e : RepEnv K F H σ' ρ') : Abs K O F H M σ' ρ' := ⟨A.am, e, A.og⟩
end
end DL
namespace DL
open PySem PySem.Spec PyProof.Rows L2
structure FnG (P : Program) (w : World) (K : PySem.W.Frag) (mg : Str → Option Value) (base : Heap) (CX : CXT) (k : Nat) (f : Addr) (fd : FuncData) (ps : List Str) (sp : Sp) : Prop where
  len : ∀ vs H Q E, sp vs H Q E → vs.length = ps.length
  run : ∀ (A : Around) (outer : List Env) (s : Shared) (H : Hp) (args : Args) (us : List Value) (vs : List V) (Q : VK) (E : XK), Room k A → A.guards = some [] → Env0 P w K mg base A outer s H →
    BindsTo s fd args (ps.zip us) → Vals vs us → sp vs H Q E → codeAny (model P w) A (.call (.ref f) args) (CR CX outer P w H s Q E) s
section
variable {P : Program} {w : World} {K : PySem.W.Frag} {mg : Str → Option Value} {base : Heap} {CX : CXT} {j k : Nat} {f : Addr} {fd : FuncData} {ps : List Str} {sp sp' : Sp}
theorem FnG.mono (F : FnG P w K mg base CX j f fd ps sp) (h : j ≤ k) : FnG P w K mg base CX k f fd ps sp :=
  ⟨F.len, fun A outer s H args us vs Q E hr hg => F.run A outer s H args us vs Q E (hr.mono h) hg⟩
theorem FnG.imp (F : FnG P w K mg base CX k f fd ps sp) (h : ∀ vs H Q E, sp' vs H Q E → sp vs H Q E) : FnG P w K mg base CX k f fd ps sp' :=
  ⟨fun vs H Q E q => F.len vs H Q E (h _ _ _ _ q), fun A outer s H args us vs Q E hr hg e0 hb hv q => F.run A outer s H args us vs Q E hr hg e0 hb hv (h _ _ _ _ q)⟩
theorem FnG.of (F : FnOk P w K mg base CX k f fd ps sp) : FnG P w K mg base CX k f fd ps sp :=
  ⟨F.len, fun A outer s H args us vs Q E hr _ => F.run A outer s H args us vs Q E hr⟩
/-- a def of the text, by its body -/
theorem fnG_of {name qual : Str} {params : Arguments} {body : List Stmt} {scope : Scope} {dV kV doc pm cdv ct oc : Value} {an od : Option Addr} {osl : Array (Option Value)} {N : List Str}
    (lk : K.lookup f = some ⟨oc, od, .func (PySem.W.fnOf name qual params body scope dV kV doc pm an cdv ct), osl⟩) (hcd : PySem.W.codeIn K cdv qual = true) (S : FnScope N ps scope)
    (len : ∀ vs H Q E, sp vs H Q E → vs.length = ps.length)
    (hbody : ∀ (A : Around) (outer : List Env) (s : Shared) (H : Hp) (vs : List V) (Q : VK) (E : XK), Room k (A.deeper (envOfC qual scope s.heap.objs.size f cdv)) → (A.deeper (envOfC qual scope s.heap.objs.size f cdv)).guards = some [] → sp vs H Q E →
      ∃ t, PSs (cxOf CX P w K mg base N qual scope f cdv A outer s H E) body t ∧ t { nx := fun _ H' => Q .non H', rt := Q } (start N vs) H) :
    FnG P w K mg base CX (k + 1) f (PySem.W.fnOf name qual params body scope dV kV doc pm an cdv ct) ps sp := by
  refine ⟨len, fun A outer s H args us vs Q E hr hgd e0 hb rv hsp => ?_⟩
  have hlen := len _ _ _ _ hsp
  have inK : K.In s.heap := e0.mod.kin.keeps fun b o e => (e0.bs b o e).1
  have noLim : s.heap.NoLimit := e0.mod.nolimit.keeps fun b o e => (e0.bs b o e).1
  have kinds : ∀ y ∈ ps.zip us, scope.names.lookup y.1 = some .local ∨ (scope.names.lookup y.1 = some .cell ∧ ((cellsFrom (s.heap.objs.size + 1) scope.names []).lookup y.1).isSome = true) := by
    rintro ⟨n, v⟩ hy
    rcases S.par n (List.of_mem_zip hy).1 with h | h
    · exact .inl h
    · exact .inr ⟨h, PySem.W.cellsFrom_some _ _ _ (.inl h)⟩
  refine codeAny_call_function hr.depth (inK _ _ lk) rfl S.co S.gen rfl
    (PySem.W.codeRec_of inK hcd) (hb _ _ _ _ ?_)
  refine wpAny_newFunctionEnv_cells S.kind kinds
    fun env henv s1 inC => ?_
  subst henv
  refine ⟨noLim.keeps inC.toInCall.keep, codeAny_func ?_⟩
  obtain ⟨t, ht, hq⟩ := hbody A outer s H vs Q E (hr.deeper _) hgd hsp
  have I0 := inv_start (CX := CX) (E := E) (cd := cdv) S hr.hd e0 hlen rv inC
  refine wpAny_mono (ht.run [] s1 (start N vs) H _ I0 hq) (fun fl s' hs => ?_) fun e s' hs => hs
  cases fl with
  | ret u =>
    obtain ⟨v, σ', H', J, r, q⟩ := hs
    exact ⟨v, H', J.os, J.bare, J.base, J.hok, r, q⟩
  | next =>
    obtain ⟨σ', H', J, q⟩ := hs
    exact ⟨V.non, H', J.os, J.bare, J.base, J.hok, rfl, q⟩
  | brk => obtain ⟨_, _, _, q⟩ := hs; exact q.elim
  | cont => obtain ⟨_, _, _, q⟩ := hs; exact q.elim
theorem FunD.okG {x qual : Str} {params : Arguments} {body : List Stmt} {scope : Scope} {dvs : List V} {kws : List (Str × V)} {N : List Str} (F : FunD K x qual params body scope dvs kws f fd) (S : FnScope N ps scope)
    (len : ∀ vs H Q E, sp vs H Q E → vs.length = ps.length)
    (hbody : ∀ (cdv : Value) (A : Around) (outer : List Env) (s : Shared) (H : Hp) (vs : List V) (Q : VK) (E : XK), Room k (A.deeper (envOfC qual scope s.heap.objs.size f cdv)) → (A.deeper (envOfC qual scope s.heap.objs.size f cdv)).guards = some [] → sp vs H Q E →
      ∃ t, PSs (cxOf CX P w K mg base N qual scope f cdv A outer s H E) body t ∧ t { nx := fun _ H' => Q .non H', rt := Q } (start N vs) H) : FnG P w K mg base CX (k + 1) f fd ps sp := by
  obtain ⟨oc, od, dV, kV, doc, pm, an, cdv, ct, osl, e, lk, hcd, _, _⟩ := F.ex
  subst e
  exact fnG_of lk hcd S len fun A outer s H vs Q E hr hg hsp => hbody cdv A outer s H vs Q E hr hg hsp
end
section
variable {X : Cx} {CX : CXT} {k : Nat} {f C : Addr} {fd : FuncData} {ps : List Str} {sp : Sp} {dvs : List V} {ds : List Value} {E : XK} {x m : Str} {p pos apos : Pos} {e o : Expr} {es : List Expr} {ta : TE} {t : TA}
variable {O : Og X.K}
theorem runG {pins : List (Addr × Obj)} {σ : L2.St} {H : Hp} {s : Shared} {Q : VK} {us : List Value} {vs : List V} (F : FnG X.prog X.w X.K X.mg X.base CX k f fd ps sp) (hr : Room k X.A) (hg : X.A.guards = some []) (hb : Binds X.K fd ps ds) (hd : Vals dvs ds) (hx : Passes CX X E)
    (I : Inv X pins σ H s) (r : Vals vs us) (h : sp (vs ++ dvs) H Q E) : wpAny (model X.prog X.w) X.A (call (.ref f) us) (EP X pins σ Q) X.xe s := by
  have rr : Vals (vs ++ dvs) (us ++ ds) := r.append hd
  have hlen : (us ++ ds).length = ps.length := by
    rw [← rr.length]
    exact F.len _ _ _ _ h
  refine wpAny_call (codeAny_mono (F.run X.A X.stack s H ⟨us, []⟩ (us ++ ds) (vs ++ dvs) Q E hr hg I.env0 (hb s us I.kIn hlen) rr h)
    fun res s' hq => ?_)
  cases res with
  | error e => exact hx pins σ H s e s' I hq
  | ok fl =>
    cases fl with
    | ret u => exact I.after hq
    | next => exact hq.elim
    | brk => exact hq.elim
    | cont => exact hq.elim
theorem pe_callG (F : FnG X.prog X.w X.K X.mg X.base CX k f fd ps sp) (hr : Room k X.A) (hgd : X.A.guards = some []) (hg : Gl X x) (hm : X.mg x = some (.ref f)) (hk : PySem.W.keepIn X.K (.ref f) = true) (hb : Binds X.K fd ps ds) (hd : Vals dvs ds) (hx : Passes CX X E)
    (ha : PA X (e :: es) t) (hdb : (x == ("__debug__" : Str)) = false) (he : starEach (e :: es) X.env = (false, eval e X.env) :: starEach es X.env)
    (hpl : (backTo pos (starEach es X.env)).any (·.1) = false) : PE X (.Call (.Name x p) (e :: es) [] pos) (tCall sp dvs E t) := by
  refine ⟨fun pins s σ H Q I h => ?_⟩
  refine wpAny_Call_Name_kw (ld_glob I hg hm ?_ hdb)
  refine PySem.W.callWith_K (h₀ := X.base) I.ok.mod.kin hk
    (thn (ha.run pos pins s σ H _ I h) fun us s1 ⟨vs, H1, I1, r, q⟩ => ⟨I1.kIn, ?_⟩) he hpl
  exact runG F hr hgd hb hd hx I1 r q
end
abbrev DQ := D → MS → Prop
abbrev DE := DEnv → MS → DQ → Prop
abbrev DT := DEnv → MS → (Bool → MS → Prop) → Prop
abbrev DAs := DEnv → MS → (List D → MS → Prop) → Prop
structure DEnds where
  nx : DEnv → MS → Prop
  rt : DQ
  bk : DEnv → MS → Prop := fun _ _ => False
  ct : DEnv → MS → Prop := fun _ _ => False
abbrev DS := DEnds → DEnv → MS → Prop
def loQ (K : PySem.W.Frag) (F : Addr → Prop) (H : Hp) (M : MS) (Φ : DQ) : VK := fun v H' => ∃ F' M' d, Lm K F H M F' H' M' ∧ AbsM K F' H' M' ∧ Rep K F' H' d v ∧ Φ d M'
def lo (K : PySem.W.Frag) (O : Og K) (t : DE) : TE := fun σ H Q => ∃ F M ρ Φ, Abs K O F H M σ ρ ∧ t ρ M Φ ∧ ∀ v H', loQ K F H M Φ v H' → Q v H'
def loT (K : PySem.W.Frag) (O : Og K) (t : DT) : TT := fun σ H Q => ∃ F M ρ Φ, Abs K O F H M σ ρ ∧ t ρ M Φ ∧ ∀ b H' F' M', Lm K F H M F' H' M' → AbsM K F' H' M' → Φ b M' → Q b H'
def loA (K : PySem.W.Frag) (O : Og K) (t : DAs) : TA := fun σ H Q => ∃ F M ρ Φ, Abs K O F H M σ ρ ∧ t ρ M Φ ∧ ∀ vs H' F' M' ds, Lm K F H M F' H' M' → AbsM K F' H' M' → Reps K F' H' ds vs → Φ ds M' → Q vs H'
def loR (K : PySem.W.Frag) (R : D → D → MS → DQ → Prop) : R2 := fun vx vy H Q => ∃ F M x y Φ, AbsM K F H M ∧ Rep K F H x vx ∧ Rep K F H y vy ∧ R x y M Φ ∧ ∀ v H', loQ K F H M Φ v H' → Q v H'
def loU (K : PySem.W.Frag) (R : D → MS → DQ → Prop) : V → Hp → VK → Prop := fun vx H Q => ∃ F M x Φ, AbsM K F H M ∧ Rep K F H x vx ∧ R x M Φ ∧ ∀ v H', loQ K F H M Φ v H' → Q v H'
def loC (K : PySem.W.Frag) (R : List D → MS → DQ → Prop) : List V → Hp → VK → Prop := fun vs H Q => ∃ F M ds Φ, AbsM K F H M ∧ Reps K F H ds vs ∧ R ds M Φ ∧ ∀ v H', loQ K F H M Φ v H' → Q v H'
structure LoEnds (K : PySem.W.Frag) (O : Og K) (F : Addr → Prop) (H : Hp) (M : MS) (Δ : DEnds) (Y : Ends) : Prop where
  nx : ∀ σ' H' F' M' ρ', Lm K F H M F' H' M' → Abs K O F' H' M' σ' ρ' → Δ.nx ρ' M' → Y.nx σ' H'
  rt : ∀ v H', loQ K F H M Δ.rt v H' → Y.rt v H'
  bk : ∀ σ' H' F' M' ρ', Lm K F H M F' H' M' → Abs K O F' H' M' σ' ρ' → Δ.bk ρ' M' → Y.bk σ' H'
  ct : ∀ σ' H' F' M' ρ', Lm K F H M F' H' M' → Abs K O F' H' M' σ' ρ' → Δ.ct ρ' M' → Y.ct σ' H'
def loS (K : PySem.W.Frag) (O : Og K) (t : DS) : TS := fun Y σ H => ∃ F M ρ Δ, Abs K O F H M σ ρ ∧ t Δ ρ M ∧ LoEnds K O F H M Δ Y
section
variable {K : PySem.W.Frag} {F F' F1 F2 : Addr → Prop} {H H' H1 H2 : Hp} {M M' M1 : MS} {Φ : DQ}
theorem loQ.le (l : Lm K F H M F1 H1 M1) {v : V} (h : loQ K F1 H1 M1 Φ v H') : loQ K F H M Φ v H' := by
  obtain ⟨F', M', d, l', a, r, q⟩ := h
  exact ⟨F', M', d, l.trans l', a, r, q⟩
theorem loQ.here {d : D} {v : V} (a : AbsM K F H M) (r : Rep K F H d v) (q : Φ d M) : loQ K F H M Φ v H := ⟨F, M, d, Lm.refl, a, r, q⟩
theorem LoEnds.le {Δ : DEnds} {Y : Ends} (e : LoEnds K O F H M Δ Y) (l : Lm K F H M F1 H1 M1) : LoEnds K O F1 H1 M1 Δ Y :=
  ⟨fun σ' H' F' M' ρ' z => e.nx σ' H' F' M' ρ' (l.trans z), fun v H' z => e.rt v H' (z.le l), fun σ' H' F' M' ρ' z => e.bk σ' H' F' M' ρ' (l.trans z), fun σ' H' F' M' ρ' z => e.ct σ' H' F' M' ρ' (l.trans z)⟩
end
theorem PE.imp {X : Cx} {e : Expr} {t t' : TE} (h : PE X e t) (hi : ∀ σ H Q, t' σ H Q → t σ H Q) : PE X e t' := ⟨fun pins s σ H Q I q => h.run pins s σ H Q I (hi _ _ _ q)⟩
theorem PT.imp {X : Cx} {e : Expr} {t t' : TT} (h : PT X e t) (hi : ∀ σ H Q, t' σ H Q → t σ H Q) : PT X e t' := ⟨fun pins s σ H Q I q => h.run pins s σ H Q I (hi _ _ _ q)⟩
theorem PA.imp {X : Cx} {e : List Expr} {t t' : TA} (h : PA X e t) (hi : ∀ σ H Q, t' σ H Q → t σ H Q) : PA X e t' := ⟨fun pos pins s σ H Q I q => h.run pos pins s σ H Q I (hi _ _ _ q)⟩
theorem PS.imp {X : Cx} {e : Stmt} {t t' : TS} (h : PS X e t) (hi : ∀ D σ H, t' D σ H → t D σ H) : PS X e t' := ⟨fun pins s σ H D I q => h.run pins s σ H D I (hi _ _ _ q)⟩
theorem PSs.imp {X : Cx} {e : List Stmt} {t t' : TS} (h : PSs X e t) (hi : ∀ D σ H, t' D σ H → t D σ H) : PSs X e t' := ⟨fun pins s σ H D I q => h.run pins s σ H D I (hi _ _ _ q)⟩
def dC (d : D) : DE := fun _ M Φ => Φ d M
def dVar (i : Nat) : DE := fun ρ M Φ => match ρ[i]? with
  | some (some d) => Φ d M
  | _ => False
def dOp (R : D → D → MS → DQ → Prop) (ta tb : DE) : DE := fun ρ M Φ => ta ρ M fun x M1 => tb ρ M1 fun y M2 => R x y M2 Φ
def dUn (R : D → MS → DQ → Prop) (ta : DE) : DE := fun ρ M Φ => ta ρ M fun x M1 => R x M1 Φ
def dNil : DAs := fun _ M Φ => Φ [] M
def dCons (ta : DE) (tr : DAs) : DAs := fun ρ M Φ => ta ρ M fun x M1 => tr ρ M1 fun xs M2 => Φ (x :: xs) M2
def dFn (R : List D → MS → DQ → Prop) (ta : DAs) : DE := fun ρ M Φ => ta ρ M fun xs M1 => R xs M1 Φ
def dTup (ta : DAs) : DE := fun ρ M Φ => ta ρ M fun xs M1 => xs.length ≤ 100000 ∧ Φ (.tup xs) M1
def dLst (ta : DAs) : DE := fun ρ M Φ => ta ρ M fun xs M1 => xs.length ≤ 100000 ∧ Φ (.lst xs) M1
def dLstM (ta : DAs) : DE := fun ρ M Φ => ta ρ M fun xs M1 => xs.length ≤ 100000 ∧ ∀ p, M1.map p = none → Φ (.ref p) (M1.put p (.lst xs))
def dIf (t : DT) (ta tb : DE) : DE := fun ρ M Φ => t ρ M fun b M1 => if b = true then ta ρ M1 Φ else tb ρ M1 Φ
def dTest (te : DE) : DT := fun ρ M Φ => te ρ M fun x M1 => match x with
  | .bl b => Φ b M1
  | _ => False
def dAnd (t u : DT) : DT := fun ρ M Φ => t ρ M fun b M1 => if b = true then u ρ M1 Φ else Φ false M1
def dOr (t u : DT) : DT := fun ρ M Φ => t ρ M fun b M1 => if b = true then Φ true M1 else u ρ M1 Φ
def dNot (t : DT) : DT := fun ρ M Φ => t ρ M fun b M1 => Φ (!b) M1
def dAndV (t : DE) (u : DE) : DE := fun ρ M Φ => t ρ M fun x M1 => match x with
  | .bl b => if b = true then u ρ M1 Φ else Φ (.bl false) M1
  | _ => False
def dOrV (t : DE) (u : DE) : DE := fun ρ M Φ => t ρ M fun x M1 => match x with
  | .bl b => if b = true then Φ (.bl true) M1 else u ρ M1 Φ
  | _ => False
section
variable {X : Cx} {a b : Expr} {ta tb te : DE} {pos : Pos}
variable {O : Og X.K}
theorem q_var {i : Nat} {x : Str} (hN : X.N[i]? = some x) (hv : Vis X.env.scope x) (hd : (x == ("__debug__" : Str)) = false) (hcd : (x == ("__classdict__" : Str)) = false) : PE X (.Name x pos) (lo X.K O (dVar i)) :=
  PE.imp (pe_var hN hv hd hcd) fun σ H Q h => by
    obtain ⟨F, M, ρ, Φ, A, h, k⟩ := h
    unfold dVar at h
    split at h
    · rename_i d e
      obtain ⟨v, e1, r⟩ := A.env.get i d e
      exact ⟨v, e1, k v H (loQ.here A.am r h)⟩
    · exact h.elim
theorem q_c {d : D} {v : V} (he : PE X a (tC v)) (r : ∀ F H, Rep X.K F H d v) : PE X a (lo X.K O (dC d)) :=
  PE.imp he fun σ H Q h => by
    obtain ⟨F, M, ρ, Φ, A, h, k⟩ := h
    exact k v H (loQ.here A.am (r F H) h)
theorem q_op {op : Operator} {R : D → D → MS → DQ → Prop} (ho : OpR X (binaryOp op) (loR X.K R)) (ha : PE X a (lo X.K O ta)) (hb : PE X b (lo X.K O tb)) : PE X (.BinOp a op b pos) (lo X.K O (dOp R ta tb)) :=
  PE.imp (pe_op ho ha hb) fun σ H Q h => by
    obtain ⟨F, M, ρ, Φ, A, h, k⟩ := h
    exact ⟨F, M, ρ, _, A, h, fun vx H1 ⟨F1, M1, x, l1, a1, r1, h1⟩ => ⟨F1, M1, ρ, _, (A.go l1 a1), h1, fun vy H2 ⟨F2, M2, y, l2, a2, r2, h2⟩ =>
      ⟨F2, M2, x, y, Φ, a2, r1.mono l2.le, r2, h2, fun v H' q => k v H' ((q.le l2).le l1)⟩⟩⟩
theorem q_cmpT {op : CmpOp} {R : D → D → MS → DQ → Prop} (ho : OpR X (compareOp op) (loR X.K R)) (ha : PE X a (lo X.K O ta)) (hb : PE X b (lo X.K O tb)) (hm : behindInMarks op b = false) : PT X (.Compare a [op] [b] pos) (loT X.K O (dTest (dOp R ta tb))) :=
  PT.imp (pt_cmpR ho ha hb hm) fun σ H Q h => by
    obtain ⟨F, M, ρ, Φ, A, h, k⟩ := h
    refine ⟨F, M, ρ, _, A, h, fun vx H1 ⟨F1, M1, x, l1, a1, r1, h1⟩ => ⟨F1, M1, ρ, _, (A.go l1 a1), h1, fun vy H2 ⟨F2, M2, y, l2, a2, r2, h2⟩ =>
      ⟨F2, M2, x, y, _, a2, r1.mono l2.le, r2, h2, fun v H' q => ?_⟩⟩⟩
    obtain ⟨F', M', d, l3, a3, r3, q3⟩ := q
    cases d with
    | bl c => exact ⟨c, r3, k c H' F' M' ((l1.trans l2).trans l3) a3 q3⟩
    | _ => exact q3.elim
theorem q_un {op : UnaryOp} {R : D → MS → DQ → Prop} (ho : UnR X (unaryOp op) (loU X.K R)) (ha : PE X a (lo X.K O ta)) : PE X (.UnaryOp op a pos) (lo X.K O (dUn R ta)) :=
  PE.imp (pe_un ho ha) fun σ H Q h => by
    obtain ⟨F, M, ρ, Φ, A, h, k⟩ := h
    exact ⟨F, M, ρ, _, A, h, fun vx H1 ⟨F1, M1, x, l1, a1, r1, h1⟩ => ⟨F1, M1, x, Φ, a1, r1, h1, fun v H' q => k v H' (q.le l1)⟩⟩
theorem q_nil : PA X [] (loA X.K O dNil) :=
  PA.imp pa_nil fun σ H Q h => by
    obtain ⟨F, M, ρ, Φ, A, h, k⟩ := h
    exact k [] H F M [] Lm.refl A.am Reps.nil h
theorem q_cons {es : List Expr} {tr : DAs} (ha : PE X a (lo X.K O ta)) (hr : PA X es (loA X.K O tr)) (hs : starEach (a :: es) X.env = (false, eval a X.env) :: starEach es X.env) : PA X (a :: es) (loA X.K O (dCons ta tr)) :=
  PA.imp (pa_cons ha hr hs) fun σ H Q h => by
    obtain ⟨F, M, ρ, Φ, A, h, k⟩ := h
    exact ⟨F, M, ρ, _, A, h, fun vx H1 ⟨F1, M1, x, l1, a1, r1, h1⟩ => ⟨F1, M1, ρ, _, (A.go l1 a1), h1, fun vs H2 F2 M2 ds l2 a2 r2 h2 =>
      k (vx :: vs) H2 F2 M2 (x :: ds) (l1.trans l2) a2 (Reps.cons (r1.mono l2.le) r2) h2⟩⟩
theorem sz5 {n : Nat} (h : n ≤ 100000) : n ≤ sizeLine := Nat.le_trans h (by decide)
theorem q_tup {es : List Expr} {tr : DAs} {x1} (h : PA X es (loA X.K O tr)) : PE X (.Tuple es x1 pos) (lo X.K O (dTup tr)) :=
  PE.imp (pe_tup h) fun σ H Q h => by
    obtain ⟨F, M, ρ, Φ, A, h, k⟩ := h
    refine ⟨F, M, ρ, _, A, h, fun vs H1 F1 M1 ds l1 a1 r1 ⟨z, q⟩ => ⟨by rw [← r1.length]; exact sz5 z, fun p hp => ?_⟩⟩
    have l2 := Lm.laid (o := .tup vs) a1 hp
    refine k _ _ ⟨F1, M1, .tup ds, l1.trans l2, a1.laid hp, ?_, q⟩
    simp only [Rep]
    exact ⟨p, vs, rfl, .inl (.inl upd_same), r1.mono l2.le⟩
theorem q_lst {es : List Expr} {tr : DAs} (h : PA X es (loA X.K O tr)) : PE X (.List es pos) (lo X.K O (dLst tr)) :=
  PE.imp (pe_lst h) fun σ H Q h => by
    obtain ⟨F, M, ρ, Φ, A, h, k⟩ := h
    refine ⟨F, M, ρ, _, A, h, fun vs H1 F1 M1 ds l1 a1 r1 ⟨z, q⟩ => ⟨by rw [← r1.length]; exact sz5 z, fun p hp => ?_⟩⟩
    have l2 := Lm.frozen (o := .lst vs) a1 hp
    refine k _ _ ⟨_, M1, .lst ds, l1.trans l2, (a1.frozen hp).1, ?_, q⟩
    simp only [Rep]
    exact ⟨p, vs, rfl, .inr rfl, upd_same, r1.mono l2.le⟩
theorem q_lstM {es : List Expr} {tr : DAs} (h : PA X es (loA X.K O tr)) : PE X (.List es pos) (lo X.K O (dLstM tr)) :=
  PE.imp (pe_lst h) fun σ H Q h => by
    obtain ⟨F, M, ρ, Φ, A, h, k⟩ := h
    refine ⟨F, M, ρ, _, A, h, fun vs H1 F1 M1 ds l1 a1 r1 ⟨z, q⟩ => ⟨by rw [← r1.length]; exact sz5 z, fun p hp => ?_⟩⟩
    exact k _ _ ⟨F1, _, .ref p, l1.trans (Lm.newM a1 hp), a1.newM hp r1, rfl, q p (a1.fresh hp).2⟩
theorem q_if {c : Expr} {tc : DT} (hc : PT X c (loT X.K O tc)) (ha : PE X a (lo X.K O ta)) (hb : PE X b (lo X.K O tb)) : PE X (.IfExp c a b pos) (lo X.K O (dIf tc ta tb)) :=
  PE.imp (pe_ifExp hc ha hb) fun σ H Q h => by
    obtain ⟨F, M, ρ, Φ, A, h, k⟩ := h
    refine ⟨F, M, ρ, _, A, h, fun c H1 F1 M1 l1 a1 h1 => ?_⟩
    cases c with
    | true => exact ⟨F1, M1, ρ, Φ, (A.go l1 a1), h1, fun v H' q => k v H' (q.le l1)⟩
    | false => exact ⟨F1, M1, ρ, Φ, (A.go l1 a1), h1, fun v H' q => k v H' (q.le l1)⟩
theorem q_not {tc : DT} (ha : PT X a (loT X.K O tc)) : PT X (.UnaryOp .Not a pos) (loT X.K O (dNot tc)) :=
  PT.imp (pt_not ha) fun σ H Q h => by
    obtain ⟨F, M, ρ, Φ, A, h, k⟩ := h
    exact ⟨F, M, ρ, _, A, h, fun c H1 F1 M1 l1 a1 h1 => k (!c) H1 F1 M1 l1 a1 h1⟩
end
end DL
namespace DL
open PySem PySem.Spec PyProof.Rows L2
def seqL (M : MS) : D → Option (List D)
  | .lst xs => some xs
  | .ref a => match M.map a with
    | some (.lst xs) => some xs
    | _ => none
  | _ => none
/-- .. the script, tuples too -/
def seqA (M : MS) : D → Option (List D)
  | .lst xs => some xs
  | .tup xs => some xs
  | .scr ns => some (ns.map D.int)
  | .ref a => match M.map a with
    | some (.lst xs) => some xs
    | _ => none
  | _ => none
section
variable {K : PySem.W.Frag} {F F' : Addr → Prop} {H H' : Hp} {M M' : MS} {x y d : D} {v vx vy : V} {xs ds : List D} {vs : List V} {Φ : DQ} {p : Addr}
theorem seqL_rep (am : AbsM K F H M) (r : Rep K F H x v) (h : seqL M x = some xs) : ∃ a vs, v = .ref a ∧ H a = some (.lst vs) ∧ Reps K F H xs vs := by
  cases x with
  | lst ys =>
    simp only [seqL, Option.some.injEq] at h
    subst h
    simp only [Rep] at r
    obtain ⟨a, vs, e, _, h1, h2⟩ := r
    exact ⟨a, vs, e, h1, h2⟩
  | ref a =>
    simp only [seqL] at h
    split at h
    · rename_i zs e
      cases h
      obtain ⟨_, vs, h1, h2⟩ := am.mp a _ e
      exact ⟨a, vs, r, h1, h2⟩
    · cases h
  | _ => simp [seqL] at h
theorem seqA_rep (am : AbsM K F H M) (r : Rep K F H x v) (h : seqA M x = some xs) : ∃ a vs, v = .ref a ∧ (SqL K H a vs ∨ SqT K H a vs) ∧ Reps K F H xs vs := by
  cases x with
  | lst ys =>
    simp only [seqA, Option.some.injEq] at h
    subst h
    simp only [Rep] at r
    obtain ⟨a, vs, e, _, h1, h2⟩ := r
    exact ⟨a, vs, e, .inl (SqL.of h1), h2⟩
  | tup ys =>
    simp only [seqA, Option.some.injEq] at h
    subst h
    simp only [Rep] at r
    obtain ⟨a, vs, e, h1, h2⟩ := r
    exact ⟨a, vs, e, .inr h1, h2⟩
  | scr ns =>
    simp only [seqA, Option.some.injEq] at h
    subst h
    simp only [Rep] at r
    obtain ⟨a, e, h1⟩ := r
    exact ⟨a, _, e, .inl h1.sq, Reps.ints ns⟩
  | ref a =>
    simp only [seqA] at h
    split at h
    · rename_i zs e
      cases h
      obtain ⟨_, vs, h1, h2⟩ := am.mp a _ e
      exact ⟨a, vs, r, .inl (SqL.of h1), h2⟩
    · cases h
  | _ => simp [seqA] at h
theorem new_lst (am : AbsM K F H M) (r : Reps K F H ds vs) (q : Φ (.lst ds) M) (hp : H p = none) : loQ K F H M Φ (.ref p) (upd H p (.lst vs)) := by
  have l := Lm.frozen (o := .lst vs) am hp
  refine ⟨_, M, .lst ds, l, (am.frozen hp).1, ?_, q⟩
  simp only [Rep]
  exact ⟨p, vs, rfl, .inr rfl, upd_same, r.mono l.le⟩
theorem new_tup (am : AbsM K F H M) (r : Reps K F H ds vs) (q : Φ (.tup ds) M) (hp : H p = none) : loQ K F H M Φ (.ref p) (upd H p (.tup vs)) := by
  have l := Lm.laid (o := .tup vs) am hp
  refine ⟨F, M, .tup ds, l, am.laid hp, ?_, q⟩
  simp only [Rep]
  exact ⟨p, vs, rfl, .inl (.inl upd_same), r.mono l.le⟩
theorem hI {i : Int} (a : AbsM K F H M) (q : Φ (.int i) M) : loQ K F H M Φ (.int i) H := ⟨F, M, .int i, Lm.refl, a, by simp only [Rep], q⟩
theorem hB {b : Bool} (a : AbsM K F H M) (q : Φ (.bl b) M) : loQ K F H M Φ (.bl b) H := ⟨F, M, .bl b, Lm.refl, a, by simp only [Rep], q⟩
theorem hS {z : Str} (a : AbsM K F H M) (q : Φ (.str z) M) : loQ K F H M Φ (.str z) H := ⟨F, M, .str z, Lm.refl, a, by simp only [Rep], q⟩
theorem hN (a : AbsM K F H M) (q : Φ .non M) : loQ K F H M Φ .non H := ⟨F, M, .non, Lm.refl, a, by simp only [Rep], q⟩
theorem rep_tup (h : Rep K F H (.tup xs) v) : ∃ a vs, v = .ref a ∧ SqT K H a vs ∧ Reps K F H xs vs := by simpa only [Rep] using h
theorem rep_int {i : Int} (h : Rep K F H (.int i) v) : v = .int i := h
theorem rep_str {z : Str} (h : Rep K F H (.str z) v) : v = .str z := h
end
theorem flat_nil {α : Type} : ∀ n : Nat, (List.replicate n ([] : List α)).flatten = []
  | 0 => rfl
  | n + 1 => by rw [List.replicate_succ, List.flatten_cons, flat_nil n]; rfl
theorem mul_same (l : Addr) (items : Array Value) (n : Nat) (dd : Option Addr) (sl : Array (Option Value)) (x : Int) (u : Tok) (c0 : (decide (x < -(2 ^ 63)) || decide (x ≥ 2 ^ 63)) = false) (c1 : (items.isEmpty || x == 1) = true) :
    Meets (Builtin.«tuple.__mul__» ⟨[.ref l, .int x u], []⟩) (fun _ R s => s.heap.get? l = some { cls := .type "tuple", dict := dd, data := .seq items n, slots := sl } ∧ R (.ok (.ret (.ref l))) s) :=
  .of_wp fun prog w A R s h => by
    rcases s with ⟨hp, g, d, tk, os⟩
    rcases h with ⟨hl, h⟩
    have f1 := AutoSeq1.idx_int
    wp_walk using AutoSeq1.wpAny_loadPart' hl
    repeat (first
      | (refine wpAny_ite_false (decide_eq_false (by rw [c0]; exact Bool.false_ne_true)) ?_; wp_walk using AutoSeq1.wpAny_loadPart' hl)
      | (refine wpAny_ite_true (decide_eq_true c1) ?_; wp_walk using AutoSeq1.wpAny_loadPart' hl))
    exact ⟨_, rfl, h⟩
theorem mul_zero' (l : Addr) (items : Array Value) (n : Nat) (dd : Option Addr) (sl : Array (Option Value)) (x : Int) (u : Tok) (c0 : (decide (x < -(2 ^ 63)) || decide (x ≥ 2 ^ 63)) = false) (c1 : (items.isEmpty || x == 1) = false) (c2 : (decide (x ≤ 0) || items.isEmpty) = true) :
    Meets (Builtin.«tuple.__mul__» ⟨[.ref l, .int x u], []⟩) (fun _ R s => s.heap.get? l = some { cls := .type "tuple", dict := dd, data := .seq items n, slots := sl } ∧
      R (.ok (.ret (Value.ref s.heap.objs.size))) { s with heap := s.heap.push { cls := Value.type "tuple", data := Data.seq #[] }, toks := s.toks }) :=
  .of_wp fun prog w A R s h => by
    rcases s with ⟨hp, g, d, tk, os⟩
    rcases h with ⟨hl, h⟩
    have f1 := AutoSeq1.idx_int
    have z0 : (#[] : Array Value).size ≤ sizeLine := Nat.zero_le _
    wp_walk using AutoSeq1.wpAny_loadPart' hl
    repeat (first
      | (refine wpAny_ite_false (decide_eq_false (by rw [c0]; exact Bool.false_ne_true)) ?_; wp_walk using AutoSeq1.wpAny_loadPart' hl)
      | (refine wpAny_ite_false (decide_eq_false (by rw [c1]; exact Bool.false_ne_true)) ?_; wp_walk using AutoSeq1.wpAny_loadPart' hl)
      | (refine wpAny_ite_true (decide_eq_true c2) ?_; wp_walk using AutoSeq1.wpAny_loadPart' hl)
      | (refine wpAny_ite_false (decide_eq_false (Nat.not_lt.mpr z0)) ?_; wp_walk using AutoSeq1.wpAny_loadPart' hl))
    exact ⟨_, rfl, h⟩
section
variable {X : Cx} {pins : List (Addr × Obj)} {σ : L2.St} {H : Hp} {s : Shared} {v u : Value} {a : Addr} {vs : List V} {n : Int} {Q : VK}
variable {O : Og X.K}
theorem mul_road (I : Inv X pins σ H s) (r1 : RelV (.ref a) v) (r2 : RelV (.int n) u) (ht : SqT X.K H a vs)
    (k : ∀ (its : List Value) (m : Nat) (dd : Option Addr) (sl : Array (Option Value)) (t : Tok), its.length = vs.length → s.heap.get? a = some { cls := .type "tuple", dict := dd, data := .seq its.toArray m, slots := sl } →
      ∃ S : PySem.Spec, Meets (Builtin.«tuple.__mul__» ⟨[.ref a, .int n t], []⟩) S ∧ S X.A (wants (EP X pins σ Q) X.xe) s) : wpAny (model X.prog X.w) X.A (binaryOp .Mult v u) (EP X pins σ Q) X.xe s := by
  cases r1
  obtain ⟨t, rfl⟩ := r2
  obtain ⟨its, r, ⟨⟨cls, dd, data, sl⟩, ho, hc, m, hd⟩, hs⟩ := I.tuple ht
  simp only at hc hd
  subst hc hd
  obtain ⟨S, g, hS⟩ := k its m dd sl t r.length.symm ho
  exact wpAny_binaryOp_repeat_ref (T := "tuple") (U := "int") (by decide) ⟨_, ho, rfl⟩ (fun s' => typeIs_int s' n t) noFill_tuple_mul F.fills_int_mul F.slot_int_rmul repeat_tuple F.slot_int_index.lookup
    (call_meets F.slot_int_rmul (typeIs_int s n t) F.entry_int_rmul (F.args_int_rmul_2 _ _) (int_rmul_tuple n t a its.toArray m dd sl) ⟨ho, rfl, ⟨_, ho, rfl⟩, call_meets F.slot_tuple_mul ⟨_, ho, rfl⟩ F.entry_tuple_mul (F.args_tuple_mul_2 _ _) g hS⟩)
theorem fits63 (h1 : -(2 ^ 63) ≤ n) (h2 : n < 2 ^ 63) : (decide (n < -(2 ^ 63)) || decide (n ≥ 2 ^ 63)) = false := by
  rw [decide_eq_false (by omega), decide_eq_false (by omega)]
  rfl
theorem rep_same (I : Inv X pins σ H s) (r1 : RelV (.ref a) v) (r2 : RelV (.int n) u) (ht : SqT X.K H a vs) (hs : vs = [] ∨ n = 1) (h1 : -(2 ^ 63) ≤ n) (h2 : n < 2 ^ 63) (q : Q (.ref a) H) : wpAny (model X.prog X.w) X.A (binaryOp .Mult v u) (EP X pins σ Q) X.xe s :=
  mul_road I r1 r2 ht fun its m dd sl t hl ho => ⟨_, mul_same a its.toArray m dd sl n t (fits63 h1 h2) (by
    rcases hs with z | z
    · subst z
      have : its = [] := List.eq_nil_of_length_eq_zero hl
      subst this
      rfl
    · subst z; simp), ho, .ref a, H, I, rfl, q⟩
theorem rep_zero (I : Inv X pins σ H s) (r1 : RelV (.ref a) v) (r2 : RelV (.int n) u) (ht : SqT X.K H a vs) (hne : vs ≠ []) (h1 : -(2 ^ 63) ≤ n) (h2 : n ≤ 0) (q : ∀ p, H p = none → Q (.ref p) (upd H p (.tup []))) :
    wpAny (model X.prog X.w) X.A (binaryOp .Mult v u) (EP X pins σ Q) X.xe s :=
  mul_road I r1 r2 ht fun its m dd sl t hl ho => by
    have hi : its.toArray.isEmpty = false := by
      cases its with
      | nil => exact absurd (List.eq_nil_of_length_eq_zero hl.symm) hne
      | cons _ _ => rfl
    refine ⟨_, mul_zero' a its.toArray m dd sl n t (fits63 h1 (by omega)) (by rw [hi, Bool.false_or]; exact beq_eq_false_iff_ne.mpr (by omega)) (by rw [decide_eq_true h2]; rfl), ho, ?_⟩
    exact ⟨.ref s.heap.objs.size, _, I.laid (t' := s.toks) (o := .tup []) (fun b ob q => Heap.get?_push_of_some _ q) (Nat.le_refl _) ⟨Nat.zero_le _, [], .nil, IsTup.new _ _⟩, rfl, q _ (I.hok.fresh (Nat.le_refl _))⟩
end
def rAdd (x y : D) (M : MS) (Φ : DQ) : Prop := match x with
  | .int i => (match y with
    | .int j => Φ (.int (i + j)) M
    | _ => False)
  | .tup xs => (match y with
    | .tup ys => xs.length + ys.length ≤ 100000 ∧ Φ (.tup (xs ++ ys)) M
    | _ => False)
  | .str a => (match y with
    | .str b => a.length + b.length ≤ 100000 ∧ Φ (.str (a ++ b)) M
    | _ => False)
  | x => (match seqL M x, seqL M y with
    | some xs, some ys => xs.length + ys.length ≤ 100000 ∧ Φ (.lst (xs ++ ys)) M
    | _, _ => False)
def rSub (x y : D) (M : MS) (Φ : DQ) : Prop := match x, y with
  | .int i, .int j => Φ (.int (i - j)) M
  | _, _ => False
def rMul (x y : D) (M : MS) (Φ : DQ) : Prop := match x with
  | .int i => (match y with
    | .int j => CMul i j ∧ Φ (.int (i * j)) M
    | _ => False)
  | .tup xs => (match y with
    | .int k => -(2 ^ 63) ≤ k ∧ k ≤ 1000 ∧ xs.length ≤ 1000 ∧ Φ (.tup (List.replicate k.toNat xs).flatten) M
    | _ => False)
  | x => (match seqL M x with
    | some xs => (match y with
      | .int k => -(2 ^ 63) ≤ k ∧ k < 2 ^ 63 ∧ xs.length * k.toNat ≤ 100000 ∧ Φ (.lst (List.replicate k.toNat xs).flatten) M
      | _ => False)
    | none => False)
def rDiv (x y : D) (M : MS) (Φ : DQ) : Prop := match x, y with
  | .int i, .int j => 0 < j ∧ j < 1073741824 ∧ Φ (.int (i / j)) M
  | _, _ => False
def rMod (x y : D) (M : MS) (Φ : DQ) : Prop := match x, y with
  | .int i, .int j => 0 < j ∧ Φ (.int (i % j)) M
  | _, _ => False
def rPow (x y : D) (M : MS) (Φ : DQ) : Prop := match x, y with
  | .int i, .int j => CPow i j ∧ Φ (.int (i ^ j.toNat)) M
  | _, _ => False
def rNeg (x : D) (M : MS) (Φ : DQ) : Prop := match x with
  | .int i => Φ (.int (-i)) M
  | _ => False
section
variable {X : Cx}
variable {O : Og X.K}
theorem o_add : OpR X (binaryOp .Add) (loR X.K rAdd) := by
  rintro pins s σ H vx vy v u Q I r1 r2 ⟨F, M, x, y, Φ, am, rx, ry, h, k⟩
  have lists : ∀ {xs ys : List D}, seqL M x = some xs → seqL M y = some ys → xs.length + ys.length ≤ 100000 → Φ (.lst (xs ++ ys)) M → wpAny (model X.prog X.w) X.A (binaryOp .Add v u) (EP X pins σ Q) X.xe s := by
    intro xs ys ex ey hz q
    obtain ⟨a, vs, e1, h1, p1⟩ := seqL_rep am rx ex
    obtain ⟨b, ws, e2, h2, p2⟩ := seqL_rep am ry ey
    refine op_cat pins s σ H vx vy v u Q I r1 r2 ⟨a, b, vs, ws, e1, e2, h1, h2, by rw [← p1.length, ← p2.length]; exact sz5 hz, fun p hp => k _ _ (new_lst am (p1.append p2) q hp)⟩
  cases x with
  | int i =>
    cases y with
    | int j => exact op_add pins s σ H vx vy v u Q I r1 r2 ⟨i, j, rx, ry, k _ _ (hI am h)⟩
    | _ => exact (show False from h).elim
  | tup xs =>
    cases y with
    | tup ys =>
      obtain ⟨hz, q⟩ := h
      obtain ⟨a, vs, e1, h1, p1⟩ := rep_tup rx
      obtain ⟨b, ws, e2, h2, p2⟩ := rep_tup ry
      subst e1 e2
      have n1 := p1.length
      have n2 := p2.length
      refine op_catA pins s σ H _ _ v u Q I r1 r2 ⟨a, b, vs, ws, rfl, rfl, h1, h2, by rw [← n1, ← n2]; exact sz5 hz, fun z => ?_, fun _ z => ?_, fun _ _ p hp => k _ _ (new_tup am (p1.append p2) q hp)⟩
      · subst z
        cases xs with
        | nil => exact k _ _ (loQ.here am ry q)
        | cons _ _ => simp at n1
      · subst z
        cases ys with
        | nil => rw [List.append_nil] at q; exact k _ _ (loQ.here am rx q)
        | cons _ _ => simp at n2
    | _ => exact (show False from h).elim
  | str a =>
    cases y with
    | str b => exact op_add_str pins s σ H vx vy v u Q I r1 r2 ⟨a, b, rx, ry, sz5 h.1, k _ _ (hS am h.2)⟩
    | _ => exact (show False from h).elim
  | _ =>
    simp only [rAdd] at h
    split at h
    · rename_i xs ys e1 e2
      exact lists e1 e2 h.1 h.2
    · exact h.elim
theorem o_sub : OpR X (binaryOp .Sub) (loR X.K rSub) := by
  rintro pins s σ H vx vy v u Q I r1 r2 ⟨F, M, x, y, Φ, am, rx, ry, h, k⟩
  unfold rSub at h
  split at h
  · rename_i i j
    exact op_sub pins s σ H vx vy v u Q I r1 r2 ⟨i, j, rx, ry, k _ _ (hI am h)⟩
  · exact h.elim
theorem o_mul : OpR X (binaryOp .Mult) (loR X.K rMul) := by
  rintro pins s σ H vx vy v u Q I r1 r2 ⟨F, M, x, y, Φ, am, rx, ry, h, k⟩
  have lists : ∀ {xs : List D} {n : Int}, seqL M x = some xs → y = .int n → -(2 ^ 63) ≤ n → n < 2 ^ 63 → xs.length * n.toNat ≤ 100000 → Φ (.lst (List.replicate n.toNat xs).flatten) M → wpAny (model X.prog X.w) X.A (binaryOp .Mult v u) (EP X pins σ Q) X.xe s := by
    intro xs n ex ey b1 b2 hz q
    subst ey
    obtain ⟨a, vs, e1, h1, p1⟩ := seqL_rep am rx ex
    refine op_rep pins s σ H vx vy v u Q I r1 r2 ⟨a, n, vs, e1, ry, h1, b1, b2, by rw [← p1.length]; exact sz5 hz, fun p hp => k _ _ (new_lst am (p1.rep _) q hp)⟩
  cases x with
  | int i =>
    cases y with
    | int j => exact op_mul pins s σ H vx vy v u Q I r1 r2 ⟨i, j, rx, ry, h.1, k _ _ (hI am h.2)⟩
    | _ => exact (show False from h).elim
  | tup xs =>
    cases y with
    | int n =>
      obtain ⟨h1, h2, h3, q⟩ := h
      obtain ⟨a, vs, e1, ht, p1⟩ := rep_tup rx
      subst e1
      have hl := p1.length
      by_cases hs : vs = [] ∨ n = 1
      · refine rep_same I r1 (show RelV (.int n) u from ry ▸ r2) ht hs h1 (by omega) (k _ _ (loQ.here am rx ?_))
        have e : (List.replicate n.toNat xs).flatten = xs := by
          rcases hs with z | z
          · subst z
            have : xs = [] := List.eq_nil_of_length_eq_zero hl
            subst this
            exact flat_nil _
          · subst z
            show [xs].flatten = xs
            simp
        rw [← e]
        exact q
      · by_cases hz : n ≤ 0
        · refine rep_zero I r1 (show RelV (.int n) u from ry ▸ r2) ht (fun z => hs (.inl z)) h1 hz fun p hp => k _ _ ?_
          have e : (List.replicate n.toNat xs).flatten = [] := by
            rw [show n.toNat = 0 by omega]; rfl
          rw [e] at q
          exact new_tup am Reps.nil q hp
        · refine op_repT pins s σ H _ _ v u Q I r1 r2 ⟨a, n, vs, rfl, ry, ht, fun z => hs (.inl z), by omega, h2, by rw [← p1.length]; exact h3, fun p hp => k _ _ (new_tup am (p1.rep _) q hp)⟩
    | _ => exact (show False from h).elim
  | _ =>
    simp only [rMul] at h
    split at h
    · rename_i xs e1
      split at h
      · rename_i n
        exact lists e1 rfl h.1 h.2.1 h.2.2.1 h.2.2.2
      · exact h.elim
    · exact h.elim
theorem o_div : OpR X (binaryOp .FloorDiv) (loR X.K rDiv) := by
  rintro pins s σ H vx vy v u Q I r1 r2 ⟨F, M, x, y, Φ, am, rx, ry, h, k⟩
  unfold rDiv at h
  split at h
  · rename_i i j
    exact op_fdiv pins s σ H vx vy v u Q I r1 r2 ⟨i, j, rx, ry, ⟨h.1, h.2.1⟩, k _ _ (hI am h.2.2)⟩
  · exact h.elim
theorem o_mod : OpR X (binaryOp .Mod) (loR X.K rMod) := by
  rintro pins s σ H vx vy v u Q I r1 r2 ⟨F, M, x, y, Φ, am, rx, ry, h, k⟩
  unfold rMod at h
  split at h
  · rename_i i j
    exact op_mod pins s σ H vx vy v u Q I r1 r2 ⟨i, j, rx, ry, h.1, k _ _ (hI am h.2)⟩
  · exact h.elim
theorem o_pow : OpR X (binaryOp .Pow) (loR X.K rPow) := by
  rintro pins s σ H vx vy v u Q I r1 r2 ⟨F, M, x, y, Φ, am, rx, ry, h, k⟩
  unfold rPow at h
  split at h
  · rename_i i j
    exact op_pow pins s σ H vx vy v u Q I r1 r2 ⟨i, j, rx, ry, h.1, k _ _ (hI am h.2)⟩
  · exact h.elim
theorem o_neg : UnR X (unaryOp .USub) (loU X.K rNeg) := by
  rintro pins s σ H vx v Q I r1 ⟨F, M, x, Φ, am, rx, h, k⟩
  unfold rNeg at h
  split at h
  · rename_i i
    exact un_neg pins s σ H vx v Q I r1 ⟨i, rx, k _ _ (hI am h)⟩
  · exact h.elim
end
def rCmp (f : Int → Int → Bool) (x y : D) (M : MS) (Φ : DQ) : Prop := match x, y with
  | .int i, .int j => Φ (.bl (f i j)) M
  | _, _ => False
abbrev rLe := rCmp fun i j => decide (i ≤ j)
abbrev rGt := rCmp fun i j => decide (j < i)
abbrev rGe := rCmp fun i j => decide (j ≤ i)
section
variable {X : Cx}
variable {O : Og X.K}
theorem o_cmp {op : CmpOp} {f : Int → Int → Bool} (ho : OpR X (compareOp op) (rI0 fun i j => .bl (f i j))) : OpR X (compareOp op) (loR X.K (rCmp f)) := by
  rintro pins s σ H vx vy v u Q I r1 r2 ⟨F, M, x, y, Φ, am, rx, ry, h, k⟩
  unfold rCmp at h
  split at h
  · rename_i i j
    exact ho pins s σ H vx vy v u Q I r1 r2 ⟨i, j, rx, ry, k _ _ (hB am h)⟩
  · exact h.elim
end
mutual
def snap (M : MS) : D → D
  | .tup xs => .tup (snaps M xs)
  | .lst xs => .lst (snaps M xs)
  | .dic ks xs => .dic ks (snaps M xs)
  | .ref a => match M.map a with
    | some (.lst ds) => .lst ds
    | _ => .ref a
  | d => d
def snaps (M : MS) : List D → List D
  | [] => []
  | x :: xs => snap M x :: snaps M xs
end
def keyPy : Key → PyData
  | .inl i => .int i
  | .inr x => .str x
mutual
def toPy : D → PyData
  | .non => .none
  | .bl b => .bool b
  | .int i => .int i
  | .str s => .str s
  | .tup xs => .tuple (toPys xs)
  | .lst xs => .list (toPys xs)
  | .dic ks xs => .dict ((ks.map keyPy).zip (toPys xs))
  | .scr ns => .list (ns.map .int)
  | .ref _ => .none
  | .ty _ => .none
  | .obj _ _ _ _ => .none
def toPys : List D → List PyData
  | [] => []
  | x :: xs => toPy x :: toPys xs
end
mutual
def still : D → Bool
  | .tup xs => stills xs
  | .lst xs => stills xs
  | .dic ks xs => stills xs && (ks.length == xs.length)
  | .ref _ => false
  | .scr _ => false
  | .ty _ => false
  | .obj _ _ _ _ => false
  | _ => true
def stills : List D → Bool
  | [] => true
  | x :: xs => still x && stills xs
end
mutual
def plain : D → Bool
  | .tup xs => plains xs
  | .lst xs => plains xs
  | .dic _ _ => false
  | .ref _ => false
  | .scr _ => false
  | .ty _ => false
  | .obj _ _ _ _ => false
  | .str z => PyData.strOk z
  | _ => true
def plains : List D → Bool
  | [] => true
  | x :: xs => plain x && plains xs
end
mutual
def dep : D → Nat
  | .tup xs => deps xs + 1
  | .lst xs => deps xs + 1
  | .dic _ xs => deps xs + 1
  | _ => 0
def deps : List D → Nat
  | [] => 0
  | x :: xs => max (dep x) (deps xs)
end
mutual
def eqd : D → D → Bool
  | .non, .non => true
  | .bl a, .bl b => a == b
  | .bl a, .int j => (if a then 1 else 0) == j
  | .int i, .bl b => i == (if b then 1 else 0)
  | .int i, .int j => i == j
  | .str x, .str y => x == y
  | .lst xs, .lst ys => eqds xs ys
  | .tup xs, .tup ys => eqds xs ys
  | _, _ => false
def eqds : List D → List D → Bool
  | [], [] => true
  | x :: xs, y :: ys => eqd x y && eqds xs ys
  | _, _ => false
end
mutual
theorem eqv_toPy : ∀ (x y : D), plain x = true → plain y = true → PyData.eqv (toPy x) (toPy y) = eqd x y
  | x, y, hx, hy => by
    cases x <;> cases y <;> (first
      | rfl
      | (exact absurd (show false = true from hx) Bool.false_ne_true)
      | (exact absurd (show false = true from hy) Bool.false_ne_true)
      | (simp only [toPy, PyData.eqv, eqd]; try exact eqvAll_toPys _ _ (by simpa [plain] using hx) (by simpa [plain] using hy)))
theorem eqvAll_toPys : ∀ (xs ys : List D), plains xs = true → plains ys = true → PyData.eqvAll (toPys xs) (toPys ys) = eqds xs ys
  | [], [], _, _ => rfl
  | [], _ :: _, _, _ => rfl
  | _ :: _, [], _, _ => rfl
  | x :: xs, y :: ys, hx, hy => by
    simp only [plains, Bool.and_eq_true] at hx hy
    simp only [toPys, PyData.eqvAll, eqds, eqv_toPy x y hx.1 hy.1, eqvAll_toPys xs ys hx.2 hy.2]
end
mutual
theorem canLay_toPy : ∀ x : D, plain x = true → (toPy x).canLay0 = true
  | .non, _ => rfl
  | .bl _, _ => rfl
  | .int _, _ => rfl
  | .str z, h => by simpa only [toPy, PyData.canLay0, plain] using h
  | .tup xs, h => by simp only [toPy, PyData.canLay0]; exact canLay_toPys xs (by simpa only [plain] using h)
  | .lst xs, h => by simp only [toPy, PyData.canLay0]; exact canLay_toPys xs (by simpa only [plain] using h)
  | .dic _ _, h => absurd (show false = true from h) Bool.false_ne_true
  | .ref _, h => absurd (show false = true from h) Bool.false_ne_true
  | .ty _, h => absurd (show false = true from h) Bool.false_ne_true
  | .obj _ _ _ _, h => absurd (show false = true from h) Bool.false_ne_true
  | .scr _, h => absurd (show false = true from h) Bool.false_ne_true
theorem canLay_toPys : ∀ xs : List D, plains xs = true → PyData.canLayAll0 (toPys xs) = true
  | [], _ => rfl
  | x :: xs, h => by
    simp only [plains, Bool.and_eq_true] at h
    simp only [toPys, PyData.canLayAll0, canLay_toPy x h.1, canLay_toPys xs h.2, Bool.and_self]
end
mutual
theorem depth_toPy : ∀ x : D, plain x = true → (toPy x).depth = dep x
  | .non, _ => rfl
  | .bl _, _ => rfl
  | .int _, _ => rfl
  | .str z, h => rfl
  | .tup xs, h => by simp only [toPy, PyData.depth, dep]; rw [depth_toPys xs (by simpa only [plain] using h)]
  | .lst xs, h => by simp only [toPy, PyData.depth, dep]; rw [depth_toPys xs (by simpa only [plain] using h)]
  | .dic _ _, h => absurd (show false = true from h) Bool.false_ne_true
  | .ref _, h => absurd (show false = true from h) Bool.false_ne_true
  | .ty _, h => absurd (show false = true from h) Bool.false_ne_true
  | .obj _ _ _ _, h => absurd (show false = true from h) Bool.false_ne_true
  | .scr _, h => absurd (show false = true from h) Bool.false_ne_true
theorem depth_toPys : ∀ xs : List D, plains xs = true → PyData.depthAll (toPys xs) = deps xs
  | [], _ => rfl
  | x :: xs, h => by
    simp only [plains, Bool.and_eq_true] at h
    simp only [toPys, PyData.depthAll, deps, depth_toPy x h.1, depth_toPys xs h.2]
end
theorem shaped_toPy {x : D} (h : plain x = true) (hd : dep x ≤ 64) : SeqAt.shaped (toPy x) = true := by
  unfold SeqAt.shaped
  rw [canLay_toPy x h, depth_toPy x h]
  simp [hd]
end DL
namespace DL
open PySem PySem.Spec PyProof.Rows L2
mutual
def hasDic : D → Bool
  | .tup xs => hasDics xs
  | .lst xs => hasDics xs
  | .dic _ _ => true
  | _ => false
def hasDics : List D → Bool
  | [] => false
  | x :: xs => hasDic x || hasDics xs
end
mutual
def noLst : D → Bool
  | .tup xs => noLsts xs
  | .lst _ => false
  | .dic _ xs => noLsts xs
  | _ => true
def noLsts : List D → Bool
  | [] => true
  | x :: xs => noLst x && noLsts xs
end
theorem depthKv_zip : ∀ (ks : List Key) (ps : List PyData), PyData.depthKv ((ks.map keyPy).zip ps) ≤ PyData.depthAll ps
  | [], _ => by simp [PyData.depthKv]
  | k :: ks, [] => by simp [PyData.depthKv]
  | k :: ks, p :: ps => by
    have h := depthKv_zip ks ps
    have e : (keyPy k).depth = 0 := by cases k <;> rfl
    simp only [List.map_cons, List.zip_cons_cons, PyData.depthKv, PyData.depthAll, e]
    omega
mutual
theorem depth_le : ∀ d : D, still d = true → (toPy d).depth ≤ dep d
  | .non, _ => Nat.le_refl _
  | .bl _, _ => Nat.le_refl _
  | .int _, _ => Nat.le_refl _
  | .str _, _ => Nat.le_refl _
  | .tup xs, h => by simp only [toPy, PyData.depth, dep]; exact Nat.succ_le_succ (depths_le xs (by simpa only [still] using h))
  | .lst xs, h => by simp only [toPy, PyData.depth, dep]; exact Nat.succ_le_succ (depths_le xs (by simpa only [still] using h))
  | .dic ks xs, h => by
    simp only [still, Bool.and_eq_true] at h
    simp only [toPy, PyData.depth, dep]
    exact Nat.succ_le_succ (Nat.le_trans (depthKv_zip ks _) (depths_le xs h.1))
  | .ref _, h => absurd (show false = true from h) Bool.false_ne_true
  | .scr _, h => absurd (show false = true from h) Bool.false_ne_true
  | .ty _, h => absurd (show false = true from h) Bool.false_ne_true
  | .obj _ _ _ _, h => absurd (show false = true from h) Bool.false_ne_true
theorem depths_le : ∀ xs : List D, stills xs = true → PyData.depthAll (toPys xs) ≤ deps xs
  | [], _ => Nat.le_refl _
  | x :: xs, h => by
    simp only [stills, Bool.and_eq_true] at h
    simp only [toPys, PyData.depthAll, deps]
    have h1 := depth_le x h.1
    have h2 := depths_le xs h.2
    omega
end
theorem toPys_length : ∀ xs : List D, (toPys xs).length = xs.length
  | [] => rfl
  | x :: xs => by simp [toPys, toPys_length xs]
theorem readsAll_of {h : Heap} : ∀ {us : List Value} {ks : List Key}, Paired (fun k u => keyIs k u = true) ks us → ReadsAll h us (ks.map keyPy) []
  | _, _, .nil => .nil
  | _, k :: ks, .cons (b := u) r t => by
    have := readsAll_of (h := h) t
    have hr : Reads h u (keyPy k) [] := by
      rcases keyIs_shape r with ⟨i, t, rfl, rfl⟩ | ⟨x, t, rfl, rfl⟩
      · exact .int i t
      · exact .str x t
    exact .cons hr this
theorem kv_split {kvs : List (Key × V)} {vs : List (Key × Value)} : KV kvs vs → kvs.map (·.1) = vs.map (·.1) ∧ Vals (kvs.map (·.2)) (vs.map (·.2))
  | .nil => ⟨rfl, .nil⟩
  | .cons r t => by
    obtain ⟨a, b⟩ := kv_split t
    exact ⟨by simp only [List.map_cons, a, r.1], .cons r.2 b⟩
theorem pairs_split {P : Program} {w : World} : ∀ {es : List DictEntry} {kvs : List (Key × Value)}, Pairs (mixKind P w) es kvs → Paired (fun k u => keyIs k u = true) (kvs.map (·.1)) (es.map (·.key)) ∧ es.map (·.val) = kvs.map (·.2)
  | _, _, .nil => ⟨.nil, rfl⟩
  | _, _, .cons r e t => by
    obtain ⟨a, b⟩ := pairs_split t
    exact ⟨.cons r a, by simp only [List.map_cons, b, e]⟩
section
variable {X : Cx} {pins : List (Addr × Obj)} {σ : L2.St} {H : Hp} {s : Shared} {F : Addr → Prop} {M : MS}
variable {O : Og X.K}
mutual
theorem Rep.reads (I : Inv X pins σ H s) : ∀ (d : D) (v : V) (u : Value), Rep X.K F H d v → RelV v u → still d = true → ∃ as, Reads s.heap u (toPy d) as ∧ (H sysModules = none → sysModules ∉ as)
  | .non, v, u, h, r, _ => by
    have : v = .non := h
    subst this; cases r
    exact ⟨_, .none, by simp⟩
  | .bl b, v, u, h, r, _ => by
    have : v = .bl b := h
    subst this; cases r
    exact ⟨_, .bool b, by simp⟩
  | .int i, v, u, h, r, _ => by
    have : v = .int i := h
    subst this
    obtain ⟨t, rfl⟩ := r
    exact ⟨_, .int i t, by simp⟩
  | .str z, v, u, h, r, _ => by
    have : v = .str z := h
    subst this
    obtain ⟨t, rfl⟩ := r
    exact ⟨_, .str z t, by simp⟩
  | .tup xs, v, u, h, r, hs => by
    simp only [Rep] at h
    obtain ⟨a, vs, e, hq, hr⟩ := h
    subst e; cases r
    obtain ⟨its, rv, ⟨o, ho, hc, n, hd⟩, _⟩ := I.tuple hq
    obtain ⟨as, q, hn⟩ := Reps.reads I xs vs its hr rv (by simpa only [still] using hs)
    exact ⟨_, .tuple ho hc hd q, hn⟩
  | .lst xs, v, u, h, r, hs => by
    simp only [Rep] at h
    obtain ⟨a, vs, e, _, hq, hr⟩ := h
    subst e; cases r
    obtain ⟨its, rv, ⟨o, n, ho, hc, _, hd⟩, _⟩ := I.list (SqL.of hq)
    obtain ⟨as, q, hn⟩ := Reps.reads I xs vs its hr rv (by simpa only [still] using hs)
    exact ⟨_, .list ho hc hd q, fun hz => by
      simp only [List.mem_cons, not_or]
      exact ⟨fun w => by (rw [← w, hz] at hq; cases hq), hn hz⟩⟩
  | .dic ks xs, v, u, h, r, hs => by
    simp only [still, Bool.and_eq_true, beq_iff_eq] at hs
    simp only [Rep] at h
    obtain ⟨a, vs, e, _, hq, hl, hr⟩ := h
    subst e; cases r
    obtain ⟨_, hne, kvs, hkv, o, es, n, ho, hc, hd, _, hp, _⟩ := I.hok a _ hq
    obtain ⟨e1, rv⟩ := kv_split hkv
    have hkl : (ks.zip vs).map (·.1) = ks := by rw [List.map_fst_zip]; rw [← hr.length, hl]; exact Nat.le_refl _
    have hvl : (ks.zip vs).map (·.2) = vs := by rw [List.map_snd_zip]; rw [← hr.length, hl]; exact Nat.le_refl _
    rw [hkl] at e1
    rw [hvl] at rv
    obtain ⟨pk, pv⟩ := pairs_split hp
    rw [← e1] at pk
    rw [← pv] at rv
    obtain ⟨as, q, hn⟩ := Reps.reads I xs vs _ hr rv hs.1
    have hpl : (toPys xs).length = ks.length := by rw [toPys_length, ← hs.2]
    refine ⟨_, .dict (kvs := (ks.map keyPy).zip (toPys xs)) ho hc.1 hd (as := []) (bs := as) ?_ ?_, fun hz => ?_⟩
    · rw [List.map_fst_zip (by simp [hpl])]
      exact readsAll_of pk
    · rw [List.map_snd_zip (by simp [hpl])]
      exact q
    · simp only [List.append_nil, List.singleton_append, List.mem_cons, not_or]
      exact ⟨fun w => by (subst w; simp at hne), hn hz⟩
  | .ref _, _, _, _, _, hs => absurd (show false = true from hs) Bool.false_ne_true
  | .scr _, _, _, _, _, hs => absurd (show false = true from hs) Bool.false_ne_true
  | .ty _, _, _, _, _, hs => absurd (show false = true from hs) Bool.false_ne_true
  | .obj _ _ _ _, _, _, _, _, hs => absurd (show false = true from hs) Bool.false_ne_true
theorem Reps.reads (I : Inv X pins σ H s) : ∀ (ds : List D) (vs : List V) (us : List Value), Reps X.K F H ds vs → Vals vs us → stills ds = true → ∃ as, ReadsAll s.heap us (toPys ds) as ∧ (H sysModules = none → sysModules ∉ as)
  | [], vs, us, h, r, _ => by
    simp only [Reps] at h
    subst h; cases r
    exact ⟨_, .nil, by simp⟩
  | d :: ds, vs, us, h, r, hs => by
    simp only [stills, Bool.and_eq_true] at hs
    simp only [Reps] at h
    obtain ⟨v, vr, e, h1, h2⟩ := h
    subst e
    cases r with
    | cons r1 r2 =>
      obtain ⟨as, q1, n1⟩ := Rep.reads I d v _ h1 r1 hs.1
      obtain ⟨bs, q2, n2⟩ := Reps.reads I ds vr _ h2 r2 hs.2
      refine ⟨_, .cons q1 q2, fun hz => ?_⟩
      simp only [List.mem_append, not_or]
      exact ⟨n1 hz, n2 hz⟩
end
end
theorem snaps_length {M : MS} : ∀ xs : List D, (snaps M xs).length = xs.length
  | [] => rfl
  | x :: xs => by simp [snaps, snaps_length xs]
section
variable {K : PySem.W.Frag} {H : Hp} {F : Addr → Prop} {M : MS}
mutual
theorem Rep.snap (am : AbsM K F H M) : ∀ {d : D} {v : V}, Rep K F H d v → Rep K (fun _ => True) H (snap M d) v
  | .non, _, h => h
  | .bl _, _, h => h
  | .int _, _, h => h
  | .str _, _, h => h
  | .ty _, _, h => h
  | .obj _ _ _ _, _, h => by
    simp only [DL.snap]
    exact h.mono (Le.refl.grow fun _ _ => trivial)
  | .scr _, _, h => by simpa only [DL.snap, Rep] using h
  | .tup xs, v, h => by
    simp only [DL.snap, Rep] at h ⊢
    obtain ⟨a, vs, e, s, r⟩ := h
    exact ⟨a, vs, e, s, Reps.snap am r⟩
  | .lst xs, v, h => by
    simp only [DL.snap, Rep] at h ⊢
    obtain ⟨a, vs, e, f, s, r⟩ := h
    exact ⟨a, vs, e, trivial, s, Reps.snap am r⟩
  | .dic ks xs, v, h => by
    simp only [DL.snap, Rep] at h ⊢
    obtain ⟨a, vs, e, f, s, n, r⟩ := h
    exact ⟨a, vs, e, trivial, s, by rw [n]; exact (snaps_length _).symm, Reps.snap am r⟩
  | .ref a, v, h => by
    simp only [DL.snap]
    split
    · rename_i ds e
      obtain ⟨_, vs, h1, h2⟩ := am.mp a _ e
      simp only [Rep] at h ⊢
      exact ⟨a, vs, h, trivial, h1, h2.mono (Le.refl.grow fun _ _ => trivial)⟩
    · exact h
theorem Reps.snap (am : AbsM K F H M) : ∀ {ds : List D} {vs : List V}, Reps K F H ds vs → Reps K (fun _ => True) H (snaps M ds) vs
  | [], _, h => h
  | x :: xs, vs, h => by
    simp only [snaps, Reps] at h ⊢
    obtain ⟨v, r, e, h1, h2⟩ := h
    exact ⟨v, r, e, Rep.snap am h1, Reps.snap am h2⟩
end
end
structure EqOk (x : D) : Prop where
  pl : plain x = true
  dp : dep x ≤ 60
def rNe (x y : D) (M : MS) (Φ : DQ) : Prop := (∃ a b : Str, x = .str a ∧ y = .str b ∧ Φ (.bl (!(a == b))) M) ∨ (EqOk (snap M x) ∧ EqOk (snap M y) ∧ Φ (.bl (!eqd (snap M x) (snap M y))) M) ∨ (∃ xs ys, seqL M x = some xs ∧ seqL M y = some ys ∧ xs.length ≠ ys.length ∧ Φ (.bl true) M)
mutual
theorem still_of_plain : ∀ x : D, plain x = true → still x = true
  | .non, _ => rfl
  | .bl _, _ => rfl
  | .int _, _ => rfl
  | .str _, _ => rfl
  | .tup xs, h => by simp only [still]; exact stills_of_plains xs (by simpa only [plain] using h)
  | .lst xs, h => by simp only [still]; exact stills_of_plains xs (by simpa only [plain] using h)
  | .dic _ _, h => absurd (show false = true from h) Bool.false_ne_true
  | .ref _, h => absurd (show false = true from h) Bool.false_ne_true
  | .scr _, h => absurd (show false = true from h) Bool.false_ne_true
  | .ty _, h => absurd (show false = true from h) Bool.false_ne_true
  | .obj _ _ _ _, h => absurd (show false = true from h) Bool.false_ne_true
theorem stills_of_plains : ∀ xs : List D, plains xs = true → stills xs = true
  | [], _ => rfl
  | x :: xs, h => by
    simp only [plains, Bool.and_eq_true] at h
    simp only [stills, still_of_plain x h.1, stills_of_plains xs h.2, Bool.and_self]
end
section
variable {X : Cx}
variable {O : Og X.K}
theorem o_ne (hu : X.A.units + 64 < cLine) : OpR X (compareOp .NotEq) (loR X.K rNe) := by
  rintro pins s σ H vx vy v u Q I r1 r2 ⟨F, M, x, y, Φ, am, rx, ry, ⟨a, b, rfl, rfl, h⟩ | ⟨ex, ey, h⟩ | ⟨xs, ys, ex, ey, ne, h⟩, k⟩
  · have e1 := rep_str rx
    have e2 := rep_str ry
    subst e1 e2
    refine op_ne pins s σ H _ _ v u Q I r1 r2 ⟨rfl, k _ _ (hB am ?_)⟩
    rw [show decide (V.str a = V.str b) = (a == b) by rw [Bool.eq_iff_iff]; simp]
    exact h
  · obtain ⟨as, q1, _⟩ := Rep.reads I _ _ _ (rx.snap am) r1 (still_of_plain _ ex.pl)
    obtain ⟨bs, q2, _⟩ := Rep.reads I _ _ _ (ry.snap am) r2 (still_of_plain _ ey.pl)
    refine SeqAt.compareNe_shaped q1 q2 (shaped_toPy ex.pl (by have := ex.dp; omega)) (shaped_toPy ey.pl (by have := ey.dp; omega)) hu ?_
    rw [eqv_toPy _ _ ex.pl ey.pl]
    exact ⟨.bl _, H, I, rfl, k _ _ (hB am h)⟩
  · obtain ⟨a, vs, e1, g1, p1⟩ := seqL_rep am rx ex
    obtain ⟨b, ws, e2, g2, p2⟩ := seqL_rep am ry ey
    subst e1 e2
    obtain rfl : v = Value.ref a := r1
    obtain rfl : u = Value.ref b := r2
    obtain ⟨us1, rv1, l1, _⟩ := I.list (SqL.of g1)
    obtain ⟨us2, rv2, l2, _⟩ := I.list (SqL.of g2)
    refine SeqAt.RcNeAt.lists_lengths l1.isList l2.isList ?_ (by omega) _ _ _ _ ⟨.bl _, H, I, rfl, k _ _ (hB am h)⟩
    have n1 := p1.length
    have n2 := p2.length
    have n3 := rv1.length
    have n4 := rv2.length
    simp only [List.size_toArray, bne_iff_ne, ne_eq]
    omega
end
structure ShowOk (x : D) : Prop where
  st : still x = true
  dp : dep x ≤ 60
  sh : (toPy x).showable = true
  ln : (toPy x).shown.length ≤ sizeLine
def rRepr (args : List D) (M : MS) (Φ : DQ) : Prop := match args with
  | [x] => ShowOk (snap M x) ∧ Φ (.str (toPy (snap M x)).shown) M
  | _ => False
section
variable {X : Cx}
variable {O : Og X.K}
theorem c_repr (hg : X.A.guards = some []) (hu : X.A.units + 64 < cLine) (hsn : (X.K.lookup sysModules).isSome = true) : CallR X (.builtin "repr") (loC X.K rRepr) := by
  rintro pins s σ H vs us Q I r ⟨F, M, ds, Φ, am, rs, h, k⟩
  unfold rRepr at h
  split at h
  · rename_i x
    obtain ⟨ok, q⟩ := h
    simp only [Reps] at rs
    obtain ⟨v, vr, e, rx, rfl⟩ := rs
    subst e
    obtain ⟨u, rfl, ru⟩ := vals1 r
    have fin : ∀ (h' : Heap) (t tk : Nat), (∀ b o, s.heap.get? b = some o → h'.get? b = some o) → EP X pins σ Q (.str (toPy (snap M x)).shown t) { s with heap := h', toks := tk } :=
      fun h' t tk hk => ⟨.str _, H, I.kept hk, ⟨t, rfl⟩, k _ _ (hS am q)⟩
    have rsn := rx.snap am
    have hz : H sysModules = none := by
      obtain ⟨o, ho⟩ := Option.isSome_iff_exists.mp hsn
      exact (I.bs _ _ (I.mod.kin _ _ ho)).2
    obtain ⟨as, rd, hn⟩ := Rep.reads I _ _ _ rsn ru ok.st
    have hsm : (toPy (snap M x)).hasDict = true → sysModules ∉ as := fun _ => hn hz
    have hdp := depth_le _ ok.st
    have h60 := ok.dp
    have viaRef : ∀ a, u = .ref a → wpAny (model X.prog X.w) X.A (call (.builtin "repr") [u]) (EP X pins σ Q) X.xe s := by
      intro a e
      subst e
      exact repr_of_reads' rd ok.sh hsm hg (by omega) (fun _ _ z => z) (fun h' t tk hk => fin h' t tk hk) ok.ln
    generalize hy : snap M x = y at *
    cases y with
    | non =>
      have : v = .non := rsn
      subst this; cases ru
      exact P.repr_of_none (fin s.heap _ _ fun _ _ z => z)
    | bl b =>
      have : v = .bl b := rsn
      subst this; cases ru
      exact P.repr_of_bool (fin s.heap _ _ fun _ _ z => z)
    | int i =>
      have : v = .int i := rsn
      subst this
      obtain ⟨t, rfl⟩ := ru
      exact P.repr_of_int (by simpa [toPy, PyData.showable] using ok.sh) (fin s.heap _ _ fun _ _ z => z)
    | str z =>
      have : v = .str z := rsn
      subst this
      obtain ⟨t, rfl⟩ := ru
      exact P.repr_of_str (fin s.heap _ _ fun _ _ z => z) (by simpa only [toPy, PyData.shown] using ok.ln)
    | tup xs =>
      simp only [Rep] at rsn
      obtain ⟨a, _, e, _⟩ := rsn
      subst e; cases ru
      exact viaRef a rfl
    | lst xs =>
      simp only [Rep] at rsn
      obtain ⟨a, _, e, _⟩ := rsn
      subst e; cases ru
      exact viaRef a rfl
    | dic ks xs =>
      simp only [Rep] at rsn
      obtain ⟨a, _, e, _⟩ := rsn
      subst e; cases ru
      exact viaRef a rfl
    | ref a => exact absurd (show false = true from ok.st) Bool.false_ne_true
    | scr ns => exact absurd (show false = true from ok.st) Bool.false_ne_true
    | obj _ _ _ _ => exact absurd (show false = true from ok.st) Bool.false_ne_true
    | ty t => exact absurd (show false = true from ok.st) Bool.false_ne_true
  · exact h.elim
end
end DL
namespace DL
open PySem PySem.Spec PyProof.Rows L2
def tyD (M : MS) : D → Option Ty
  | .non => some .none
  | .bl _ => some .bool
  | .int _ => some .int
  | .str _ => some .str
  | .tup _ => some .tuple
  | .lst _ => some .list
  | .dic _ _ => some .dict
  | .scr _ => some .list
  | .ref a => match M.map a with
    | some (.lst _) => some .list
    | _ => none
  | .ty _ => none
  | .obj _ _ _ _ => none
def isaT : Ty → Ty → Bool
  | .bool, .int => true
  | a, b => decide (a = b)
theorem kit_isa : ∀ (a b : Ty), b ≠ .none → kitB a.name b.name = some (isaT a b) := by
  intro a b h
  cases b <;> first
    | exact absurd rfl h
    | (cases a <;> decide +kernel)
section
variable {X : Cx} {H : Hp} {F : Addr → Prop} {M : MS}
variable {O : Og X.K}
theorem ty_rep {K : PySem.W.Frag} {x : D} {v : V} {t : Ty} (am : AbsM K F H M) (r : Rep K F H x v) (h : tyD M x = some t) : TyX K H v (.type t.name) := by
  cases x with
  | non => simp only [Rep] at r; simp only [tyD, Option.some.injEq] at h; subst r h; exact .base .non
  | bl b => simp only [Rep] at r; simp only [tyD, Option.some.injEq] at h; subst r h; exact .base (.bl b)
  | int b => simp only [Rep] at r; simp only [tyD, Option.some.injEq] at h; subst r h; exact .base (.int b)
  | str b => simp only [Rep] at r; simp only [tyD, Option.some.injEq] at h; subst r h; exact .base (.str b)
  | ty b => simp [tyD] at h
  | obj _ _ _ _ => simp [tyD] at h
  | tup _ =>
    simp only [Rep] at r; simp only [tyD, Option.some.injEq] at h; subst h
    obtain ⟨a, _, e, hq, _⟩ := r
    subst e
    rcases hq with (hq | ⟨o, hq⟩) | ⟨o, its, n, hk, hc, _⟩
    · exact .base (.tup hq)
    · exact .fTuple hq
    · exact .kTuple hk hc
  | lst _ =>
    simp only [Rep] at r; simp only [tyD, Option.some.injEq] at h; subst h
    obtain ⟨a, _, e, _, hq, _⟩ := r
    subst e
    exact .base (.lst hq)
  | dic _ _ =>
    simp only [Rep] at r; simp only [tyD, Option.some.injEq] at h; subst h
    obtain ⟨a, _, e, _, hq, _⟩ := r
    subst e
    exact .base (.dK hq)
  | scr _ =>
    simp only [Rep] at r; simp only [tyD, Option.some.injEq] at h; subst h
    obtain ⟨a, e, hq⟩ := r
    subst e
    rcases hq.sq with (hq | ⟨o, hq⟩) | ⟨o, its, n, hk, hc, _⟩
    · exact .base (.lst hq)
    · exact .base (.frz hq)
    · exact .kList hk hc
  | ref a =>
    simp only [tyD] at h
    split at h
    · rename_i ds e
      cases h
      simp only [Rep] at r
      subst r
      obtain ⟨_, vs, h1, _⟩ := am.mp a _ e
      exact .base (.lst h1)
    · cases h
def tysOf : List D → Option (List Ty)
  | [] => some []
  | .ty t :: r => (tysOf r).map (t :: ·)
  | _ => none
def rIsi (args : List D) (M : MS) (Φ : DQ) : Prop := match args with
  | [x, .ty c] => (match tyD M x with
    | some t => c ≠ .none ∧ Φ (.bl (isaT t c)) M
    | none => False)
  | [x, .tup cs] => (match tyD M x, tysOf cs with
    | some t, some ts => (∀ c ∈ ts, c ≠ .none) ∧ Φ (.bl (ts.any (isaT t))) M
    | _, _ => False)
  | _ => False
theorem tys_rep {K : PySem.W.Frag} : ∀ {cs : List D} {vs : List V} {ts : List Ty}, Reps K F H cs vs → tysOf cs = some ts → Paired ClsV vs (ts.map fun t => Value.type t.name)
  | [], _, _, r, h => by
    simp only [Reps] at r; simp only [tysOf, Option.some.injEq] at h
    subst r h
    exact .nil
  | c :: cs, _, ts, r, h => by
    cases c with
    | ty t =>
      simp only [tysOf, Option.map_eq_some_iff] at h
      obtain ⟨us, h1, h2⟩ := h
      subst h2
      simp only [Reps, Rep] at r
      obtain ⟨v, vr, e, rfl, h3⟩ := r
      subst e
      exact .cons (.ty _) (tys_rep h3 h1)
    | _ => simp [tysOf] at h
theorem kit_any {K : PySem.W.Frag} {t : Ty} : ∀ {ts : List Ty}, (∀ c ∈ ts, c ≠ .none) → PySem.W.kitAny K (.type t.name) (ts.map fun t => Value.type t.name) = some (ts.any (isaT t))
  | [], _ => kitAny_nil
  | c :: cs, h => by
    have ih := kit_any (K := K) (t := t) (ts := cs) fun c hc => h c (List.mem_cons_of_mem _ hc)
    refine kitAny_cons (b := isaT t c) (kit_ty (kit_isa t c (h c (List.mem_cons_self ..)))) (fun z => ?_) (fun z => ?_)
    · rw [ih]; simp [z]
    · simp [z]
theorem c_isi : CallR X (.builtin "isinstance") (loC X.K rIsi) := by
  rintro pins s σ H vs us Q I r ⟨F, M, ds, Φ, am, rs, h, k⟩
  unfold rIsi at h
  split at h
  · rename_i x c
    simp only [Reps, Rep] at rs
    obtain ⟨v, _, e, rx, w, _, rfl, rfl, rfl⟩ := rs
    subst e
    split at h
    · rename_i t et
      exact call_isi pins s σ H _ us Q I r ⟨v, _, _, _, _, rfl, .ty _, ty_rep am rx et, kit_ty (kit_isa t c h.1), k _ _ (hB am h.2)⟩
    · exact h.elim
  · rename_i x cs
    simp only [Reps] at rs
    obtain ⟨v, _, e, rx, w, _, rfl, rc, rfl⟩ := rs
    subst e
    obtain ⟨tp, ws, rfl, hq, rw⟩ := rep_tup rc
    split at h
    · rename_i t ts et ets
      have hc := tys_rep rw ets
      have ka := kit_any (K := X.K) (t := t) h.1
      obtain ⟨u1, u2, rfl, r1, r2⟩ := vals2 r
      cases r2
      obtain ⟨its, rv, ⟨⟨oc, od, dt, sl⟩, ho, hcl, n, hd⟩, _⟩ := I.tuple hq
      have e2 := ClsV.all hc rv
      subst e2
      simp only at hcl hd
      subst hcl hd
      obtain ⟨P, Z, p, hx⟩ := kit_of I r1 (ty_rep am rx et)
      exact PySem.W.kia_tup Z I.kIn p ho ka hx fun tk => ⟨.bl _, H, I.tok tk, rfl, k _ _ (hB am h.2)⟩
    · exact h.elim
  · exact h.elim
end
def rLen (args : List D) (M : MS) (Φ : DQ) : Prop := match args with
  | [.str z] => z.length ≤ 1000000 ∧ Φ (.int z.length) M
  | [x] => (match seqA M x with
    | some xs => Φ (.int xs.length) M
    | none => False)
  | _ => False
def b2 : Bool → Int
  | true => 1
  | false => 0
def rAbs (args : List D) (M : MS) (Φ : DQ) : Prop := match args with
  | [.int i] => Φ (.int (if i < 0 then -i else i)) M
  | _ => False
section
variable {X : Cx}
variable {O : Og X.K}
theorem sz6 {n : Nat} (h : n ≤ 1000000) : n ≤ sizeLine := Nat.le_trans h (by decide)
theorem c_len : CallR X (.builtin "len") (loC X.K rLen) := by
  rintro pins s σ H vs us Q I r ⟨F, M, ds, Φ, am, rs, h, k⟩
  unfold rLen at h
  split at h
  · rename_i z
    simp only [Reps, Rep] at rs
    obtain ⟨v, _, e, rfl, rfl⟩ := rs
    subst e
    exact call_len_str pins s σ H _ us Q I r ⟨z, rfl, sz6 h.1, k _ _ (hI am h.2)⟩
  · rename_i x _
    simp only [Reps] at rs
    obtain ⟨v, _, e, rx, rfl⟩ := rs
    subst e
    split at h
    · rename_i xs ex
      obtain ⟨a, ws, rfl, hq, p⟩ := seqA_rep am rx ex
      refine call_len_seq pins s σ H _ us Q I r ⟨a, ws, rfl, hq, ?_⟩
      rw [← p.length]
      exact k _ _ (hI am h)
    · exact h.elim
  · exact h.elim
theorem c_abs : CallR X (.builtin "abs") (loC X.K rAbs) := by
  rintro pins s σ H vs us Q I r ⟨F, M, ds, Φ, am, rs, h, k⟩
  unfold rAbs at h
  split at h
  · simp only [Reps, Rep] at rs
    obtain ⟨v, _, e, rfl, rfl⟩ := rs
    subst e
    exact call_abs pins s σ H _ us Q I r ⟨_, rfl, k _ _ (hI am h)⟩
  · exact h.elim
end
def asInts : List D → Option (List Int)
  | [] => some []
  | .int i :: r => (asInts r).map (i :: ·)
  | _ => none
theorem asInts_eq : ∀ {xs : List D} {ns : List Int}, asInts xs = some ns → xs = ns.map D.int
  | [], ns, h => by simp only [asInts, Option.some.injEq] at h; subst h; rfl
  | x :: xs, ns, h => by
    cases x with
    | int i =>
      simp only [asInts, Option.map_eq_some_iff] at h
      obtain ⟨ms, h1, h2⟩ := h
      subst h2
      rw [asInts_eq h1]; rfl
    | _ => simp [asInts] at h
def mxI : List Int → Int
  | [] => 0
  | x :: r => r.foldl max x
def rMax (args : List D) (M : MS) (Φ : DQ) : Prop := match args with
  | [.int i, .int j] => Φ (.int (max i j)) M
  | [x] => (match (seqL M x).bind asInts with
    | some ns => 0 < ns.length ∧ Φ (.int (mxI ns)) M
    | none => False)
  | _ => False
theorem foldl_max : ∀ (r : List Int) (x : Int), (r.foldl max x = x ∨ r.foldl max x ∈ r) ∧ x ≤ r.foldl max x ∧ ∀ y ∈ r, y ≤ r.foldl max x
  | [], x => ⟨.inl rfl, Int.le_refl _, by simp⟩
  | z :: r, x => by
    obtain ⟨h1, h2, h3⟩ := foldl_max r (max x z)
    simp only [List.foldl_cons]
    refine ⟨?_, by omega, fun y hy => ?_⟩
    · rcases h1 with h | h
      · rw [h]
        by_cases hxz : z ≤ x
        · left; omega
        · right; rw [show max x z = z by omega]; exact List.mem_cons_self ..
      · exact .inr (List.mem_cons_of_mem _ h)
    · rcases List.mem_cons.mp hy with rfl | hy
      · omega
      · exact h3 y hy
theorem mxI_mem {ns : List Int} (h : 0 < ns.length) : mxI ns ∈ ns ∧ ∀ y ∈ ns, y ≤ mxI ns := by
  cases ns with
  | nil => simp at h
  | cons x r =>
    obtain ⟨h1, h2, h3⟩ := foldl_max r x
    refine ⟨?_, fun y hy => ?_⟩
    · rcases h1 with e | e
      · show r.foldl max x ∈ _; rw [e]; exact List.mem_cons_self ..
      · exact List.mem_cons_of_mem _ e
    · rcases List.mem_cons.mp hy with rfl | hy
      · exact h2
      · exact h3 y hy
section
variable {K : PySem.W.Frag} {F : Addr → Prop} {H : Hp} {M : MS} {x : D} {v : V}
theorem ints_rep (am : AbsM K F H M) (r : Rep K F H x v) {ns : List Int} (h : (seqL M x).bind asInts = some ns) : ∃ a, v = .ref a ∧ H a = some (.lst (ns.map V.int)) := by
  obtain ⟨xs, h1, h2⟩ := Option.bind_eq_some_iff.mp h
  obtain ⟨a, vs, e, hq, p⟩ := seqL_rep am r h1
  rw [asInts_eq h2] at p
  rw [reps_ints p] at hq
  exact ⟨a, e, hq⟩
end
section
variable {X : Cx}
variable {O : Og X.K}
theorem c_max (hc : X.calm = true) : CallR X (.builtin "max") (loC X.K rMax) := by
  rintro pins s σ H vs us Q I r ⟨F, M, ds, Φ, am, rs, h, k⟩
  unfold rMax at h
  split at h
  · rename_i i j
    simp only [Reps, Rep] at rs
    obtain ⟨_, _, e, rfl, _, _, rfl, rfl, rfl⟩ := rs
    subst e
    refine call_max2 hc pins s σ H _ us Q I r ⟨i, j, rfl, ?_⟩
    rw [show (if j > i then j else i) = max i j by split <;> omega]
    exact k _ _ (hI am h)
  · simp only [Reps] at rs
    obtain ⟨v, _, e, rx, rfl⟩ := rs
    subst e
    split at h
    · rename_i ns ex
      obtain ⟨a, rfl, hq⟩ := ints_rep am rx ex
      refine cr_max hc pins s σ H _ us Q I r ⟨a, ns, rfl, SqL.of hq, h.1, fun m hm hle => ?_⟩
      obtain ⟨h1, h2⟩ := mxI_mem h.1
      have e : m = mxI ns := Int.le_antisymm (h2 m hm) (hle _ h1)
      rw [e]
      exact k _ _ (hI am h.2)
    · exact h.elim
  · exact h.elim
end
end DL
namespace DL
open PySem PySem.Spec PyProof.Rows L2
def rIx (x y : D) (M : MS) (Φ : DQ) : Prop := match y with
  | .int i => (match seqA M x with
    | some xs => (match atI xs i with
      | some d => Φ d M
      | none => False)
    | none => (match x with
      | .str z => (match atI z.cps.toList i with
        | some c => z.length ≤ 100000 ∧ Φ (.str ⟨#[c]⟩) M
        | none => False)
      | _ => False))
  | _ => False
theorem atI_rep {K : PySem.W.Frag} {F : Addr → Prop} {H : Hp} {xs : List D} {vs : List V} {i : Int} {d : D} (r : Reps K F H xs vs) (h : atI xs i = some d) : ∃ v, atI vs i = some v ∧ Rep K F H d v := by
  unfold atI at *
  obtain ⟨j, h1, h2⟩ := Option.bind_eq_some_iff.mp h
  obtain ⟨v, h3, h4⟩ := r.get h2
  exact ⟨v, by rw [← r.length, h1]; exact h3, h4⟩
section
variable {X : Cx}
variable {O : Og X.K}
theorem x_ix : IxR X (loR X.K rIx) := by
  rintro value slice pins s σ H vx vy v u Q I r1 r2 ⟨F, M, x, y, Φ, am, rx, ry, h, k⟩ hs
  unfold rIx at h
  split at h
  · rename_i i
    split at h
    · rename_i xs ex
      obtain ⟨a, vs, rfl, hq, p⟩ := seqA_rep am rx ex
      split at h
      · rename_i d ed
        obtain ⟨w, e1, rw⟩ := atI_rep p ed
        rcases hq with hq | hq
        · exact ix_list value slice pins s σ H _ vy v u Q I r1 r2 ⟨a, vs, i, w, rfl, ry, hq, e1, k _ _ (loQ.here am rw h)⟩ hs
        · exact ix_tup value slice pins s σ H _ vy v u Q I r1 r2 ⟨a, vs, i, w, rfl, ry, hq, e1, k _ _ (loQ.here am rw h)⟩ hs
      · exact h.elim
    · split at h
      · rename_i z _
        split at h
        · rename_i c ec
          exact ix_str value slice pins s σ H _ vy v u Q I r1 r2 ⟨z, i, c, rx, ry, sz5 h.1, ec, k _ _ (hS am h.2)⟩ hs
        · exact h.elim
      · exact h.elim
  · exact h.elim
theorem q_ix {a b : Expr} {ta tb : DE} {pos : Pos} (ha : PE X a (lo X.K O ta)) (hb : PE X b (lo X.K O tb)) (hs : PlainIx b) : PE X (.Subscript a b pos) (lo X.K O (dOp rIx ta tb)) :=
  PE.imp (pe_ix x_ix ha hb hs) fun σ H Q h => by
    obtain ⟨F, M, ρ, Φ, A, h, k⟩ := h
    exact ⟨F, M, ρ, _, A, h, fun vx H1 ⟨F1, M1, x, l1, a1, r1, h1⟩ => ⟨F1, M1, ρ, _, (A.go l1 a1), h1, fun vy H2 ⟨F2, M2, y, l2, a2, r2, h2⟩ =>
      ⟨F2, M2, x, y, Φ, a2, r1.mono l2.le, r2, h2, fun v H' q => k v H' ((q.le l2).le l1)⟩⟩⟩
end
def cutD (xs : List D) (lo hi : Option Int) : List D := (xs.drop (HT.sIx xs.length 0 lo)).take (HT.sIx xs.length xs.length hi - HT.sIx xs.length 0 lo)
abbrev DO := DEnv → MS → (Option Int → MS → Prop) → Prop
def dNoPart : DO := fun _ M Φ => Φ none M
def dPart (t : DE) : DO := fun ρ M Φ => t ρ M fun x M1 => match x with
  | .int i => Φ (some i) M1
  | _ => False
def loO (K : PySem.W.Frag) (O : Og K) (t : DO) : TO := fun σ H Q => ∃ F M ρ Φ, Abs K O F H M σ ρ ∧ t ρ M Φ ∧ ∀ b H' F' M', Lm K F H M F' H' M' → AbsM K F' H' M' → Φ b M' → Q b H'
def rSl (x : D) (lo hi : Option Int) (M : MS) (Φ : DQ) : Prop := match x with
  | .tup xs => Φ (.tup (cutD xs lo hi)) M
  | .scr ns => Φ (.lst (cutD (ns.map D.int) lo hi)) M
  | x => (match seqL M x with
    | some xs => Φ (.lst (cutD xs lo hi)) M
    | none => False)
def dSl (t : DE) (l h : DO) : DE := fun ρ M Φ => t ρ M fun x M1 => l ρ M1 fun a M2 => h ρ M2 fun b M3 => rSl x a b M3 Φ
theorem PO.imp {X : Cx} {e : Option Expr} {t t' : TO} (h : PO X e t) (hi : ∀ σ H Q, t' σ H Q → t σ H Q) : PO X e t' := ⟨fun pins s σ H Q I q => h.run pins s σ H Q I (hi _ _ _ q)⟩
theorem cut_rep {K : PySem.W.Frag} {F : Addr → Prop} {H : Hp} {xs : List D} {vs : List V} (r : Reps K F H xs vs) (l h : Option Int) : Reps K F H (cutD xs l h) (cutV vs l h) := by
  unfold cutD cutV
  rw [r.length]
  exact (r.drop _).take _
section
variable {X : Cx}
variable {O : Og X.K}
theorem q_nopart : PO X none (loO X.K O dNoPart) :=
  PO.imp po_none fun σ H Q h => by
    obtain ⟨F, M, ρ, Φ, A, h, k⟩ := h
    exact k none H F M Lm.refl A.am h
theorem q_part {e : Expr} {t : DE} (he : PE X e (lo X.K O t)) : PO X (some e) (loO X.K O (dPart t)) :=
  PO.imp (po_some he) fun σ H Q h => by
    obtain ⟨F, M, ρ, Φ, A, h, k⟩ := h
    refine ⟨F, M, ρ, _, A, h, fun v H1 ⟨F1, M1, x, l1, a1, r1, h1⟩ => ?_⟩
    cases x with
    | int i => exact ⟨i, r1, k _ _ _ _ l1 a1 h1⟩
    | _ => exact h1.elim
theorem x_sl : SlR X (fun vx lo' hi Hh Q => ∃ F M x Φ, AbsM X.K F Hh M ∧ Rep X.K F Hh x vx ∧ rSl x lo' hi M Φ ∧ ∀ v H', loQ X.K F Hh M Φ v H' → Q v H') := by
  rintro pins s σ H vx v vl vu lo hi sl Q I rv hs pl pu ⟨F, M, x, Φ, am, rx, h, k⟩
  have lists : ∀ {xs : List D}, seqL M x = some xs → Φ (.lst (cutD xs lo hi)) M → ∃ T id, typeLookup (.type T) "__getitem__" = pure (some (.builtin id)) ∧ s.TypeIs v T ∧ wpAny (model X.prog X.w) X.A (getItem v (.ref sl)) (EP X pins σ Q) X.xe s := by
    intro xs ex q
    obtain ⟨a, vs, rfl, hq, p⟩ := seqL_rep am rx ex
    exact sl_list pins s σ H _ v vl vu lo hi sl Q I rv hs pl pu ⟨a, vs, rfl, SqL.of hq, fun p' hp => k _ _ (new_lst am (cut_rep p lo hi) q hp)⟩
  cases x with
  | tup xs =>
    obtain ⟨a, vs, rfl, hq, p⟩ := rep_tup rx
    refine sl_tupA pins s σ H _ v vl vu lo hi sl Q I rv hs pl pu ⟨a, vs, rfl, hq, fun w => ?_, fun _ p' hp => k _ _ (new_tup am (cut_rep p lo hi) h hp)⟩
    refine k _ _ (loQ.here am rx ?_)
    have hh : Φ (.tup (cutD xs lo hi)) M := h
    have e : cutD xs lo hi = xs := by
      unfold cutD
      rw [p.length, w.1, w.2, Nat.sub_zero, List.drop_zero, ← p.length, List.take_length]
    rw [e] at hh
    exact hh
  | scr ns =>
    simp only [Rep] at rx
    obtain ⟨a, rfl, hq⟩ := rx
    exact sl_list pins s σ H _ v vl vu lo hi sl Q I rv hs pl pu ⟨a, _, rfl, hq.sq, fun p' hp => k _ _ (new_lst am (cut_rep (Reps.ints ns) lo hi) h hp)⟩
  | _ =>
    simp only [rSl] at h
    split at h
    · rename_i xs ex
      exact lists ex h
    · exact h.elim
theorem q_sl {e : Expr} {l hi : Option Expr} {te : DE} {tl th : DO} {pos p2 : Pos} (he : PE X e (lo X.K O te)) (hl : PO X l (loO X.K O tl)) (hh : PO X hi (loO X.K O th)) : PE X (.Subscript e (.Slice l hi none p2) pos) (lo X.K O (dSl te tl th)) :=
  PE.imp (pe_slice x_sl he hl hh) fun σ H Q h => by
    obtain ⟨F, M, ρ, Φ, A, h, k⟩ := h
    exact ⟨F, M, ρ, _, A, h, fun vx H1 ⟨F1, M1, x, l1, a1, r1, h1⟩ => ⟨F1, M1, ρ, _, (A.go l1 a1), h1, fun a H2 F2 M2 l2 a2 h2 =>
      ⟨F2, M2, ρ, _, (A.go (l1.trans l2) a2), h2, fun b H3 F3 M3 l3 a3 h3 => ⟨F3, M3, x, Φ, a3, r1.mono (l2.trans l3).le, h3, fun v H' q => k v H' (((q.le l3).le l2).le l1)⟩⟩⟩⟩
end
section
variable {X : Cx} {x : Str} {p pos : Pos} {e : Expr} {es : List Expr} {ta : DAs} {id T : String} {R : List D → MS → DQ → Prop}
variable {O : Og X.K}
theorem lo_fn (h : PE X e (tCB (loC X.K R) (loA X.K O ta))) : PE X e (lo X.K O (dFn R ta)) :=
  PE.imp h fun σ H Q h => by
    obtain ⟨F, M, ρ, Φ, A, h, k⟩ := h
    exact ⟨F, M, ρ, _, A, h, fun vs H1 F1 M1 ds l1 a1 r1 h1 => ⟨F1, M1, ds, Φ, a1, r1, h1, fun v H' q => k v H' (q.le l1)⟩⟩
theorem q_callB (hc : CallR X (.builtin id) (loC X.K R)) (hg : Gl X x) (hm : X.mg x = none) (hv : bootBuiltins x = some (.builtin id)) (ha : PA X (e :: es) (loA X.K O ta)) (hn : x ≠ "__name__") (hdb : (x == ("__debug__" : Str)) = false)
    (he : starEach (e :: es) X.env = (false, eval e X.env) :: starEach es X.env) (hpl : (backTo pos (starEach es X.env)).any (·.1) = false) : PE X (.Call (.Name x p) (e :: es) [] pos) (lo X.K O (dFn R ta)) :=
  lo_fn (pe_callB hc hg hm hv ha hn hdb he hpl)
end
abbrev DX := Str → List (Str × D) → MS → Prop
abbrev DSp := List D → MS → DQ → DX → Prop
/-- no exception is wished for -/
def noX : DX := fun _ _ _ => False
def loSp (K : PySem.W.Frag) (sp : DSp) (n : Nat) : Sp := fun vs H Q E => ∃ F M ds Φ, ds.length = n ∧ AbsM K F H M ∧ Reps K F H ds vs ∧ sp ds M Φ noX ∧ ∀ v H', loQ K F H M Φ v H' → Q v H'
def dCall (n : Nat) (sp : DSp) (ta : DAs) : DE := fun ρ M Φ => ta ρ M fun ds M1 => ds.length = n ∧ sp ds M1 Φ noX
section
variable {X : Cx} {n : Nat} {sp : DSp} {e : Expr} {ta : DAs}
variable {O : Og X.K}
theorem lo_call {E : XK} (h : PE X e (tCall (loSp X.K sp n) [] E (loA X.K O ta))) : PE X e (lo X.K O (dCall n sp ta)) :=
  PE.imp h fun σ H Q h => by
    obtain ⟨F, M, ρ, Φ, A, h, k⟩ := h
    exact ⟨F, M, ρ, _, A, h, fun vs H1 F1 M1 ds l1 a1 r1 ⟨hn, h1⟩ => ⟨F1, M1, ds, Φ, hn, a1, by rw [List.append_nil]; exact r1, h1, fun v H' q => k v H' (q.le l1)⟩⟩
end
end DL
namespace DL
open PySem PySem.Spec PyProof.Rows L2
inductive Pat where
  | nm (i : Nat)
  | tp (ps : List Pat)
mutual
def Pat.put : Pat → D → DEnv → Option DEnv
  | .nm i, d, ρ => some (ρ.set i (some d))
  | .tp ps, .tup xs, ρ => Pat.puts ps xs ρ
  | .tp _, _, _ => none
def Pat.puts : List Pat → List D → DEnv → Option DEnv
  | [], [], ρ => some ρ
  | p :: ps, x :: xs, ρ => (match p.put x ρ with
    | some ρ' => Pat.puts ps xs ρ'
    | none => none)
  | _, _, _ => none
end
mutual
def Pat.slots : Pat → List Nat
  | .nm i => [i]
  | .tp ps => Pat.slotss ps
def Pat.slotss : List Pat → List Nat
  | [] => []
  | p :: ps => p.slots ++ Pat.slotss ps
end
mutual
def Pat.tg (K : PySem.W.Frag) : Pat → TG
  | .nm i => gName i
  | .tp ps => gTup K ps.length (Pat.tgs K ps)
def Pat.tgs (K : PySem.W.Frag) : List Pat → TGs
  | [] => gNil
  | p :: ps => gCons (p.tg K) (Pat.tgs K ps)
end
theorem wipe_get : ∀ (vs : List Nat) (σ : L2.St) (j : Nat), (wipe σ vs)[j]? = if j ∈ vs ∧ j < σ.length then some none else σ[j]?
  | [], σ, j => by simp [wipe]
  | v :: vs, σ, j => by
    unfold wipe
    by_cases hj : v = j
    · subst hj
      by_cases hl : v < σ.length
      · rw [List.getElem?_set_self (by rw [wipe_length]; exact hl)]
        simp [hl]
      · have e1 : ((wipe σ vs).set v none)[v]? = none := List.getElem?_eq_none (by rw [List.length_set, wipe_length]; omega)
        rw [e1, if_neg (by omega), List.getElem?_eq_none (by omega)]
    · rw [List.getElem?_set_ne hj, wipe_get vs σ j]
      have : (j ∈ v :: vs) ↔ j ∈ vs := by
        simp only [List.mem_cons]
        exact ⟨fun h => h.resolve_left fun e => hj e.symm, .inr⟩
      simp only [this]
theorem wipe_set {σ : L2.St} {i : Nat} {v : Option V} {vs : List Nat} (h : i ∈ vs) : wipe (σ.set i v) vs = wipe σ vs := by
  refine List.ext_getElem? fun j => ?_
  rw [wipe_get, wipe_get, List.length_set]
  by_cases hj : j ∈ vs ∧ j < σ.length
  · rw [if_pos hj, if_pos hj]
  · rw [if_neg hj, if_neg hj]
    by_cases e : i = j
    · subst e
      have : ¬ i < σ.length := fun z => hj ⟨h, z⟩
      rw [List.getElem?_eq_none (by rw [List.length_set]; omega), List.getElem?_eq_none (by omega)]
    · rw [List.getElem?_set_ne e]
def wipeD (ρ : DEnv) : List Nat → DEnv
  | [] => ρ
  | v :: vs => (wipeD ρ vs).set v none
theorem wipeD_length (ρ : DEnv) : ∀ vs : List Nat, (wipeD ρ vs).length = ρ.length
  | [] => rfl
  | v :: vs => by unfold wipeD; rw [List.length_set, wipeD_length ρ vs]
theorem RepEnv.wipe {K : PySem.W.Frag} {F : Addr → Prop} {H : Hp} {σ : L2.St} {ρ : DEnv} (e : RepEnv K F H σ ρ) : ∀ vs : List Nat, RepEnv K F H (L2.wipe σ vs) (wipeD ρ vs)
  | [] => e
  | v :: vs => by
    have ih := RepEnv.wipe e vs
    refine ⟨by rw [wipeD_length, wipe_length]; exact e.len, fun j d h => ?_⟩
    unfold wipeD at h
    by_cases hj : v = j
    · subst hj
      by_cases hl : v < (wipeD ρ vs).length
      · rw [List.getElem?_set_self hl] at h; cases h
      · rw [List.getElem?_eq_none (by rw [List.length_set]; omega)] at h; cases h
    · rw [List.getElem?_set_ne hj] at h
      obtain ⟨w, h1, h2⟩ := ih.get j d h
      refine ⟨w, ?_, h2⟩
      unfold L2.wipe
      rw [List.getElem?_set_ne hj]
      exact h1
section
variable {K : PySem.W.Frag} {F : Addr → Prop} {H : Hp}
mutual
/-- a pattern stores -/
theorem Pat.runs : ∀ (p : Pat) {d : D} {v : V} {σ : L2.St} {ρ ρ' : DEnv}, p.put d ρ = some ρ' → Rep K F H d v → RepEnv K F H σ ρ →
    ∃ σ', RepEnv K F H σ' ρ' ∧ (∀ vs : List Nat, (∀ i ∈ p.slots, i ∈ vs) → wipe σ' vs = wipe σ vs) ∧ ∀ Q : L2.St → Hp → Prop, Q σ' H → p.tg K v σ H Q
  | .nm i, d, v, σ, ρ, ρ', h, r, e => by
    simp only [Pat.put, Option.some.injEq] at h
    subst h
    refine ⟨_, e.set r i, fun vs hv => wipe_set (hv i (by simp [Pat.slots])), fun Q q => ?_⟩
    simp only [Pat.tg, gName]
    exact q
  | .tp ps, d, v, σ, ρ, ρ', h, r, e => by
    cases d with
    | tup xs =>
      simp only [Pat.put] at h
      obtain ⟨a, vs, ev, hq, rs⟩ := rep_tup r
      obtain ⟨σ', e', w, q⟩ := Pat.runss ps h rs e
      refine ⟨σ', e', fun vs hv => w vs (by simpa only [Pat.slots] using hv), fun Q hQ => ?_⟩
      simp only [Pat.tg, gTup]
      exact ⟨a, vs, ev, hq, by rw [← rs.length]; exact (Pat.puts_length ps h).symm, q Q hQ⟩
    | _ => simp [Pat.put] at h
theorem Pat.runss : ∀ (ps : List Pat) {xs : List D} {vs : List V} {σ : L2.St} {ρ ρ' : DEnv}, Pat.puts ps xs ρ = some ρ' → Reps K F H xs vs → RepEnv K F H σ ρ →
    ∃ σ', RepEnv K F H σ' ρ' ∧ (∀ ws : List Nat, (∀ i ∈ Pat.slotss ps, i ∈ ws) → wipe σ' ws = wipe σ ws) ∧ ∀ Q : L2.St → Hp → Prop, Q σ' H → Pat.tgs K ps vs σ H Q
  | [], xs, vs, σ, ρ, ρ', h, r, e => by
    cases xs with
    | nil =>
      simp only [Pat.puts, Option.some.injEq] at h
      subst h
      simp only [Reps] at r
      subst r
      refine ⟨σ, e, fun _ _ => rfl, fun Q q => ?_⟩
      show gNil [] σ H Q
      exact ⟨rfl, q⟩
    | cons _ _ => simp [Pat.puts] at h
  | p :: ps, xs, vs, σ, ρ, ρ', h, r, e => by
    cases xs with
    | nil => simp [Pat.puts] at h
    | cons x xs =>
      simp only [Pat.puts] at h
      split at h
      · rename_i ρ1 h1
        simp only [Reps] at r
        obtain ⟨v, vr, ev, r1, r2⟩ := r
        subst ev
        obtain ⟨σ1, e1, w1, q1⟩ := Pat.runs p h1 r1 e
        obtain ⟨σ2, e2, w2, q2⟩ := Pat.runss ps h r2 e1
        refine ⟨σ2, e2, fun ws hw => ?_, fun Q hQ => ?_⟩
        · simp only [Pat.slotss, List.mem_append] at hw
          rw [w2 ws fun i hi => hw i (.inr hi), w1 ws fun i hi => hw i (.inl hi)]
        · simp only [Pat.tgs, gCons]
          exact ⟨v, vr, rfl, q1 _ (q2 Q hQ)⟩
      · cases h
theorem Pat.puts_length : ∀ (ps : List Pat) {xs : List D} {ρ ρ' : DEnv}, Pat.puts ps xs ρ = some ρ' → ps.length = xs.length
  | [], [], _, _, _ => rfl
  | [], _ :: _, _, _, h => by simp [Pat.puts] at h
  | _ :: _, [], _, _, h => by simp [Pat.puts] at h
  | p :: ps, x :: xs, ρ, ρ', h => by
    simp only [Pat.puts] at h
    split at h
    · simp [Pat.puts_length ps h]
    · cases h
end
end
def sNext : DS := fun Δ ρ M => Δ.nx ρ M
def sSeq (t u : DS) : DS := fun Δ ρ M => t { Δ with nx := u Δ } ρ M
def sBreak : DS := fun Δ ρ M => Δ.bk ρ M
def sCont : DS := fun Δ ρ M => Δ.ct ρ M
def sDrop (t : DE) : DS := fun Δ ρ M => t ρ M fun _ M1 => Δ.nx ρ M1
def sRet (t : DE) : DS := fun Δ ρ M => t ρ M Δ.rt
def sRetN : DS := fun Δ _ M => Δ.rt .non M
def sIf (c : DT) (t u : DS) : DS := fun Δ ρ M => c ρ M fun b M1 => if b = true then t Δ ρ M1 else u Δ ρ M1
def sAsg (t : DE) (p : Pat) : DS := fun Δ ρ M => t ρ M fun x M1 => match p.put x ρ with
  | some ρ' => Δ.nx ρ' M1
  | none => False
section
variable {X : Cx} {st : Stmt} {rest : List Stmt} {t u : DS} {e : Expr} {te : DE} {pos : Pos}
variable {O : Og X.K}
theorem z_nil : PSs X [] (loS X.K O sNext) := PSs.imp pss_nil fun Y σ H h => by
  obtain ⟨F, M, ρ, Δ, A, h, k⟩ := h
  exact k.nx σ H F M ρ Lm.refl A h
theorem z_cons (h1 : PS X st (loS X.K O t)) (h2 : PSs X rest (loS X.K O u)) : PSs X (st :: rest) (loS X.K O (sSeq t u)) := PSs.imp (pss_cons h1 h2) fun Y σ H h => by
  obtain ⟨F, M, ρ, Δ, A, h, k⟩ := h
  exact ⟨F, M, ρ, { Δ with nx := u Δ }, A, h, ⟨fun σ' H' F' M' ρ' l A' q => ⟨F', M', ρ', Δ, A', q, k.le l⟩, k.rt, k.bk, k.ct⟩⟩
theorem z_ret (he : PE X e (lo X.K O te)) : PS X (.Return (some e) pos) (loS X.K O (sRet te)) := PS.imp (ps_ret he) fun Y σ H h => by
  obtain ⟨F, M, ρ, Δ, A, h, k⟩ := h
  exact ⟨F, M, ρ, _, A, h, fun v H1 q => k.rt v H1 q⟩
theorem z_if {c : Expr} {a b : List Stmt} {tc : DT} (hc : PT X c (loT X.K O tc)) (ha : PSs X a (loS X.K O t)) (hb : PSs X b (loS X.K O u)) : PS X (.If c a b pos) (loS X.K O (sIf tc t u)) := PS.imp (ps_if hc ha hb) fun Y σ H h => by
  obtain ⟨F, M, ρ, Δ, A, h, k⟩ := h
  refine ⟨F, M, ρ, _, A, h, fun c H1 F1 M1 l1 a1 h1 => ?_⟩
  cases c with
  | true => exact ⟨F1, M1, ρ, Δ, (A.go l1 a1), h1, k.le l1⟩
  | false => exact ⟨F1, M1, ρ, Δ, (A.go l1 a1), h1, k.le l1⟩
/-- name = value -/
theorem z_set {i : Nat} {x : Str} {pos' : Pos} (hN : X.N.Nodup) (hi : X.N[i]? = some x) (hx : Loc X.env.scope x) (he : PE X e (lo X.K O te)) (hs : swapsWith e (some (.Name x pos')) pos.line X.env = pure false) (hf : X.fn x = true ∨ X.env.scope.names.lookup x = some .local) :
    PS X (.Assign [.Name x pos'] e pos) (loS X.K O (sAsg te (.nm i))) := PS.imp (ps_set hN hi hx he hs hf) fun Y σ H h => by
  obtain ⟨F, M, ρ, Δ, A, h, k⟩ := h
  refine ⟨F, M, ρ, _, A, h, fun v H1 ⟨F1, M1, x, l1, a1, r1, h1⟩ => ?_⟩
  exact k.nx _ H1 F1 M1 _ l1 ((A.go l1 a1).set r1 i) h1
end
/-- at turn i an iterator of this kind yields the i-th item, as long as G holds -/
structure Src (K : PySem.W.Frag) (F : Addr → Prop) (H : Hp) (M : MS) (J : It) (items : List D) (G : MS → Prop) : Prop where
  go : ∀ i F' H' M', Lm K F H M F' H' M' → AbsM K F' H' M' → G M' → i < items.length → J.go i H'
  stop : ∀ F' H' M', Lm K F H M F' H' M' → AbsM K F' H' M' → G M' → J.stop items.length H'
  yld : ∀ i F' H' M' x H'', Lm K F H M F' H' M' → AbsM K F' H' M' → G M' → i < items.length → J.yld i H' x H'' → ∃ F'' d, Lm K F' H' M' F'' H'' M' ∧ AbsM K F'' H'' M' ∧ items[i]? = some d ∧ Rep K F'' H'' d x
abbrev DI := DEnv → MS → (List D → (MS → Prop) → MS → Prop) → Prop
def loI (K : PySem.W.Frag) (O : Og K) (t : DI) : TI := fun σ H R => ∃ F M ρ Ψ, Abs K O F H M σ ρ ∧ t ρ M Ψ ∧ ∀ J H' F' M' items G, Lm K F H M F' H' M' → AbsM K F' H' M' → Src K F' H' M' J items G → Ψ items G M' → R J H'
def forW (G : MS → Prop) (p : Pat) (body : DS) (Δ : DEnds) : List D → DEnv → MS → Prop
  | [], ρ, M => G M ∧ Δ.nx ρ M
  | d :: ds, ρ, M => G M ∧ (match p.put d ρ with
    | some ρ1 => body { nx := fun ρ' M' => forW G p body Δ ds ρ' M', rt := Δ.rt, bk := Δ.nx, ct := fun ρ' M' => forW G p body Δ ds ρ' M' } ρ1 M
    | none => False)
def sFor (ti : DI) (p : Pat) (body : DS) : DS := fun Δ ρ M => ti ρ M fun items G M1 => forW G p body Δ items ρ M1
section
variable {X : Cx} {pos : Pos}
variable {O : Og X.K}
theorem drop_get {α : Type} {l : List α} {i : Nat} {d : α} {ds : List α} (h : l.drop i = d :: ds) : l[i]? = some d ∧ l.drop (i + 1) = ds ∧ i < l.length := by
  have h1 : i < l.length := by
    by_cases hi : i < l.length
    · exact hi
    · rw [List.drop_eq_nil_of_le (by omega)] at h; cases h
  have h2 : l.drop i = l[i] :: l.drop (i + 1) := List.drop_eq_getElem_cons h1
  rw [h2] at h
  injection h with e1 e2
  exact ⟨by rw [List.getElem?_eq_getElem h1, e1], e2, h1⟩
theorem z_for {tg iter : Expr} {body : List Stmt} {ti : DI} {p : Pat} {tb : DS} (hp : PassesOwn (model X.prog X.w) X.A X.env X.xe) (hc : X.calm = true) (hi : PI X tg iter (loI X.K O ti)) (hg : PG X tg (p.tg X.K)) (hb : PSs X body (loS X.K O tb)) (hfs : ∀ x, foldedSetIterable iter X.env x = pure x) :
    PS X (.For tg iter body [] pos) (loS X.K O (sFor ti p tb)) := PS.imp (ps_for hp hc hi hg hb hfs) fun Y σ H h => by
  obtain ⟨F, M, ρ, Δ, A, h, k⟩ := h
  refine ⟨F, M, ρ, _, A, h, fun J H1 F1 M1 items G l1 a1 src h1 => ?_⟩
  refine ⟨fun i m σ' H' => m = items.length - i ∧ i ≤ items.length ∧ ∃ F' M' ρ', Lm X.K F1 H1 M1 F' H' M' ∧ Abs X.K O F' H' M' σ' ρ' ∧ forW G p tb Δ (items.drop i) ρ' M', ⟨items.length, by simp, Nat.zero_le _, F1, M1, ρ, Lm.refl, (A.go l1 a1), h1⟩, ?_⟩
  rintro i m σ' H' ⟨rfl, hil, F', M', ρ', l2, A', hw⟩
  cases hd : items.drop i with
  | nil =>
    rw [hd] at hw
    have hle : items.length ≤ i := by
      have := congrArg List.length hd
      simp at this; omega
    obtain rfl : i = items.length := Nat.le_antisymm hil hle
    exact .inl ⟨src.stop F' H' M' l2 A'.am hw.1, k.nx σ' H' F' M' ρ' (l1.trans l2) A' hw.2⟩
  | cons d ds =>
    rw [hd] at hw
    obtain ⟨g1, g2, g3⟩ := drop_get hd
    obtain ⟨hG, hw⟩ := hw
    refine .inr ⟨src.go i F' H' M' l2 A'.am hG g3, fun σ3 H3 => ∃ F3 M3 ρ3, Lm X.K F1 H1 M1 F3 H3 M3 ∧ Abs X.K O F3 H3 M3 σ3 ρ3 ∧ forW G p tb Δ ds ρ3 M3, ?_, ?_⟩
    · rintro σ3 H3 ⟨F3, M3, ρ3, l3, A3, h3⟩
      exact ⟨items.length - (i + 1), by omega, rfl, by omega, F3, M3, ρ3, l3, A3, by rw [g2]; exact h3⟩
    · intro x H'' hy
      obtain ⟨F'', d', l3, a3, e3, r3⟩ := src.yld i F' H' M' x H'' l2 A'.am hG g3 hy
      rw [g1] at e3; cases e3
      split at hw
      · rename_i ρ1 hput
        obtain ⟨σ2, e2, _, q⟩ := p.runs hput r3 (A'.env.mono l3.le)
        refine q _ ⟨F'', M', ρ1, _, ⟨a3, e2, O.cl A'.og l3⟩, hw, ⟨fun σ4 H4 F4 M4 ρ4 l4 A4 q4 => ⟨F4, M4, ρ4, (l2.trans l3).trans l4, A4, q4⟩, fun v H4 q4 => k.rt v H4 (((q4.le l3).le l2).le l1), fun σ4 H4 F4 M4 ρ4 l4 A4 q4 => k.nx σ4 H4 F4 M4 ρ4 (((l1.trans l2).trans l3).trans l4) A4 q4, fun σ4 H4 F4 M4 ρ4 l4 A4 q4 => ⟨F4, M4, ρ4, (l2.trans l3).trans l4, A4, q4⟩⟩⟩
      · exact hw.elim
end
def MS.del (M : MS) (a : Addr) : MS := { M with map := fun b => if b = a then none else M.map b }
def lcW (G : MS → Prop) (p : Pat) (tt : DT) (te : DE) (ρ : DEnv) : List D → List D → MS → (List D → MS → Prop) → Prop
  | [], acc, M, Φ => G M ∧ Φ acc M
  | d :: ds, acc, M, Φ => G M ∧ (match p.put d ρ with
    | some ρ1 => tt ρ1 M fun b M1 => if b = true then te ρ1 M1 fun y M2 => acc.length < 100000 ∧ lcW G p tt te ρ ds (acc ++ [y]) M2 Φ else lcW G p tt te ρ ds acc M1 Φ
    | none => False)
def dLcM (ti : DI) (p : Pat) (vs : List Nat) (tt : DT) (te : DE) : DE := fun ρ M Φ => ti ρ M fun items G M1 => lcW G p tt te (wipeD ρ vs) items [] M1 fun ds M2 => ∀ a, M2.map a = none → Φ (.ref a) (M2.put a (.lst ds))
theorem PTs.imp {X : Cx} {e : List Expr} {t t' : TT} (h : PTs X e t) (hi : ∀ σ H Q, t' σ H Q → t σ H Q) : PTs X e t' := ⟨fun pins s σ H Q I q => h.run pins s σ H Q I (hi _ _ _ q)⟩
def dYes : DT := fun _ M Φ => Φ true M
section
variable {X : Cx} {K : PySem.W.Frag}
variable {O : Og X.K}
theorem q_yes : PTs X [] (loT X.K O dYes) := PTs.imp pts_nil fun σ H Q h => by
  obtain ⟨F, M, ρ, Φ, A, h, k⟩ := h
  exact k true H F M Lm.refl A.am h
/-- the turns of a comprehension over the hand layer's reading -/
theorem lc_turns {O : Og K} {J : It} {items : List D} {G : MS → Prop} {p : Pat} {tt : DT} {te : DE} {vs : List Nat} {σ : L2.St} {ρ : DEnv} {F1 : Addr → Prop} {H1 : Hp} {M1 : MS} {Ψ : List D → MS → Prop} {L : Addr} {Q : VK}
    (src : Src K F1 H1 M1 J items G) (a1 : AbsM K F1 H1 M1) (en : RepEnv K F1 H1 σ ρ) (og : O.z F1 H1 M1) (hs : ∀ i ∈ p.slots, i ∈ vs) (hL : H1 L = none) (hw : lcW G p tt te (wipeD ρ vs) items [] M1 Ψ)
    (fin : ∀ F' H' M' ds ws, Lm K F1 H1 M1 F' H' M' → AbsM K F' H' M' → H' L = some (.lst ws) → ¬ F' L → M'.map L = none → Reps K F' H' ds ws → Ψ ds M' → Q (.ref L) H') :
    ∃ W : Nat → Nat → Hp → Prop, (∃ m, W 0 m (upd H1 L (.lst []))) ∧ ∀ i m H, W i m H → (J.stop i H ∧ Q (.ref L) H) ∨ (J.go i H ∧ ∃ Nx : Hp → Prop, (∀ H', Nx H' → ∃ m', m' < m ∧ W (i + 1) m' H') ∧
      ∀ x H', J.yld i H x H' → p.tg K x (wipe σ vs) H' fun σ2 H2 => wipe σ2 vs = wipe σ vs ∧ loT K O tt σ2 H2 fun b H3 =>
        if b = true then lo K O te σ2 H3 fun y H4 => ∃ acc, H4 L = some (.lst acc) ∧ acc.length < sizeLine ∧ Nx (upd H4 L (.lst (acc ++ [y]))) else Nx H3) := by
  have neL : ∀ a, H1 a ≠ none → a ≠ L := fun a ha e => ha (e ▸ hL)
  have hLm : ∀ {F' : Addr → Prop} {H' : Hp} {M' : MS} {ws ws' : List V}, Lm K F1 H1 M1 F' H' M' → AbsM K F' H' M' → (H' L = some (.lst ws) ∨ H' L = none) → ¬ F' L → M'.map L = none →
      Lm K F1 H1 M1 F' (upd H' L (.lst ws')) M' ∧ AbsM K F' (upd H' L (.lst ws')) M' ∧ Le K F' H' F' (upd H' L (.lst ws')) := by
    intro F' H' M' ws ws' l a e nf nm
    have l2 : Le K F' H' F' (upd H' L (.lst ws')) := by
      rcases e with e | e
      · exact Le.upd nf (fun _ => nord_lst e) (nofrz_lst e)
      · exact Le.upd nf (fun _ => nord_none e) (nofrz_none e)
    refine ⟨⟨l.le.trans l2, fun b hb f m => ?_⟩, ⟨fun b f => ?_, fun b o hb => ?_⟩, l2⟩
    · obtain ⟨x1, x2, x3⟩ := l.hid b hb f m
      exact ⟨x1, x2, (upd_ne (neL b hb)).trans x3⟩
    · have nb : b ≠ L := fun e => by subst e; exact nf f
      rw [upd_ne nb]
      exact a.fh b f
    · obtain ⟨n1, o1⟩ := a.mp b o hb
      have ne : ∀ c o', M'.map c = some o' → c ≠ L := fun c o' hc e => by rw [e, nm] at hc; cases hc
      exact ⟨n1, o1.keep l2 (upd_ne (ne b o hb)) (fun c hc => ⟨upd_ne (ne c _ hc), hc⟩) (Nat.le_refl _)⟩
  have hF1 : ¬ F1 L := fun f => a1.fh L f hL
  have hM1 : M1.map L = none := (a1.fresh hL).2
  let P : Nat → Hp → Prop := fun i H' => ∃ F' M' acc ws, Lm K F1 H1 M1 F' H' M' ∧ AbsM K F' H' M' ∧ H' L = some (.lst ws) ∧ ¬ F' L ∧ M'.map L = none ∧ Reps K F' H' acc ws ∧ lcW G p tt te (wipeD ρ vs) (items.drop i) acc M' Ψ
  refine ⟨fun i m H' => m = items.length - i ∧ i ≤ items.length ∧ P i H', ⟨items.length, by simp, Nat.zero_le _, ?_⟩, ?_⟩
  · obtain ⟨l0, a0, _⟩ := hLm (ws := []) (ws' := []) Lm.refl a1 (.inr hL) hF1 hM1
    exact ⟨F1, M1, [], [], l0, a0, upd_same, hF1, hM1, Reps.nil, hw⟩
  rintro i m H' ⟨rfl, hil, F', M', acc, ws, l2, a2, hl, nf, nm, rs, hw'⟩
  cases hd : items.drop i with
  | nil =>
    rw [hd] at hw'
    have hle : items.length ≤ i := by
      have := congrArg List.length hd
      simp at this; omega
    obtain rfl : i = items.length := Nat.le_antisymm hil hle
    exact .inl ⟨src.stop F' H' M' l2 a2 hw'.1, fin F' H' M' acc ws l2 a2 hl nf nm rs hw'.2⟩
  | cons d ds =>
    rw [hd] at hw'
    obtain ⟨g1, g2, g3⟩ := drop_get hd
    obtain ⟨hG, hw'⟩ := hw'
    refine .inr ⟨src.go i F' H' M' l2 a2 hG g3, P (i + 1), fun H3 p3 => ⟨items.length - (i + 1), by omega, rfl, by omega, p3⟩, fun x H'' hy => ?_⟩
    obtain ⟨F3, d', l3, a3, e3, r3⟩ := src.yld i F' H' M' x H'' l2 a2 hG g3 hy
    rw [g1] at e3; cases e3
    split at hw'
    · rename_i ρ1 hput
      obtain ⟨σ2, e2, w2, q⟩ := p.runs hput r3 ((en.wipe vs).mono (l2.trans l3).le)
      refine q _ ⟨?_, ?_⟩
      · rw [w2 vs hs]
        refine List.ext_getElem? fun j => ?_
        simp only [wipe_get, wipe_length]
        split <;> rfl
      · obtain ⟨h3a, h3b, h3c⟩ := l3.hid L (by rw [hl]; simp) nf nm
        refine ⟨F3, M', ρ1, _, ⟨a3, e2, O.cl og (l2.trans l3)⟩, hw', fun b H4 F4 M4 l4 a4 h4 => ?_⟩
        obtain ⟨h4a, h4b, h4c⟩ := l4.hid L (by rw [h3c, hl]; simp) h3a h3b
        have hl4 : H4 L = some (.lst ws) := by rw [h4c, h3c, hl]
        cases b with
        | true =>
          rw [if_pos rfl] at h4 ⊢
          refine ⟨F4, M4, ρ1, _, ⟨a4, e2.mono l4.le, O.cl og ((l2.trans l3).trans l4)⟩, h4, fun y H5 ⟨F5, M5, dy, l5, a5, r5, h5, h6⟩ => ?_⟩
          obtain ⟨h5a, h5b, h5c⟩ := l5.hid L (by rw [hl4]; simp) h4a h4b
          have hl5 : H5 L = some (.lst ws) := by rw [h5c, hl4]
          obtain ⟨l6, a6, m6⟩ := hLm (ws := ws) (ws' := ws ++ [y]) (((l2.trans l3).trans l4).trans l5) a5 (.inl hl5) h5a h5b
          have rall := (((rs.mono l3.le).mono l4.le).mono l5.le).append (Reps.cons r5 Reps.nil)
          refine ⟨ws, hl5, by rw [← rs.length]; exact Nat.lt_of_lt_of_le h5 (by decide), F5, M5, acc ++ [dy], ws ++ [y], l6, a6, upd_same, h5a, h5b, rall.mono m6, ?_⟩
          rw [g2]
          exact h6
        | false =>
          rw [if_neg Bool.false_ne_true] at h4 ⊢
          refine ⟨F4, M4, acc, ws, (l2.trans l3).trans l4, a4, hl4, h4a, h4b, (rs.mono l3.le).mono l4.le, ?_⟩
          rw [g2]
          exact h4
    · exact hw'.elim
end
section
variable {X : Cx} {elt tg iter : Expr} {ifs : List Expr} {scope : Scope} {own : List (Str × Nat)} {pos spos : Pos} {ti : DI} {p : Pat} {tt : DT} {te : DE}
variable {O : Og X.K}
theorem dLcM_fin {K : PySem.W.Frag} {F1 F' : Addr → Prop} {H1 H' : Hp} {M1 M' : MS} {L : Addr} {ds : List D} {ws : List V} (hL : H1 L = none) (l2 : Lm K F1 H1 M1 F' H' M') (a2 : AbsM K F' H' M') (hl : H' L = some (.lst ws)) (nf : ¬ F' L) (nm : M'.map L = none) (rs : Reps K F' H' ds ws) :
    Lm K F1 H1 M1 F' H' (M'.put L (.lst ds)) ∧ AbsM K F' H' (M'.put L (.lst ds)) := by
  refine ⟨⟨l2.le, fun a ha f m => ?_⟩, ⟨a2.fh, fun b o hb => ?_⟩⟩
  · obtain ⟨x1, x2, x3⟩ := l2.hid a ha f m
    have ne : a ≠ L := fun e => ha (e ▸ hL)
    exact ⟨x1, by rw [MS.put_ne ne]; exact x2, x3⟩
  · by_cases e : b = L
    · subst e
      rw [MS.put_same] at hb; cases hb
      exact ⟨nf, ws, hl, rs⟩
    · rw [MS.put_ne e] at hb
      obtain ⟨n1, o1⟩ := a2.mp b o hb
      refine ⟨n1, o1.keep Le.refl rfl (fun c hc => ⟨rfl, ?_⟩) (Nat.le_refl _)⟩
      rw [MS.put_ne (fun e => by subst e; rw [nm] at hc; cases hc)]
      exact hc
theorem q_lcM (hc : X.calm = true) (hN : X.N.Nodup) (hi : PI X tg iter (loI X.K O ti)) (ok : BlkOk X.N X.env.scope scope own)
    (hg : ∀ (s : Shared) (H : Hp) (C : Addr) (cl : List (Str × Addr)) (fp : List Addr), PG (X.blk s H scope (compEnvC scope cl C X.env) fp) tg (p.tg X.K))
    (ht : ∀ (s : Shared) (H : Hp) (C : Addr) (cl : List (Str × Addr)) (fp : List Addr), PTs (X.blk s H scope (compEnvC scope cl C X.env) fp) ifs (loT X.K O tt))
    (he : ∀ (s : Shared) (H : Hp) (C : Addr) (cl : List (Str × Addr)) (fp : List Addr), PE (X.blk s H scope (compEnvC scope cl C X.env) fp) elt (lo X.K O te)) (hfs : ∀ x, foldedSetIterable iter X.env x = pure x)
    (hs : ∀ i ∈ p.slots, i ∈ own.map (·.2)) : PE X (.ListComp elt [⟨tg, iter, ifs, 0⟩] scope pos) (lo X.K O (dLcM ti p (own.map (·.2)) tt te)) :=
  PE.imp (pe_lc hc hN hi ok hg ht he hfs) fun σ H Q h => by
    obtain ⟨F, M, ρ, Φ, A, h, k⟩ := h
    refine ⟨F, M, ρ, _, A, h, fun J H1 F1 M1 items G l1 a1 src h1 L hL => lc_turns src a1 (A.env.mono l1.le) (O.cl A.og l1) hs hL h1 fun F' H' M' ds ws l2 a2 hl nf nm rs q => ?_⟩
    obtain ⟨l3, a3⟩ := dLcM_fin hL l2 a2 hl nf nm rs
    exact k _ _ ⟨F', _, .ref L, l1.trans l3, a3, rfl, q L nm⟩
end
end DL
namespace DL
open PySem PySem.Spec PyProof.Rows L2
def SqK (k : Bool) (K : PySem.W.Frag) (H : Hp) (a : Addr) (xs : List V) : Prop := match k with
  | true => SqL K H a xs
  | false => SqT K H a xs
def rangeD (lo : Int) (n : Nat) : List D := (List.range n).map fun (i : Nat) => D.int (lo + (i : Int))
def enumD : Int → List D → List D
  | _, [] => []
  | c, x :: xs => .tup [.int c, x] :: enumD (c + 1) xs
def zipD : List D → List D → List D
  | x :: xs, y :: ys => .tup [x, y] :: zipD xs ys
  | _, _ => []
def dSeq (te : DE) : DI := fun ρ M Ψ => te ρ M fun x M1 => match seqA M1 x with
  | some xs => Ψ xs (fun M2 => seqA M2 x = some xs) M1
  | none => False
def dRng1 (ta : DE) : DI := fun ρ M Ψ => ta ρ M fun x M1 => match x with
  | .int j => -(2 ^ 62) ≤ j ∧ j < 2 ^ 62 ∧ Ψ (rangeD 0 j.toNat) (fun _ => True) M1
  | _ => False
def dRng2 (ta tb : DE) : DI := fun ρ M Ψ => ta ρ M fun x M1 => tb ρ M1 fun y M2 => match x with
  | .int i => (match y with
    | .int j => (-(2 ^ 62) ≤ i ∧ i < 2 ^ 62 ∧ -(2 ^ 62) ≤ j ∧ j < 2 ^ 62) ∧ Ψ (rangeD i (j - i).toNat) (fun _ => True) M2
    | _ => False)
  | _ => False
def dEnum (c : Int) (te : DE) : DI := fun ρ M Ψ => te ρ M fun x M1 => match seqA M1 x with
  | some xs => Ψ (enumD c xs) (fun M2 => seqA M2 x = some xs) M1
  | none => False
def dZip (ta tb : DE) : DI := fun ρ M Ψ => ta ρ M fun x M1 => tb ρ M1 fun y M2 => match seqA M2 x, seqA M2 y with
  | some xs, some ys => Ψ (zipD xs ys) (fun M3 => seqA M3 x = some xs ∧ seqA M3 y = some ys) M2
  | _, _ => False
section
variable {K : PySem.W.Frag} {F F' : Addr → Prop} {H H' : Hp} {M M' : MS} {x y : D} {v : V} {xs : List D} {a : Addr}
/-- false: a tuple -/
def kindD : D → Bool
  | .tup _ => false
  | _ => true
/-- as seqA_rep, by the kind -/
theorem seqK_rep (am : AbsM K F H M) (r : Rep K F H x v) (h : seqA M x = some xs) : ∃ a vs, v = .ref a ∧ SqK (kindD x) K H a vs ∧ Reps K F H xs vs := by
  cases x with
  | tup ys =>
    simp only [seqA, Option.some.injEq] at h
    subst h
    obtain ⟨a, vs, e, h1, h2⟩ := rep_tup r
    exact ⟨a, vs, e, h1, h2⟩
  | lst ys =>
    simp only [seqA, Option.some.injEq] at h
    subst h
    simp only [Rep] at r
    obtain ⟨a, vs, e, _, h1, h2⟩ := r
    exact ⟨a, vs, e, SqL.of h1, h2⟩
  | scr ns =>
    simp only [seqA, Option.some.injEq] at h
    subst h
    simp only [Rep] at r
    obtain ⟨a, e, h1⟩ := r
    exact ⟨a, _, e, h1.sq, Reps.ints ns⟩
  | ref a =>
    simp only [seqA] at h
    split at h
    · rename_i zs e
      cases h
      obtain ⟨_, vs, h1, h2⟩ := am.mp a _ e
      exact ⟨a, vs, r, SqL.of h1, h2⟩
    · cases h
  | _ => simp [seqA] at h
/-- two readings of one place -/
theorem seqK_at (am : AbsM K F H M) (r : Rep K F H x (.ref a)) (h : seqA M x = some xs) : ∃ vs, SqK (kindD x) K H a vs ∧ Reps K F H xs vs := by
  obtain ⟨b, vs, e, h1, h2⟩ := seqK_rep am r h
  cases e
  exact ⟨vs, h1, h2⟩
end
/-- what a sequence's items give to a walk -/
theorem src_seq {K : PySem.W.Frag} {F : Addr → Prop} {H : Hp} {M : MS} {x : D} {a : Addr} {xs : List D} (r : Rep K F H x (.ref a))
    {J : It} (hgo : ∀ i H, J.go i H ↔ ∃ (vs : List V) (y : V), SqK (kindD x) K H a vs ∧ vs[i]? = some y) (hst : ∀ i H (vs : List V), SqK (kindD x) K H a vs → vs.length = i → J.stop i H)
    (hy : ∀ i H y H', J.yld i H y H' → H' = H ∧ ∀ vs : List V, SqK (kindD x) K H a vs → vs[i]? = some y) : Src K F H M J xs (fun M' => seqA M' x = some xs) where
  go := fun i F' H' M' l am g hi => by
    obtain ⟨vs, h1, h2⟩ := seqK_at am (r.mono l.le) g
    obtain ⟨y, e, _⟩ := h2.get (List.getElem?_eq_getElem hi)
    exact (hgo i H').2 ⟨vs, y, h1, e⟩
  stop := fun F' H' M' l am g => by
    obtain ⟨vs, h1, h2⟩ := seqK_at am (r.mono l.le) g
    exact hst _ _ vs h1 h2.length.symm
  yld := fun i F' H' M' y H'' l am g hi q => by
    obtain ⟨rfl, e⟩ := hy _ _ _ _ q
    obtain ⟨vs, h1, h2⟩ := seqK_at am (r.mono l.le) g
    obtain ⟨y', e', ry⟩ := h2.get (List.getElem?_eq_getElem hi)
    rw [e vs h1] at e'
    cases e'
    exact ⟨F', _, Lm.refl, am, List.getElem?_eq_getElem hi, ry⟩
section
variable {X : Cx} {tg : Expr}
variable {O : Og X.K}
theorem pi_seq {e : Expr} {te : DE} (he : PE X e (lo X.K O te)) : PI X tg e (loI X.K O (dSeq te)) := by
  refine ⟨fun pins s σ H R I h => ?_⟩
  obtain ⟨F, M, ρ, Ψ, A, h, k⟩ := h
  refine thn (he.run pins s σ H (fun v H' => loQ X.K F H M _ v H') I ⟨F, M, ρ, _, A, h, fun v H' q => q⟩) fun v s1 ⟨x, H1, I1, r1, q1⟩ => ?_
  obtain ⟨F1, M1, d, l1, a1, rd, h1⟩ := q1
  split at h1
  · rename_i xs ex
    obtain ⟨a, vs, e, hq, rs⟩ := seqK_rep a1 rd ex
    subst e
    cases r1
    have nf : ∀ o, Inv X pins σ H1 { s1 with heap := s1.heap.push o } := fun o => I1.kept (t' := s1.toks) fun b o' e => Heap.get?_push_of_some _ e
    have fp : ∀ b ∈ [s1.heap.objs.size], FpOk X pins H1 b := fun b hb => by
      have e : b = s1.heap.objs.size := by simpa using hb
      subst e
      exact I1.fpOk (Nat.le_refl _) (I1.hok.fresh (Nat.le_refl _))
    cases hk : kindD d with
    | true =>
      rw [hk] at hq
      obtain ⟨its, rv, p, hz⟩ := I1.list hq
      refine wpAny_pyIter_list p.isList ⟨s1.heap.objs.size, [s1.heap.objs.size], _, _, H1, rfl, nf _, turn_list a _, ⟨_, Heap.get?_push_size _ rfl, rfl, rfl⟩, fp, ?_⟩
      refine k _ _ _ _ _ _ l1 a1 (src_seq rd (fun i H => ?_) (fun i H vs hv hl => ?_) (fun i H y H' hy => ?_)) h1
      · rw [hk]; exact Iff.rfl
      · rw [hk] at hv; exact ⟨vs, hv, Nat.le_of_eq hl⟩
      · rw [hk]; exact hy
    | false =>
      rw [hk] at hq
      obtain ⟨its, rv, p, hz⟩ := I1.tuple hq
      refine wpAny_pyIter_tuple (show s1.heap.IsTuple a its.toArray from p) ⟨s1.heap.objs.size, [s1.heap.objs.size], _, _, H1, rfl, nf _, turn_tuple a _, ⟨_, Heap.get?_push_size _ rfl, rfl, rfl⟩, fp, ?_⟩
      refine k _ _ _ _ _ _ l1 a1 (src_seq rd (fun i H => ?_) (fun i H vs hv hl => ?_) (fun i H y H' hy => ?_)) h1
      · rw [hk]; exact Iff.rfl
      · rw [hk] at hv; exact ⟨vs, hv, Nat.le_of_eq hl⟩
      · rw [hk]; exact hy
  · exact h1.elim
theorem PI.imp {e : Expr} {t t' : TI} (h : PI X tg e t) (hi : ∀ σ H R, t' σ H R → t σ H R) : PI X tg e t' := ⟨fun pins s σ H R I q => h.run pins s σ H R I (hi _ _ _ q)⟩
theorem src_rng {K : PySem.W.Frag} {F : Addr → Prop} {H : Hp} {M : MS} (lo : Int) (n : Nat) : Src K F H M (Itr lo n) (rangeD lo n) (fun _ => True) where
  go := fun i F' H' M' l am g hi => by
    show i < n
    simpa [rangeD] using hi
  stop := fun F' H' M' l am g => by
    show n ≤ (rangeD lo n).length
    simp [rangeD]
  yld := fun i F' H' M' y H'' l am g hi q => by
    obtain ⟨rfl, rfl⟩ := q
    refine ⟨F', .int (lo + i), Lm.refl, am, ?_, rfl⟩
    have hi' : i < n := by simpa [rangeD] using hi
    simp [rangeD, List.getElem?_map, List.getElem?_range hi']
theorem pi_rng1 {a : Expr} {ta : DE} {p pos : Pos} (hg : Gl X "range") (hm : X.mg "range" = none) (ha : PE X a (lo X.K O ta)) (hs : starEach [a] X.env = (false, eval a X.env) :: starEach [] X.env) (hs0 : starEach [a] X.env = [(false, eval a X.env)]) : PI X tg (.Call (.Name "range" p) [a] [] pos) (loI X.K O (dRng1 ta)) :=
  PI.imp (pi_range1 hg hm (pa_cons ha pa_nil hs) hs0) fun σ H R h => by
    obtain ⟨F, M, ρ, Ψ, A, h, k⟩ := h
    refine ⟨F, M, ρ, _, A, h, fun v H1 q => ?_⟩
    obtain ⟨F1, M1, d, l1, a1, rd, h1⟩ := q
    split at h1
    · rename_i j
      obtain ⟨g1, g2, h1⟩ := h1
      exact ⟨j, by rw [rep_int rd], g1, g2, k _ _ _ _ _ _ l1 a1 (src_rng 0 _) h1⟩
    · exact h1.elim
end
end DL
namespace DL
open PySem PySem.Spec PyProof.Rows L2
section
variable {X : Cx} {a b c : Expr} {rest : List Expr} {ta tb tc : DE} {ua ub : DT} {pos : Pos}
variable {O : Og X.K}
theorem PW.imp {e : Expr} {t t' : TT} (h : PW X e t) (hi : ∀ σ H Q, t' σ H Q → t σ H Q) : PW X e t' := ⟨fun wh pins s σ H Q I q => h.run wh pins s σ H Q I (hi _ _ _ q)⟩
theorem q_or1 (ha : PT X a (loT X.K O ua)) : PW X (.BoolOp .Or [a] pos) (loT X.K O ua) := pw_or1 ha
theorem q_or (ha : PT X a (loT X.K O ua)) (hb : PW X (.BoolOp .Or (b :: rest) pos) (loT X.K O ub)) : PW X (.BoolOp .Or (a :: b :: rest) pos) (loT X.K O (dOr ua ub)) :=
  PW.imp (pw_or ha hb) fun σ H Q h => by
    obtain ⟨F, M, ρ, Φ, A, h, k⟩ := h
    refine ⟨F, M, ρ, _, A, h, fun c H1 F1 M1 l1 a1 h1 => ?_⟩
    cases c with
    | false => exact ⟨F1, M1, ρ, Φ, (A.go l1 a1), h1, fun d H2 F2 M2 l2 a2 h2 => k d H2 F2 M2 (l1.trans l2) a2 h2⟩
    | true => exact k true H1 F1 M1 l1 a1 h1
theorem q_one {op : BoolOp} (ha : PE X a (lo X.K O ta)) : PE X (.BoolOp op [a] pos) (lo X.K O ta) := pe_one ha
theorem q_andV (ha : PE X a (lo X.K O ta)) (hb : PE X (.BoolOp .And (b :: rest) pos) (lo X.K O tb)) : PE X (.BoolOp .And (a :: b :: rest) pos) (lo X.K O (dAndV ta tb)) :=
  PE.imp (pe_and ha hb) fun σ H Q h => by
    obtain ⟨F, M, ρ, Φ, A, h, k⟩ := h
    refine ⟨F, M, ρ, _, A, h, fun v H1 ⟨F1, M1, x, l1, a1, r1, h1⟩ => ?_⟩
    cases x with
    | bl c =>
      refine ⟨c, r1, ?_⟩
      cases c with
      | true => exact ⟨F1, M1, ρ, Φ, (A.go l1 a1), h1, fun d H2 q => k d H2 (q.le l1)⟩
      | false => exact k _ _ ((hB a1 h1).le l1)
    | _ => exact h1.elim
/-- not e as a value, e a bool -/
def dNotE (ta : DE) : DE := fun ρ M Φ => ta ρ M fun x M1 => match x with
  | .bl b => Φ (.bl (!b)) M1
  | _ => False
theorem q_notE (ha : PE X a (lo X.K O ta)) : PE X (.UnaryOp .Not a pos) (lo X.K O (dNotE ta)) :=
  PE.imp (pe_not ha) fun σ H Q h => by
    obtain ⟨F, M, ρ, Φ, A, h, k⟩ := h
    refine ⟨F, M, ρ, _, A, h, fun v H1 ⟨F1, M1, x, l1, a1, r1, h1⟩ => ?_⟩
    cases x with
    | bl c => exact ⟨c, r1, k _ _ ((hB a1 h1).le l1)⟩
    | _ => exact h1.elim
def dChain (R R' : D → D → MS → DQ → Prop) (ta tb tc : DE) : DE := fun ρ M Φ => ta ρ M fun x M1 => tb ρ M1 fun y M2 => R x y M2 fun z M3 => match z with
  | .bl k => if k = true then tc ρ M3 fun w M4 => R' y w M4 Φ else Φ (.bl false) M3
  | _ => False
theorem lo_chain {K : PySem.W.Frag} {O : Og K} {R R' : D → D → MS → DQ → Prop} : ∀ σ H Q, lo K O (dChain R R' ta tb tc) σ H Q → tChain (loR K R) (loR K R') (lo K O ta) (lo K O tb) (lo K O tc) σ H Q := by
  rintro σ H Q ⟨F, M, ρ, Φ, A, h, k⟩
  refine ⟨F, M, ρ, _, A, h, fun vx H1 ⟨F1, M1, x, l1, a1, r1, h1⟩ => ⟨F1, M1, ρ, _, (A.go l1 a1), h1, fun vy H2 ⟨F2, M2, y, l2, a2, r2, h2⟩ => ⟨F2, M2, x, y, _, a2, r1.mono l2.le, r2, h2, fun v H3 ⟨F3, M3, z, l3, a3, r3, h3⟩ => ?_⟩⟩⟩
  cases z with
  | bl c =>
    refine ⟨c, r3, ?_⟩
    cases c with
    | true =>
      rw [if_pos rfl]
      exact ⟨F3, M3, ρ, _, (A.go ((l1.trans l2).trans l3) a3), h3, fun vw H4 ⟨F4, M4, w, l4, a4, r4, h4⟩ => ⟨F4, M4, y, w, Φ, a4, r2.mono (l3.trans l4).le, r4, h4, fun u H5 q => k u H5 ((((q.le l4).le l3).le l2).le l1)⟩⟩
    | false =>
      rw [if_neg Bool.false_ne_true]
      exact k _ _ ((((hB a3 h3).le l3).le l2).le l1)
  | _ => exact h3.elim
theorem q_chain {op op' : CmpOp} {R R' : D → D → MS → DQ → Prop} (ho : OpR X (compareOp op) (loR X.K R)) (ho' : OpR X (compareOp op') (loR X.K R')) (ha : PE X a (lo X.K O ta)) (hb : PE X b (lo X.K O tb)) (hc : PE X c (lo X.K O tc))
    (hm : lastMarks [op, op'] [b, c] = false) : PE X (.Compare a [op, op'] [b, c] pos) (lo X.K O (dChain R R' ta tb tc)) := PE.imp (pe_chain ho ho' ha hb hc hm) lo_chain
end
def truD (M : MS) : D → Option Bool
  | .non => some false
  | .bl b => some b
  | .int i => some (i != 0)
  | .str z => if z.length ≤ 100000 then some ((z.length : Int) != 0) else none
  | .tup xs => some (!xs.isEmpty)
  | .lst xs => some (!xs.isEmpty)
  | .scr ns => some (!ns.isEmpty)
  | .ref a => (match M.map a with
    | some (.lst xs) => some (!xs.isEmpty)
    | _ => none)
  | .dic ks _ => some (!ks.isEmpty)
  | .ty _ => none
  | .obj _ _ _ _ => none
theorem reps_empty {K : PySem.W.Frag} {F : Addr → Prop} {H : Hp} {xs : List D} {vs : List V} (r : Reps K F H xs vs) : xs.isEmpty = vs.isEmpty := by
  have := r.length
  cases xs <;> cases vs <;> simp_all
theorem truD_ok {K : PySem.W.Frag} {F : Addr → Prop} {H : Hp} {M : MS} {x : D} {v : V} {b : Bool} (am : AbsM K F H M) (r : Rep K F H x v) (h : truD M x = some b) : TruV K v H b := by
  cases x with
  | non => simp only [truD, Option.some.injEq] at h; subst h; rw [show v = .non from r]; rfl
  | bl c => simp only [truD, Option.some.injEq] at h; subst h; rw [show v = .bl c from r]; rfl
  | int i => simp only [truD, Option.some.injEq] at h; subst h; rw [show v = .int i from r]; rfl
  | str z =>
    simp only [truD] at h
    split at h
    · rename_i hz
      cases h
      rw [show v = .str z from r]
      exact ⟨sz5 hz, rfl⟩
    · cases h
  | tup xs =>
    simp only [truD, Option.some.injEq] at h
    subst h
    obtain ⟨a, vs, e, h1, h2⟩ := rep_tup r
    subst e
    exact .inr (.inl ⟨vs, h1, by rw [reps_empty h2]⟩)
  | lst xs =>
    simp only [truD, Option.some.injEq] at h
    subst h
    simp only [Rep] at r
    obtain ⟨a, vs, e, _, h1, h2⟩ := r
    subst e
    exact .inl ⟨vs, SqL.of h1, by rw [reps_empty h2]⟩
  | scr ns =>
    simp only [truD, Option.some.injEq] at h
    subst h
    simp only [Rep] at r
    obtain ⟨a, e, h1⟩ := r
    subst e
    exact .inl ⟨_, h1.sq, by cases ns <;> rfl⟩
  | ref a =>
    simp only [truD] at h
    split at h
    · rename_i xs e
      cases h
      obtain ⟨_, vs, h1, h2⟩ := am.mp a _ e
      rw [show v = .ref a from r]
      exact .inl ⟨vs, SqL.of h1, by rw [reps_empty h2]⟩
    · cases h
  | dic ks xs =>
    simp only [truD, Option.some.injEq] at h
    subst h
    simp only [Rep] at r
    obtain ⟨a, vs, e, _, h1, h2, h3⟩ := r
    subst e
    refine .inr (.inr ⟨_, h1, ?_⟩)
    have := h3.length
    cases ks <;> cases vs <;> simp_all
  | obj _ _ _ _ => simp only [truD] at h; cases h
  | ty t => simp [truD] at h
def dTru (te : DE) : DT := fun ρ M Φ => te ρ M fun x M1 => match truD M1 x with
  | some b => Φ b M1
  | none => False
section
variable {X : Cx} {a : Expr} {ta : DE}
variable {O : Og X.K}
theorem q_tru (ha : PE X a (lo X.K O ta)) (he : ∀ whole, isTrue a X.env whole = (do let v ← whole; standAt a.pos; holding [v] (truthy v))) : PT X a (loT X.K O (dTru ta)) :=
  PT.imp (pt_truth ha he) fun σ H Q h => by
    obtain ⟨F, M, ρ, Φ, A, h, k⟩ := h
    refine ⟨F, M, ρ, _, A, h, fun v H1 ⟨F1, M1, x, l1, a1, r1, h1⟩ => ?_⟩
    dsimp only at h1
    split at h1
    · rename_i b e
      exact ⟨b, truD_ok a1 r1 e, k b H1 F1 M1 l1 a1 h1⟩
    · exact h1.elim
end
def rSet (x i y : D) (M : MS) (Φ : MS → Prop) : Prop := match x with
  | .ref a => (match i with
    | .int k => (match M.map a with
      | some (.lst ds) => (match ixN ds.length k with
        | some j => Φ (M.put a (.lst (ds.set j y)))
        | none => False)
      | _ => False)
    | _ => False)
  | _ => False
def sSetI (te to ti : DE) : DS := fun Δ ρ M => te ρ M fun y M1 => to ρ M1 fun x M2 => ti ρ M2 fun i M3 => rSet x i y M3 fun M4 => Δ.nx ρ M4
theorem set_rep {K : PySem.W.Frag} {F : Addr → Prop} {H : Hp} {M : MS} {x i y : D} {vx vi vy : V} {Φ : MS → Prop} {Q : Hp → Prop} (am : AbsM K F H M) (rx : Rep K F H x vx) (ri : Rep K F H i vi) (ry : Rep K F H y vy) (h : rSet x i y M Φ)
    (k : ∀ H' M', Lm K F H M F H' M' → AbsM K F H' M' → Φ M' → Q H') : rSetL vx vi vy H Q := by
  unfold rSet at h
  split at h
  · rename_i a
    split at h
    · rename_i j
      split at h
      · rename_i ds e
        split at h
        · rename_i n en
          obtain ⟨_, vs, h1, h2⟩ := am.mp a _ e
          refine ⟨a, vs, j, n, rx, ri, h1, by rw [← h2.length]; exact en, ?_⟩
          have r := h2.set ry n
          exact k _ _ (Lm.wrote am e r) (am.wrote e r).1 h
        · exact h.elim
      · exact h.elim
    · exact h.elim
  · exact h.elim
section
variable {X : Cx} {o i e : Expr} {to ti te : DE} {pos tpos : Pos}
variable {O : Og X.K}
theorem z_setI (he : PE X e (lo X.K O te)) (ho : PE X o (lo X.K O to)) (hi : PE X i (lo X.K O ti)) (ha : ∀ v, assign (.Subscript o i tpos) X.env v = (do
      let ov ← holding [v] (eval o X.env)
      let iv ← holding [v, ov] (eval i X.env)
      standAt tpos
      holding [v, ov, iv] (setItem ov iv v)
      release [v, ov, iv] [])) (hs : swapsWithSole [.Subscript o i tpos] e pos.line X.env = pure false) (hw : swappedStores [.Subscript o i tpos] e X.env = pure none)
    (h1 : (assignEach [.Subscript o i tpos] X.env).map (·.2) = [assign (.Subscript o i tpos) X.env]) : PS X (.Assign [.Subscript o i tpos] e pos) (loS X.K O (sSetI te to ti)) :=
  PS.imp (ps_asg he (pg_sub ho hi set_list ha) hs hw h1) fun Y σ H h => by
    obtain ⟨F, M, ρ, Δ, A, h, k⟩ := h
    exact ⟨F, M, ρ, _, A, h, fun vy H1 ⟨F1, M1, y, l1, a1, r1, h1⟩ => ⟨F1, M1, ρ, _, (A.go l1 a1), h1, fun vx H2 ⟨F2, M2, x, l2, a2, r2, h2⟩ => ⟨F2, M2, ρ, _, (A.go (l1.trans l2) a2), h2, fun vi H3 ⟨F3, M3, z, l3, a3, r3, h3⟩ =>
      set_rep a3 (r2.mono l3.le) r3 (r1.mono (l2.trans l3).le) h3 fun H4 M4 l4 a4 q => k.nx σ H4 F3 M4 ρ (((l1.trans l2).trans l3).trans l4) (A.go (((l1.trans l2).trans l3).trans l4) a4) q⟩⟩⟩
/-- i op= j -/
def rIp (f : Int → Int → Int) (x y : D) (M : MS) (Φ : DQ) : Prop := match x, y with
  | .int i, .int j => Φ (.int (f i j)) M
  | _, _ => False
def sAug (i : Nat) (te : DE) (f : Int → Int → Int) : DS := fun Δ ρ M => match ρ[i]? with
  | some (some x) => te ρ M fun y M1 => rIp f x y M1 fun z M2 => Δ.nx (ρ.set i (some z)) M2
  | _ => False
def rGet (x y : D) (M : MS) (Φ : DQ) : Prop := match y with
  | .int i => (match seqL M x with
    | some xs => (match atI xs i with
      | some d => Φ d M
      | none => False)
    | none => False)
  | _ => False
def sAugI (to ti te : DE) (f : Int → Int → Int) : DS := fun Δ ρ M => to ρ M fun x M1 => ti ρ M1 fun i M2 => rGet x i M2 fun y M3 => te ρ M3 fun z M4 => rIp f y z M4 fun w M5 => rSet x i w M5 fun M6 => Δ.nx ρ M6
end
/-- o.m(..), o a list that may change -/
def isL (M : MS) : D → Prop
  | .ref a => (match M.map a with
    | some (.lst _) => True
    | _ => False)
  | _ => False
def dMt (R : D → List D → MS → DQ → Prop) (to : DE) (ta : DAs) : DE := fun ρ M Φ => to ρ M fun x M1 => isL M1 x ∧ ta ρ M1 fun ys M2 => R x ys M2 Φ
def sPar (i j : Nat) (ta : DAs) : DS := fun Δ ρ M => ta ρ M fun ds M1 => match ds with
  | [v, w] => Δ.nx ((ρ.set i (some v)).set j (some w)) M1
  | _ => False
def sPar3 (i j l : Nat) (ta : DAs) : DS := fun Δ ρ M => ta ρ M fun ds M1 => match ds with
  | [u, v, w] => Δ.nx (((ρ.set i (some u)).set j (some v)).set l (some w)) M1
  | _ => False
def dDic0 : DE := fun _ M Φ => Φ (.dic [] []) M
def keyD : D → Option Key
  | .int i => some (.inl i)
  | .str z => some (.inr z)
  | _ => none
def dDic1 (tk tv : DE) : DE := fun ρ M Φ => tk ρ M fun x M1 => tv ρ M1 fun y M2 => match keyD x with
  | some k => Φ (.dic [k] [y]) M2
  | none => False
section
variable {X : Cx} {pos : Pos}
variable {O : Og X.K}
theorem q_dic0 : PE X (.Dict [] [] pos) (lo X.K O dDic0) :=
  PE.imp pe_dnewK fun σ H Q h => by
    obtain ⟨F, M, ρ, Φ, A, h, k⟩ := h
    intro p hp
    refine k _ _ ⟨_, M, .dic [] [], Lm.frozen A.am hp, (A.am.frozen hp).1, ?_, h⟩
    simp only [Rep]
    exact ⟨p, [], rfl, .inr rfl, upd_same, rfl, Reps.nil⟩
end
end DL
namespace DL
open PySem PySem.Spec PyProof.Rows L2
section
variable {X : Cx} {pos p : Pos} {j : Nat} {x : Str}
variable {O : Og X.K}
theorem q_int {i : Int} : PE X (.Constant (.int i) j pos) (lo X.K O (dC (.int i))) := q_c pe_int fun _ _ => rfl
theorem q_bl {b : Bool} : PE X (.Constant (.bool b) j pos) (lo X.K O (dC (.bl b))) := q_c pe_bl fun _ _ => rfl
theorem q_non : PE X (.Constant .none j pos) (lo X.K O (dC .non)) := q_c pe_non fun _ _ => rfl
theorem q_str {z : Str} : PE X (.Constant (.str z) j pos) (lo X.K O (dC (.str z))) := q_c pe_str fun _ _ => rfl
theorem q_gint {i : Int} (hg : Gl X x) (hm : ∃ t, X.mg x = some (.int i t)) (hd : (x == ("__debug__" : Str)) = false) : PE X (.Name x p) (lo X.K O (dC (.int i))) := by
  obtain ⟨t, hm⟩ := hm
  exact q_c (v := .int i) ⟨fun pins s σ H Q I h => ld_glob I hg hm ⟨.int i, H, I, ⟨t, rfl⟩, h⟩ hd⟩ fun _ _ => rfl
theorem q_ty (t : Ty) (hg : Gl X x) (hm : X.mg x = none) (hv : bootBuiltins x = some (.type t.name)) (hn : x ≠ "__name__") (hd : (x == ("__debug__" : Str)) = false) : PE X (.Name x p) (lo X.K O (dC (.ty t))) :=
  q_c (v := .ty t.name) ⟨fun pins s σ H Q I h => ld_blt I hg hm hv ⟨.ty t.name, H, I, rfl, h⟩ hn hd⟩ fun _ _ => rfl
end
theorem bt_int : bootBuiltins "int" = some (.type "int") := by decide +kernel
theorem bt_bool : bootBuiltins "bool" = some (.type "bool") := by decide +kernel
theorem bt_list : bootBuiltins "list" = some (.type "list") := by decide +kernel
theorem bt_len : bootBuiltins "len" = some (.builtin "len") := by decide +kernel
theorem bt_abs : bootBuiltins "abs" = some (.builtin "abs") := by decide +kernel
theorem bt_isinstance : bootBuiltins "isinstance" = some (.builtin "isinstance") := by decide +kernel
theorem bt_repr : bootBuiltins "repr" = some (.builtin "repr") := by decide +kernel
theorem bt_max : bootBuiltins "max" = some (.builtin "max") := by decide +kernel
section
variable {X : Cx} {pos : Pos}
variable {O : Og X.K}
theorem g_nm {i : Nat} {x : Str} (hN : X.N.Nodup) (hi : X.N[i]? = some x) (hx : Loc X.env.scope x) (hf : X.fn x = true ∨ X.env.scope.names.lookup x = some .local) : PG X (.Name x pos) ((Pat.nm i).tg X.K) := pg_name hN hi hx hf
end
/-- the def at x keeps the promise sp, n parameters -/
structure Callee (P : Program) (w : World) (K : PySem.W.Frag) (mg : Str → Option Value) (base : Heap) (k : Nat) (x : Str) (n : Nat) (sp : DSp) : Prop where
  ex : ∃ (f : Addr) (fd : FuncData) (ps : List Str), ps.length = n ∧ mg x = some (.ref f) ∧ PySem.W.keepIn K (.ref f) = true ∧ Binds K fd ps [] ∧ FnG P w K mg base CX0 k f fd ps (loSp K sp n)
theorem _root_.L2.Room.u64 {k : Nat} {A : Around} (r : Room k A) : A.units + 64 < cLine := by have := r.un; omega
section
variable {X : Cx} {k j n : Nat} {x : Str} {p pos : Pos} {e : Expr} {es : List Expr} {ta : DAs} {sp : DSp}
variable {O : Og X.K}
theorem q_call (C : Callee X.prog X.w X.K X.mg X.base j x n sp) (hr : Room k X.A) (hjk : j ≤ k) (hgd : X.A.guards = some []) (hg : Gl X x) (ha : PA X (e :: es) (loA X.K O ta)) (hdb : (x == ("__debug__" : Str)) = false) (he : starEach (e :: es) X.env = (false, eval e X.env) :: starEach es X.env)
    (hpl : (backTo pos (starEach es X.env)).any (·.1) = false) : PE X (.Call (.Name x p) (e :: es) [] pos) (lo X.K O (dCall n sp ta)) := by
  obtain ⟨f, fd, ps, hl, hm, hk, hb, F⟩ := C.ex
  exact lo_call (pe_callG (E := fun _ _ _ => False) F (hr.mono hjk) hgd hg hm hk hb .nil (fun _ _ _ _ _ _ _ h => h.elim) ha hdb he hpl)
end
def startD (m : Nat) (ds : List D) : DEnv := ds.map some ++ List.replicate (m - ds.length) none
theorem repEnv_start {K : PySem.W.Frag} {F : Addr → Prop} {H : Hp} {ds : List D} {vs : List V} {N : List Str} (r : Reps K F H ds vs) : RepEnv K F H (L2.start N vs) (startD N.length ds) := by
  unfold L2.start startD
  refine ⟨by simp [r.length], fun i d h => ?_⟩
  by_cases hi : i < ds.length
  · rw [List.getElem?_append_left (by simpa using hi), List.getElem?_map, List.getElem?_eq_getElem hi] at h
    simp only [Option.map_some, Option.some.injEq] at h
    subst h
    obtain ⟨v, e, rv⟩ := r.get (List.getElem?_eq_getElem hi)
    refine ⟨v, ?_, rv⟩
    rw [List.getElem?_append_left (by simpa [← r.length] using hi), List.getElem?_map, e]
    rfl
  · rw [List.getElem?_append_right (by simpa using hi)] at h
    have := List.getElem?_eq_some_iff.mp h
    obtain ⟨_, e⟩ := this
    simp at e
section
variable {P : Program} {w : World} {K : PySem.W.Frag} {mg : Str → Option Value} {base : Heap} {x qual : Str} {params : Arguments} {body : List Stmt} {scope : Scope} {f : Addr} {fd : FuncData} {N ps : List Str} {k n : Nat} {sp : DSp} {t : DS}
/-- a def by its reading -/
theorem fnR (F : FunD K x qual params body scope [] [] f fd) (S : FnScope N ps scope) (hn : ps.length = n)
    (hbody : ∀ (cdv : Value) (A : Around) (outer : List Env) (s : Shared) (H : Hp) (E : XK), Room k (A.deeper (envOfC qual scope s.heap.objs.size f cdv)) → (A.deeper (envOfC qual scope s.heap.objs.size f cdv)).guards = some [] →
      PSs (cxOf CX0 P w K mg base N qual scope f cdv A outer s H E).nox body (loS K Og.top t))
    (hsp : ∀ ds M Φ, ds.length = n → sp ds M Φ noX → t { nx := fun _ M' => Φ .non M', rt := Φ } (startD N.length ds) M) : FnG P w K mg base CX0 (k + 1) f fd ps (loSp K sp n) := by
  refine FunD.okG F S (fun vs H Q E h => ?_) fun cdv A outer s H vs Q E hr hg h => ⟨_, PSs.nox (hbody cdv A outer s H E hr hg), ?_⟩
  · obtain ⟨_, _, ds, _, hl, _, r, _⟩ := h
    rw [← r.length, hl, hn]
  · obtain ⟨F', M, ds, Φ, hl, am, r, h, k⟩ := h
    refine ⟨F', M, _, _, ⟨am, repEnv_start r, trivial⟩, hsp ds M Φ hl h, ⟨fun σ' H' F2 M' ρ' l A' q => k _ _ ⟨F2, M', .non, l, A'.am, rfl, q⟩, fun v H' q => k v H' q, fun _ _ _ _ _ _ _ q => q.elim, fun _ _ _ _ _ _ _ q => q.elim⟩⟩
end
end DL
namespace DL
open PySem PySem.Spec PyProof.Rows L2
def okKey : Key → Bool
  | .inl i => decide (i.natAbs.log2 < 1920)
  | .inr z => z.cps.all (· < 4294967296)
def keyWt : Key → Nat
  | .inl _ => 1921
  | .inr z => 10 * z.length + 2
mutual
def okl : D → Bool
  | .int i => decide (i.natAbs.log2 < 1920)
  | .str z => z.cps.all (· < 4294967296)
  | .tup xs => okls xs
  | .lst xs => okls xs
  | .dic ks xs => ks.all okKey && okls xs
  | .ref _ => false
  | .scr _ => false
  | .ty _ => false
  | .obj _ _ _ _ => false
  | .non => true
  | .bl _ => true
def okls : List D → Bool
  | [] => true
  | x :: xs => okl x && okls xs
end
mutual
def wt : D → Nat
  | .int _ => 1921
  | .str z => 10 * z.length + 2
  | .tup xs => wts xs + 3
  | .lst xs => wts xs + 3
  | .dic ks xs => (ks.map fun k => keyWt k + 2).sum + wts xs + 3
  | _ => 5
def wts : List D → Nat
  | [] => 0
  | x :: xs => wt x + 2 + wts xs
end
theorem str_wt {z : Str} (h : (z.cps.all (· < 4294967296)) = true) : (reprText z).length ≤ 10 * z.length + 2 := by
  refine StrLaws.reprText_len z fun c hc => ?_
  have := Array.all_eq_true_iff_forall_mem.mp h c (by simpa using hc)
  have h2 : c < 4294967296 := by simpa using this
  exact h2
theorem listText_len (ts : List Str) : (listText ts).length ≤ piled ts + 2 := by
  unfold listText
  rw [strLen_append]
  have e : (("]" : String) : Str).length = 1 := rfl
  rw [e]
  cases ts with
  | nil => exact Nat.le_refl 2
  | cons t r =>
    have e2 : textFrom 0 "[" (t :: r) = textFrom 1 ("[" ++ "" ++ t) r := rfl
    rw [e2, textFrom_length_pos r 1 _ (by decide), piled_cons, strLen_append, strLen_append]
    have e3 : (("[" : String) : Str).length = 1 := rfl
    have e4 : (("" : String) : Str).length = 0 := rfl
    rw [e3, e4]
    omega
theorem join_len (ts : List Str) : (Str.join ", " ts).length ≤ piled ts := by
  cases ts with
  | nil => exact Nat.le_refl 0
  | cons t r => have := join_length_add (t :: r) (by simp); omega
theorem tupleText_len (ts : List Str) : (tupleText ts).length ≤ piled ts + 3 := by
  unfold tupleText
  rw [strLen_append, strLen_append]
  have e : (("(" : String) : Str).length = 1 := rfl
  have h := join_len ts
  have e2 : ((if ts.length == 1 then ",)" else ")" : String) : Str).length ≤ 2 := by split <;> decide
  rw [e]
  omega
theorem dictText_len (ts : List Str) : (dictText ts).length ≤ piled ts + 2 := by
  unfold dictText
  rw [strLen_append, strLen_append]
  have e : (("{" : String) : Str).length = 1 := rfl
  have e2 : (("}" : String) : Str).length = 1 := rfl
  have h := join_len ts
  rw [e, e2]
  omega
theorem key_wt {k : Key} (h : okKey k = true) : (keyPy k).shown.length ≤ keyWt k ∧ (keyPy k).showable = true := by
  cases k with
  | inl i =>
    have h' : i.natAbs.log2 < 1920 := by simpa [okKey] using h
    exact ⟨int_text_len_1921 h', by simpa only [keyPy, PyData.showable, decide_eq_true_eq] using h'⟩
  | inr z => exact ⟨str_wt h, rfl⟩
mutual
theorem wt_ok : ∀ x : D, okl x = true → (toPy x).shown.length ≤ wt x ∧ (toPy x).showable = true
  | .non, _ => ⟨by decide, rfl⟩
  | .bl b, _ => ⟨by cases b <;> decide, rfl⟩
  | .int i, h => by
    have h' : i.natAbs.log2 < 1920 := by simpa [okl] using h
    exact ⟨int_text_len_1921 h', by simpa only [toPy, PyData.showable, decide_eq_true_eq] using h'⟩
  | .str z, h => ⟨str_wt (by simpa only [okl] using h), rfl⟩
  | .tup xs, h => by
    obtain ⟨h1, h2⟩ := wts_ok xs (by simpa only [okl] using h)
    simp only [toPy, PyData.shown, PyData.showable, wt]
    exact ⟨Nat.le_trans (tupleText_len _) (by omega), h2⟩
  | .lst xs, h => by
    obtain ⟨h1, h2⟩ := wts_ok xs (by simpa only [okl] using h)
    simp only [toPy, PyData.shown, PyData.showable, wt]
    exact ⟨Nat.le_trans (listText_len _) (by omega), h2⟩
  | .dic ks xs, h => by
    have h' : (ks.all okKey && okls xs) = true := by simpa only [okl] using h
    rw [Bool.and_eq_true] at h'
    obtain ⟨h1, h2⟩ := wkv_ok ks xs h'.1 h'.2
    simp only [toPy, PyData.shown, PyData.showable, wt]
    exact ⟨Nat.le_trans (dictText_len _) (by omega), h2⟩
  | .ref _, h => by simp [okl] at h
  | .scr _, h => by simp [okl] at h
  | .ty _, h => by simp [okl] at h
  | .obj _ _ _ _, h => by simp [okl] at h
theorem wts_ok : ∀ xs : List D, okls xs = true → piled (PyData.shownAll (toPys xs)) ≤ wts xs ∧ PyData.showableAll (toPys xs) = true
  | [], _ => ⟨Nat.le_refl _, rfl⟩
  | x :: xs, h => by
    simp only [okls, Bool.and_eq_true] at h
    obtain ⟨a1, a2⟩ := wt_ok x h.1
    obtain ⟨b1, b2⟩ := wts_ok xs h.2
    simp only [toPys, PyData.shownAll, PyData.showableAll, wts, piled_cons, a2, b2, Bool.and_self, and_true]
    omega
theorem wkv_ok : ∀ (ks : List Key) (xs : List D), ks.all okKey = true → okls xs = true → piled (PyData.shownKv ((ks.map keyPy).zip (toPys xs))) ≤ (ks.map fun k => keyWt k + 2).sum + wts xs ∧ PyData.showableKv ((ks.map keyPy).zip (toPys xs)) = true
  | [], xs, _, _ => ⟨by simp [PyData.shownKv, piled], by simp [PyData.showableKv]⟩
  | k :: ks, [], _, _ => ⟨by simp [toPys, PyData.shownKv, piled], by simp [toPys, PyData.showableKv]⟩
  | k :: ks, x :: xs, h, h' => by
    simp only [List.all_cons, Bool.and_eq_true] at h
    simp only [okls, Bool.and_eq_true] at h'
    obtain ⟨k1, k2⟩ := key_wt h.1
    obtain ⟨a1, a2⟩ := wt_ok x h'.1
    obtain ⟨b1, b2⟩ := wkv_ok ks xs h.2 h'.2
    simp only [List.map_cons, toPys, List.zip_cons_cons, PyData.shownKv, PyData.showableKv, wts, piled_cons, a2, b2, k2, Bool.and_self, and_true, List.sum_cons]
    rw [strLen_append, strLen_append]
    have e : ((": " : String) : Str).length = 2 := rfl
    rw [e]
    omega
end
/-- may be shown and compared, with room -/
structure Fine (x : D) (w : Nat) : Prop where
  st : still x = true
  dp : dep x ≤ 30
  ok : okl x = true
  wt : wt x ≤ w
  dc : hasDic x = true → noLst x = true
theorem Fine.mono {x : D} {w w' : Nat} (h : Fine x w) (hw : w ≤ w') : Fine x w' := ⟨h.st, h.dp, h.ok, Nat.le_trans h.wt hw, h.dc⟩
mutual
theorem snap_still {M : MS} : ∀ x : D, still x = true → snap M x = x
  | .non, _ => rfl
  | .bl _, _ => rfl
  | .int _, _ => rfl
  | .str _, _ => rfl
  | .tup xs, h => by simp only [snap]; rw [snaps_still xs (by simpa only [still] using h)]
  | .lst xs, h => by simp only [snap]; rw [snaps_still xs (by simpa only [still] using h)]
  | .dic ks xs, h => by
    have h' : (stills xs && (ks.length == xs.length)) = true := by simpa only [still] using h
    rw [Bool.and_eq_true] at h'
    simp only [snap]; rw [snaps_still xs h'.1]
  | .ref _, h => by simp [still] at h
  | .scr _, h => by simp [still] at h
  | .ty _, h => by simp [still] at h
  | .obj _ _ _ _, h => by simp [still] at h
theorem snaps_still {M : MS} : ∀ xs : List D, stills xs = true → snaps M xs = xs
  | [], _ => rfl
  | x :: xs, h => by
    simp only [stills, Bool.and_eq_true] at h
    simp only [snaps, snap_still x h.1, snaps_still xs h.2]
end
/-- the text of a tree -/
def rpr (x : D) : Str := (toPy x).shown
/-- as Fine, of lists with dicts within too -/
structure Fin2 (x : D) (w : Nat) : Prop where
  st : still x = true
  dp : dep x ≤ 30
  ok : okl x = true
  wt : wt x ≤ w
theorem repr_fin2 {x : D} {w : Nat} {M : MS} {Φ : DQ} (h : Fin2 x w) (hw : w ≤ 16000000) (q : Φ (.str (rpr x)) M) : rRepr [x] M Φ := by
  show ShowOk (snap M x) ∧ Φ (.str (toPy (snap M x)).shown) M
  rw [snap_still x h.st]
  exact ⟨⟨h.st, by have := h.dp; omega, (wt_ok x h.ok).2, by have := (wt_ok x h.ok).1; have := h.wt; rw [sizeLine_eq]; omega⟩, q⟩
theorem rNe_still {x y : D} {M : MS} {Φ : DQ} (hx : plain x = true) (dx : dep x ≤ 60) (hy : plain y = true) (dy : dep y ≤ 60) (q : Φ (.bl (!eqd x y)) M) : rNe x y M Φ := by
  unfold rNe
  rw [snap_still x (still_of_plain x hx), snap_still y (still_of_plain y hy)]
  exact .inr (.inl ⟨⟨hx, dx⟩, ⟨hy, dy⟩, q⟩)
theorem rNe_i {i j : Int} {M : MS} {Φ : DQ} (q : Φ (.bl (!(i == j))) M) : rNe (.int i) (.int j) M Φ := rNe_still rfl (Nat.zero_le _) rfl (Nat.zero_le _) q
theorem rNe_s {a b : Str} {M : MS} {Φ : DQ} (q : Φ (.bl (!(a == b))) M) : rNe (.str a) (.str b) M Φ := .inl ⟨a, b, rfl, rfl, q⟩
theorem forW_inv {G : MS → Prop} {p : Pat} {body : DS} {Δ : DEnds} (I : List D → DEnv → MS → Prop) (hG : ∀ ds ρ M, I ds ρ M → G M) (h0 : ∀ ρ M, I [] ρ M → Δ.nx ρ M)
    (hs : ∀ d ds ρ M (Nx : DEnv → MS → Prop), I (d :: ds) ρ M → (∀ ρ' M', I ds ρ' M' → Nx ρ' M') → ∃ ρ1, p.put d ρ = some ρ1 ∧ body { nx := Nx, rt := Δ.rt, bk := Δ.nx, ct := Nx } ρ1 M) :
    ∀ (ds : List D) (ρ : DEnv) (M : MS), I ds ρ M → forW G p body Δ ds ρ M
  | [], ρ, M, h => ⟨hG _ _ _ h, h0 _ _ h⟩
  | d :: ds, ρ, M, h => by
    obtain ⟨ρ1, e, b⟩ := hs d ds ρ M (fun ρ' M' => forW G p body Δ ds ρ' M') h fun ρ' M' q => forW_inv I hG h0 hs ds ρ' M' q
    refine ⟨hG _ _ _ h, ?_⟩
    rw [e]
    exact b
theorem lcW_inv {G : MS → Prop} {p : Pat} {tt : DT} {te : DE} {ρ : DEnv} {Φ : List D → MS → Prop} (I : List D → List D → MS → Prop) (hG : ∀ ds acc M, I ds acc M → G M) (h0 : ∀ acc M, I [] acc M → Φ acc M)
    (hs : ∀ d ds acc M (Nx : List D → MS → Prop), I (d :: ds) acc M → (∀ acc' M', I ds acc' M' → Nx acc' M') → ∃ ρ1, p.put d ρ = some ρ1 ∧ tt ρ1 M fun b M1 => if b = true then te ρ1 M1 fun y M2 => acc.length < 100000 ∧ Nx (acc ++ [y]) M2 else Nx acc M1) :
    ∀ (ds acc : List D) (M : MS), I ds acc M → lcW G p tt te ρ ds acc M Φ
  | [], acc, M, h => ⟨hG _ _ _ h, h0 _ _ h⟩
  | d :: ds, acc, M, h => by
    obtain ⟨ρ1, e, b⟩ := hs d ds acc M (fun acc' M' => lcW G p tt te ρ ds acc' M' Φ) h fun acc' M' q => lcW_inv I hG h0 hs ds acc' M' q
    refine ⟨hG _ _ _ h, ?_⟩
    rw [e]
    exact b
/-- a comprehension that computes f of each item, nothing else -/
theorem lcW_map {G : MS → Prop} {p : Pat} {tt : DT} {te : DE} {ρ : DEnv} {Φ : List D → MS → Prop} {M : MS} (f : D → Option D) (items : List D) (hG : G M) (hl : items.length ≤ 100000)
    (hs : ∀ d ∈ items, ∃ ρ1, p.put d ρ = some ρ1 ∧ ∀ (acc : List D) (Nx : List D → MS → Prop), acc.length < 100000 → Nx (acc ++ (f d).toList) M → tt ρ1 M fun b M1 => if b = true then te ρ1 M1 fun y M2 => acc.length < 100000 ∧ Nx (acc ++ [y]) M2 else Nx acc M1)
    (h : Φ (items.filterMap f) M) : lcW G p tt te ρ items [] M Φ := by
  refine lcW_inv (fun ds acc M' => M' = M ∧ (∀ d ∈ ds, d ∈ items) ∧ acc.length + ds.length ≤ 100000 ∧ Φ (acc ++ ds.filterMap f) M) (fun _ _ _ h => h.1 ▸ hG) (fun acc M' q => ?_) (fun d ds acc M' Nx q k => ?_) items [] M ⟨rfl, fun _ h => h, by simpa using hl, h⟩
  · obtain ⟨rfl, _, _, q⟩ := q
    simpa using q
  · obtain ⟨rfl, hi, hl, q⟩ := q
    obtain ⟨ρ1, e, b⟩ := hs d (hi d (List.mem_cons_self ..))
    have hl' : acc.length + (ds.length + 1) ≤ 100000 := by simpa using hl
    refine ⟨ρ1, e, b acc Nx (by omega) (k _ _ ⟨rfl, fun x hx => hi x (List.mem_cons_of_mem _ hx), ?_, ?_⟩)⟩
    · cases hf : f d <;> simp <;> omega
    · rw [List.filterMap_cons] at q
      cases hf : f d with
      | none => rw [hf] at q; simpa using q
      | some y => rw [hf] at q; simpa using q
end DL
namespace DL
open PySem PySem.Spec PyProof.Rows L2
section
variable {M : MS} {Φ : DQ} {x y d : D} {xs ds : List D} {i j : Int} {a : Addr} {n : Nat}
theorem atI_n {α : Type} (xs : List α) (n : Nat) : atI xs (n : Int) = xs[n]? := by
  unfold atI
  by_cases h : n < xs.length
  · have e : ixN xs.length (n : Int) = some n := by
      unfold ixN
      rw [if_pos (by omega), if_pos (by omega)]; simp
    rw [e]; rfl
  · have e : ixN xs.length (n : Int) = none := by
      unfold ixN
      rw [if_pos (by omega), if_neg (by omega)]
    rw [e, List.getElem?_eq_none (by omega)]; rfl
theorem atI_t {α : Type} (xs : List α) (i : Int) (h : 0 ≤ i) : atI xs i = xs[i.toNat]? := by
  have := atI_n xs i.toNat
  rwa [show ((i.toNat : Nat) : Int) = i by omega] at this
theorem at0 {α : Type} (xs : List α) : atI xs 0 = xs[0]? := atI_n xs 0
theorem at1 {α : Type} (xs : List α) : atI xs 1 = xs[1]? := atI_n xs 1
theorem ixN_t (n : Nat) (i : Int) (h : 0 ≤ i) (h2 : i < n) : ixN n i = some i.toNat := by
  unfold ixN
  rw [if_pos h, if_pos h2]
theorem rIx_seq (h : seqA M x = some xs) (e : atI xs i = some d) (q : Φ d M) : rIx x (.int i) M Φ := by
  unfold rIx
  simp only [h, e]
  exact q
theorem rSet_ref {k : MS → Prop} (h : M.map a = some (.lst ds)) (e : ixN ds.length i = some n) (q : k (M.put a (.lst (ds.set n y)))) : rSet (.ref a) (.int i) y M k := by
  unfold rSet
  simp only [h, e]
  exact q
theorem seqA_ref (h : M.map a = some (.lst ds)) : seqA M (.ref a) = some ds := by simp only [seqA, h]
theorem rLen_seq (hx : ∀ z, x ≠ .str z) (h : seqA M x = some xs) (q : Φ (.int xs.length) M) : rLen [x] M Φ := by
  unfold rLen
  split
  · rename_i z e
    injection e with e
    exact absurd e (hx z)
  · rename_i y _ e
    injection e with e
    subst e
    simp only [h]
    exact q
  · rename_i h1 h2
    exact absurd rfl (h2 x)
theorem rAdd_i (q : Φ (.int (i + j)) M) : rAdd (.int i) (.int j) M Φ := q
theorem rAdd_l {ys : List D} (h : xs.length + ys.length ≤ 100000) (q : Φ (.lst (xs ++ ys)) M) : rAdd (.lst xs) (.lst ys) M Φ := ⟨h, q⟩
theorem rSub_i (q : Φ (.int (i - j)) M) : rSub (.int i) (.int j) M Φ := q
theorem rNeg_i (q : Φ (.int (-i)) M) : rNeg (.int i) M Φ := q
theorem rCmp_i {f : Int → Int → Bool} (q : Φ (.bl (f i j)) M) : rCmp f (.int i) (.int j) M Φ := q
theorem rMod_i (h : 0 < j) (q : Φ (.int (i % j)) M) : rMod (.int i) (.int j) M Φ := ⟨h, q⟩
theorem rDiv_i (h : 0 < j) (h2 : j < 1073741824) (q : Φ (.int (i / j)) M) : rDiv (.int i) (.int j) M Φ := ⟨h, h2, q⟩
theorem rPow_i (h : CPow i j) (q : Φ (.int (i ^ j.toNat)) M) : rPow (.int i) (.int j) M Φ := ⟨h, q⟩
theorem rMul_i (h : CMul i j) (q : Φ (.int (i * j)) M) : rMul (.int i) (.int j) M Φ := ⟨h, q⟩
end
/-- the deck: at least k draws are left -/
structure Dk (M : MS) (a c : Addr) (k : Nat) : Prop where
  ne : a ≠ c
  ex : ∃ (n : Int) (cells : List Int), M.map a = some (.lst [.ref c, .int n]) ∧ M.map c = some (.lst (cells.map D.int)) ∧ 0 ≤ n ∧ n + k ≤ 2 ^ 40 ∧ cells.length ≤ 63 ∧ ∀ x ∈ cells, 0 ≤ x
def Kp (a c : Addr) (M M' : MS) : Prop := ∀ b, b ≠ a → b ≠ c → M.map b ≠ none → M'.map b = M.map b
theorem Dk.mono {M : MS} {a c : Addr} {k k' : Nat} (h : Dk M a c k) (hk : k' ≤ k) : Dk M a c k' := by
  obtain ⟨n, cells, h1, h2, h3, h4, h5, h6⟩ := h.ex
  exact ⟨h.ne, n, cells, h1, h2, h3, by omega, h5, h6⟩
theorem Kp.trans {a c : Addr} {M M1 M2 : MS} (h : Kp a c M M1) (h' : Kp a c M1 M2) : Kp a c M M2 := fun b h1 h2 h3 => by
  rw [h' b h1 h2 (by rw [h b h1 h2 h3]; exact h3), h b h1 h2 h3]
/-- another place is written -/
theorem Dk.put {M : MS} {a c p : Addr} {k : Nat} {o : MO} (h : Dk M a c k) (ha : p ≠ a) (hc : p ≠ c) : Dk (M.put p o) a c k := by
  obtain ⟨n, cells, h1, h2, h3⟩ := h.ex
  exact ⟨h.ne, n, cells, by rw [MS.put_ne (Ne.symm ha)]; exact h1, by rw [MS.put_ne (Ne.symm hc)]; exact h2, h3⟩
theorem Kp.new {M : MS} {a c p : Addr} {o : MO} (hp : M.map p = none) : Kp a c M (M.put p o) := fun b _ _ h => MS.put_ne fun e => by subst e; exact h hp
/-- no promise at all (under a recursion) -/
def spNo : DSp := fun _ _ _ _ => False
theorem FnG.no {P : Program} {w : World} {K : PySem.W.Frag} {mg : Str → Option Value} {base : Heap} {CX : CXT} {k n : Nat} {f : Addr} {fd : FuncData} {ps : List Str} : FnG P w K mg base CX k f fd ps (loSp K spNo n) :=
  ⟨fun _ _ _ _ ⟨_, _, _, _, _, _, _, h, _⟩ => h.elim, fun _ _ _ _ _ _ _ _ _ _ _ _ _ _ ⟨_, _, _, _, _, _, _, h, _⟩ => h.elim⟩
end DL
namespace DL
open PySem PySem.Spec PyProof.Rows L2
def sp_law_deck : DSp := fun ds M Φ _ => ∃ ns : List Int, ds = [.scr ns] ∧ ∀ a c M', M.map a = none → M.map c = none → Dk M' a c (2 ^ 40) → Kp a c M M' → Φ (.ref a) M'
def sp_law_draw : DSp := fun ds M Φ _ => ∃ (a c : Addr) (k : Nat) (l : Int), ds = [.ref a, .int l] ∧ 1 ≤ l ∧ l < 2 ^ 30 ∧ Dk M a c (k + 1) ∧ ∀ (r : Int) M', Dk M' a c k → Kp a c M M' → 0 ≤ r → r < l → Φ (.int r) M'
def t_law_deck : DS := (sSeq (sRet (dLstM (dCons (dLcM (dSeq (dSl (dVar 0) dNoPart (dPart (dC (.int 63))))) (.nm 1) [1] dYes (dFn rAbs (dCons (dVar 1) dNil))) (dCons (dC (.int 0)) dNil)))) sNext)
theorem cutD63 (ns : List Int) : cutD (ns.map D.int) none (some 63) = (ns.take 63).map D.int := by
  unfold cutD
  rw [List.length_map, show HT.sIx ns.length 0 none = 0 from HT.sIx_none _ _, show HT.sIx ns.length ns.length (some 63) = min 63 ns.length from HT.sIx_nat ns.length ns.length 63]
  rw [List.drop_zero, Nat.sub_zero, ← List.map_take]
  congr 1
  rw [Nat.min_comm, List.take_eq_take_iff]
  omega
theorem p_law_deck (ds : List D) (M : MS) (Φ : DQ) (h : sp_law_deck ds M Φ noX) : t_law_deck { nx := fun _ M' => Φ .non M', rt := Φ } (startD 2 ds) M := by
  obtain ⟨ns, rfl, h⟩ := h
  simp only [t_law_deck, dLcM, sSeq, sRet, sRetN, sNext, sIf, sAsg, sPar, sPar3, sSetI, sAug, sAugI, sDrop, sBreak, sCont, dOp, dUn, dCons, dNil, dFn, dC, dTup, dLst, dLstM, dIf, dTest, dTru, dAnd, dOr, dNot, dAndV, dOrV, dNotE, dChain, dSl, dNoPart, dPart, dSeq, dEnum, dZip, dRng1, dRng2, dYes, dCall, dMt, dVar, dDic0, dDic1, Pat.put, Pat.puts, List.getElem?_cons_zero, List.getElem?_cons_succ, List.set_cons_zero, List.set_cons_succ, startD, List.map_cons, List.map_nil, List.cons_append, List.nil_append, List.length_cons, List.length_nil, List.replicate_succ, List.replicate_zero, Nat.reduceSub, Nat.reduceAdd, Nat.zero_add, wipeD, keyD, rSl, seqA]
  rw [cutD63]
  refine lcW_map (fun d => match d with | .int i => some (.int (if i < 0 then -i else i)) | d => some d) _ trivial (by simp; omega) (fun d hd => ?_) ?_
  · obtain ⟨i, _, rfl⟩ := List.mem_map.mp hd
    refine ⟨_, rfl, fun acc Nx hl q => ?_⟩
    simp only [sSeq, sRet, sRetN, sNext, sIf, sAsg, sPar, sPar3, sSetI, sAug, sAugI, sDrop, sBreak, sCont, dOp, dUn, dCons, dNil, dFn, dC, dTup, dLst, dLstM, dIf, dTest, dTru, dAnd, dOr, dNot, dAndV, dOrV, dNotE, dChain, dSl, dNoPart, dPart, dSeq, dEnum, dZip, dRng1, dRng2, dYes, dCall, dMt, dVar, dDic0, dDic1, Pat.put, Pat.puts, List.getElem?_cons_zero, List.getElem?_cons_succ, List.set_cons_zero, List.set_cons_succ, startD, List.map_cons, List.map_nil, List.cons_append, List.nil_append, List.length_cons, List.length_nil, List.replicate_succ, List.replicate_zero, Nat.reduceSub, Nat.reduceAdd, Nat.zero_add, wipeD, keyD, rAbs, if_true]
    exact ⟨hl, q⟩
  · intro c hc
    refine ⟨by decide, fun p hp => ?_⟩
    have hpc : p ≠ c := fun e => by subst e; rw [MS.put_same] at hp; cases hp
    rw [MS.put_ne hpc] at hp
    refine h p c _ hp hc ⟨hpc, 0, (ns.take 63).map fun i => if i < 0 then -i else i, MS.put_same, ?_, by decide, by decide, by simp; omega, fun x hx => ?_⟩ fun b h1 h2 h3 => ?_
    · rw [MS.put_ne (Ne.symm hpc), MS.put_same]
      congr 2
      rw [List.filterMap_map, List.map_map]
      exact (List.filterMap_eq_map (f := fun i : Int => D.int (if i < 0 then -i else i)) ▸ rfl)
    · obtain ⟨i, _, rfl⟩ := List.mem_map.mp hx
      split <;> omega
    · rw [MS.put_ne h1, MS.put_ne h2]
theorem draw_out {a c : Addr} {M M' : MS} {n : Int} {cells' : List Int} {k : Nat} (hac : a ≠ c) (hn0 : 0 ≤ n) (hn : n + ((k + 1 : Nat) : Int) ≤ 2 ^ 40) (h1 : M'.map a = some (.lst [.ref c, .int (n + 1)])) (h2 : M'.map c = some (.lst (cells'.map D.int))) (h3 : cells'.length ≤ 63) (h4 : ∀ x ∈ cells', 0 ≤ x)
    (h5 : ∀ b, b ≠ a → b ≠ c → M'.map b = M.map b) : Dk M' a c k ∧ Kp a c M M' :=
  ⟨⟨hac, n + 1, cells', h1, h2, by omega, by omega, h3, h4⟩, fun b x y _ => h5 b x y⟩
end DL
namespace DL
open PySem PySem.Spec PyProof.Rows L2
def numD (d : D) (lo hi : Int) : Bool := match d with
  | .int i => decide (lo ≤ i) && decide (i ≤ hi)
  | _ => false
theorem run_num {d : D} {lo hi : Int} {M : MS} {Φ : DQ} (hd : still d = true) (q : Φ (.bl (numD d lo hi)) M) :
    dAndV (dFn rIsi (dCons (dVar 0) (dCons (dC (.ty .int)) dNil))) (dAndV (dNotE (dFn rIsi (dCons (dVar 0) (dCons (dC (.ty .bool)) dNil)))) (dChain rLe rLe (dVar 1) (dVar 0) (dVar 2))) [some d, some (.int lo), some (.int hi)] M Φ := by
  simp only [sSeq, sRet, sRetN, sNext, sIf, sAsg, sPar, sPar3, sSetI, sAug, sAugI, sDrop, sBreak, sCont, dOp, dUn, dCons, dNil, dFn, dC, dTup, dLst, dLstM, dIf, dTest, dTru, dAnd, dOr, dNot, dAndV, dOrV, dNotE, dChain, dSl, dNoPart, dPart, dSeq, dEnum, dZip, dRng1, dRng2, dYes, dCall, dMt, dVar, dDic0, dDic1, Pat.put, Pat.puts, List.getElem?_cons_zero, List.getElem?_cons_succ, List.set_cons_zero, List.set_cons_succ, startD, List.map_cons, List.map_nil, List.cons_append, List.nil_append, List.length_cons, List.length_nil, List.replicate_succ, List.replicate_zero, Nat.reduceSub, Nat.reduceAdd, Nat.zero_add, wipeD, keyD, rIsi]
  cases d with
  | int i =>
    simp only [tyD]
    refine ⟨by decide, ?_⟩
    simp only [show isaT .int .int = true from rfl, if_true]
    refine ⟨by decide, ?_⟩
    simp only [show isaT .int .bool = false from rfl, Bool.not_false, if_true, rLe, rCmp]
    by_cases h : lo ≤ i
    · rw [if_pos (decide_eq_true h)]
      simpa only [numD, decide_eq_true h, Bool.true_and] using q
    · rw [if_neg (by simpa using h)]
      simpa only [numD, decide_eq_false h, Bool.false_and] using q
  | bl b =>
    simp only [tyD]
    refine ⟨by decide, ?_⟩
    simp only [show isaT .bool .int = true from rfl, if_true]
    refine ⟨by decide, ?_⟩
    simp only [show isaT .bool .bool = true from rfl, Bool.not_true, Bool.false_eq_true, if_false]
    exact q
  | ref a => simp [still] at hd
  | scr a => simp [still] at hd
  | ty a => simp [still] at hd
  | obj _ _ _ _ => simp [still] at hd
  | _ =>
    simp only [tyD]
    refine ⟨by decide, ?_⟩
    first
      | (rw [show isaT .none .int = false from rfl, if_neg Bool.false_ne_true]; exact q)
      | (rw [show isaT .str .int = false from rfl, if_neg Bool.false_ne_true]; exact q)
      | (rw [show isaT .tuple .int = false from rfl, if_neg Bool.false_ne_true]; exact q)
      | (rw [show isaT .list .int = false from rfl, if_neg Bool.false_ne_true]; exact q)
      | (rw [show isaT .dict .int = false from rfl, if_neg Bool.false_ne_true]; exact q)
theorem rangeD_length (lo : Int) (n : Nat) : (rangeD lo n).length = n := by simp [rangeD]
end DL
namespace DL
open PySem PySem.Spec PyProof.Rows L2
def intsIn (ns : List Int) (hi : Int) : Prop := ∀ n ∈ ns, 0 ≤ n ∧ n ≤ hi
end DL
namespace DL
open PySem PySem.Spec PyProof.Rows L2
def fineB (d : D) (n w : Nat) : Bool := still d && decide (dep d ≤ n) && okl d && decide (wt d ≤ w) && (!hasDic d || noLst d)
structure FL (xs : List D) (n w : Nat) : Prop where
  st : stills xs = true
  dp : deps xs ≤ n
  ok : okls xs = true
  wt : wts xs ≤ w
  dc : hasDics xs = true → noLsts xs = true
structure Ne (xs : List D) : Prop where
  nl : noLsts xs = true
  nd : hasDics xs = false
theorem FL.one {x : D} {n w : Nat} (h : fineB x n w = true) : FL [x] n (w + 2) := by
  unfold fineB at h
  simp only [Bool.and_eq_true, decide_eq_true_eq, Bool.or_eq_true, Bool.not_eq_true'] at h
  obtain ⟨⟨⟨⟨h1, h2⟩, h3⟩, h4⟩, h5⟩ := h
  exact ⟨by simp [stills, h1], by simp [deps]; omega, by simp [okls, h3], by simp only [wts]; omega, fun z => by simp [hasDics] at z; simp [noLsts]; exact h5.resolve_left (by simp [z])⟩
theorem FL.mono {xs : List D} {n w n' w' : Nat} (h : FL xs n w) (hn : n ≤ n') (hw : w ≤ w') : FL xs n' w' := ⟨h.st, Nat.le_trans h.dp hn, h.ok, Nat.le_trans h.wt hw, h.dc⟩
theorem FL.tup {xs : List D} {n w : Nat} (h : FL xs n w) : fineB (.tup xs) (n + 1) (w + 3) = true := by
  unfold fineB
  simp only [still, dep, okl, DL.wt, hasDic, noLst, h.st, h.ok, Bool.and_eq_true, decide_eq_true_eq, Bool.or_eq_true, Bool.not_eq_true']
  refine ⟨⟨⟨⟨trivial, decide_eq_true (by have := h.dp; omega)⟩, trivial⟩, decide_eq_true (by have := h.wt; omega)⟩, ?_⟩
  cases e : hasDics xs with
  | false => exact .inl rfl
  | true => exact .inr (h.dc e)
theorem FL.lst {xs : List D} {n w : Nat} (h : FL xs n w) (hd : hasDics xs = false) : fineB (.lst xs) (n + 1) (w + 3) = true := by
  unfold fineB
  simp only [still, dep, okl, DL.wt, hasDic, h.st, h.ok, hd, Bool.and_eq_true, decide_eq_true_eq, Bool.or_eq_true, Bool.not_eq_true']
  exact ⟨⟨⟨⟨trivial, decide_eq_true (by have := h.dp; omega)⟩, trivial⟩, decide_eq_true (by have := h.wt; omega)⟩, .inl trivial⟩
theorem small_log {n : Int} (h0 : 0 ≤ n) (h : n < 2 ^ 200) : n.natAbs.log2 < 1920 := by
  by_cases z : n.natAbs = 0
  · rw [z]; decide
  · have : n.natAbs < 2 ^ 1920 := Nat.lt_of_lt_of_le (show n.natAbs < 2 ^ 200 by omega) (Nat.pow_le_pow_right (by decide) (by decide))
    exact (Nat.log2_lt z).mpr this
theorem fineB_int {i : Int} (h0 : -(2 ^ 200) < i) (h1 : i < 2 ^ 200) : fineB (.int i) 0 1921 = true := by
  have : i.natAbs.log2 < 1920 := by
    have := small_log (n := i.natAbs) (by omega) (by omega)
    simpa using this
  simp [fineB, still, dep, okl, wt, hasDic, this]
end DL
namespace DL
open PySem PySem.Spec PyProof.Rows L2
theorem intsIn.sub {ns ms : List Int} {h : Int} (q : intsIn ns h) (s : ∀ x ∈ ms, x ∈ ns) : intsIn ms h := fun x hx => q x (s x hx)
end DL
namespace DL
open PySem PySem.Spec PyProof.Rows L2
end DL
namespace DL
open PySem PySem.Spec PyProof.Rows L2
end DL
namespace DL
open PySem PySem.Spec PyProof.Rows L2
def wayD (w : Int × Int) : D := .tup [.int w.1, .int w.2]
def waysIn (ws : List (Int × Int)) (st : Int) : Prop := ∀ w ∈ ws, 0 ≤ w.1 ∧ w.1 < w.2 ∧ w.2 ≤ st - 1
theorem Kp.keep {a c p : Addr} {M M' : MS} {o : MO} (h : Kp a c M M') (pa : p ≠ a) (pc : p ≠ c) (e : M.map p = some o) : M'.map p = some o := (h p pa pc (by rw [e]; simp)).trans e
theorem Kp.put {a c p : Addr} {M0 M : MS} {o : MO} (h : Kp a c M0 M) (hp : M0.map p = none) : Kp a c M0 (M.put p o) := fun b h1 h2 h3 => by
  rw [MS.put_ne (fun e => by subst e; exact h3 hp)]
  exact h b h1 h2 h3
end DL
namespace DL
open PySem PySem.Spec PyProof.Rows L2
def AllF (xs : List D) (n w : Nat) : Prop := ∀ x ∈ xs, fineB x n w = true ∧ noLst x = true ∧ hasDic x = false
theorem AllF.sub {xs ys : List D} {n w : Nat} (h : AllF xs n w) (s : ∀ y ∈ ys, y ∈ xs) : AllF ys n w := fun y hy => h y (s y hy)
end DL
namespace DL
open PySem PySem.Spec PyProof.Rows L2
def Ext (M M' : MS) : Prop := ∀ b, M.map b ≠ none → M'.map b = M.map b
theorem Ext.refl {M : MS} : Ext M M := fun _ _ => rfl
theorem Ext.trans {M M1 M2 : MS} (h : Ext M M1) (h' : Ext M1 M2) : Ext M M2 := fun b hb => by rw [h' b (by rw [h b hb]; exact hb), h b hb]
theorem Ext.new {M : MS} {p : Addr} {o : MO} (hp : M.map p = none) : Ext M (M.put p o) := fun b hb => MS.put_ne fun e => by subst e; exact hb hp
theorem Ext.put {M0 M : MS} {p : Addr} {o : MO} (h : Ext M0 M) (hp : M0.map p = none) : Ext M0 (M.put p o) := fun b hb => by
  rw [MS.put_ne (fun e => by subst e; exact hb hp)]; exact h b hb
theorem Ext.kp {M M' : MS} {a c : Addr} (h : Ext M M') : Kp a c M M' := fun b _ _ hb => h b hb
theorem Ext.dk {M M' : MS} {a c : Addr} {k : Nat} (h : Ext M M') (hD : Dk M a c k) : Dk M' a c k := by
  obtain ⟨n, cells, h1, h2, h3⟩ := hD.ex
  exact ⟨hD.ne, n, cells, by rw [h a (by rw [h1]; simp)]; exact h1, by rw [h c (by rw [h2]; simp)]; exact h2, h3⟩
def step (ns : List Int) (s : Nat) : List Int := (ns.set s (ns.getD s 0 - 1)).set (s + 1) (ns.getD (s + 1) 0 + 1)
def after : List Int → Bool → List Nat → List Int × Bool
  | ns, ok, [] => (ns, ok)
  | ns, ok, s :: ss => after (step ns s) (ok && decide (0 < ns.getD s 0)) ss
def stOk (n : Nat) (ss : List Nat) : Prop := ∀ s ∈ ss, s + 1 < n
theorem step_len (ns : List Int) (s : Nat) : (step ns s).length = ns.length := by simp [step]
theorem after_len : ∀ (ss : List Nat) (ns : List Int) (ok : Bool), (after ns ok ss).1.length = ns.length
  | [], _, _ => rfl
  | s :: ss, ns, ok => by rw [after, after_len ss, step_len]
theorem step_get {ns : List Int} {s : Nat} (h : s + 1 < ns.length) (i : Nat) : (step ns s).getD i 0 = ns.getD i 0 - (if i = s then 1 else 0) + (if i = s + 1 then 1 else 0) := by
  unfold step
  simp only [List.getD_eq_getElem?_getD, List.getElem?_set, List.length_set]
  by_cases h1 : i = s
  · subst h1
    rw [if_neg (by omega), if_pos rfl, if_pos (by omega), if_pos rfl, if_neg (by omega)]
    simp
  · by_cases h2 : i = s + 1
    · subst h2
      rw [if_pos rfl, if_pos h, if_neg (by omega), if_pos rfl]
      simp
    · rw [if_neg (by omega), if_neg (by omega), if_neg h1, if_neg h2]
      simp
end DL
namespace DL
open PySem PySem.Spec PyProof.Rows L2
def planStOk (n : Nat) (ps : List (List Nat)) : Prop := ∀ ss ∈ ps, stOk n ss
/-- ascending, within the way -/
def inWay (w : Int × Int) (ss : List Nat) : Prop := ss.Pairwise (· < ·) ∧ ∀ s ∈ ss, w.1 ≤ (s : Int) ∧ (s : Int) < w.2
def PlanOf : List Int → List (Int × Int) → List (List Nat) → Prop
  | _, [], [] => True
  | ns, w :: ws, ss :: ps => inWay w ss ∧ (after ns true ss).2 = true ∧ PlanOf (after ns true ss).1 ws ps
  | _, _, _ => False
theorem PlanOf.len : ∀ {ws : List (Int × Int)} {ps : List (List Nat)} {ns : List Int}, PlanOf ns ws ps → ps.length = ws.length
  | [], [], _, _ => rfl
  | _ :: ws, _ :: ps, ns, h => by rw [List.length_cons, List.length_cons, PlanOf.len h.2.2]
  | [], _ :: _, _, h => h.elim
  | _ :: _, [], _, h => h.elim
theorem PlanOf.st : ∀ {ws : List (Int × Int)} {ps : List (List Nat)} {ns : List Int}, PlanOf ns ws ps → waysIn ws (ns.length : Nat) → planStOk ns.length ps
  | [], [], _, _, _ => fun _ h => absurd h List.not_mem_nil
  | w :: ws, ss :: ps, ns, h, hw => fun x hx => by
    rcases List.mem_cons.mp hx with rfl | hx
    · intro s hs
      have h1 := h.1.2 s hs
      have h2 := hw w (List.mem_cons_self ..)
      omega
    · have := PlanOf.st (ns := (after ns true ss).1) h.2.2 (by rw [after_len]; exact fun y hy => hw y (List.mem_cons_of_mem _ hy)) x hx
      rwa [after_len] at this
  | [], _ :: _, _, h, _ => h.elim
  | _ :: _, [], _, h, _ => h.elim
end DL
namespace DL
open PySem PySem.Spec PyProof.Rows L2
def hasI (j : Int) (ss : List Nat) : Bool := ss.any fun s => ((s : Nat) : Int) == j
def goneN (j : Int) (ps : List (List Nat)) : Nat := (ps.filter (hasI j)).length
theorem PlanOf.pl : ∀ {ws : List (Int × Int)} {ps : List (List Nat)} {ns : List Int}, PlanOf ns ws ps → ∀ ss ∈ ps, ss.Pairwise (· < ·)
  | [], [], _, _ => fun _ h => absurd h List.not_mem_nil
  | w :: ws, ss :: ps, ns, h => fun x hx => by
    rcases List.mem_cons.mp hx with rfl | hx
    · exact h.1.1
    · exact PlanOf.pl h.2.2 x hx
  | [], _ :: _, _, h => h.elim
  | _ :: _, [], _, h => h.elim
end DL
namespace DL
open PySem PySem.Spec PyProof.Rows L2
end DL
namespace DL
open PySem PySem.Spec PyProof.Rows L2
end DL
namespace DL
open PySem PySem.Spec PyProof.Rows L2
end DL
namespace DL
open PySem PySem.Spec PyProof.Rows L2
def nd : List Int → Int
  | [] => 0
  | d :: ds => max 0 (d + nd ds)
end DL
namespace DL
open PySem PySem.Spec PyProof.Rows L2
def goW (st : List Int × List Int) (s : Nat) : List Int × List Int :=
  if 0 < st.1.getD s 0 then (step st.1 s, st.2.set s (st.2.getD s 0 + 1)) else st
theorem goW_len (st : List Int × List Int) (s : Nat) : (goW st s).1.length = st.1.length ∧ (goW st s).2.length = st.2.length := by
  unfold goW
  split
  · exact ⟨step_len _ _, by simp⟩
  · exact ⟨rfl, rfl⟩
end DL
namespace DL
open PySem PySem.Spec PyProof.Rows L2
end DL
namespace DL
open PySem PySem.Spec PyProof.Rows L2
end DL
namespace DL
open PySem PySem.Spec PyProof.Rows L2
end DL
namespace DL
open PySem PySem.Spec PyProof.Rows L2
end DL
namespace DL
open PySem PySem.Spec PyProof.Rows L2
end DL
namespace DL
open PySem PySem.Spec PyProof.Rows L2
/-- the form of a plan: for each walker stages of the way -/
def FormOf : List (Int × Int) → List (List Nat) → Prop
  | [], [] => True
  | w :: ws, ss :: ps => inWay w ss ∧ FormOf ws ps
  | _, _ => False
theorem FormOf.st : ∀ {ws : List (Int × Int)} {ps : List (List Nat)} {n : Nat}, FormOf ws ps → waysIn ws (n : Nat) → planStOk n ps
  | [], [], _, _, _ => fun _ h => absurd h List.not_mem_nil
  | w :: ws, ss :: ps, n, h, hw => fun x hx => by
    rcases List.mem_cons.mp hx with rfl | hx
    · intro s hs
      have h1 := h.1.2 s hs
      have h2 := hw w (List.mem_cons_self ..)
      omega
    · exact FormOf.st h.2 (fun y hy => hw y (List.mem_cons_of_mem _ hy)) x hx
  | [], _ :: _, _, h, _ => h.elim
  | _ :: _, [], _, h, _ => h.elim
end DL
namespace DL
open PySem PySem.Spec PyProof.Rows L2
end DL
namespace DL
open PySem PySem.Spec PyProof.Rows L2
/-- the items of *x -/
def dStar (t : DE) (r : DAs) : DAs := fun ρ M Φ => t ρ M fun x M1 => match x with
  | .tup xs => r ρ M1 fun ys M2 => Φ (xs ++ ys) M2
  | .lst xs => r ρ M1 fun ys M2 => Φ (xs ++ ys) M2
  | _ => False
end DL
namespace DL
open PySem PySem.Spec PyProof.Rows L2
section
variable {X : Cx}
variable {O : Og X.K}
/-- tuple(range(i, j)) -/
def dTupRg (ta tb : DE) : DE := fun ρ M Φ => ta ρ M fun x M1 => tb ρ M1 fun y M2 => match x, y with
  | .int i, .int j => 0 ≤ i ∧ i ≤ 16777216 ∧ 0 ≤ j ∧ j ≤ 16777216 ∧ Φ (.tup ((List.range (j - i).toNat).map fun k => D.int (i + (k : Nat)))) M2
  | _, _ => False
end
end DL
namespace DL
open PySem PySem.Spec PyProof.Rows
/-- as gs to one who looks, but no run goes on from it -/
def deadOf : GenState → GenState
  | .suspended _ l c p fs cl => .suspended (fun _ => .unsupported "dead") l c p fs cl
  | x => x
def sleeps : GenState → Bool
  | .suspended .. => true
  | _ => false
theorem deadOf_bare (x : GenState) : (deadOf x).bare = x.bare := by cases x <;> rfl
/-- T: what sleeps at the places; the first table: dead there -/
structure Dead (T : Nat → Option GenState) (G G' : Array GenState) : Prop where
  size : G.size = G'.size
  at_ : ∀ (i : Nat) (x : GenState), T i = some x → sleeps x = true ∧ G'[i]? = some x ∧ G[i]? = some (deadOf x)
  off : ∀ i : Nat, T i = none → G[i]? = G'[i]? ∧ ∀ k l c p fs cl, G[i]? = some (.suspended k l c p fs cl) → splitAtGen fs = none
section
variable {M : Model} {T : Nat → Option GenState} {G G' : Array GenState}
theorem Dead.push (d : Dead T G G') (c : Code) : Dead T (G.push (.fresh c)) (G'.push (.fresh c)) := by
  refine ⟨by simp [d.size], fun i y hi => ?_, fun i hi => ?_⟩
  · obtain ⟨h1, h2, h3⟩ := d.at_ i y hi
    have l2 : i < G'.size := (Array.getElem?_eq_some_iff.mp h2).1
    have l3 : i < G.size := (Array.getElem?_eq_some_iff.mp h3).1
    exact ⟨h1, by rw [Array.getElem?_push_lt l2, ← Array.getElem?_eq_getElem l2]; exact h2, by rw [Array.getElem?_push_lt l3, ← Array.getElem?_eq_getElem l3]; exact h3⟩
  · by_cases hb : i < G.size
    · have hb' : i < G'.size := by rw [← d.size]; exact hb
      obtain ⟨o1, o2⟩ := d.off i hi
      rw [Array.getElem?_push_lt hb, Array.getElem?_push_lt hb', ← Array.getElem?_eq_getElem hb, ← Array.getElem?_eq_getElem hb']
      exact ⟨o1, o2⟩
    · by_cases he : i = G.size
      · subst he
        refine ⟨by rw [Array.getElem?_push_size, d.size, Array.getElem?_push_size], fun k l c' p fs cl z => ?_⟩
        rw [Array.getElem?_push_size] at z
        cases z
      · have h1 : (G.push (.fresh c))[i]? = none := by rw [Array.getElem?_eq_none]; rw [Array.size_push]; omega
        have h2 : (G'.push (.fresh c))[i]? = none := by rw [Array.getElem?_eq_none]; rw [Array.size_push, ← d.size]; omega
        rw [h1, h2]
        exact ⟨rfl, fun _ _ _ _ _ _ z => by cases z⟩
/-- the end of a segment left no frame of another generator -/
def OkEnd : End → Prop
  | .ret _ => True
  | .susp _ _ _ _ _ _ fs => splitAtGen fs = none
theorem OkEnd.gen {e : End} (h : OkEnd e) : ∀ k l c p fs cl, e.genState = .suspended k l c p fs cl → splitAtGen fs = none := fun k l c p fs cl z => by
  cases e with
  | ret r => cases z
  | susp v g l' k' c' p' fs' => cases z; exact h
end
def Keeps (s s' : Shared) : Prop := ∀ (g : Nat) (x : GenState), s.gens[g]? = some x → sleeps x = true → s'.gens[g]? = some x
theorem Keeps.trans {s s1 s2 : Shared} (a : Keeps s s1) (b : Keeps s1 s2) : Keeps s s2 := fun g x h hx => b g x (a g x h hx) hx
def sleptT (G : Array GenState) : Nat → Option GenState := fun i => match G[i]? with
  | some x => if sleeps x = true then some x else none
  | none => none
theorem Dead.bare {T : Nat → Option GenState} {G G' : Array GenState} (d : Dead T G G') (h : AllBare G) : AllBare G' := fun x hx => by
  obtain ⟨i, hi, e⟩ := Array.mem_iff_getElem.mp hx
  have hi' : i < G.size := by rw [d.size]; exact hi
  have e' : G'[i]? = some x := by rw [Array.getElem?_eq_getElem hi, e]
  cases q : T i with
  | none =>
    obtain ⟨o, _⟩ := d.off i q
    rw [e'] at o
    exact h x (Array.mem_of_getElem? o)
  | some y =>
    obtain ⟨_, h2, h3⟩ := d.at_ i y q
    rw [e'] at h2
    cases h2
    rw [← deadOf_bare]
    exact h _ (Array.mem_of_getElem? h3)
def At (T : Nat → Option GenState) (s : Shared) (Q : Shared → Prop) : Prop := ∃ G2, Dead T G2 s.gens ∧ Q { s with gens := G2 }
theorem At.keeps {s s' : Shared} {Q : Shared → Prop} (h : At (sleptT s.gens) s' Q) : Keeps s s' := fun g x hg hx => by
  obtain ⟨G2, d, _⟩ := h
  have e : sleptT s.gens g = some x := by unfold sleptT; rw [hg]; simp [hx]
  exact (d.at_ g x e).2.1
end DL
namespace DL
open PySem PySem.Spec PyProof.Rows L2 PySem.W.X GenW
end DL
namespace DL
open PySem PySem.Spec PyProof.Rows L2 PySem.W.X
def tr (n : Nat) (s : Shared) : Shared := { s with heap := ⟨s.heap.objs.extract 0 n, s.heap.life⟩ }
mutual
def pureD : D → Bool
  | .tup xs => pures xs
  | .lst _ => false
  | .dic _ _ => false
  | .ref _ => false
  | .scr _ => false
  | .obj _ _ _ _ => false
  | .non => true
  | .bl _ => true
  | .int _ => true
  | .str _ => true
  | .ty _ => true
def pures : List D → Bool
  | [] => true
  | x :: xs => pureD x && pures xs
end
def purE (ρ : DEnv) : DEnv := ρ.map fun o => match o with
  | some d => if pureD d = true then some d else none
  | none => none
section
variable {n : Nat} {pv : List Addr} {s : Shared} {H H' : Hp} {b : Addr} {P : Program} {w : World} {K : PySem.W.Frag}
theorem ObjOk.there {h : Heap} {a : Addr} : ∀ {o : HO}, ObjOk P w H h a o → ∃ ob, h.get? a = some ob
  | .lst xs, x => by obtain ⟨_, _, _, _, e⟩ := x; exact ⟨_, e⟩
  | .tup xs, x => by obtain ⟨_, _, _, o, e, _⟩ := x; exact ⟨o, e⟩
  | .dK kvs, x => by obtain ⟨_, _, _, _, o, _, _, e, _⟩ := x; exact ⟨o, e⟩
  | .dT kvs, x => by obtain ⟨_, _, _, _, o, _, _, e, _⟩ := x; exact ⟨o, e⟩
  | .set S n, x => by obtain ⟨o, _, _, _, e, _⟩ := x; exact ⟨o, e⟩
  | .ins C dx fs, x => by obtain ⟨_, _, _, e, _⟩ := x; exact ⟨_, e⟩
  | .own y, x => x
  | .xd fs, x => by obtain ⟨_, ⟨o, _, _, e, _⟩, _⟩ := x; exact ⟨o, e⟩
  | .rng lo hi, x => by obtain ⟨_, _, _, e⟩ := x; exact ⟨_, e⟩
  | .frz ob u, x => by obtain ⟨e, _⟩ := x; exact ⟨_, e⟩
  | .tbl ps, x => ⟨_, x⟩
  | .met f y, x => ⟨_, x⟩
  | .ext φ, x => by obtain ⟨_, e, _⟩ := x; exact e
end
structure GD where
  P : Program
  w : World
  K : PySem.W.Frag
  mg : Str → Option Value
  base : Heap
  N : List Str
  qual : Str
  scope : Scope
  n0 : Addr
  f : Addr
  cdv : Value
  outer : List Env
  g : Nat
abbrev GD.env (G : GD) : Env := envOfC G.qual G.scope G.n0 G.f G.cdv
def GD.cx (G : GD) (A : Around) (s0 : Shared) (H0 : Hp) : Cx where
  prog := G.P
  w := G.w
  K := G.K
  mg := G.mg
  base := G.base
  A := A.deeper G.env
  N := G.N
  s_0 := s0
  H_0 := H0
  env := G.env
  outer := G.outer
  stack := G.env :: G.outer
  ex := []
  calm := true
  fn := fun _ => true
  pn := []
  xe := fun _ _ => False
def emM : MS := ⟨fun _ => none, 0⟩
/-- from a yield to the next wake: what the waker did -/
structure Wk (G : GD) (pv : List Addr) (s1 : Shared) (H1 : Hp) (s : Shared) (H : Hp) : Prop where
  os : s.os = s1.os
  bare : AllBare s.gens
  base : ∀ b o, G.base.get? b = some o → s.heap.get? b = some o ∧ H b = none
  funs : s.heap.FunFrames G.base G.outer
  frf : ∀ b ∈ frs G.outer, H b = none
  hok : HOk G.P G.w H s.heap
  pv : ∀ b ∈ pv, H b = none ∧ ∀ o, s1.heap.get? b = some o → s.heap.get? b = some o
  tups : ∀ a vs, SqT G.K H1 a vs → SqT G.K H a vs
  gens : ∀ (i : Nat) (x : GenState), i ≠ G.g → s1.gens[i]? = some x → sleeps x = true → s.gens[i]? = some x
theorem Wk.trans {G : GD} {pv : List Addr} {s1 s2 s3 : Shared} {H1 H2 H3 : Hp} (a : Wk G pv s1 H1 s2 H2) (b : Wk G pv s2 H2 s3 H3) : Wk G pv s1 H1 s3 H3 :=
  ⟨b.os.trans a.os, b.bare, b.base, b.funs, b.frf, b.hok, fun c hc => ⟨(b.pv c hc).1, fun o q => (b.pv c hc).2 o ((a.pv c hc).2 o q)⟩, fun c vs q => b.tups c vs (a.tups c vs q), fun i x hi q hx => b.gens i x hi (a.gens i x hi q hx) hx⟩
end DL
namespace DL
open PySem PySem.Spec PyProof.Rows L2 PySem.W.X
/-- behind a statement: the items still to come -/
structure GE where
  nx : List D → DEnv → MS → Prop
  rt : List D → Prop
  bk : List D → DEnv → MS → Prop := fun _ _ _ => False
  ct : List D → DEnv → MS → Prop := fun _ _ _ => False
abbrev DG := GE → List D → DEnv → MS → Prop
def GE.at (Δ : GE) (xs : List D) : DEnds := { nx := Δ.nx xs, rt := fun d _ => d = .non ∧ Δ.rt xs, bk := Δ.bk xs, ct := Δ.ct xs }
def gPlain (t : DS) : DG := fun Δ xs ρ M => t (Δ.at xs) ρ M
def gNil : DG := fun Δ xs ρ M => Δ.nx xs ρ M
def gSeq (t u : DG) : DG := fun Δ xs ρ M => t { Δ with nx := u Δ } xs ρ M
def gYield (te : DE) : DG := fun Δ xs ρ M => te ρ M fun x _ => pureD x = true ∧ ∃ rest, xs = x :: rest ∧ Δ.nx rest (purE ρ) emM
abbrev DIP := DEnv → MS → (List D → MS → Prop) → Prop
def gforW (p : Pat) (body : DG) (Δ : GE) : List D → List D → DEnv → MS → Prop
  | [], xs, ρ, M => Δ.nx xs ρ M
  | d :: ds, xs, ρ, M => match p.put d ρ with
    | some ρ1 => body { nx := fun xs' ρ' M' => gforW p body Δ ds xs' ρ' M', rt := Δ.rt, bk := Δ.nx, ct := fun xs' ρ' M' => gforW p body Δ ds xs' ρ' M' } xs ρ1 M
    | none => False
def gFor (ti : DIP) (p : Pat) (body : DG) : DG := fun Δ xs ρ M => ti ρ M fun items M1 => gforW p body Δ items xs ρ M1
/-- what stays for as long as a loop runs: generators that sleep, tuples -/
structure GKeep where
  gens : List (Nat × GenState)
  tk : Addr → List V → Prop
end DL
namespace DL
open PySem PySem.Spec PyProof.Rows L2 PySem.W.X
def dTupP (te : DE) : DIP := fun ρ M Ψ => te ρ M fun x M1 => match x with
  | .tup xs => pures xs = true ∧ Ψ xs M1
  | _ => False
def dRngP (ta tb : DE) : DIP := fun ρ M Ψ => ta ρ M fun x M1 => tb ρ M1 fun y M2 => match x with
  | .int i => (match y with
    | .int j => (-(2 ^ 62) ≤ i ∧ i < 2 ^ 62 ∧ -(2 ^ 62) ≤ j ∧ j < 2 ^ 62) ∧ Ψ (rangeD i (j - i).toNat) M2
    | _ => False)
  | _ => False
section
variable {G : GD} {k : Nat} {A : Around} {sw s : Shared} {Hw : Hp} {pv : List Addr} {ip : List (Addr × Obj)} {gp : GKeep} {ρ : DEnv} {M : MS}
/-- the iterator's own objects, of one frame at all its wakes -/
structure FpG (G : GD) (ip : List (Addr × Obj)) (b : Addr) : Prop where
  loc : b ≠ G.n0
  fs : b ∉ frs G.outer
  ge : G.n0 ≤ b
  ip : ∀ p ∈ ip, p.1 ≠ b
theorem FpG.ok {H : Hp} {b : Addr} {H0 : Hp} {s0 : Shared} (hs0 : s0.heap.objs.size = G.n0) (hc : G.env.cells = []) (h : FpG G ip b) (hb : H b = none) : FpOk (G.cx A s0 H0) ip H b := by
  refine ⟨hb, h.loc, h.fs, .inr ?_, fun x c e => ?_, fun p hp => ?_⟩
  · have e : (G.cx A s0 H0).s_0 = s0 := rfl
    rw [e, hs0]; exact h.ge
  · rw [show (G.cx A s0 H0).env.cells = [] from hc] at e; cases e
  · rcases List.mem_append.mp hp with z | z
    · exact absurd (show p ∈ ([] : List (Addr × Obj)) from z) (by simp)
    · exact h.ip p z
end
end DL
namespace DL
open PySem PySem.Spec PyProof.Rows L2 PySem.W.X
abbrev GSp := List D → List D → Prop
end DL
namespace DL
open PySem PySem.Spec PyProof.Rows L2 PySem.W.X GenW
structure Gone (s s' : Shared) : Prop where
  sz : s.heap.objs.size ≤ s'.heap.objs.size
  no : ∀ b, b < s.heap.objs.size → s.heap.get? b = none → s'.heap.get? b = none
theorem Gone.trans {a b c : Shared} (h : Gone a b) (h' : Gone b c) : Gone a c := ⟨Nat.le_trans h.sz h'.sz, fun x hx hn => h'.no x (Nat.lt_of_lt_of_le hx h.sz) (h.no x hx hn)⟩
def dCallG (n : Nat) (sp : GSp) (ta : DAs) : DIP := fun ρ M Ψ => ta ρ M fun ds M1 => ds.length = n ∧ pures ds = true ∧ ∃ xs, sp ds xs ∧ Ψ xs M1
end DL
namespace DL
open PySem PySem.Spec PyProof.Rows L2 PySem.W.X GenW
def sForG (t : DIP) (p : Pat) (body : DS) : DS := fun Δ ρ M => t ρ M fun xs M1 => forW (fun _ => True) p body Δ xs ρ M1
end DL
namespace DL
open PySem PySem.Spec PyProof.Rows L2 PySem.W.X GenW
def dLcG (t : DIP) (p : Pat) (vs : List Nat) (tt : DT) (te : DE) : DE := fun ρ M Φ => t ρ M fun xs M1 => lcW (fun _ => True) p tt te (wipeD ρ vs) xs [] M1 fun ds M2 => Φ (.lst ds) M2
end DL
namespace DL
open PySem PySem.Spec PyProof.Rows L2
/-- the stages over which one carries, from a stage on, so many; b: what was brought -/
def ruleS (ns : List Int) : Nat → Nat → Int → List Nat
  | 0, _, _ => []
  | n + 1, s, b => if 0 < ns.getD s 0 + b then s :: ruleS ns n (s + 1) 1 else ruleS ns n (s + 1) 0
def ruleOf (ns : List Int) (w : Int × Int) : List Nat := ruleS ns (w.2 - w.1).toNat w.1.toNat 0
def walksL : List Int → List (Int × Int) → List (List Nat × List Int)
  | _, [] => []
  | ns, w :: ws => (ruleOf ns w, (after ns true (ruleOf ns w)).1) :: walksL (after ns true (ruleOf ns w)).1 ws
def ruleP (ns : List Int) (ws : List (Int × Int)) : List (List Nat) := (walksL ns ws).map (·.1)
end DL
namespace DL
open PySem PySem.Spec PyProof.Rows L2
end DL
namespace DL
open PySem PySem.Spec PyProof.Rows L2
end DL
namespace DL
open PySem PySem.Spec PyProof.Rows L2
/-- so many over a stage by the first 0, 1, 2, .. -/
def cl (ps : List (List Nat)) (st : Nat) : List Int := (List.range (ps.length + 1)).map fun j => (goneN (st : Nat) (ps.take j) : Int)
end DL
namespace DL
open PySem PySem.Spec PyProof.Rows L2
end DL
namespace DL
open PySem PySem.Spec PyProof.Rows L2
theorem PlanOf.take : ∀ {ws : List (Int × Int)} {ps : List (List Nat)} {ns : List Int} (k : Nat), PlanOf ns ws ps → PlanOf ns (ws.take k) (ps.take k)
  | _, _, _, 0, _ => trivial
  | [], [], _, _ + 1, _ => trivial
  | w :: ws, ss :: ps, ns, k + 1, h => ⟨h.1, h.2.1, PlanOf.take k h.2.2⟩
  | [], _ :: _, _, _ + 1, h => h.elim
  | _ :: _, [], _, _ + 1, h => h.elim
end DL
namespace DL
open PySem PySem.Spec PyProof.Rows L2
def overB (s : Int) (w : Int × Int) : Bool := decide (w.1 ≤ s) && decide (s < w.2)
def overs (s : Int) (ws : List (Int × Int)) : Int := (ws.map fun w => b2 (overB s w)).sum
end DL
namespace DL
open PySem PySem.Spec PyProof.Rows L2
open PySem.Sem (wp)
end DL
namespace DL
open PySem PySem.Spec PyProof.Rows L2
open PySem.Sem (wp)
end DL
namespace DL
open PySem PySem.Spec PyProof.Rows L2
theorem put_nm {i : Nat} {d : D} {ρ : DEnv} : (Pat.nm i).put d ρ = some (ρ.set i (some d)) := rfl
theorem put_tp {ps : List Pat} {xs : List D} {ρ : DEnv} : (Pat.tp ps).put (.tup xs) ρ = Pat.puts ps xs ρ := rfl
theorem puts_nil {ρ : DEnv} : Pat.puts [] [] ρ = some ρ := rfl
theorem puts_cons {p : Pat} {ps : List Pat} {x : D} {xs : List D} {ρ : DEnv} : Pat.puts (p :: ps) (x :: xs) ρ = (match p.put x ρ with
  | some ρ' => Pat.puts ps xs ρ'
  | none => none) := rfl
end DL
namespace DL
open PySem PySem.Spec PyProof.Rows L2
def rs (row : List Int) : Nat → List Int → Int
  | _, [] => 0
  | s, m :: r => (if 0 < m then row.getD s 0 else 0) + rs row (s + 1) r
def hitB (s k : Nat) (w p : Int × Int) : Bool := (decide (w.1 ≤ (s : Nat)) && decide (((s : Nat) : Int) < w.2)) && (decide (p.1 ≤ (k : Nat)) && decide (((k : Nat) : Int) < p.2))
def col (s : Nat) (p : Int × Int) : Nat → List (Int × Int) → Int
  | _, [] => 0
  | k, w :: r => b2 (hitB s k w p) + col s p (k + 1) r
def cs (k : Nat) (ws : List (Int × Int)) : Nat → List (Int × Int) → Int
  | _, [] => 0
  | s, p :: r => col s p k ws + cs k ws (s + 1) r
def en : Int → List (Int × Int) → List D
  | _, [] => []
  | s, p :: r => .tup [.int s, wayD p] :: en (s + 1) r
end DL
namespace DL
open PySem PySem.Spec PyProof.Rows L2
theorem waysIn.sub {ws vs : List (Int × Int)} {st : Int} (h : waysIn ws st) (hs : ∀ w ∈ vs, w ∈ ws) : waysIn vs st := fun w hw => h w (hs w hw)
end DL
namespace DL
open PySem PySem.Spec PyProof.Rows L2
end DL
namespace DL
open PySem PySem.Spec PyProof.Rows L2
end DL
namespace DL
open PySem PySem.Spec PyProof.Rows L2
end DL
namespace DL
open PySem PySem.Spec PyProof.Rows L2
end DL
namespace DL
open PySem PySem.Spec PyProof.Rows L2
def F2 (d : D) (n w : Nat) : Prop := still d = true ∧ dep d ≤ n ∧ okl d = true ∧ wt d ≤ w
theorem F2.fin {d : D} {n w : Nat} (h : F2 d n w) (hn : n ≤ 30) : Fin2 d w := ⟨h.1, Nat.le_trans h.2.1 hn, h.2.2.1, h.2.2.2⟩
theorem F2.mono {d : D} {n w n' w' : Nat} (h : F2 d n w) (hn : n ≤ n') (hw : w ≤ w') : F2 d n' w' := ⟨h.1, Nat.le_trans h.2.1 hn, h.2.2.1, Nat.le_trans h.2.2.2 hw⟩
theorem F2.of {d : D} {n w : Nat} (h : fineB d n w = true) : F2 d n w := by
  unfold fineB at h
  simp only [Bool.and_eq_true, decide_eq_true_eq] at h
  exact ⟨h.1.1.1.1, h.1.1.1.2, h.1.1.2, h.1.2⟩
def A2 (xs : List D) (n w : Nat) : Prop := ∀ x ∈ xs, F2 x n w
theorem A2.sub {xs ys : List D} {n w : Nat} (h : A2 xs n w) (s : ∀ y ∈ ys, y ∈ xs) : A2 ys n w := fun y hy => h y (s y hy)
theorem A2.cons {x : D} {xs : List D} {n w : Nat} (h : F2 x n w) (h' : A2 xs n w) : A2 (x :: xs) n w := fun y hy => by
  rcases List.mem_cons.mp hy with rfl | hy
  · exact h
  · exact h' y hy
theorem A2.nil {n w : Nat} : A2 [] n w := fun _ h => by cases h
theorem A2.all : ∀ {xs : List D} {n w : Nat}, A2 xs n w → stills xs = true ∧ deps xs ≤ n ∧ okls xs = true ∧ wts xs ≤ (w + 2) * xs.length
  | [], n, w, _ => ⟨rfl, Nat.zero_le _, rfl, Nat.zero_le _⟩
  | x :: xs, n, w, h => by
    obtain ⟨a1, a2, a3, a4⟩ := h x (List.mem_cons_self ..)
    obtain ⟨b1, b2, b3, b4⟩ := A2.all (xs := xs) (n := n) (w := w) fun y hy => h y (List.mem_cons_of_mem _ hy)
    refine ⟨by rw [stills, a1, b1]; rfl, by rw [deps]; omega, by rw [okls, a3, b3]; rfl, ?_⟩
    rw [wts, List.length_cons, Nat.mul_succ]
    omega
theorem A2.tup {xs : List D} {n w L : Nat} (h : A2 xs n w) (hl : xs.length ≤ L) : F2 (.tup xs) (n + 1) ((w + 2) * L + 3) := by
  obtain ⟨a, b, c, d⟩ := h.all
  have := Nat.mul_le_mul_left (w + 2) hl
  exact ⟨by rw [still]; exact a, by rw [dep]; omega, by rw [okl]; exact c, by rw [wt]; omega⟩
theorem A2.lst {xs : List D} {n w L : Nat} (h : A2 xs n w) (hl : xs.length ≤ L) : F2 (.lst xs) (n + 1) ((w + 2) * L + 3) := by
  obtain ⟨a, b, c, d⟩ := h.all
  have := Nat.mul_le_mul_left (w + 2) hl
  exact ⟨by rw [still]; exact a, by rw [dep]; omega, by rw [okl]; exact c, by rw [wt]; omega⟩
theorem F2.int {i : Int} (h0 : -(2 ^ 200) < i) (h1 : i < 2 ^ 200) : F2 (.int i) 0 1921 := F2.of (fineB_int h0 h1)
end DL
namespace DL
open PySem PySem.Spec PyProof.Rows L2
end DL
namespace DL
open PySem PySem.Spec PyProof.Rows L2
end DL
namespace DL
open PySem PySem.Spec PyProof.Rows L2
end DL
namespace DL
open PySem PySem.Spec PyProof.Rows L2
end DL
namespace DL
open PySem PySem.Spec PyProof.Rows L2
def asStrs : List D → Option (List Str)
  | [] => some []
  | .str z :: r => (asStrs r).map (z :: ·)
  | _ => none
def dJoin (to te : DE) : DE := fun ρ M Φ => to ρ M fun x M1 => match x with
  | .str a => te ρ M1 fun y M2 => (match (seqA M2 y).bind asStrs with
    | some ys => (ys.map (·.length)).sum + ys.length * a.length ≤ 16777216 ∧ Φ (.str (Txt.join a ys)) M2
    | none => False)
  | _ => False
end DL
namespace DL
open PySem PySem.Spec PyProof.Rows L2
open PySem.Sem (wp)
end DL
namespace DL
open PySem PySem.Spec PyProof.Rows L2
end DL
namespace DL
open PySem PySem.Spec PyProof.Rows L2
/-- carried over a stage by the first k walkers of the rule -/
def car (ns : List Int) (ws : List (Int × Int)) (k : Nat) (s : Int) : Int := (goneN s ((ruleP ns ws).take k) : Int)
def segW (ws : List (Int × Int)) (m k : Nat) : List (Int × Int) := (ws.drop m).take (k - m)
/-- the bound over a stage when the walkers m .. e count -/
def val (ns : List Int) (ws : List (Int × Int)) (e s m : Nat) : Int := overs (s : Nat) (segW ws m e) + (if 0 < m then ns.getD s 0 + car ns ws m ((s : Nat) - 1) else 0)
end DL
namespace DL
open PySem PySem.Spec PyProof.Rows L2
end DL
namespace DL
open PySem PySem.Spec PyProof.Rows L2
theorem Ext.none {M M' : MS} {p : Addr} (h : Ext M M') (hp : M'.map p = none) : M.map p = none := by
  cases e : M.map p with
  | none => rfl
  | some o => have := h p (by rw [e]; simp); rw [hp, e] at this; cases this
end DL
namespace DL
open PySem PySem.Spec PyProof.Rows L2
end DL
namespace DL
open PySem PySem.Spec PyProof.Rows L2
end DL
namespace DL
open PySem PySem.Spec PyProof.Rows L2
end DL
namespace DL
open PySem PySem.Spec PyProof.Rows L2
end DL
namespace DL
open PySem PySem.Spec PyProof.Rows L2
theorem Kp.none {a c p : Addr} {M M' : MS} (h : Kp a c M M') (pa : p ≠ a) (pc : p ≠ c) (e : M'.map p = none) : M.map p = none := by
  cases e2 : M.map p with
  | none => rfl
  | some o => have := h.keep pa pc e2; rw [e] at this; cases this
end DL
namespace DL
open PySem PySem.Spec PyProof.Rows L2
end DL
namespace DL
open PySem PySem.Spec PyProof.Rows L2
end DL
namespace DL
open PySem PySem.Spec PyProof.Rows L2
end DL
namespace DL
open PySem PySem.Spec PyProof.Rows L2
def scrO (vs : List Value) (ns : List Int) : HO := .frz { cls := .type "list", data := .seq vs.toArray } (.lst (ns.map V.int))
def scrH (K : PySem.W.Frag) (a : Addr) (vs : List Value) (ns : List Int) : Hp := fun b => if b = a ∧ K.lookup a = none then some (scrO vs ns) else none
section
variable {P : Program} {w : World} {K : PySem.W.Frag} {mg mb : Str → Option Value} {k : Nat} {fa a : Addr} {fd : FuncData} {x : Str} {sp : DSp} {s : Shared} {vs : List Value} {ns : List Int}
theorem scrH_some {b : Addr} {u : HO} (h : scrH K a vs ns b = some u) : b = a ∧ K.lookup a = none ∧ u = scrO vs ns := by
  unfold scrH at h
  by_cases z : b = a ∧ K.lookup a = none
  · rw [if_pos z] at h
    exact ⟨z.1, z.2, (Option.some.inj h).symm⟩
  · rw [if_neg z] at h
    cases h
theorem callG (KX : K.In s.heap) (G : s.heap.Ns mainGlobals mg) (B : s.heap.Ns builtinsNs mb) (hmb : ∀ y : Str, y ≠ "__name__" → mb y = bootBuiltins y) (lim : s.heap.NoLimit) (gn : s.gens = #[])
    (ho : s.heap.get? a = some { cls := .type "list", data := .seq vs.toArray }) (hints : IntsAre vs ns) (hl : ns.length ≤ sizeLine) (room : Room k callerA)
    (hF : ∀ base : Heap, K.In base → base.Ns mainGlobals mg → FnG P w K mg base CX0 k fa fd [x] (loSp K sp 1)) (hb : ∀ (s : Shared) (u : Value), BindsTo s fd ⟨[u], []⟩ [(x, u)])
    (hs : ∀ M Φ, (∀ M', Φ (.bl true) M') → sp [.scr ns] M Φ noX) :
    codeAny (model P w) callerA (.call (.ref fa) ⟨[.ref a], []⟩) (fun r s' => r = .ok (.ret (.bool true)) ∧ OldK s.heap s'.heap ∧ s'.os = s.os ∧ AllBare s'.gens) s := by
  have rv : Vals (ns.map V.int) vs := vals_ints hints
  have hlen : vs.length = ns.length := hints.length
  -- what stands in the heap and is not tracked stands in the base
  have inB : ∀ {b : Addr} {o : Obj}, s.heap.get? b = some o → (b = a → K.lookup a ≠ none) → (hidT s.heap (scrH K a vs ns)).get? b = some o := fun {b o} e hba =>
    hidT_get e (if_neg fun z => hba z.1 z.2)
  have notDict : ∀ {b : Addr} {o : Obj} {es : Array DictEntry} {ep : Nat}, s.heap.get? b = some o → o.data = .dict es ep → b ≠ a := fun {b o es ep} e d z => by
    subst z
    have : o = { cls := .type "list", data := .seq vs.toArray } := Option.some.inj (e.symm.trans ho)
    subst this
    exact nomatch d
  have nsB : ∀ {b : Addr} {m : Str → Option Value}, s.heap.Ns b m → (hidT s.heap (scrH K a vs ns)).Ns b m := by
    rintro b m ⟨o, es, ep, e, d, r⟩
    exact ⟨o, es, ep, inB e fun z => absurd z (notDict e d), d, r⟩
  have KB : K.In (hidT s.heap (scrH K a vs ns)) := fun b o e => inB (KX b o e) fun z => by rw [← z, e]; simp
  obtain ⟨mc, lc1, lc2⟩ := lim
  have okB : HOk P w (scrH K a vs ns) s.heap := by
    intro b u hbu
    obtain ⟨e1, _, e3⟩ := scrH_some hbu
    subst e1 e3
    exact ⟨ho, by rw [List.length_map]; exact hl, vs, _, rv, ho⟩
  have E0' : Env0 P w K mg (hidT s.heap (scrH K a vs ns)) callerA [] s (scrH K a vs ns) :=
    { frames := rfl, mod := ⟨KB, nsB G, ⟨mb, nsB B, hmb⟩, ⟨mc, nsB lc1, lc2⟩⟩, bs := fun b o e => of_hidT e, bsz := Nat.le_of_eq (hidT_size _ _), funs := trivial,
      frf := fun b hbm => absurd (show b ∈ ([] : List Addr) from hbm) List.not_mem_nil, hok := okB, bare := .of_eq gn }
  have sq : SqS K (scrH K a vs ns) a (ns.map V.int) := by
    cases hk : K.lookup a with
    | none => exact .inl ⟨_, if_pos ⟨rfl, hk⟩⟩
    | some o =>
      have eo : o = { cls := .type "list", data := .seq vs.toArray } := Option.some.inj ((KX a o hk).symm.trans ho)
      subst eo
      exact .inr (.inr ⟨_, vs.toArray, _, hk, rfl, rfl, rfl, by rw [List.size_toArray, hlen]; exact hl, by simpa using rv⟩)
  have start : loSp K sp 1 [.ref a] (scrH K a vs ns) (fun v _ => v = .bl true) fun _ _ _ => False := by
    refine ⟨fun _ => False, ⟨fun _ => none, 0⟩, [.scr ns], fun d _ => d = .bl true, rfl, ⟨fun _ f => f.elim, fun _ _ e => nomatch e⟩, Reps.cons ?_ Reps.nil, hs _ _ fun _ => rfl, fun v H' q => ?_⟩
    · simp only [Rep]
      exact ⟨a, rfl, sq⟩
    · obtain ⟨_, _, d, _, _, r, e⟩ := q
      subst e
      exact r
  refine codeAny_mono ((hF _ KB (nsB G)).run callerA [] s (scrH K a vs ns) ⟨[.ref a], []⟩ [.ref a] [.ref a] _ _ room rfl E0' (hb s (.ref a)) (.cons rfl .nil) start) ?_
  intro r s' hr
  match r, hr with
  | .error e, hr => exact hr.elim
  | .ok .next, hr => exact hr.elim
  | .ok .brk, hr => exact hr.elim
  | .ok .cont, hr => exact hr.elim
  | .ok (.ret u), hr =>
    obtain ⟨v, H', eos, bare, un, ok', rvu, ev⟩ := hr
    have ev' : v = .bl true := ev
    subst ev'
    have eu : u = Value.bool true := rvu
    subst eu
    refine ⟨rfl, OldK.of_keep fun b o e => ?_, eos, bare⟩
    cases hbH : scrH K a vs ns b with
    | none => exact un.keep b o e hbH (fun z => absurd (show b ∈ ([] : List Addr) from z) List.not_mem_nil) (by simp)
    | some u =>
      obtain ⟨e1, _, e3⟩ := scrH_some hbH
      subst e3
      obtain ⟨g1, _⟩ := okB b _ hbH
      obtain ⟨g2, _⟩ := ok' b _ (un.frzs b _ _ hbH)
      rw [Option.some.inj (e.symm.trans g1)]
      exact g2
end
/-- the end over a head by facts, the law's def read over trees -/
theorem walkG {l : PySem.W.OpenLaw} {n k : Nat} {q : Program} {loose : List Str} {XP : (Str → Option Value) → Heap → Prop} {YP : World → Heap → Prop} {d : DefRec} {x : Str} {sp : DSp}
    (hn : l.most = some n) (hsz : n ≤ sizeLine) (hdf : d.params.defaults = []) (room : Room k callerA) (hs : ∀ ns M Φ, (∀ M', Φ (.bl true) M') → sp [.scr ns] M Φ noX)
    (hF : ∀ (w : World) (mg : Str → Option Value) (fa : Addr) (h : Heap), YP w h → h.Ns mainGlobals mg → mg d.name = some (.ref fa) →
      ∃ (K : PySem.W.Frag) (fd : FuncData), K.In h ∧ (∀ (s : Shared) (u : Value), BindsTo s fd ⟨[u], []⟩ [(x, u)]) ∧ ∀ base : Heap, K.In base → base.Ns mainGlobals mg → FnG l.prog w K mg base CX0 k fa fd [x] (loSp K sp 1)) :
    PySem.W.WalkO q loose XP YP l.row.toRowW d [] (fun f vs => PySem.call f vs) := by
  refine Att.attach_call hn hdf ?_
  intro w s₀ s₁ mg mb fa o pm cd doc a vs ns G Y _ _ _ hm ho hints hlen hgn
  obtain ⟨K, fd, KX, hb, F⟩ := hF w mg fa _ Y G.T.g hm
  exact callG KX G.T.g G.T.b G.T.builtins G.T.nolimit hgn ho hints (Nat.le_trans hlen hsz) room F hb (hs ns)
end DL
namespace DL
open PySem PySem.Spec PyProof.Rows L2
section
variable {K : PySem.W.Frag} {F : Addr → Prop} {H : Hp} {M : MS} {a p : Addr} {o o' : Obj} {h : Heap} {P : Program} {w : World} {ks : List (List Int)}
abbrev kT (P : Program) (w : World) : HeapKind P w (List Int) := tupleKind (PySem.intKind P w)
end
def dDicT0 : DE := fun _ M Φ => ∀ p o, M.map p = none → Φ (.ref p) (M.put p (.dT [] o))
/-- {k: True} -/
def dDicT1 (tk tv : DE) : DE := fun ρ M Φ => tk ρ M fun x M1 => tv ρ M1 fun y M2 => y = .bl true ∧ ∃ k : List Int, x = .tup (k.map D.int) ∧ ∀ p o, M2.map p = none → Φ (.ref p) (M2.put p (.dT [k] o))
def rPutT (x i y : D) (M : MS) (Φ : MS → Prop) : Prop := y = .bl true ∧ ∃ (a : Addr) (ks : List (List Int)) (o : Obj) (k : List Int), x = .ref a ∧ M.map a = some (.dT ks o) ∧ i = .tup (k.map D.int) ∧ ks.length ≤ 100000 ∧
  ∀ o', (k ∈ ks → Φ (M.put a (.dT ks o'))) ∧ (k ∉ ks → Φ (M.put a (.dT (ks ++ [k]) o')))
def sPutT (te to ti : DE) : DS := fun Δ ρ M => te ρ M fun y M1 => to ρ M1 fun x M2 => ti ρ M2 fun i M3 => rPutT x i y M3 fun M4 => Δ.nx ρ M4
def tupK (k : List Int) : D := .tup (k.map D.int)
def dKeysT (te : DE) : DI := fun ρ M Ψ => te ρ M fun x M1 => ∃ (a : Addr) (ks : List (List Int)) (o : Obj), x = .ref a ∧ M1.map a = some (.dT ks o) ∧ Ψ (ks.map tupK) (fun M' => M'.map a = some (.dT ks o)) M1
end DL
namespace DL
open PySem PySem.Spec PyProof.Rows L2
def sAsgL (te : DE) (ps : List Pat) : DS := fun Δ ρ M => te ρ M fun x M1 => match seqL M1 x with
  | some xs => (match Pat.puts ps xs ρ with
    | some ρ' => Δ.nx ρ' M1
    | none => False)
  | none => False
end DL
namespace DL
open PySem PySem.Spec PyProof.Rows L2
structure Dw (M : MS) (a c : Addr) (k : Nat) : Prop where
  ne : a ≠ c
  ex : ∃ (n : Int) (cells rests : List Int), M.map a = some (.lst [.lst (cells.map D.int), .int n, .ref c]) ∧ M.map c = some (.lst (rests.map D.int)) ∧ 0 ≤ n ∧ n + k ≤ 2 ^ 24 ∧ 0 < cells.length ∧ cells.length ≤ 64 ∧ rests.length = cells.length ∧ ∀ x ∈ rests, 0 ≤ x
theorem Dw.mono {M : MS} {a c : Addr} {k k' : Nat} (h : Dw M a c k) (hk : k' ≤ k) : Dw M a c k' := by
  obtain ⟨n, cells, rests, h1, h2, h3, h4, h5⟩ := h.ex
  exact ⟨h.ne, n, cells, rests, h1, h2, h3, by omega, h5⟩
theorem Dw.put {M : MS} {a c p : Addr} {k : Nat} {o : MO} (h : Dw M a c k) (ha : p ≠ a) (hc : p ≠ c) : Dw (M.put p o) a c k := by
  obtain ⟨n, cells, rests, h1, h2, h3⟩ := h.ex
  exact ⟨h.ne, n, cells, rests, by rw [MS.put_ne (Ne.symm ha)]; exact h1, by rw [MS.put_ne (Ne.symm hc)]; exact h2, h3⟩
end DL
namespace DL
open PySem PySem.Spec PyProof.Rows L2
end DL
namespace DL
open PySem PySem.Spec PyProof.Rows L2
end DL
namespace DL
open PySem PySem.Spec PyProof.Rows L2
end DL
namespace DL
open PySem PySem.Spec PyProof.Rows L2
end DL
namespace PyProof.Rows
open PySem PySem.SeqAt
end PyProof.Rows
namespace DL
open PySem PySem.Spec PyProof.Rows L2
end DL
namespace DL
open PySem PySem.Spec PyProof.Rows L2
structure CIns (K : PySem.W.Frag) (n : Str) : Prop where
  cl : Cls K (He.ga K n)
  ha : PySem.W.findIn K (.ref (He.ga K n)) "__class__" = some (some (.builtin "object.__class__"))
  hn : PySem.W.specialIn K (.builtin "object.__class__") "__get__" = some (some (.builtin "getset_descriptor.__get__"))
  ht : PySem.W.takesIn K (.builtin "object.__class__") = some true
  hm : PySem.W.mroIn K (He.ga K n) (.type "object") = some true
  no : ∀ f ∈ fieldsT n, NoAttr K (He.ga K n) f
  kB : cclsB K n = true
  kC : ∀ c ∈ clsNames, presB K c = true → PySem.W.kitOne K (.ref (He.ga K n)) (.ref (He.ga K c)) = some (subB n c)
  kT : ∀ t : Ty, t ≠ .none → PySem.W.kitOne K (.ref (He.ga K n)) (.type t.name) = some (subB n t.name)
  kN : PySem.W.subIn K (.ref (He.ga K n)) (.type "NoneType") = some false
theorem kits_ok {K : PySem.W.Frag} {n : Str} (h : kitsB K n = true) : (∀ c ∈ clsNames, presB K c = true → PySem.W.kitOne K (.ref (He.ga K n)) (.ref (He.ga K c)) = some (subB n c)) ∧ (∀ t : Ty, t ≠ .none → PySem.W.kitOne K (.ref (He.ga K n)) (.type t.name) = some (subB n t.name)) := by
  unfold kitsB at h
  rw [Bool.and_eq_true, List.all_eq_true, List.all_eq_true] at h
  refine ⟨fun c hc hp => ?_, fun t ht => ?_⟩
  · have := h.1 c hc
    rw [hp] at this
    simpa using this
  · refine of_decide_eq_true (h.2 t ?_)
    cases t <;> first | exact absurd rfl ht | decide
theorem class_ok {K : PySem.W.Frag} {n : Str} (h : classB K n = true) : PySem.W.findIn K (.ref (He.ga K n)) "__class__" = some (some (.builtin "object.__class__")) ∧ PySem.W.specialIn K (.builtin "object.__class__") "__get__" = some (some (.builtin "getset_descriptor.__get__")) ∧
    PySem.W.takesIn K (.builtin "object.__class__") = some true ∧ PySem.W.mroIn K (He.ga K n) (.type "object") = some true := by
  obtain ⟨h1, h⟩ := He.ba h
  obtain ⟨h2, h⟩ := He.ba h
  obtain ⟨h3, h4⟩ := He.ba h
  exact ⟨of_decide_eq_true h1, of_decide_eq_true h2, of_decide_eq_true h3, of_decide_eq_true h4⟩
theorem cins_ok {K : PySem.W.Frag} {n : Str} (h : cinsB K n = true) : CIns K n := by
  obtain ⟨h1, h⟩ := He.ba h
  obtain ⟨h2, h⟩ := He.ba h
  obtain ⟨h3, h⟩ := He.ba h
  obtain ⟨h5, h⟩ := He.ba h
  obtain ⟨h6, h4⟩ := He.ba h
  obtain ⟨a, b, c, d⟩ := class_ok h2
  obtain ⟨e, f⟩ := kits_ok h3
  exact ⟨He.cls_ok h1, a, b, c, d, fun f hf => (by
    have := List.all_eq_true.mp h4 f hf
    unfold findB at this
    exact (show PySem.W.findIn K (.ref (He.ga K n)) f = some none from of_decide_eq_true this)), h5, e, f, of_decide_eq_true h6⟩
def insD (M : MS) : D → Option (Str × List (Str × D))
  | .obj .ins n ks xs => some (n, ks.zip xs)
  | .ref a => match M.map a with
    | some (.ins n fs) => some (n, fs)
    | _ => none
  | _ => none
def putD (f : Str) (v : D) : List (Str × D) → List (Str × D)
  | [] => [(f, v)]
  | (g, x) :: r => if g = f then (g, v) :: r else (g, x) :: putD f v r
section
variable {K : PySem.W.Frag} {F F' : Addr → Prop} {H H' : Hp} {M M' : MS} {x d : D} {v w : V} {n f : Str} {fs : List (Str × D)} {fs' : List (Str × V)} {p q : Addr}
theorem zip_fst {α β : Type} : ∀ {ks : List α} {xs : List β}, ks.length = xs.length → (ks.zip xs).map (·.1) = ks
  | [], [], _ => rfl
  | k :: ks, x :: xs, h => by rw [List.zip_cons_cons, List.map_cons, zip_fst (by simpa using h)]
  | [], _ :: _, h => by cases h
  | _ :: _, [], h => by cases h
theorem zip_snd {α β : Type} : ∀ {ks : List α} {xs : List β}, ks.length = xs.length → (ks.zip xs).map (·.2) = xs
  | [], [], _ => rfl
  | k :: ks, x :: xs, h => by rw [List.zip_cons_cons, List.map_cons, zip_snd (by simpa using h)]
  | [], _ :: _, h => by cases h
  | _ :: _, [], h => by cases h
theorem zip_self {α β : Type} : ∀ fs : List (α × β), (fs.map (·.1)).zip (fs.map (·.2)) = fs
  | [] => rfl
  | (a, b) :: r => by rw [List.map_cons, List.map_cons, List.zip_cons_cons, zip_self r]
theorem ins_rep (am : AbsM K F H M) (r : Rep K F H x v) (h : insD M x = some (n, fs)) : CIns K n ∧ ∃ a dx fs', v = .ref a ∧ H a = some (.ins (He.ga K n) dx fs') ∧ fs.map (·.1) = fs'.map (·.1) ∧ Reps K F H (fs.map (·.2)) (fs'.map (·.2)) := by
  cases x with
  | obj t m ks xs =>
    cases t with
    | ins =>
      simp only [insD, Option.some.injEq, Prod.mk.injEq] at h
      obtain ⟨rfl, rfl⟩ := h
      simp only [Rep] at r
      obtain ⟨c, a, dx, vs, e, _, e2, hl, rs⟩ := r
      have hl2 := rs.length
      refine ⟨cins_ok c, a, dx, _, e, e2, ?_, ?_⟩
      · rw [zip_fst hl, zip_fst (hl.trans hl2)]
      · rw [zip_snd hl, zip_snd (hl.trans hl2)]; exact rs
    | _ => cases h
  | ref a =>
    simp only [insD] at h
    split at h
    · rename_i n' fs0 e
      cases h
      obtain ⟨_, c, dx, fs', e1, e2, e3⟩ := am.mp a _ e
      exact ⟨cins_ok c, a, dx, fs', r, e1, e2, e3⟩
    · cases h
  | _ => cases h
theorem look_rep : ∀ {fs : List (Str × D)} {fs' : List (Str × V)}, fs.map (·.1) = fs'.map (·.1) → Reps K F H (fs.map (·.2)) (fs'.map (·.2)) → ∀ f, (∀ d, fs.lookup f = some d → ∃ v, fs'.lookup f = some v ∧ Rep K F H d v) ∧ (fs.lookup f = none → fs'.lookup f = none)
  | [], [], _, _, f => ⟨fun d h => (by cases h), fun _ => rfl⟩
  | (k, x) :: fs, (k', x') :: fs', e, r, f => by
    simp only [List.map_cons, List.cons.injEq] at e
    obtain ⟨rfl, e⟩ := e
    simp only [List.map_cons, Reps] at r
    obtain ⟨v, vr, ev, r1, r2⟩ := r
    injection ev with e1 e2
    subst e1 e2
    obtain ⟨i1, i2⟩ := look_rep e r2 f
    simp only [List.lookup_cons]
    cases h : f == k with
    | true =>
      refine ⟨fun d q => ?_, fun q => ?_⟩
      · injection q with q
        subst q
        exact ⟨_, rfl, r1⟩
      · cases q
    | false => exact ⟨i1, i2⟩
  | [], _ :: _, e, _, _ => by cases e
  | _ :: _, [], e, _, _ => by cases e
theorem put_rep (rd : Rep K F H d w) : ∀ {fs : List (Str × D)} {fs' : List (Str × V)}, fs.map (·.1) = fs'.map (·.1) → Reps K F H (fs.map (·.2)) (fs'.map (·.2)) → (putD f d fs).map (·.1) = (putF f w fs').map (·.1) ∧ Reps K F H ((putD f d fs).map (·.2)) ((putF f w fs').map (·.2))
  | [], [], _, _ => ⟨rfl, Reps.cons rd Reps.nil⟩
  | (k, x) :: fs, (k', x') :: fs', e, r => by
    simp only [List.map_cons, List.cons.injEq] at e
    obtain ⟨rfl, e⟩ := e
    simp only [List.map_cons, Reps] at r
    obtain ⟨v, vr, ev, r1, r2⟩ := r
    injection ev with e1 e2
    subst e1 e2
    obtain ⟨i1, i2⟩ := put_rep rd e r2
    simp only [putD, putF]
    by_cases h : k = f
    · rw [if_pos h, if_pos h]
      exact ⟨by rw [List.map_cons, List.map_cons, e], Reps.cons rd r2⟩
    · rw [if_neg h, if_neg h]
      exact ⟨by rw [List.map_cons, List.map_cons, i1], Reps.cons r1 i2⟩
  | [], _ :: _, e, _ => by cases e
  | _ :: _, [], e, _ => by cases e
/-- an instance in the map is written -/
theorem AbsM.wroteI {C dx : Addr} {gs0 : List (Str × D)} {gs' : List (Str × V)} (x : AbsM K F H M) (h : M.map p = some (.ins n gs0)) (c : cinsB K n = true) (e : H p = some (.ins C dx fs')) (ec : C = He.ga K n) (k : fs.map (·.1) = gs'.map (·.1)) (r : Reps K F H (fs.map (·.2)) (gs'.map (·.2))) :
    AbsM K F (L2.upd H p (.ins C dx gs')) (M.put p (.ins n fs)) ∧ Lm K F H M F (L2.upd H p (.ins C dx gs')) (M.put p (.ins n fs)) := by
  subst ec
  obtain ⟨nf, _⟩ := x.mp p _ h
  have l : Le K F H F (L2.upd H p (.ins (He.ga K n) dx gs')) := Le.upd nf (fun vs => nord_ins e) (nofrz_ins e)
  refine ⟨⟨fun a f z => ?_, fun a o' e' => ?_⟩, l, fun a ha f m => ?_⟩
  · by_cases ha : a = p
    · subst ha; exact nf f
    · rw [upd_ne ha] at z; exact x.fh a f z
  · by_cases ha : a = p
    · subst ha
      rw [MS.put_same] at e'; cases e'
      exact ⟨nf, c, dx, gs', upd_same, k, r.mono l⟩
    · rw [MS.put_ne ha] at e'
      obtain ⟨nf', r'⟩ := x.mp a o' e'
      refine ⟨nf', r'.keep l (upd_ne ha) (fun c hc => ?_) (Nat.le_refl _)⟩
      have hcp : c ≠ p := fun z => by subst z; rw [h] at hc; cases hc
      exact ⟨upd_ne hcp, by rw [MS.put_ne hcp]; exact hc⟩
  · have hp : a ≠ p := fun e => by subst e; rw [h] at m; cases m
    exact ⟨f, by rw [MS.put_ne hp]; exact m, upd_ne hp⟩
/-- a new instance, in the map -/
theorem AbsM.newI (x : AbsM K F H M) (hp : H p = none) (hq : H q = none) (ne : q ≠ p) (c : cinsB K n = true) :
    AbsM K F (L2.upd (L2.upd H q (.own p)) p (.ins (He.ga K n) q [])) (M.put p (.ins n [])) ∧ Lm K F H M F (L2.upd (L2.upd H q (.own p)) p (.ins (He.ga K n) q [])) (M.put p (.ins n [])) := by
  have x1 : AbsM K F (L2.upd H q (.own p)) M := x.laid hq
  have l1 : Lm K F H M F (L2.upd H q (.own p)) M := Lm.laid x hq
  have hp1 : L2.upd H q (.own p) p = none := by rw [upd_ne (Ne.symm ne)]; exact hp
  have l : Le K F (L2.upd H q (.own p)) F (L2.upd (L2.upd H q (.own p)) p (.ins (He.ga K n) q [])) := Le.upd (x1.fresh hp1).1 (fun vs => nord_none hp1) (nofrz_none hp1)
  have y : AbsM K F (L2.upd (L2.upd H q (.own p)) p (.ins (He.ga K n) q [])) M := x1.laid hp1
  refine ⟨⟨y.fh, fun a o' e => ?_⟩, l1.trans (Lm.newM x1 hp1)⟩
  by_cases ha : a = p
  · subst ha
    rw [MS.put_same] at e; cases e
    exact ⟨(x.fresh hp).1, c, q, [], upd_same, rfl, Reps.nil⟩
  · rw [MS.put_ne ha] at e
    obtain ⟨nf, r⟩ := y.mp a o' e
    refine ⟨nf, r.keep Le.refl rfl (fun c hc => ⟨rfl, ?_⟩) (Nat.le_refl _)⟩
    rw [MS.put_ne (fun z => by subst z; rw [(x.fresh hp).2] at hc; cases hc)]
    exact hc
/-- .. is never changed any more -/
theorem AbsM.still (x : AbsM K F H M) (h : M.map p = some (.ins n fs)) : AbsM K (fun b => F b ∨ b = p) H (M.del p) ∧ Lm K F H M (fun b => F b ∨ b = p) H (M.del p) ∧ Rep K (fun b => F b ∨ b = p) H (.obj .ins n (fs.map (·.1)) (fs.map (·.2))) (.ref p) := by
  obtain ⟨nf, c, dx, fs', e, k, r⟩ := x.mp p _ h
  have l : Le K F H (fun b => F b ∨ b = p) H := Le.refl.grow fun _ f => .inl f
  have dne : ∀ {a : Addr}, a ≠ p → (M.del p).map a = M.map a := fun {a} ha => by simp [MS.del, ha]
  have dsame : (M.del p).map p = none := by simp [MS.del]
  refine ⟨⟨fun a f z => ?_, fun a o' e' => ?_⟩, ⟨l, fun a ha f m => ⟨fun z => z.elim f fun z => ?_, ?_, rfl⟩⟩, ?_⟩
  · rcases f with f | f
    · exact x.fh a f z
    · subst f; rw [e] at z; cases z
  · by_cases ha : a = p
    · subst ha; rw [dsame] at e'; cases e'
    · rw [dne ha] at e'
      obtain ⟨nf', r'⟩ := x.mp a o' e'
      refine ⟨fun z => z.elim nf' ha, r'.keep l rfl (fun c hc => ⟨rfl, ?_⟩) (Nat.le_refl _)⟩
      rw [dne (fun z => by subst z; rw [h] at hc; cases hc)]; exact hc
  · subst z; rw [h] at m; cases m
  · by_cases ha : a = p
    · subst ha; exact dsame
    · rw [dne ha]; exact m
  · simp only [Rep]
    refine ⟨c, p, dx, fs'.map (·.2), rfl, .inr rfl, ?_, by simp, r.mono l⟩
    rw [e, k]
    congr 2
    exact (zip_self fs').symm
end
def rFld (f : Str) (x : D) (M : MS) (Φ : DQ) : Prop := ∃ n fs d, insD M x = some (n, fs) ∧ f ∈ fieldsT n ∧ fs.lookup f = some d ∧ Φ d M
section
variable {X : Cx} {e o value : Expr} {te ta tv : DE} {f m : Str} {pos pos' apos : Pos}
variable {O : Og X.K}
theorem q_fld (he : PE X e (lo X.K O te)) (hb : attributeBase e f X.env (eval e X.env) = eval e X.env) : PE X (.Attribute e f pos) (lo X.K O (dUn (rFld f) te)) :=
  PE.imp (pe_fld he hb) fun σ H Q h => by
    obtain ⟨F, M, ρ, Φ, A, h, k⟩ := h
    refine ⟨F, M, ρ, _, A, h, fun v H1 ⟨F1, M1, x, l1, a1, r1, n, fs, d, h1, h2, h3, h4⟩ => ?_⟩
    obtain ⟨c, a, dx, fs', rfl, e1, e2, e3⟩ := ins_rep a1 r1 h1
    obtain ⟨w, e4, rw⟩ := (look_rep e2 e3 f).1 d h3
    exact ⟨a, _, dx, fs', w, rfl, e1, c.cl, c.no f h2, e4, k _ _ ((loQ.here a1 rw h4).le l1)⟩
/-- o.f = value -/
def sFld (f : Str) (ta tv : DE) : DS := fun Δ ρ M => tv ρ M fun y M1 => ta ρ M1 fun x M2 => ∃ a n fs, x = .ref a ∧ M2.map a = some (.ins n fs) ∧ f ∈ fieldsT n ∧ fs.length < 100 ∧ Δ.nx ρ (M2.put a (.ins n (putD f y fs)))
theorem len_keys {α β γ : Type} {fs : List (α × β)} {gs : List (α × γ)} (h : fs.map (·.1) = gs.map (·.1)) : fs.length = gs.length := by
  have := congrArg List.length h
  simpa using this
theorem z_fld (ha : PE X o (lo X.K O ta)) (hv : PE X value (lo X.K O tv)) (hs : swapsWith value (some (.Attribute o f pos')) pos.line X.env = pure false) : PS X (.Assign [.Attribute o f pos'] value pos) (loS X.K O (sFld f ta tv)) :=
  PS.imp (ps_fld ha hv hs) fun Y σ H h => by
    obtain ⟨F, M, ρ, Δ, A, h, k⟩ := h
    refine ⟨F, M, ρ, _, A, h, fun vy H1 ⟨F1, M1, y, l1, a1, r1, h1⟩ => ⟨F1, M1, ρ, _, A.go l1 a1, h1, fun vx H2 ⟨F2, M2, x, l2, a2, r2, a, n, fs, ex, h2, h3, h4, h5⟩ => ?_⟩⟩
    subst ex
    obtain ⟨_, c, dx, fs', e1, e2, e3⟩ := a2.mp a _ h2
    obtain ⟨g1, g2⟩ := put_rep (f := f) (r1.mono l2.le) e2 e3
    obtain ⟨a3, l3⟩ := a2.wroteI h2 c e1 rfl g1 g2
    have c' := cins_ok c
    exact ⟨a, _, dx, fs', r2, e1, c'.cl, c'.no f h3, by rw [← len_keys e2]; omega, k.nx _ _ _ _ _ ((l1.trans l2).trans l3) (A.go ((l1.trans l2).trans l3) a3) h5⟩
/-- o.f += value, numbers -/
def sFldAug (f : Str) (ta tv : DE) : DS := fun Δ ρ M => ta ρ M fun x M1 => ∃ n fs0 i, insD M1 x = some (n, fs0) ∧ f ∈ fieldsT n ∧ fs0.lookup f = some (.int i) ∧ tv ρ M1 fun y M2 => ∃ j a fs, y = .int j ∧ x = .ref a ∧ M2.map a = some (.ins n fs) ∧ fs.length < 100 ∧ Δ.nx ρ (M2.put a (.ins n (putD f (.int (i + j)) fs)))
end
end DL
namespace DL
open PySem PySem.Spec PyProof.Rows L2
/-- class n, its own dict at d, its fields -/
def ERep (K : PySem.W.Frag) (F : Addr → Prop) (H : Hp) (n : Str) (fs : List (Str × D)) (cls : Value) (d : Option Addr) : Prop :=
  cexcB K n = true ∧ cls = .ref (He.ga K n) ∧ ((d = none ∧ fs = []) ∨ ∃ dd fs', d = some dd ∧ F dd ∧ H dd = some (.xd fs') ∧ fs.map (·.1) = fs'.map (·.1) ∧ Reps K F H (fs.map (·.2)) (fs'.map (·.2)))
def loE (K : PySem.W.Frag) (F : Addr → Prop) (H : Hp) (M : MS) (ξ : DX) : XK := fun cls d H' => ∃ F' M' n fs, Lm K F H M F' H' M' ∧ AbsM K F' H' M' ∧ ERep K F' H' n fs cls d ∧ ξ n fs M'
def loSpX (K : PySem.W.Frag) (sp : DSp) (n : Nat) : Sp := fun vs H Q E => ∃ F M ds Φ ξ, ds.length = n ∧ AbsM K F H M ∧ Reps K F H ds vs ∧ sp ds M Φ ξ ∧ (∀ v H', loQ K F H M Φ v H' → Q v H') ∧ ∀ cls d H', loE K F H M ξ cls d H' → E cls d H'
/-- a body's wish about what is raised, by its slots -/
abbrev DXs := DEnv → DX
def noXs : DXs := fun _ => noX
def loW (K : PySem.W.Frag) (O : Og K) (ξ : DXs) : WX := fun cls d σ H => ∃ F M ρ n fs, Abs K O F H M σ ρ ∧ ERep K F H n fs cls d ∧ ξ ρ n fs M
def Tk (X : Cx) (O : Og X.K) (ξ : DXs) : Prop := Takes X (loW X.K O ξ)
theorem Tk.no {X : Cx} {O : Og X.K} : Tk X O noXs := fun u s' x => by
  obtain ⟨_, _, _, _, _, _, _, _, _, _, _, _, _, _, _, _, w⟩ := x
  obtain ⟨_, _, _, _, _, _, _, w⟩ := w
  exact w.elim
section
variable {X : Cx} {pins : List (Addr × Obj)} {σ : L2.St} {H : Hp} {s : Shared} {k n : Nat} {f : Addr} {fd : FuncData} {ps : List Str} {sp : DSp} {ξ : DXs} {Q : VK} {us : List Value} {vs : List V} {F : Addr → Prop} {M : MS} {ρ : DEnv} {ds : List D} {Φ : DQ} {B : Around}
variable {O : Og X.K}
/-- the callee runs, its exceptions are ours; below (B) or here -/
theorem runX (G : FnG X.prog X.w X.K X.mg X.base (CX X.prog X.w) k f fd ps (loSpX X.K sp n)) (hr : Room k B) (hg : B.guards = some []) (e0 : Env0 X.prog X.w X.K X.mg X.base B X.stack s H) (hb : Binds X.K fd ps []) (tk : Tk X O ξ) (I : Inv X pins σ H s) (A : Abs X.K O F H M σ ρ)
    (r : Vals vs us) (rs : Reps X.K F H ds vs) (hn : ds.length = n) (h : sp ds M Φ (ξ ρ)) :
    codeAny (model X.prog X.w) B (.call (.ref f) ⟨us, []⟩) (fun res s' => match res with
      | .ok (.ret u) => EP X pins σ (loQ X.K F H M Φ) u s'
      | .ok _ => False
      | .error e => X.xe e s') s := by
  have hsp : loSpX X.K sp n vs H (loQ X.K F H M Φ) (loE X.K F H M (ξ ρ)) := ⟨F, M, ds, Φ, ξ ρ, hn, A.am, rs, h, fun _ _ q => q, fun _ _ _ q => q⟩
  have hlen : us.length = ps.length := by rw [← r.length]; exact G.len _ _ _ _ hsp
  have b := hb s us I.kIn (by rw [List.append_nil]; exact hlen)
  rw [List.append_nil] at b
  refine codeAny_mono (G.run B X.stack s H ⟨us, []⟩ us vs _ _ hr hg e0 b r hsp) fun res s' hq => ?_
  cases res with
  | error e =>
    refine tk e s' (XE.of_call I (fun cls d H' q => ?_) hq)
    obtain ⟨F', M', n, fs, l, a, er, w⟩ := q
    exact ⟨F', M', ρ, n, fs, A.go l a, er, w⟩
  | ok fl =>
    cases fl with
    | ret u => exact I.after hq
    | next => exact hq.elim
    | brk => exact hq.elim
    | cont => exact hq.elim
theorem runXh (G : FnG X.prog X.w X.K X.mg X.base (CX X.prog X.w) k f fd ps (loSpX X.K sp n)) (hr : Room k X.A) (hg : X.A.guards = some []) (hb : Binds X.K fd ps []) (tk : Tk X O ξ) (I : Inv X pins σ H s) (A : Abs X.K O F H M σ ρ)
    (r : Vals vs us) (rs : Reps X.K F H ds vs) (hn : ds.length = n) (h : sp ds M Φ (ξ ρ)) (k : ∀ v H', loQ X.K F H M Φ v H' → Q v H') : wpAny (model X.prog X.w) X.A (call (.ref f) us) (EP X pins σ Q) X.xe s := by
  refine wpAny_call (codeAny_mono (runX G hr hg I.env0 hb tk I A r rs hn h) fun res s' hq => ?_)
  cases res with
  | error e => exact hq
  | ok fl =>
    cases fl with
    | ret u =>
      obtain ⟨v, H', I', rv, q⟩ := hq
      exact ⟨v, H', I', rv, k _ _ q⟩
    | next => exact hq.elim
    | brk => exact hq.elim
    | cont => exact hq.elim
end
/-- the method m of the class c -/
structure MCallee (P : Program) (w : World) (K : PySem.W.Frag) (mg : Str → Option Value) (base : Heap) (k : Nat) (c m : Str) (n : Nat) (sp : DSp) : Prop where
  ex : ∃ (f : Addr) (fd : FuncData) (ps : List Str), ps.length = n ∧ Meth K (He.ga K c) m f ∧ PySem.W.fnIn K f = true ∧ Binds K fd ps [] ∧ FnG P w K mg base (CX P w) k f fd ps (loSpX K sp n)
/-- the property m of the class c -/
structure PCallee (P : Program) (w : World) (K : PySem.W.Frag) (mg : Str → Option Value) (base : Heap) (k : Nat) (c m : Str) (sp : DSp) : Prop where
  ex : ∃ (p f : Addr) (fd : FuncData) (ps : List Str), ps.length = 1 ∧ PropOf K (He.ga K c) m p f ∧ Binds K fd ps [] ∧ FnG P w K mg base CX0 k f fd ps (loSp K sp 1)
/-- the class c is made -/
structure NCallee (P : Program) (w : World) (K : PySem.W.Frag) (mg : Str → Option Value) (base : Heap) (k : Nat) (c : Str) (n : Nat) (sp : DSp) : Prop where
  ex : ∃ (f : Addr) (fd : FuncData) (ps : List Str), ps.length = n ∧ mg c = some (.ref (He.ga K c)) ∧ cinsB K c = true ∧ Mk K (He.ga K c) f ∧ Binds K fd ps [] ∧ FnG P w K mg base (CX P w) k f fd ps (loSpX K sp n)
abbrev Tb := List (Str × DSp)
def Tb.ok (P : Program) (w : World) (K : PySem.W.Frag) (mg : Str → Option Value) (base : Heap) (k : Nat) (m : Str) (n : Nat) (tb : Tb) : Prop := ∀ c sp, tb.lookup c = some sp → MCallee P w K mg base k c m n sp
def Tb.okP (P : Program) (w : World) (K : PySem.W.Frag) (mg : Str → Option Value) (base : Heap) (k : Nat) (m : Str) (tb : Tb) : Prop := ∀ c sp, tb.lookup c = some sp → PCallee P w K mg base k c m sp
theorem Tb.ok_nil {P : Program} {w : World} {K : PySem.W.Frag} {mg : Str → Option Value} {base : Heap} {k : Nat} {m : Str} {n : Nat} : Tb.ok P w K mg base k m n [] := fun _ _ h => by cases h
theorem Tb.ok_cons {P : Program} {w : World} {K : PySem.W.Frag} {mg : Str → Option Value} {base : Heap} {k j : Nat} {m c : Str} {n : Nat} {sp : DSp} {tb : Tb} (h : MCallee P w K mg base j c m n sp) (hj : j ≤ k) (t : Tb.ok P w K mg base k m n tb) : Tb.ok P w K mg base k m n ((c, sp) :: tb) := fun c' sp' e => by
  rw [List.lookup_cons] at e
  cases q : c' == c with
  | true =>
    rw [q] at e
    injection e with e
    subst e
    rw [beq_iff_eq.mp q]
    obtain ⟨f, fd, ps, a, b, c, d, G⟩ := h.ex
    exact ⟨f, fd, ps, a, b, c, d, G.mono hj⟩
  | false =>
    rw [q] at e
    exact t c' sp' e
theorem Tb.okP_nil {P : Program} {w : World} {K : PySem.W.Frag} {mg : Str → Option Value} {base : Heap} {k : Nat} {m : Str} : Tb.okP P w K mg base k m [] := fun _ _ h => by cases h
theorem Tb.okP_cons {P : Program} {w : World} {K : PySem.W.Frag} {mg : Str → Option Value} {base : Heap} {k j : Nat} {m c : Str} {sp : DSp} {tb : Tb} (h : PCallee P w K mg base j c m sp) (hj : j ≤ k) (t : Tb.okP P w K mg base k m tb) : Tb.okP P w K mg base k m ((c, sp) :: tb) := fun c' sp' e => by
  rw [List.lookup_cons] at e
  cases q : c' == c with
  | true =>
    rw [q] at e
    injection e with e
    subst e
    rw [beq_iff_eq.mp q]
    obtain ⟨p, f, fd, ps, a, b, d, G⟩ := h.ex
    exact ⟨p, f, fd, ps, a, b, d, G.mono hj⟩
  | false =>
    rw [q] at e
    exact t c' sp' e
/-- the promise of x's class -/
def rSelf (tb : Tb) (x : D) (M : MS) (K : DSp → Prop) : Prop := ∃ n fs sp, insD M x = some (n, fs) ∧ tb.lookup n = some sp ∧ K sp
def rSelfM (m : Str) (tb : Tb) (x : D) (M : MS) (K : DSp → Prop) : Prop := ∃ n fs sp, insD M x = some (n, fs) ∧ fs.lookup m = none ∧ tb.lookup n = some sp ∧ K sp
def dMeth (m : Str) (n : Nat) (tb : Tb) (ξ : DXs) (to : DE) (ta : DAs) : DE := fun ρ M Φ => to ρ M fun x M1 => rSelfM m tb x M1 fun sp => ta ρ M1 fun ds M2 => ds.length + 1 = n ∧ sp (x :: ds) M2 Φ (ξ ρ)
def dProp (tb : Tb) (ξ : DXs) (te : DE) : DE := fun ρ M Φ => te ρ M fun x M1 => rSelf tb x M1 fun sp => sp [x] M1 Φ (ξ ρ)
abbrev refK (p : Addr) (Φ : DQ) : DQ := fun r M2 => r = .non ∧ Φ (.ref p) M2
abbrev frzK (p : Addr) (c : Str) (Φ : DQ) : DQ := fun r M2 => r = .non ∧ ∃ fs, M2.map p = some (.ins c fs) ∧ Φ (.obj .ins c (fs.map (·.1)) (fs.map (·.2))) (M2.del p)
def dMake (c : Str) (n : Nat) (sp : DSp) (ξ : DXs) (ta : DAs) : DE := fun ρ M Φ => ta ρ M fun ds M1 => ds.length + 1 = n ∧ ∀ p, M1.map p = none → sp (.ref p :: ds) (M1.put p (.ins c [])) (refK p Φ) (ξ ρ)
/-- .. a value that never changes -/
def dMakeF (c : Str) (n : Nat) (sp : DSp) (ξ : DXs) (ta : DAs) : DE := fun ρ M Φ => ta ρ M fun ds M1 => ds.length + 1 = n ∧ ∀ p, M1.map p = none → sp (.ref p :: ds) (M1.put p (.ins c [])) (frzK p c Φ) (ξ ρ)
section
variable {X : Cx} {k j n : Nat} {x m c : Str} {p pos apos : Pos} {e o : Expr} {es : List Expr} {te to : DE} {ta : DAs} {sp : DSp} {ξ : DXs} {tb : Tb}
variable {O : Og X.K}
/-- o.m(e, ..) -/
theorem q_meth {pl : Sem Bool} (hT : Tb.ok X.prog X.w X.K X.mg X.base j m n tb) (hr : Room k X.A) (hjk : j ≤ k) (hgd : X.A.guards = some []) (tk : Tk X O ξ) (ho : PE X o (lo X.K O to)) (ha : PA X (e :: es) (loA X.K O ta))
    (hst : starEach (e :: es) X.env = (false, eval e X.env) :: starEach es X.env) (hpl : (backTo pos (starEach es X.env)).any (·.1) = false)
    (ht : eval (.Call (.Attribute o m apos) (e :: es) [] pos) X.env = (do
      let ov ← eval o X.env
      standAt apos.atName
      let (f, first) ← holding [ov] (getMethod ov m pl)
      callWith pos f first (backTo pos (starEach (e :: es) X.env)) (backToKw pos (keywordEach [] X.env)))) :
    PE X (.Call (.Attribute o m apos) (e :: es) [] pos) (lo X.K O (dMeth m n tb ξ to ta)) := by
  refine ⟨fun pins s σ H Q I h => ?_⟩
  obtain ⟨F, M, ρ, Φ, A, h, kk⟩ := h
  refine PySem.W.methodCall_KW (pl := pl) (thn (ho.run pins s σ H (fun v H' => loQ X.K F H M _ v H') I ⟨F, M, ρ, _, A, h, fun v H' q => q⟩) fun u s1 ⟨x, H1, I1, rx, F1, M1, d, l1, a1, r1, c, fs, sp, h1, h2, h3, h4⟩ => ?_) ht
  obtain ⟨cc, a, dx, fs', rfl, e1, e2, e3⟩ := ins_rep a1 r1 h1
  obtain rfl : u = Value.ref a := rx
  obtain ⟨f, fd, ps, hl, hm, _, hb, G⟩ := (hT c sp h3).ex
  refine getmeth_ok I1 e1 cc.cl hm ((look_rep e2 e3 m).2 h2) ?_
  refine PySem.W.callWith_K (first := [.ref a]) (h₀ := X.base) I.ok.mod.kin hm.kp (thn (ha.run pos pins s1 σ H1 (fun vs H' => ∃ F' M' ds, Lm X.K F1 H1 M1 F' H' M' ∧ AbsM X.K F' H' M' ∧ Reps X.K F' H' ds vs ∧ ds.length + 1 = n ∧ sp (d :: ds) M' Φ (ξ ρ)) I1
    ⟨F1, M1, ρ, _, A.go l1 a1, h4, fun vs H' F' M' ds l a r q => ⟨F', M', ds, l, a, r, q⟩⟩) fun us s2 ⟨vs, H2, I2, r, F2, M2, ds, l2, a2, rs, hn, q⟩ => ⟨I2.kIn, ?_⟩) hst hpl
  exact runXh (us := .ref a :: us) (vs := .ref a :: vs) G (hr.mono hjk) hgd hb tk I2 (A.go (l1.trans l2) a2) (.cons rfl r) (Reps.cons (r1.mono l2.le) rs) hn q fun v H' z => kk v H' ((z.le l2).le l1)
/-- e.m, a property -/
theorem q_prop (hT : Tb.okP X.prog X.w X.K X.mg X.base j m tb) (hr : Room k X.A) (hjk : j + 1 ≤ k) (hgd : X.A.guards = some []) (he : PE X e (lo X.K O te)) (hab : attributeBase e m X.env (eval e X.env) = eval e X.env) : PE X (.Attribute e m pos) (lo X.K O (dProp tb noXs te)) := by
  refine ⟨fun pins s σ H Q I h => ?_⟩
  obtain ⟨F, M, ρ, Φ, A, h, kk⟩ := h
  refine attr_of hab (thn (he.run pins s σ H (fun v H' => loQ X.K F H M _ v H') I ⟨F, M, ρ, _, A, h, fun v H' q => q⟩) fun u s1 ⟨x, H1, I1, rx, F1, M1, d, l1, a1, r1, c, fs, sp, h1, h3, h4⟩ => ?_)
  obtain ⟨cc, a, dx, fs', rfl, e1, e2, e3⟩ := ins_rep a1 r1 h1
  obtain rfl : u = Value.ref a := rx
  obtain ⟨p, f, fd, ps, hl, hp, hb, G⟩ := (hT c sp h3).ex
  obtain ⟨mA, Ob, _, _, _, _⟩ := ins_get I1.hok e1
  obtain ⟨od, J, _⟩ := Ob.look
  obtain ⟨rest, hrec⟩ := hp.rec_
  have I2 := I1.tok (s1.toks + 1)
  have hc : (PySem.W.clsIn X.K (He.ga X.K c)).isSome = true := by
    obtain ⟨cd, hc, _⟩ := PySem.W.any_some cc.cl.hd
    rw [hc]; rfl
  refine PySem.W.get_bind I1.kIn J (PySem.W.plainGet_of (cc.cl.get m)).1 (PySem.W.findObj_data hc hp.at_ hp.get hp.tak) (PySem.W.plainGet_of (cc.cl.get m)).2 (wpAny_call (PySem.W.prop_get (s := { s1 with toks := s1.toks + 1 }) I1.kIn hrec ?_))
  have hsp : loSp X.K sp 1 [.ref a] H1 Q (fun _ _ _ => False) := ⟨F1, M1, [d], Φ, rfl, a1, Reps.cons r1 Reps.nil, h4, fun v H' z => kk v H' (z.le l1)⟩
  have b := hb { s1 with toks := s1.toks + 1 } [.ref a] I2.kIn (by rw [List.append_nil]; exact hl.symm)
  rw [List.append_nil] at b
  refine codeAny_mono (G.run X.A.in1 X.stack _ H1 ⟨[.ref a], []⟩ [.ref a] [.ref a] _ _ ((hr.mono hjk).in1) hgd I2.env0.in1 b (.cons rfl .nil) hsp) fun res s' hq => ?_
  cases res with
  | error er => exact hq.elim
  | ok fl =>
    cases fl with
    | ret u =>
      obtain ⟨v, H', I3, rv, q3⟩ := I2.after hq
      show wpAny _ _ (handedOut u) _ _ _
      rw [PySem.W.handedOut_of (handed_of rv)]
      exact wpAny_pure ⟨v, H', I3, rv, q3⟩
    | next => exact hq.elim
    | brk => exact hq.elim
    | cont => exact hq.elim
theorem guards_make {A : Around} {C : Addr} {us : List Value} {kw : List (Str × Value)} : (A.under (.builtin "type.__call__" ⟨.ref C :: us, kw⟩)).guards = A.guards := by
  first | rfl | simp [Around.under, Code.weight, Code.isCreation, Code.isGuard, Code.isCaller, Code.frames, Code.isFrame, guardIds]
/-- C(e, ..), told of whatever it gives -/
theorem make_core (C : NCallee X.prog X.w X.K X.mg X.base j c n sp) (hr : Room k X.A) (hjk : j + 1 ≤ k) (hgd : X.A.guards = some []) (tk : Tk X O ξ) {pins : List (Addr × Obj)} {σ : L2.St} {H : Hp} {s : Shared} {F : Addr → Prop} {M : MS} {ρ : DEnv} {ds : List D} {us : List Value} {vs : List V} {Q : VK} {Ψ : Addr → DQ}
    (I : Inv X pins σ H s) (A : Abs X.K O F H M σ ρ) (r : Vals vs us) (rs : Reps X.K F H ds vs) (hn : ds.length + 1 = n) (h : ∀ p, M.map p = none → sp (.ref p :: ds) (M.put p (.ins c [])) (Ψ p) (ξ ρ))
    (kk : ∀ p H1 F1 M1 H2 F2 M2 d v, Lm X.K F H M F1 H1 M1 → Lm X.K F1 H1 M1 F2 H2 M2 → AbsM X.K F2 H2 M2 → Rep X.K F2 H2 d v → Ψ p d M2 → v = .non ∧ Q (.ref p) H2) : wpAny (model X.prog X.w) X.A (call (.ref (He.ga X.K c)) us) (EP X pins σ Q) X.xe s := by
  obtain ⟨f, fd, ps, hl, hm, hcb, mk, hb, G⟩ := C.ex
  have hp : H (s.heap.objs.size + 1) = none := I.hok.fresh (Nat.le_succ _)
  have hq : H s.heap.objs.size = none := I.hok.fresh (Nat.le_refl _)
  obtain ⟨a2, l2⟩ := A.am.newI hp hq (Nat.ne_of_lt (Nat.lt_succ_self _)) hcb
  have I2 := Inv.made (C := He.ga X.K c) I
  have hsp := h _ (A.am.fresh hp).2
  refine wpAny_call (make_map (f := f) I.kIn mk.makes mk.init (beq_iff_eq.mp mk.fn) (codeAny_mono (runX (us := Value.ref (s.heap.objs.size + 1) :: us) (vs := V.ref (s.heap.objs.size + 1) :: vs) (ds := D.ref (s.heap.objs.size + 1) :: ds) G ((hr.mono hjk).make _ us []) (guards_make.trans hgd) (I2.env0.make _ us []) hb tk I2 (A.go l2 a2)
    (.cons rfl r) (Reps.cons rfl (rs.mono l2.le)) hn hsp) fun res s' hq' => ?_))
  cases res with
  | error e => exact hq'
  | ok fl =>
    cases fl with
    | ret u =>
      obtain ⟨v, H', I3, rv, F3, M3, d, l3, a3, rd, q3⟩ := hq'
      obtain ⟨ev, q⟩ := kk _ _ _ _ _ _ _ _ _ l2 l3 a3 rd q3
      subst ev
      exact ⟨rv, ⟨V.ref (s.heap.objs.size + 1), H', I3, rfl, q⟩⟩
    | next => exact hq'.elim
    | brk => exact hq'.elim
    | cont => exact hq'.elim
theorem q_makeF (C : NCallee X.prog X.w X.K X.mg X.base j c n sp) (hr : Room k X.A) (hjk : j + 1 ≤ k) (hgd : X.A.guards = some []) (tk : Tk X O ξ) (hg : Gl X c) (ha : PA X (e :: es) (loA X.K O ta)) (hdb : (c == ("__debug__" : Str)) = false)
    (he : starEach (e :: es) X.env = (false, eval e X.env) :: starEach es X.env) (hpl : (backTo pos (starEach es X.env)).any (·.1) = false) : PE X (.Call (.Name c p) (e :: es) [] pos) (lo X.K O (dMakeF c n sp ξ ta)) := by
  refine ⟨fun pins s σ H Q I h => ?_⟩
  obtain ⟨F, M, ρ, Φ, A, h, kk⟩ := h
  obtain ⟨f, fd, ps, hl, hm, hcb, mk, hb, G⟩ := C.ex
  refine wpAny_Call_Name_kw (ld_glob I hg hm ?_ hdb)
  refine PySem.W.callWith_K (h₀ := X.base) I.ok.mod.kin mk.kp (thn (ha.run pos pins s σ H (fun vs H' => ∃ F' M' ds, Lm X.K F H M F' H' M' ∧ AbsM X.K F' H' M' ∧ Reps X.K F' H' ds vs ∧ ds.length + 1 = n ∧ ∀ p, M'.map p = none → sp (.ref p :: ds) (M'.put p (.ins c [])) (fun r M2 => r = .non ∧ ∃ fs, M2.map p = some (.ins c fs) ∧ Φ (.obj .ins c (fs.map (·.1)) (fs.map (·.2))) (M2.del p)) (ξ ρ)) I
    ⟨F, M, ρ, _, A, h, fun vs H' F' M' ds l a r q => ⟨F', M', ds, l, a, r, q⟩⟩) fun us s1 ⟨vs, H1, I1, r, F1, M1, ds, l1, a1, rs, hn, q⟩ => ⟨I1.kIn, ?_⟩) he hpl
  refine make_core C hr hjk hgd tk I1 (A.go l1 a1) r rs hn q fun p H2 F2 M2 H3 F3 M3 d v l2 l3 a3 rd ⟨e, fs, ef, q⟩ => ?_
  subst e
  obtain ⟨a4, l4, r4⟩ := a3.still ef
  exact ⟨rd, kk _ _ ⟨_, _, _, ((l1.trans l2).trans l3).trans l4, a4, r4, q⟩⟩
end
end DL
namespace PySem.W
open PySem PySem.Spec PySem.Calls PyProof.Rows Builtin
end PySem.W
namespace DL
open PySem PySem.Spec PyProof.Rows L2
theorem ccls_ok {K : PySem.W.Frag} {n : Str} (h : cclsB K n = true) : n ∈ clsNames ∧ presB K n = true ∧ ∀ t : Ty, t ≠ .verr → t ≠ .lerr → PySem.W.kitOne K (.type t.name) (.ref (He.ga K n)) = some false := by
  obtain ⟨h1, h⟩ := He.ba h
  obtain ⟨h2, h3⟩ := He.ba h
  refine ⟨of_decide_eq_true h1, h2, fun t a b => of_decide_eq_true (List.all_eq_true.mp h3 t ?_)⟩
  cases t <;> first | exact absurd rfl a | exact absurd rfl b | decide
abbrev R3 := D → D → DEnv → MS → DQ → Prop
def dOp3 (R : R3) (ta tbb : DE) : DE := fun ρ M Φ => ta ρ M fun x M1 => tbb ρ M1 fun y M2 => R x y ρ M2 Φ
def dLenO (tb : Tb) (ξ : DXs) (ta : DE) : DE := fun ρ M Φ => ta ρ M fun x M1 => rSelf tb x M1 fun sp => sp [x] M1 (fun d M2 => ∃ i : Int, d = .int i ∧ 0 ≤ i ∧ i < 2 ^ 63 ∧ Φ (.int i) M2) (ξ ρ)
def dStrO (tb : Tb) (ξ : DXs) (ta : DE) : DE := fun ρ M Φ => ta ρ M fun x M1 => rSelf tb x M1 fun sp => sp [x] M1 (fun d M2 => ∃ z : Str, d = .str z ∧ Φ (.str z) M2) (ξ ρ)
def dCallO (n : Nat) (tb : Tb) (ξ : DXs) (tf : DE) (ta : DAs) : DE := fun ρ M Φ => tf ρ M fun x M1 => (insD M1 x).isSome = true ∧ ta ρ M1 fun ds M2 => rSelf tb x M2 fun sp => ds.length + 1 = n ∧ sp (x :: ds) M2 Φ (ξ ρ)
end DL
namespace DL
open PySem PySem.Spec PyProof.Rows L2
def isaD (M : MS) (x c : D) : Option Bool := match tyD M x with
  | some t => (match c with
    | .ty u => if u = .none then none else some (isaT t u)
    | .obj .cls _ _ _ => if t = .verr ∨ t = .lerr then none else some false
    | _ => none)
  | none => (match insD M x with
    | some (n, _) => (match c with
      | .ty u => if u = .none then none else some (subB n u.name)
      | .obj .cls c _ _ => some (subB n c)
      | _ => none)
    | none => none)
def isaL (M : MS) (x : D) : List D → Option Bool
  | [] => some false
  | c :: cs => match isaD M x c, isaL M x cs with
    | some a, some b => some (a || b)
    | _, _ => none
def rIsiO (args : List D) (M : MS) (Φ : DQ) : Prop := match args with
  | [x, .tup cs] => (∃ c b, isaD M x c = some b) ∧ ∃ b, isaL M x cs = some b ∧ Φ (.bl b) M
  | [x, c] => ∃ b, isaD M x c = some b ∧ Φ (.bl b) M
  | _ => False
section
variable {X : Cx} {H : Hp} {F : Addr → Prop} {M : MS} {K : PySem.W.Frag} {x c : D} {v w : V} {b : Bool}
/-- the type of x; what isinstance says of each class -/
theorem isa_type (am : AbsM K F H M) (rx : Rep K F H x v) (h0 : isaD M x c = some b) : ∃ t, TyX K H v t ∧ ∀ {c : D} {w : V} {b : Bool}, Rep K F H c w → isaD M x c = some b → ∃ u, ClsV w u ∧ PySem.W.kitOne K t u = some b := by
  cases et : tyD M x with
  | some t0 =>
    refine ⟨_, ty_rep am rx et, fun {c w b} rc h => ?_⟩
    unfold isaD at h
    rw [et] at h
    dsimp only at h
    split at h
    · rename_i u
      split at h
      · cases h
      · rename_i hu
        injection h with h
        subst h
        simp only [Rep] at rc
        subst rc
        exact ⟨_, .ty _, kit_ty (kit_isa t0 u hu)⟩
    · split at h
      · cases h
      · rename_i hn
        injection h with h
        subst h
        simp only [Rep] at rc
        obtain ⟨rfl, hc⟩ := rc
        exact ⟨_, .own _, (ccls_ok hc).2.2 t0 (fun e => hn (.inl e)) (fun e => hn (.inr e))⟩
    · cases h
  | none =>
    cases ei : insD M x with
    | none => unfold isaD at h0; rw [et] at h0; dsimp only at h0; rw [ei] at h0; cases h0
    | some nf =>
      obtain ⟨n, fs⟩ := nf
      obtain ⟨cc, a, dx, fs', rfl, e1, _⟩ := ins_rep am rx ei
      refine ⟨_, .base (.ins e1 cc.cl cc.ha cc.hn cc.ht cc.hm), fun {c w b} rc h => ?_⟩
      unfold isaD at h
      rw [et] at h
      dsimp only at h
      rw [ei] at h
      dsimp only at h
      split at h
      · rename_i u
        split at h
        · cases h
        · rename_i hu
          injection h with h
          subst h
          simp only [Rep] at rc
          subst rc
          exact ⟨_, .ty _, cc.kT u hu⟩
      · injection h with h
        subst h
        simp only [Rep] at rc
        obtain ⟨rfl, hc⟩ := rc
        exact ⟨_, .own _, cc.kC _ (ccls_ok hc).1 (ccls_ok hc).2.1⟩
      · cases h
theorem isa_all {t : Value} (k : ∀ {c : D} {w : V} {b : Bool}, Rep K F H c w → isaD M x c = some b → ∃ u, ClsV w u ∧ PySem.W.kitOne K t u = some b) : ∀ {cs : List D} {ws : List V} {b : Bool}, Reps K F H cs ws → isaL M x cs = some b → ∃ us, Paired ClsV ws us ∧ PySem.W.kitAny K t us = some b
  | [], ws, b, r, h => by
    simp only [Reps] at r
    subst r
    simp only [isaL, Option.some.injEq] at h
    subst h
    exact ⟨[], .nil, kitAny_nil⟩
  | c :: cs, ws, b, r, h => by
    simp only [Reps] at r
    obtain ⟨w, wr, e, r1, r2⟩ := r
    subst e
    unfold isaL at h
    split at h
    · rename_i b1 b2 h1 h2
      injection h with h
      subst h
      obtain ⟨u, k1, q1⟩ := k r1 h1
      obtain ⟨us, k2, q2⟩ := isa_all k r2 h2
      exact ⟨u :: us, .cons k1 k2, kitAny_cons q1 (fun e => by rw [q2, e]; rfl) fun e => by rw [e]; rfl⟩
    · cases h
theorem c_isiO : CallR X (.builtin "isinstance") (loC X.K rIsiO) := by
  rintro pins s σ H vs us Q I r ⟨F, M, ds, Φ, am, rs, h, k⟩
  unfold rIsiO at h
  split at h
  · rename_i x cs
    simp only [Reps] at rs
    obtain ⟨v, _, e, rx, w, _, rfl, rc, rfl⟩ := rs
    subst e
    obtain ⟨hne, b, hb, q⟩ := h
    obtain ⟨tp, ws, rfl, hq, rw⟩ := rep_tup rc
    obtain ⟨c0, b0, h0⟩ := hne
    obtain ⟨t, ty, kk⟩ := isa_type am rx h0
    obtain ⟨us', hc, ka⟩ := isa_all kk rw hb
    obtain ⟨u1, u2, rfl, r1, r2⟩ := vals2 r
    cases r2
    obtain ⟨its, rv, ⟨⟨oc, od, dt, sl⟩, ho, hcl, n, hd⟩, _⟩ := I.tuple hq
    have e2 := ClsV.all hc rv
    subst e2
    simp only at hcl hd
    subst hcl hd
    obtain ⟨P, Z, p, hx⟩ := kit_of I r1 ty
    exact PySem.W.kia_tup Z I.kIn p ho ka hx fun tk => ⟨.bl _, H, I.tok tk, rfl, k _ _ (hB am q)⟩
  · rename_i x c _
    simp only [Reps] at rs
    obtain ⟨v, _, e, rx, w, _, rfl, rc, rfl⟩ := rs
    subst e
    obtain ⟨b, hb, q⟩ := h
    obtain ⟨t, ty, kk⟩ := isa_type am rx hb
    obtain ⟨u, kc, kq⟩ := kk rc hb
    exact call_isi pins s σ H _ us Q I r ⟨v, _, _, _, _, rfl, kc, ty, kq, k _ _ (hB am q)⟩
  · exact h.elim
end
section
variable {X : Cx} {x : Str} {p : Pos} {st : Stmt}
variable {O : Og X.K}
theorem q_cls (hg : Gl X x) (hm : X.mg x = some (.ref (He.ga X.K x))) (hc : cclsB X.K x = true) (hd : (x == ("__debug__" : Str)) = false) : PE X (.Name x p) (lo X.K O (dC (.obj .cls x [] []))) :=
  q_c (v := .ref (He.ga X.K x)) ⟨fun pins s σ H Q I h => ld_glob I hg hm ⟨.ref (He.ga X.K x), H, I, rfl, h⟩ hd⟩ fun _ _ => by
    simp only [Rep]
    exact ⟨trivial, hc⟩
end
def pa (K : PySem.W.Frag) (c m : Str) : Addr := match PySem.W.recIn K (He.ma K (He.ga K c) m) "property" with
  | some (.ref g :: _) => g
  | _ => 0
def xno (K : PySem.W.Frag) (c : Str) : Bool := cexcB K c && (He.Fa.exc c).ok K
/-- .. with an own one that keeps its argument under one name -/
def oexB (K : PySem.W.Frag) (c : Str) : Bool := (match K.lookup (He.ga K c) with
    | some ⟨.type t, _, .cls cd, sl⟩ => (match cd.mro, sl.toList with
      | .ref C' :: bm, [_, _, _, _, some (.builtin n), _] => decide (t = "type") && (decide (C' = He.ga K c) && (decide (n = "ValueError.__new__") && (!cd.hasDel && (cd.hasDict && PySem.HandSPX.refsVE bm))))
      | _, _ => false)
    | _ => false) &&
  (findB K c "__setattr__" (some (.builtin "object.__setattr__")) && (decide (PySem.W.subIn K (.ref (He.ga K c)) (.type "BaseException") = some true) && (decide (PySem.W.typeIn K (.ref (He.ga K c)) = some (.type "type")) && PySem.W.keepIn K (.ref (He.ga K c)))))
/-- over LookupError -/
abbrev leTail : List Value := [.type "LookupError", .type "Exception", .type "BaseException", .type "object"]
def refsLE : List Value → Bool
  | .ref _ :: r => refsLE r
  | l => l == leTail
def oexLB (K : PySem.W.Frag) (c : Str) : Bool := (match K.lookup (He.ga K c) with
    | some ⟨.type t, _, .cls cd, sl⟩ => (match cd.mro, sl.toList with
      | .ref C' :: bm, [_, _, _, _, some (.builtin n), _] => decide (t = "type") && (decide (C' = He.ga K c) && (decide (n = "LookupError.__new__") && (!cd.hasDel && (cd.hasDict && refsLE bm))))
      | _, _ => false)
    | _ => false) &&
  (findB K c "__setattr__" (some (.builtin "object.__setattr__")) && (decide (PySem.W.subIn K (.ref (He.ga K c)) (.type "BaseException") = some true) && (decide (PySem.W.typeIn K (.ref (He.ga K c)) = some (.type "type")) && PySem.W.keepIn K (.ref (He.ga K c)))))
def xinLB (K : PySem.W.Frag) (c f : Str) : Bool := cexcB K c && (oexLB K c && (decide (f ∈ fieldsT c) && (decide (PySem.W.findIn K (.ref (He.ga K c)) f = some none) && (decide (PySem.W.findIn K (.ref (He.ga K c)) "__init__" = some (some (.ref (He.ma K (He.ga K c) "__init__")))) &&
    decide (PySem.W.typeIn K (.ref (He.ma K (He.ga K c) "__init__")) = some (.type "function"))))))
inductive Xf where
  | ccls (c : Str) | cins (c : Str) | cexc (c : Str) | fnin (c m : Str) | prop (c m : Str) | ne (c : Str) | sf (c : Str) | xno (c : Str) | xin (c f : Str) | xinL (c f : Str)
def Xf.ok (K : PySem.W.Frag) : Xf → Bool
  | .xinL c f => xinLB K c f
  | .ccls c => cclsB K c
  | .cins c => cinsB K c
  | .cexc c => cexcB K c
  | .fnin c m => PySem.W.fnIn K (He.ma K (He.ga K c) m)
  | .prop c m => decide (PySem.W.findIn K (.ref (He.ga K c)) m = some (some (.ref (He.ma K (He.ga K c) m)))) && (decide (PySem.W.specialIn K (.ref (He.ma K (He.ga K c) m)) "__get__" = some (some (.builtin "property.__get__"))) &&
    (decide (PySem.W.takesIn K (.ref (He.ma K (He.ga K c) m)) = some true) && match PySem.W.recIn K (He.ma K (He.ga K c) m) "property" with
      | some (.ref _ :: _) => true
      | _ => false))
  | .ne c => decide (PySem.W.findIn K (.ref (He.ga K c)) "__ne__" = some (some (.builtin "object.__ne__")))
  | .sf c => PySem.W.selfFirst K (He.ga K c)
  | .xno c => _root_.DL.xno K c
  | .xin c f => cexcB K c && (oexB K c && (decide (f ∈ fieldsT c) && (decide (PySem.W.findIn K (.ref (He.ga K c)) f = some none) && (decide (PySem.W.findIn K (.ref (He.ga K c)) "__init__" = some (some (.ref (He.ma K (He.ga K c) "__init__")))) &&
    decide (PySem.W.typeIn K (.ref (He.ma K (He.ga K c) "__init__")) = some (.type "function"))))))
theorem prop_ok {K : PySem.W.Frag} {c m : Str} (h : (Xf.prop c m).ok K = true) : PropOf K (He.ga K c) m (He.ma K (He.ga K c) m) (pa K c m) := by
  obtain ⟨h1, h⟩ := He.ba h
  obtain ⟨h2, h⟩ := He.ba h
  obtain ⟨h3, h4⟩ := He.ba h
  refine ⟨of_decide_eq_true h1, of_decide_eq_true h2, of_decide_eq_true h3, ?_⟩
  unfold pa
  split at h4
  · rename_i g r e
    rw [e]
    exact ⟨r, rfl⟩
  · cases h4
/-- the getter of a property, as the text has it (at_: the class and the name) -/
def getW (K : PySem.W.Frag) (a : Addr) : He.FnW := (K.lookup a).bind fun o => match o.data with
  | .func d => some (d.name, d.qualname, d.params, d.body, d.scope, d.globals, d.closure, d.builtins)
  | _ => none
def getOk (K : PySem.W.Frag) (d : He.DefD) (a : Addr) : Bool := PySem.W.keepIn K (.ref a) && ((K.lookup a).any fun o => match o.data with
  | .func z => PySem.W.codeIn K z.code d.qual && (He.dflB K z.defaults (d.dvs K) && He.kwdB K z.kwdefaults (d.kws K))
  | _ => false)
theorem get_funD {K : PySem.W.Frag} {d : He.DefD} {a : Addr} (e : getW K a = d.val) (c : getOk K d a = true) : ∃ fd, FunD K d.name d.qual d.params d.body d.scope (d.dvs K) (d.kws K) a fd := by
  obtain ⟨kp, c2⟩ := He.ba c
  unfold getW at e
  match q : K.lookup a with
  | none => rw [q] at c2; cases c2
  | some ⟨oc, od, dt, osl⟩ =>
    rw [q] at c2 e
    cases dt with
    | func z =>
      obtain ⟨a1, a2, a3, a4, a5, a6, a7, a8, a9, b1, b2, b3, b4, b5, b6⟩ := z
      injection e with e
      injection e with g1 e
      injection e with g2 e
      injection e with g3 e
      injection e with g4 e
      injection e with g5 e
      injection e with g6 e
      injection e with g7 g8
      subst g1 g2 g3 g4 g5 g6 g7 g8
      obtain ⟨w1, w2⟩ := He.ba c2
      obtain ⟨w3, w4⟩ := He.ba w2
      exact ⟨_, ⟨_, _, _, _, _, _, _, _, _, _, rfl, q, w1, He.dflB_ok w3, He.kwdB_ok w4⟩, kp⟩
    | _ => cases c2
end DL
namespace DL
open PySem PySem.Spec PyProof.Rows L2
theorem put_put_del {M : MS} {p : Addr} {a b : MO} (h : M.map p = none) : ((M.put p a).put p b).del p = M := by
  have e : ((M.put p a).put p b).del p = { M with map := fun c => if c = p then none else M.map c } := by
    simp only [MS.del, MS.put]
    congr 1
    funext c
    by_cases hc : c = p <;> simp [hc]
  rw [e]
  have e2 : (fun c => if c = p then none else M.map c) = M.map := by
    funext c
    by_cases hc : c = p
    · rw [hc, if_pos rfl, h]
    · rw [if_neg hc]
  rw [e2]
def walkerO (w : Int × Int) (n : Int) : MO := .ins "Walker" [("way", wayD w), ("done", .int n)]
end DL
namespace DL
open PySem PySem.Spec PyProof.Rows L2
end DL
namespace DL
open PySem PySem.Spec PyProof.Rows L2
end DL
namespace DL
open PySem PySem.Spec PyProof.Rows L2
end DL
namespace DL
open PySem PySem.Spec PyProof.Rows L2
end DL
namespace DL
open PySem PySem.Spec PyProof.Rows L2
end DL
namespace DL
open PySem PySem.Spec PyProof.Rows L2
end DL
namespace DL
open PySem PySem.Spec PyProof.Rows L2
/-- a value that may be asked -/
def Odd (d : D) : Prop := F2 d 6 60000 ∧ ∀ xs, d = .tup xs → xs.length ≤ 30000
theorem Odd.lst {xs : List D} (h : A2 xs 5 4000) (hl : xs.length ≤ 12) : Odd (.lst xs) := ⟨(h.lst (L := 12) hl).mono (by decide) (by decide), fun ys e => by cases e⟩
theorem Odd.tup {xs : List D} (h : A2 xs 5 4000) (hl : xs.length ≤ 12) : Odd (.tup xs) := ⟨(h.tup (L := 12) hl).mono (by decide) (by decide), fun ys e => by injection e with e; rw [← e]; omega⟩
theorem Odd.of {d : D} (h : F2 d 5 4000) (hl : ∀ xs, d = .tup xs → xs.length ≤ 30000) : Odd d := ⟨h.mono (by decide) (by decide), hl⟩
end DL
namespace DL
open PySem PySem.Spec PyProof.Rows L2
end DL
namespace DL
open PySem PySem.Spec PyProof.Rows L2
end DL
namespace DL
open PySem PySem.Spec PyProof.Rows L2
end DL
namespace DL
open PySem PySem.Spec PyProof.Rows L2
end DL
namespace DL
open PySem PySem.Spec PyProof.Rows L2
end DL
namespace DL
open PySem PySem.Spec PyProof.Rows L2
end DL
namespace DL
open PySem PySem.Spec PyProof.Rows L2
end DL
namespace DL
open PySem PySem.Spec PyProof.Rows L2
def e1 (b : Prop) [Decidable b] : Int := if b then 1 else 0
structure Df (n : Nat) (c : Int) (o : Nat) (st st' : List Int × List Int) : Prop where
  l1 : st.1.length = n
  l2 : st'.1.length = n
  l3 : st.2.length = n - 1
  l4 : st'.2.length = n - 1
  ex : ∃ q p : Nat, q ≤ p ∧ p < n ∧ (c = 0 → q = o) ∧ (∀ i, st'.1.getD i 0 = st.1.getD i 0 + (if i = p then 1 else 0) - (if i = q then c else 0)) ∧ ∀ i, st'.2.getD i 0 = st.2.getD i 0 + (if q ≤ i ∧ i < p then 1 else 0)
theorem goW_yes {st : List Int × List Int} {s : Nat} (h : 0 < st.1.getD s 0) (hs : s + 1 < st.1.length) (hl : st.2.length = st.1.length - 1) :
    (∀ i, (goW st s).1.getD i 0 = st.1.getD i 0 - (if i = s then 1 else 0) + (if i = s + 1 then 1 else 0)) ∧ ∀ i, (goW st s).2.getD i 0 = st.2.getD i 0 + (if i = s then 1 else 0) := by
  have e : goW st s = (step st.1 s, st.2.set s (st.2.getD s 0 + 1)) := by unfold goW; rw [if_pos h]
  rw [e]
  refine ⟨fun i => step_get hs i, fun i => ?_⟩
  dsimp only
  rw [List.getD_eq_getElem?_getD, List.getElem?_set]
  by_cases e : s = i
  · subst e; rw [if_pos rfl, if_pos (by omega), if_pos rfl]; rfl
  · rw [if_neg e, if_neg (Ne.symm e), List.getD_eq_getElem?_getD, Int.add_zero]
theorem Df.go {n o : Nat} {c : Int} {st st' : List Int × List Int} (hc : c = 0 ∨ c = 1) (D : Df n c o st st') {s : Nat} (hs : s + 1 < n) : Df n c o (goW st s) (goW st' s) := by
  obtain ⟨l1, l2, l3, l4, q, p, hqp, hpn, hq0, h1, h2⟩ := D
  have hs1 := h1 s
  refine ⟨by rw [(goW_len st s).1]; exact l1, by rw [(goW_len st' s).1]; exact l2, by rw [(goW_len st s).2]; exact l3, by rw [(goW_len st' s).2]; exact l4, ?_⟩
  by_cases ha : 0 < st.1.getD s 0
  · obtain ⟨a1, a2⟩ := goW_yes ha (by omega) (by omega)
    by_cases hb : 0 < st'.1.getD s 0
    · obtain ⟨b1, b2⟩ := goW_yes hb (by omega) (by omega)
      exact ⟨q, p, hqp, hpn, hq0, fun i => by rw [a1, b1, h1]; omega, fun i => by rw [a2, b2, h2]; omega⟩
    · have eb : goW st' s = st' := if_neg hb
      rw [eb]
      have hsq : s = q ∧ c = 1 ∧ s ≠ p := by
        by_cases hp : s = p
        · rw [if_pos hp] at hs1
          by_cases hq : s = q
          · rw [if_pos hq] at hs1; omega
          · rw [if_neg hq] at hs1; omega
        · rw [if_neg hp] at hs1
          by_cases hq : s = q
          · rw [if_pos hq] at hs1; omega
          · rw [if_neg hq] at hs1; omega
      obtain ⟨rfl, rfl, hp⟩ := hsq
      refine ⟨s + 1, p, by omega, hpn, fun z => by omega, fun i => ?_, fun i => ?_⟩
      · rw [a1, h1]; split <;> split <;> split <;> omega
      · rw [a2, h2]; split <;> split <;> split <;> omega
  · have ea : goW st s = st := if_neg ha
    rw [ea]
    by_cases hb : 0 < st'.1.getD s 0
    · obtain ⟨b1, b2⟩ := goW_yes hb (by omega) (by omega)
      have hsp : s = p := by
        by_cases hp : s = p
        · exact hp
        · rw [if_neg hp] at hs1
          by_cases hq : s = q
          · rw [if_pos hq] at hs1; omega
          · rw [if_neg hq] at hs1; omega
      subst hsp
      refine ⟨q, s + 1, by omega, by omega, hq0, fun i => ?_, fun i => ?_⟩
      · rw [b1, h1]; split <;> split <;> split <;> omega
      · rw [b2, h2]; split <;> split <;> split <;> omega
    · have eb : goW st' s = st' := if_neg hb
      rw [eb]
      exact ⟨q, p, hqp, hpn, hq0, h1, h2⟩
end DL
namespace DL
open PySem PySem.Spec PyProof.Rows L2
end DL
namespace DL
open PySem PySem.Spec PyProof.Rows L2
end DL
namespace DL
open PySem PySem.Spec PyProof.Rows L2
end DL
namespace DL
open PySem PySem.Spec PyProof.Rows L2
end DL
namespace DL
open PySem PySem.Spec PyProof.Rows L2
def inB (w : Int × Int) (s : Nat) : Bool := decide (w.1 ≤ (s : Int)) && decide ((s : Int) < w.2)
end DL
namespace DL
open PySem PySem.Spec PyProof.Rows L2
def InF : List (Int × Int) → List (List Nat) → Prop
  | [], [] => True
  | w :: ws, ss :: ps => inWay w ss ∧ InF ws ps
  | _, _ => False
theorem InF.len : ∀ {ws : List (Int × Int)} {ps : List (List Nat)}, InF ws ps → ps.length = ws.length
  | [], [], _ => rfl
  | _ :: _, _ :: _, h => by rw [List.length_cons, List.length_cons, InF.len h.2]
  | [], _ :: _, h => h.elim
  | _ :: _, [], h => h.elim
theorem InF.mem : ∀ {ws : List (Int × Int)} {ps : List (List Nat)}, InF ws ps → ∀ ss ∈ ps, ∃ w ∈ ws, inWay w ss
  | w :: ws, s :: ps, h, ss, hs => by
    rcases List.mem_cons.mp hs with rfl | z
    · exact ⟨w, List.mem_cons_self .., h.1⟩
    · obtain ⟨v, hv, q⟩ := h.2.mem ss z
      exact ⟨v, List.mem_cons_of_mem _ hv, q⟩
  | [], [], _, _, hs => by cases hs
  | [], _ :: _, h, _, _ => h.elim
  | _ :: _, [], h, _, _ => h.elim
/-- a list, laid or a tree -/
def Hs (M0 M : MS) (x : D) (xs : List D) : Prop := x = .lst xs ∨ ∃ p, x = .ref p ∧ M0.map p = none ∧ M.map p = some (.lst xs)
theorem Hs.ext {M0 M M' : MS} {x : D} {xs : List D} (h : Hs M0 M x xs) (e : Ext M M') : Hs M0 M' x xs := by
  rcases h with rfl | ⟨p, rfl, h0, h1⟩
  · exact .inl rfl
  · exact .inr ⟨p, rfl, h0, by rw [e p (by rw [h1]; simp)]; exact h1⟩
theorem Hs.put {M0 M : MS} {x : D} {xs : List D} {p : Addr} {o : MO} (h : Hs M0 M x xs) (hp : ∀ q, x = .ref q → q ≠ p) : Hs M0 (M.put p o) x xs := by
  rcases h with rfl | ⟨q, rfl, h0, h1⟩
  · exact .inl rfl
  · exact .inr ⟨q, rfl, h0, by rw [MS.put_ne (hp q rfl)]; exact h1⟩
end DL
namespace DL
open PySem PySem.Spec PyProof.Rows L2
end DL
namespace DL
open PySem PySem.Spec PyProof.Rows L2
end DL
namespace DL
open PySem PySem.Spec PyProof.Rows L2
end DL
namespace DL
open PySem PySem.Spec PyProof.Rows L2
end DL
namespace DL
open PySem PySem.Spec PyProof.Rows L2
end DL
namespace DL
open PySem PySem.Spec PyProof.Rows L2
theorem Hs.kp {M0 M M' : MS} {x : D} {xs : List D} {a c : Addr} (h : Hs M0 M x xs) (ha : M0.map a ≠ none) (hc : M0.map c ≠ none) (k : Kp a c M M') : Hs M0 M' x xs := by
  rcases h with rfl | ⟨p, rfl, h0, h1⟩
  · exact .inl rfl
  · exact .inr ⟨p, rfl, h0, k.keep (fun e => by subst e; exact ha h0) (fun e => by subst e; exact hc h0) h1⟩
end DL
namespace DL
open PySem PySem.Spec PyProof.Rows L2
end DL
namespace DL
open PySem PySem.Spec PyProof.Rows L2
end DL
namespace DL
open PySem PySem.Spec PyProof.Rows L2
end DL
namespace DL
open PySem PySem.Spec PyProof.Rows L2
end DL
namespace DL
open PySem PySem.Spec PyProof.Rows L2
end DL
namespace DL
open PySem PySem.Spec PyProof.Rows L2
theorem oex_ok {K : PySem.W.Frag} {c : Str} (h : oexB K c = true) : OexC K (He.ga K c) := by
  obtain ⟨h1, h⟩ := He.ba h
  obtain ⟨h2, h⟩ := He.ba h
  obtain ⟨h3, h⟩ := He.ba h
  obtain ⟨h4, h5⟩ := He.ba h
  refine ⟨?_, of_decide_eq_true h2, of_decide_eq_true h3, of_decide_eq_true h4, h5⟩
  split at h1
  · rename_i t dd cd sl e
    split at h1
    · rename_i C' bm k0 k1 k2 k3 n k5 em es
      obtain ⟨g1, g⟩ := He.ba h1
      obtain ⟨g2, g⟩ := He.ba g
      obtain ⟨g3, g⟩ := He.ba g
      obtain ⟨g4, g⟩ := He.ba g
      obtain ⟨g5, g6⟩ := He.ba g
      have g1 := of_decide_eq_true g1
      have g2 := of_decide_eq_true g2
      have g3 := of_decide_eq_true g3
      subst g1 g2 g3
      obtain ⟨n1, n2, n3, n4, n5, n6, n7, n8, n9, n10, n11⟩ := cd
      simp only at em g4 g5
      subst em g5
      have g4 : n11 = false := by simpa using g4
      subst g4
      have es : sl = #[k0, k1, k2, k3, some (.builtin "ValueError.__new__"), k5] := by
        obtain ⟨l⟩ := sl
        simp only at es
        rw [es]
      subst es
      exact ⟨_, _, _, _, _, _, _, _, _, _, _, _, _, _, _, e, g6⟩
    · cases h1
  · cases h1
/-- what such an __init__ does -/
def spI (K : PySem.W.Frag) (C : Addr) (f : Str) : Sp := fun vs H Q _ => ∃ a y, vs = [.ref a, y] ∧ OexC K C ∧ PySem.W.findIn K (.ref C) f = some none ∧ H a = some (exo a C none) ∧ ∀ dx, H dx = none → dx ≠ a → Q .non (upd (upd H dx (exd dx [(f, y)])) a (exo a C (some dx)))
section
variable {P : Program} {w : World} {K : PySem.W.Frag} {mg : Str → Option Value} {base : Heap} {x qual self y f : Str} {params : Arguments} {scope : Scope} {fi : Addr} {fd : FuncData} {p1 p2 p3 pos : Pos} {C : Addr}
theorem xinit_ok (F : FunD K x qual params [.Assign [.Attribute (.Name self p1) f p2] (.Name y p3) pos] scope [] [] fi fd) (S : FnScope [self, y] [self, y] scope) (hs : scope.names.lookup self = some .local) (hy : scope.names.lookup y = some .local)
    (d1 : (self == ("__debug__" : Str)) = false) (d2 : (self == ("__classdict__" : Str)) = false) (d3 : (y == ("__debug__" : Str)) = false) (d4 : (y == ("__classdict__" : Str)) = false) : FnOk P w K mg base CX0 1 fi fd [self, y] (spI K C f) := by
  refine FunD.ok (CX := CX0) (N := [self, y]) (k := 0) F S (fun vs H Q E h => ?_) fun cdv A outer s H vs Q E hr h => ⟨_, pss_cons (ps_ost (pe_var (i := 0) rfl (.inl hs) d1 d2) (pe_var (i := 1) rfl (.inl hy) d3 d4)) pss_nil, ?_⟩
  · obtain ⟨a, z, e, _⟩ := h
    rw [e]; rfl
  · obtain ⟨a, z, e, o, n, ha, q⟩ := h
    subst e
    exact ⟨z, rfl, .ref a, rfl, a, C, rfl, o, n, .inl ⟨ha, fun dx h1 h2 => q dx h1 h2⟩⟩
end
/-- the class c, made with one argument that it keeps as f -/
structure XCallee (P : Program) (w : World) (K : PySem.W.Frag) (mg : Str → Option Value) (base : Heap) (c f : Str) : Prop where
  ex : ∃ (fI : Addr) (fd : FuncData) (ps : List Str), ps.length = 2 ∧ cexcB K c = true ∧ oexB K c = true ∧ f ∈ fieldsT c ∧ PySem.W.findIn K (.ref (He.ga K c)) f = some none ∧ mg c = some (.ref (He.ga K c)) ∧ PySem.W.findIn K (.ref (He.ga K c)) "__init__" = some (some (.ref fI)) ∧
    PySem.W.typeIn K (.ref fI) = some (.type "function") ∧ Binds K fd ps [] ∧ FnOk P w K mg base CX0 1 fI fd ps (spI K (He.ga K c) f)
theorem xcal {P : Program} {w : World} {K : PySem.W.Frag} {mg : Str → Option Value} {base : Heap} {c f x qual self y : Str} {params : Arguments} {scope : Scope} {fd : FuncData} {p1 p2 p3 pos : Pos} (h : (Xf.xin c f).ok K = true) (gC : mg c = some (.ref (He.ga K c)))
    (F : FunD K x qual params [.Assign [.Attribute (.Name self p1) f p2] (.Name y p3) pos] scope [] [] (He.ma K (He.ga K c) "__init__") fd) (hs : scope.names.lookup self = some .local) (hy : scope.names.lookup y = some .local)
    (d1 : (self == ("__debug__" : Str)) = false) (d2 : (self == ("__classdict__" : Str)) = false) (d3 : (y == ("__debug__" : Str)) = false) (d4 : (y == ("__classdict__" : Str)) = false) (S : FnScope [self, y] [self, y] scope) (hb : Binds K fd [self, y] []) : XCallee P w K mg base c f := by
  obtain ⟨h1, h⟩ := He.ba h
  obtain ⟨h2, h⟩ := He.ba h
  obtain ⟨h3, h⟩ := He.ba h
  obtain ⟨h4, h⟩ := He.ba h
  obtain ⟨h5, h6⟩ := He.ba h
  exact ⟨_, fd, _, rfl, h1, h2, of_decide_eq_true h3, of_decide_eq_true h4, gC, of_decide_eq_true h5, of_decide_eq_true h6, hb, xinit_ok F S hs hy d1 d2 d3 d4⟩
def sRaise0 (c : Str) (ξ : DXs) : DS := fun _ ρ M => ξ ρ c [] M
def sRaise1 (c f : Str) (ξ : DXs) (te : DE) : DS := fun _ ρ M => te ρ M fun x M1 => ξ ρ c [(f, x)] M1
section
variable {X : Cx} {O : Og X.K} {ξ : DXs} {c f : Str} {p pos pos' : Pos} {e : Expr} {te : DE}
theorem z_raise1 {k : Nat} (hr : Room k X.A) (hk : 2 ≤ k) (hc : X.calm = true) (tk : Tk X O ξ) (C : XCallee X.prog X.w X.K X.mg X.base c f) (ha : PE X e (lo X.K O te)) (hg : Gl X c) (hdb : (c == ("__debug__" : Str)) = false)
    (he : starEach [e] X.env = (false, eval e X.env) :: starEach [] X.env) (hpl : (backTo pos (starEach [] X.env)).any (·.1) = false) : PS X (.Raise (some (.Call (.Name c p) [e] [] pos)) none pos') (loS X.K O (sRaise1 c f ξ te)) := by
  obtain ⟨fI, fd, ps, hl, h1, h2, hf, hno, gC, iC, tI, hb, G⟩ := C.ex
  have T := oex_ok h2
  refine PS.imp (ps_raise hc tk (pmk_oex (ds := []) (dvs := []) (k := 1) T iC tI G (hr.mono hk) hb .nil (fun _ _ _ _ _ _ _ z => z.elim) hg gC (pa_cons ha pa_nil he) hdb he hpl)) fun D σ H h => ?_
  obtain ⟨F, M, ρ, Δ, A, h, k⟩ := h
  refine ⟨F, M, ρ, _, A, h, fun v H1 ⟨F1, M1, x, l1, a1, r1, q⟩ => ⟨by show 1 ≤ 1000; decide, fun a ha => ⟨a, v, rfl, T, hno, upd_same, fun dx hdx hne => ⟨rfl, dx, [(f, v)], upd_same, by rw [upd_ne hne, upd_same], ?_, ?_⟩⟩⟩⟩
  · rw [upd_ne hne] at hdx; exact hdx
  · have hd1 : H1 dx = none := by rw [upd_ne hne] at hdx; exact hdx
    have e1 : upd (L2.del (upd (upd (upd H1 a (exo a (He.ga X.K c) none)) dx (exd dx [(f, v)])) a (exo a (He.ga X.K c) (some dx))) a) dx (.xd [(f, v)]) = L2.upd H1 dx (.xd [(f, v)]) := by
      funext b
      by_cases hb : b = dx
      · subst hb; rw [upd_same, upd_same]
      · rw [upd_ne hb, upd_ne hb]
        by_cases hba : b = a
        · subst hba; rw [del_same, ha]
        · rw [del_ne hba, upd_ne hba, upd_ne hb, upd_ne hba]
    rw [e1]
    obtain ⟨a2, l2⟩ := a1.frozen (o := .xd [(f, v)]) hd1
    have lm : Lm X.K F1 H1 M1 (fun b => F1 b ∨ b = dx) (L2.upd H1 dx (.xd [(f, v)])) M1 := ⟨l2, fun b hb nf m => ⟨fun z => z.elim nf fun z => hb (z ▸ hd1), m, upd_ne fun z => hb (z ▸ hd1)⟩⟩
    exact ⟨_, M1, ρ, c, [(f, x)], A.go (l1.trans lm) a2, ⟨h1, rfl, .inr ⟨dx, [(f, v)], rfl, .inr rfl, upd_same, rfl, Reps.cons (r1.mono l2) Reps.nil⟩⟩, q⟩
end
section
variable {P : Program} {w : World} {K : PySem.W.Frag} {mg : Str → Option Value} {base : Heap} {x qual : Str} {params : Arguments} {body : List Stmt} {scope : Scope} {f : Addr} {fd : FuncData} {N ps : List Str} {k n : Nat} {sp : DSp} {t : DXs → DS}
theorem fnRX (F : FunD K x qual params body scope [] [] f fd) (S : FnScope N ps scope) (hn : ps.length = n)
    (hbody : ∀ (cdv : Value) (A : Around) (outer : List Env) (s : Shared) (H : Hp) (E : XK), Room k (A.deeper (envOfC qual scope s.heap.objs.size f cdv)) → (A.deeper (envOfC qual scope s.heap.objs.size f cdv)).guards = some [] →
      ∀ (O : Og K) (ξ : DXs), Tk (cxOf (CX P w) P w K mg base N qual scope f cdv A outer s H E) O ξ → PassesOwn (model P w) (A.deeper (envOfC qual scope s.heap.objs.size f cdv)) (envOfC qual scope s.heap.objs.size f cdv) (cxOf (CX P w) P w K mg base N qual scope f cdv A outer s H E).xe →
      PSs (cxOf (CX P w) P w K mg base N qual scope f cdv A outer s H E) body (loS K O (t ξ)))
    (hsp : ∀ ds M Φ ξ, ds.length = n → sp ds M Φ ξ → t (fun _ => ξ) { nx := fun _ M' => Φ .non M', rt := Φ } (startD N.length ds) M) : FnG P w K mg base (CX P w) (k + 1) f fd ps (loSpX K sp n) := by
  refine FunD.okG F S (fun vs H Q E h => ?_) fun cdv A outer s H vs Q E hr hg h => ?_
  · obtain ⟨_, _, ds, _, _, hl, _, r, _⟩ := h
    rw [← r.length, hl, hn]
  · obtain ⟨F', M, ds, Φ, ξ, hl, am, r, h, kq, kx⟩ := h
    have tk : Tk (cxOf (CX P w) P w K mg base N qual scope f cdv A outer s H E) (Og.at K F' H M) (fun _ => ξ) := Takes.imp (takes_of (X := cxOf (CX P w) P w K mg base N qual scope f cdv A outer s H E) (E := E) (E₁ := fun e' s'' => CX P w outer H s E e' s'') rfl rfl rfl rfl) fun cls d σ H' z => by
      obtain ⟨F2, M2, ρ, c, fs, A2, er, q⟩ := z
      exact kx _ _ _ ⟨F2, M2, c, fs, A2.og, A2.am, er, q⟩
    refine ⟨_, hbody cdv A outer s H E hr hg (Og.at K F' H M) (fun _ => ξ) tk (passes_of rfl), F', M, _, _, ⟨am, repEnv_start r, Lm.refl⟩, hsp ds M Φ ξ hl h, ⟨fun σ' H' F2 M' ρ' l A' q => kq _ _ ⟨F2, M', .non, l, A'.am, rfl, q⟩, fun v H' q => kq v H' q, fun _ _ _ _ _ _ _ q => q.elim, fun _ _ _ _ _ _ _ q => q.elim⟩⟩
end
end DL
namespace DL
open PySem PySem.Spec PyProof.Rows L2
section
variable {X : Cx} {pins : List (Addr × Obj)} {σ : L2.St} {H : Hp} {s : Shared} {a : Addr} {ob : Obj} {fv : Array Value}
/-- an object that stands, of no account so far, is kept account of -/
theorem track (I : Inv X pins σ H s) (hg : s.heap.get? a = some ob) (hf : ob.data = .fields fv) (hn : H a = none) (h0 : X.s_0.heap.get? a = none) (hl : a ≠ X.env.locals) (hc : ∀ x c, X.env.cells.lookup x = some c → c ≠ a) (hp : ∀ p ∈ X.pn ++ pins, p.1 ≠ a) :
    Inv X pins σ (upd H a (xoO ob)) s := by
  obtain ⟨b1, b2, b3, b4, b5, b6, b7⟩ := I.base
  have old : ∀ {b : Addr} {o : HO}, H b = some o → upd H a (xoO ob) b = some o := fun {b o} e => by rw [upd_ne (fun z => by rw [z, hn] at e; cases e)]; exact e
  have newO : ObjOk X.prog X.w (upd H a (xoO ob)) s.heap a (xoO ob) := ⟨hg, trivial, ⟨_, hg⟩, fun _ _ _ _ => trivial⟩
  refine ⟨I.ok, I.os, I.bare, ⟨b1, b2, fun b o e n x => ?_, b4, fun b xs e => old (b5 b xs e), fun b o u e => old (b6 b o u e), fun b ps e => ?_⟩, I.loc, I.cell, (upd_ne (Ne.symm hl)).trans I.free, fun x c e => (upd_ne (hc x c e)).trans (I.freeC x c e), fun p m => ?_, fun b o e => ?_, I.len⟩
  · rw [upd_ne (fun z => by rw [z, h0] at e; cases e)]
    exact b3 b o e n x
  · obtain ⟨more, e'⟩ := b7 b ps e
    exact ⟨more, old e'⟩
  · obtain ⟨p1, p2, p3⟩ := I.pin p m
    exact ⟨p1, (upd_ne (hp p m)).trans p2, p3⟩
  · by_cases hb : b = a
    · subst hb
      rw [upd_same] at e
      cases e
      exact newO
    · rw [upd_ne hb] at e
      exact (I.hok b o e).stay (fun _ _ _ z => z) (fun c z => old z) fun c xs z => old z
/-- the context of the clause's suite -/
abbrev hotX (X : Cx) (a : Addr) (pn : List (Addr × Obj)) : Cx := { X with A := X.A.mark (some (.ref a)), calm := false, pn := pn, xe := fun _ _ => False }
theorem hot_in (I : Inv X pins σ H s) (a : Addr) : Inv (hotX X a (X.pn ++ pins)) [] σ H s := by
  obtain ⟨o1, o2, o3, o4, o5, o6, o7, o8, _, p1, p2, p3, p4, p5, p6, p7, p8, p9⟩ := I.ok
  obtain ⟨_, i1, i2, i3, i4, i5, i6, i7, i8, i9, j1⟩ := I
  exact ⟨⟨o1, o2, o3, o4, o5, o6, o7, o8, fun z => (Bool.noConfusion z), p1, p2, p3, p4, p5, p6, p7, p8, p9⟩, i1, i2, i3, i4, i5, i6, i7, fun p m => i8 p (by rwa [List.append_nil] at m), i9, j1⟩
theorem hot_out (ok : X.Ok) (I : Inv (hotX X a (X.pn ++ pins)) [] σ H s) : Inv X pins σ H s := by
  obtain ⟨_, i1, i2, i3, i4, i5, i6, i7, i8, i9, j1⟩ := I
  exact ⟨ok, i1, i2, i3, i4, i5, i6, i7, fun p m => i8 p (by rw [List.append_nil]; exact m), i9, j1⟩
end
/-- what the clause wishes of an exception: its class, its dict, the object as it is -/
def wTry (K : PySem.W.Frag) (c : Value) (i : Nat) (ts : TS) (Wout : WX) (D : Ends) : WX := fun cls d σ H => ∃ b, PySem.W.exmOne K cls c = some b ∧ (b = false → Wout cls d σ H) ∧
  (b = true → ∀ (a : Addr) (ob : Obj), H a = none → ob.cls = cls → ob.dict = d → (∃ fv, ob.data = .fields fv) →
    ts { nx := fun σ' H' => D.nx (σ'.set i none) H', rt := D.rt, bk := fun σ' H' => D.bk (σ'.set i none) H', ct := fun σ' H' => D.ct (σ'.set i none) H' } (σ.set i (some (.ref a))) (upd H a (xoO ob)))
section
variable {X : Cx} {x n : Str} {c : Value} {i : Nat} {body suite : List Stmt} {b₀ : Stmt} {np pos pos' : Pos} {tb : WX → TS} {ts : TS} {Wout : WX}
theorem ps_tryT (stk : X.stack = X.env :: X.outer) (frm : X.env.frame = some X.env.locals) (nod : X.N.Nodup) (at_ : X.N[i]? = some n) (lcl : X.env.kindOf n = some .local) (cn : Names X x c) (tk : Takes X Wout) (hex : X.ex = [])
    (inBody : ∀ (W : WX) (pn : List (Addr × Obj)) (xe : Value → Shared → Prop), Takes (X.tr pn xe) W → PassesOwn (model X.prog X.w) X.A X.env xe → PSs (X.tr pn xe) body (tb W))
    (inSuite : ∀ (a : Addr) (pn : List (Addr × Obj)), PSs (hotX X a pn) (b₀ :: suite) ts) :
    PS X (.Try body [.ExceptHandler (some (.Name x np)) (some n) (b₀ :: suite) pos'] [] [] pos) (fun D σ H => tb (wTry X.K c i ts Wout D) D σ H) := by
  refine ⟨fun pins s σ H D I wish => ?_⟩
  have ok := I.ok
  have frA : X.A.frames = some (X.env :: X.outer) := ok.frames.trans (congrArg some stk)
  let xb : Value → Shared → Prop := fun u z => wpAny (model X.prog X.w) X.A (noteFrame u X.env) (fun _ z => wpAny (model X.prog X.w) X.A (setFlight u none) (fun _ z => wpAny (model X.prog X.w) X.A (handleBy u X.env [.ExceptHandler (some (.Name x np)) (some n) (b₀ :: suite) pos']) (SP X pins D) X.xe z) X.xe z) X.xe z
  have caught : ∀ u z, XE (X.tr (X.pn ++ pins) xb) (wTry X.K c i ts Wout D) u z → xb u z := by
    intro u z ⟨a, G, z0, pins0, τ, H0, cls, d, eu, J0, new, grow, air, hn, eos, bare, b, hb, wNo, wYes⟩
    subst eu
    have J : Inv X pins τ H0 z0 := Inv.ofTry J0 ok
    rw [show (X.tr (X.pn ++ pins) xb).stack = X.env :: X.outer from stk] at air
    refine Sky.land Zc.steady frA frm air fun h3 air3 grow3 => ?_
    have J3 : Inv X pins τ H0 { z with heap := h3 } := J.landed new air3.1 (grow.trans grow3) eos bare
    obtain ⟨ob3, fv3, g3, zc3, df3⟩ := air3.there
    have offFrames : ∀ {h : Heap} {o : Obj} {vs : Array Value}, h.FunFrames G (X.env :: X.outer) → h.get? a = some o → o.data = .fields vs → a ∉ frs (X.env :: X.outer) := by
      intro h o vs ff go dn hm
      obtain ⟨_, o2, go2, nf⟩ := ff.mem hm
      rw [go] at go2
      injection go2 with e
      exact nf _ (e ▸ dn)
    have off := offFrames air3.2.2.1 g3 df3
    have offL : a ≠ X.env.locals := fun e => off (List.mem_filterMap.mpr ⟨X.env, List.mem_cons_self, by rw [frm, e]⟩)
    have not0 : z0.heap.get? a = none := by
      cases q : z0.heap.get? a with
      | none => rfl
      | some o =>
        have := new a o q (by rw [show (X.tr (X.pn ++ pins) xb).stack = X.env :: X.outer from stk]; exact off)
        rw [air3.2.1] at this
        cases this
    have notStart : X.s_0.heap.get? a = none := by
      cases q : X.s_0.heap.get? a with
      | none => rfl
      | some o =>
        obtain ⟨o', go'⟩ := J.base.there a o q (by rw [hex]; exact List.not_mem_nil)
        rw [not0] at go'
        cases go'
    have offCells : ∀ y k, X.env.cells.lookup y = some k → k ≠ a := fun y k e z => by
      obtain ⟨v, o, go, _⟩ := J.cell y k e
      rw [z, not0] at go
      cases go
    have offPins : ∀ p ∈ X.pn ++ pins, p.1 ≠ a := fun p m e => by
      have := (J.pin p m).1
      rw [e, not0] at this
      cases this
    have H3 := hot_in J3 a
    refine wpAny_handleBy_cons (codeAny_handlers_test ?_) (by intro q; cases q)
    have lt : PySem.W.Looks (model X.prog X.w) h3 (typeOf (.ref a)) cls := fun A Q E s k q => wpAny_typeOf_ref (k _ _ g3) (by rw [zc3.1]; exact q)
    have lm := PySem.W.exm_one (M := model X.prog X.w) J3.kIn lt hb
    have named : ∀ {Q : Value → Shared → Prop} {E : Value → Shared → Prop}, Q c { z with heap := h3 } → wpAny (model X.prog X.w) (X.A.mark (some (.ref a))) (eval (.Name x np) X.env) Q E { z with heap := h3 } := fun {Q E} q => by
      obtain ⟨hg, hdb, hm | ⟨hm, hv, hnn⟩⟩ := cn
      · exact ld_glob (X := hotX X a (X.pn ++ pins)) H3 hg hm q hdb
      · exact ld_blt (X := hotX X a (X.pn ++ pins)) H3 hg hm hv q hnn hdb
    refine named (lm.here ?_)
    cases b with
    | false =>
      show wpAny _ X.A (handleBy (.ref a) X.env []) _ _ _
      refine wpAny_handleBy_nil ?_
      obtain ⟨_, _, _, ob, vs, T, _, _, go, _, dn, h1, _⟩ := id air3
      have on : wpAny (model X.prog X.w) X.A (setFlight (.ref a) X.env.frame) (fun _ y => wpAny (model X.prog X.w) X.A (throw (.ref a) : Sem Flow) (SP X pins D) X.xe y) X.xe { z with heap := h3 } := by
        rw [frm]
        exact HandSPX.setFlight_upZ air3 fun h4 air4 grow4 => wpAny_throw (tk _ _ ⟨a, G, z0, pins, τ, H0, cls, d, rfl, J, new, (grow.trans grow3).trans grow4, .inr (.inr (by rw [stk]; exact air4)), hn, eos, bare, wNo rfl⟩)
      unfold PySem.passOn
      refine wpAny_bind (wpAny_field go dn h1 ?_)
      rw [if_neg (by simp)]
      first
        | exact wpAny_bind (wpAny_pure (wpAny_bind on))
        | exact wpAny_bind on
    | true =>
      refine codeAny_handlers_suite_as (HandSPX.lands_againZ air3 fun h4 air4 grow4 => ?_)
      have J4 : Inv X pins τ H0 { z with heap := h4 } := J.landed new air4.1 ((grow.trans grow3).trans grow4) eos bare
      obtain ⟨ob4, fv4, g4, zc4, df4⟩ := air4.there
      have H4 := hot_in (track J4 g4 df4 hn notStart offL offCells offPins) a
      refine store_ok (X := hotX X a (X.pn ++ pins)) (v := .ref a) H4 nod at_ (.inl lcl) rfl (fun z5 H5 => ?_) (.inr lcl)
      have leave : ∀ {τ' : L2.St} {H' : Hp} {z6 : Shared} {Q : Shared → Prop}, Inv (hotX X a (X.pn ++ pins)) [] τ' H' z6 → (∀ z7, Inv X pins (τ'.set i none) H' z7 → Q z7) → wpAny (model X.prog X.w) X.A (do bindName X.env n .none; unbindBehindTheSuite X.env n pos') (fun _ z7 => Q z7) X.xe z6 :=
        fun {τ' H' z6 Q} H6 q => gone_ok (hot_out ok H6) nod at_ lcl q
      refine wpAny_mono ((inSuite a (X.pn ++ pins)).run [] z5 _ _ _ H5 (wYes rfl a ob4 hn zc4.1 zc4.2 ⟨_, df4⟩)) (fun f z6 sp => ?_) (fun _ _ q => False.elim q)
      cases f with
      | ret u =>
        obtain ⟨v, τ', H', H6, rv, q⟩ := sp
        exact leave H6 fun z7 J7 => ⟨_, _, _, J7, rv, q⟩
      | next =>
        obtain ⟨τ', H', H6, q⟩ := sp
        exact leave H6 fun z7 J7 => ⟨_, _, J7, q⟩
      | brk =>
        obtain ⟨τ', H', H6, q⟩ := sp
        exact leave H6 fun z7 J7 => ⟨_, _, J7, q⟩
      | cont =>
        obtain ⟨τ', H', H6, q⟩ := sp
        exact leave H6 fun z7 J7 => ⟨_, _, J7, q⟩
  refine wpAny_Try_except (wpAny_mono ((inBody (wTry X.K c i ts Wout D) (X.pn ++ pins) xb caught PassesOwn.looking).run [] s σ H D (I.toTry _) wish) (fun f z sp => ?_) fun u z q => q)
  cases f with
  | ret u =>
    obtain ⟨v, τ, H', J, rv, q⟩ := sp
    exact ⟨v, τ, H', J.ofTry ok, rv, q⟩
  | next =>
    obtain ⟨τ, H', J, q⟩ := sp
    exact wpAny_execs_nil ⟨τ, H', J.ofTry ok, q⟩
  | brk =>
    obtain ⟨τ, H', J, q⟩ := sp
    exact ⟨τ, H', J.ofTry ok, q⟩
  | cont =>
    obtain ⟨τ, H', J, q⟩ := sp
    exact ⟨τ, H', J.ofTry ok, q⟩
end
def Og.and {K : PySem.W.Frag} (O1 O2 : Og K) : Og K := ⟨fun F H M => O1.z F H M ∧ O2.z F H M, fun a l => ⟨O1.cl a.1 l, O2.cl a.2 l⟩⟩
def excD (n : Str) (fs : List (Str × D)) : D := .obj .exc n (fs.map (·.1)) (fs.map (·.2))
def goneE (i : Nat) (Δ : DEnds) : DEnds := { nx := fun ρ M => Δ.nx (ρ.set i none) M, rt := Δ.rt, bk := fun ρ M => Δ.bk (ρ.set i none) M, ct := fun ρ M => Δ.ct (ρ.set i none) M }
def sTry (c : Str) (i : Nat) (tb : DXs → DS) (ts : DS) (ξ : DXs) : DS := fun Δ ρ M => tb (fun ρ' n fs M' => if subB n c = true then ts (goneE i Δ) (ρ'.set i (some (excD n fs))) M' else ξ ρ' n fs M') Δ ρ M
theorem RepEnv.unset {K : PySem.W.Frag} {F : Addr → Prop} {H : Hp} {σ : L2.St} {ρ : DEnv} (e : RepEnv K F H σ ρ) (i : Nat) : RepEnv K F H (σ.set i none) (ρ.set i none) := by
  refine ⟨by simp [e.len], fun j d h => ?_⟩
  by_cases hj : i = j
  · subst hj
    rw [List.getElem?_set] at h
    simp at h
  · rw [List.getElem?_set_ne hj] at h ⊢
    exact e.get j d h
theorem exm_at {K : PySem.W.Frag} {n c : Str} (h : cexcB K n = true) (hc : c ∈ clsNames) (hp : presB K c = true) (hi : c ∉ insNames) : PySem.W.exmOne K (.ref (He.ga K n)) (.ref (He.ga K c)) = some (subB n c) := by
  obtain ⟨_, h⟩ := He.ba h
  obtain ⟨_, h⟩ := He.ba h
  obtain ⟨_, h⟩ := He.ba h
  obtain ⟨_, h⟩ := He.ba h
  have := List.all_eq_true.mp h c hc
  rw [hp] at this
  simp only [Bool.not_true, Bool.false_or, Bool.or_eq_true, decide_eq_true_eq] at this
  exact this.elim (fun z => absurd z hi) id
/-- an exception caught: a tree -/
theorem exc_rep {K : PySem.W.Frag} {F : Addr → Prop} {H : Hp} {n : Str} {fs : List (Str × D)} {cls : Value} {d : Option Addr} {a : Addr} {ob : Obj} (er : ERep K F H n fs cls d) (l : Le K F H (fun b => F b ∨ b = a) (upd H a (xoO ob))) (hc : ob.cls = cls) (hd : ob.dict = d) (hf : ∃ fv, ob.data = .fields fv) :
    Rep K (fun b => F b ∨ b = a) (upd H a (xoO ob)) (excD n fs) (.ref a) := by
  obtain ⟨h1, h2, h3⟩ := er
  simp only [excD, Rep]
  rcases h3 with ⟨h4, h5⟩ | ⟨dd, fs', h4, h5, h6, h7, h8⟩
  · subst h5
    exact ⟨h1, a, ob, [], rfl, .inr rfl, upd_same, hc.trans h2, hf, rfl, Reps.nil, .inl ⟨hd.trans h4, rfl⟩⟩
  · refine ⟨h1, a, ob, fs'.map (·.2), rfl, .inr rfl, upd_same, hc.trans h2, hf, by simp, h8.mono l, .inr ⟨dd, hd.trans h4, .inl h5, ?_⟩⟩
    rw [h7, zip_self]
    exact (l.frz dd h5).trans h6
section
variable {X : Cx} {O : Og X.K} {ξ : DXs} {c n : Str} {i : Nat} {body suite : List Stmt} {b₀ : Stmt} {np pos pos' : Pos} {tb : DXs → DS} {ts : DS}
theorem z_try (stk : X.stack = X.env :: X.outer) (frm : X.env.frame = some X.env.locals) (hex : X.ex = []) (nod : X.N.Nodup) (at_ : X.N[i]? = some n) (lcl : X.env.kindOf n = some .local) (tk : Tk X O ξ)
    (hg : Gl X c) (hdb : (c == ("__debug__" : Str)) = false) (gC : X.mg c = some (.ref (He.ga X.K c))) (hc : c ∈ clsNames) (hp : presB X.K c = true) (hi : c ∉ insNames)
    (inBody : ∀ (pn : List (Addr × Obj)) (xe : Value → Shared → Prop) (O' : Og X.K) (ξ' : DXs), Tk (X.tr pn xe) O' ξ' → PassesOwn (model X.prog X.w) X.A X.env xe → PSs (X.tr pn xe) body (loS X.K O' (tb ξ')))
    (inSuite : ∀ (a : Addr) (pn : List (Addr × Obj)) (O' : Og X.K), PSs (hotX X a pn) (b₀ :: suite) (loS X.K O' ts)) :
    PS X (.Try body [.ExceptHandler (some (.Name c np)) (some n) (b₀ :: suite) pos'] [] [] pos) (loS X.K O (sTry c i tb ts ξ)) := by
  refine PS.imp (ps_tryT (c := .ref (He.ga X.K c)) (ts := fun D σ H => ∃ O' : Og X.K, loS X.K O' ts D σ H) (tb := fun W D σ H => ∃ (O' : Og X.K) (ξ' : DXs), (∀ cls d σ H, loW X.K O' ξ' cls d σ H → W cls d σ H) ∧ loS X.K O' (tb ξ') D σ H) stk frm nod at_ lcl ⟨hg, hdb, .inl gC⟩ tk hex
    (fun W pn xe tW pass => ⟨fun pins s σ H D I h => by
      obtain ⟨O', ξ', im, h⟩ := h
      exact (inBody pn xe O' ξ' (Takes.imp tW im) pass).run pins s σ H D I h⟩)
    (fun a pn => ⟨fun pins s σ H D I h => by
      obtain ⟨O', h⟩ := h
      exact (inSuite a pn O').run pins s σ H D I h⟩)) fun D σ H h => ?_
  obtain ⟨F, M, ρ, Δ, A, h, k⟩ := h
  refine ⟨(Og.at X.K F H M).and O, _, fun cls d σ' H' w => ?_, F, M, ρ, Δ, ⟨A.am, A.env, Lm.refl, A.og⟩, h, ⟨fun σ' H' F' M' ρ' l B q => k.nx _ _ _ _ _ l ⟨B.am, B.env, B.og.2⟩ q, k.rt, fun σ' H' F' M' ρ' l B q => k.bk _ _ _ _ _ l ⟨B.am, B.env, B.og.2⟩ q, fun σ' H' F' M' ρ' l B q => k.ct _ _ _ _ _ l ⟨B.am, B.env, B.og.2⟩ q⟩⟩
  obtain ⟨F', M', ρ', m, fs, B, er, q⟩ := w
  refine ⟨subB m c, er.2.1 ▸ exm_at er.1 hc hp hi, fun hb => ?_, fun hb a ob hn hcl hd hf => ?_⟩
  · rw [if_neg (by rw [hb]; exact Bool.false_ne_true)] at q
    exact ⟨F', M', ρ', m, fs, ⟨B.am, B.env, B.og.2⟩, er, q⟩
  · rw [if_pos hb] at q
    obtain ⟨a2, l2⟩ := B.am.frozen (o := xoO ob) hn
    have lm : Lm X.K F' H' M' (fun b => F' b ∨ b = a) (upd H' a (xoO ob)) M' := ⟨l2, fun b hb nf m => ⟨fun z => z.elim nf fun z => hb (z ▸ hn), m, upd_ne fun z => hb (z ▸ hn)⟩⟩
    have B2 := (B.go lm a2).set (exc_rep er l2 hcl hd hf) i
    refine ⟨(Og.at X.K F H M).and O, _, M', _, goneE i Δ, B2, q, ⟨fun σ' H' F' M' ρ' l B q => ?_, fun v H' q => ?_, fun σ' H' F' M' ρ' l B q => ?_, fun σ' H' F' M' ρ' l B q => ?_⟩⟩
    · exact k.nx _ _ _ _ _ (B.og.1) ⟨B.am, B.env.unset i, B.og.2⟩ q
    · exact k.rt v H' (q.le (B2.og.1))
    · exact k.bk _ _ _ _ _ (B.og.1) ⟨B.am, B.env.unset i, B.og.2⟩ q
    · exact k.ct _ _ _ _ _ (B.og.1) ⟨B.am, B.env.unset i, B.og.2⟩ q
end
end DL
namespace DL
open PySem PySem.Spec PyProof.Rows L2
open L2H (RoomH)
structure FnQ (P : Program) (w : World) (K : PySem.W.Frag) (mg : Str → Option Value) (base : Heap) (k : Nat) (f : Addr) (fd : FuncData) (ps : List Str) (sp : Sp) : Prop where
  len : ∀ vs H Q E, sp vs H Q E → vs.length = ps.length
  run : ∀ (A : Around) (outer : List Env) (s : Shared) (H : Hp) (args : Args) (us : List Value) (vs : List V) (Q : VK), RoomH k A → A.guards = some [] → Env0 P w K mg base A outer s H →
    BindsTo s fd args (ps.zip us) → Vals vs us → sp vs H Q (fun _ _ _ => False) → codeAny (model P w) A (.call (.ref f) args) (CR CX0 outer P w H s Q (fun _ _ _ => False)) s
abbrev cxQ (P : Program) (w : World) (K : PySem.W.Frag) (mg : Str → Option Value) (base : Heap) (N : List Str) (qual : Str) (scope : Scope) (f : Addr) (cd : Value) (A : Around) (outer : List Env) (s : Shared) (H : Hp) : Cx :=
  { cxOf CX0 P w K mg base N qual scope f cd A outer s H (fun _ _ _ => False) with calm := false }
section
variable {P : Program} {w : World} {K : PySem.W.Frag} {mg : Str → Option Value} {base : Heap} {j k : Nat} {f : Addr} {fd : FuncData} {ps : List Str} {sp : Sp}
theorem FnQ.mono (F : FnQ P w K mg base j f fd ps sp) (h : j ≤ k) : FnQ P w K mg base k f fd ps sp := ⟨F.len, fun A outer s H args us vs Q hr hg => F.run A outer s H args us vs Q (hr.mono h) hg⟩
theorem fnQ_of {x qual : Str} {params : Arguments} {body : List Stmt} {scope : Scope} {N : List Str} (F : FunD K x qual params body scope [] [] f fd) (S : FnScope N ps scope) (len : ∀ vs H Q E, sp vs H Q E → vs.length = ps.length)
    (hbody : ∀ (cdv : Value) (A : Around) (outer : List Env) (s : Shared) (H : Hp) (vs : List V) (Q : VK), RoomH k (A.deeper (envOfC qual scope s.heap.objs.size f cdv)) → (A.deeper (envOfC qual scope s.heap.objs.size f cdv)).guards = some [] → sp vs H Q (fun _ _ _ => False) →
      ∃ t, PSs (cxQ P w K mg base N qual scope f cdv A outer s H).nox body t ∧ t { nx := fun _ H' => Q .non H', rt := Q } (start N vs) H) : FnQ P w K mg base (k + 1) f fd ps sp := by
  obtain ⟨oc, od, dV, kV, doc, pm, an, cdv, ct, osl, e, lk, hcd, _, _⟩ := F.ex
  subst e
  refine ⟨len, fun A outer s H args us vs Q hr hgd e0 hb rv hsp => ?_⟩
  have hlen := len _ _ _ _ hsp
  have inK : K.In s.heap := e0.mod.kin.keeps fun b o e => (e0.bs b o e).1
  have kinds : ∀ y ∈ ps.zip us, scope.names.lookup y.1 = some .local ∨ (scope.names.lookup y.1 = some .cell ∧ ((cellsFrom (s.heap.objs.size + 1) scope.names []).lookup y.1).isSome = true) := by
    rintro ⟨n, v⟩ hy
    exact (S.par n (List.of_mem_zip hy).1).elim .inl fun h => .inr ⟨h, PySem.W.cellsFrom_some _ _ _ (.inl h)⟩
  refine codeAny_call_function hr.depth (inK _ _ lk) rfl S.co S.gen rfl (PySem.W.codeRec_of inK hcd) (hb _ _ _ _ (wpAny_newFunctionEnv_cells S.kind kinds fun env henv s1 inC => ?_))
  subst henv
  refine ⟨(e0.mod.nolimit.keeps fun b o e => (e0.bs b o e).1).keeps inC.toInCall.keep, codeAny_func ?_⟩
  obtain ⟨t, ht, hq⟩ := hbody cdv A outer s H vs Q (hr.deeper _) hgd hsp
  have e1 : Env0 P w K mg base { A with handled := none } outer s H := ⟨e0.frames, e0.mod, e0.bs, e0.bsz, e0.funs, e0.frf, e0.hok, e0.bare⟩
  have I0 := inv_start (CX := CX0) (E := fun _ _ _ => False) (cd := cdv) (A := { A with handled := none }) S rfl e1 hlen rv inC
  have Iq : Inv (cxQ P w K mg base N qual scope f cdv A outer s H).nox [] (start N vs) H s1 := by
    obtain ⟨o1, o2, o3, o4, o5, o6, o7, o8, _, _, p2, p3, p4, p5, p6, p7, p8, p9⟩ := I0.ok
    obtain ⟨_, i1, i2, i3, i4, i5, i6, i7, i8, i9, j1⟩ := I0
    exact ⟨⟨o1, o2, o3, o4, o5, o6, o7, o8, fun z => (Bool.noConfusion z), Around.frames_deeper e0.frames, p2, p3, p4, p5, p6, p7, p8, p9⟩, i1, i2, i3, i4, i5, i6, i7, i8, i9, j1⟩
  refine wpAny_mono (ht.run [] s1 (start N vs) H _ Iq hq) (fun fl s' hs => ?_) fun e s' hs => hs.elim
  cases fl with
  | ret u =>
    obtain ⟨v, σ', H', J, r, q⟩ := hs
    exact ⟨v, H', J.os, J.bare, J.base, J.hok, r, q⟩
  | next =>
    obtain ⟨σ', H', J, q⟩ := hs
    exact ⟨V.non, H', J.os, J.bare, J.base, J.hok, rfl, q⟩
  | brk => obtain ⟨_, _, _, q⟩ := hs; exact q.elim
  | cont => obtain ⟨_, _, _, q⟩ := hs; exact q.elim
end
section
variable {P : Program} {w : World} {K : PySem.W.Frag} {mg : Str → Option Value} {base : Heap} {x qual : Str} {params : Arguments} {body : List Stmt} {scope : Scope} {f : Addr} {fd : FuncData} {N ps : List Str} {k n : Nat} {sp : DSp} {t : DS}
theorem fnRQ (F : FunD K x qual params body scope [] [] f fd) (S : FnScope N ps scope) (hn : ps.length = n)
    (hbody : ∀ (cdv : Value) (A : Around) (outer : List Env) (s : Shared) (H : Hp), RoomH k (A.deeper (envOfC qual scope s.heap.objs.size f cdv)) → (A.deeper (envOfC qual scope s.heap.objs.size f cdv)).guards = some [] →
      PSs (cxQ P w K mg base N qual scope f cdv A outer s H).nox body (loS K Og.top t))
    (hsp : ∀ ds M Φ, ds.length = n → sp ds M Φ noX → t { nx := fun _ M' => Φ .non M', rt := Φ } (startD N.length ds) M) : FnQ P w K mg base (k + 1) f fd ps (loSp K sp n) := by
  refine fnQ_of F S (fun vs H Q E h => ?_) fun cdv A outer s H vs Q hr hg h => ⟨_, hbody cdv A outer s H hr hg, ?_⟩
  · obtain ⟨_, _, ds, _, hl, _, r, _⟩ := h
    rw [← r.length, hl, hn]
  · obtain ⟨F', M, ds, Φ, hl, am, r, h, k⟩ := h
    exact ⟨F', M, _, _, ⟨am, repEnv_start r, trivial⟩, hsp ds M Φ hl h, ⟨fun σ' H' F2 M' ρ' l A' q => k _ _ ⟨F2, M', .non, l, A'.am, rfl, q⟩, fun v H' q => k v H' q, fun _ _ _ _ _ _ _ q => q.elim, fun _ _ _ _ _ _ _ q => q.elim⟩⟩
end
structure CalleeQ (P : Program) (w : World) (K : PySem.W.Frag) (mg : Str → Option Value) (base : Heap) (k : Nat) (x : Str) (n : Nat) (sp : DSp) : Prop where
  ex : ∃ (f : Addr) (fd : FuncData) (ps : List Str), ps.length = n ∧ mg x = some (.ref f) ∧ PySem.W.keepIn K (.ref f) = true ∧ Binds K fd ps [] ∧ FnQ P w K mg base k f fd ps (loSp K sp n)
theorem roomH_mark {A : Around} {k : Nat} {h : Option Value} (r : Room k A) : RoomH k (A.mark h) := ⟨r.dp, r.un⟩
section
variable {X : Cx} {k j n : Nat} {x : Str} {p pos : Pos} {e : Expr} {es : List Expr} {ta : DAs} {sp : DSp}
variable {O : Og X.K}
theorem q_callQ (C : CalleeQ X.prog X.w X.K X.mg X.base j x n sp) (hr : RoomH k X.A) (hjk : j ≤ k) (hgd : X.A.guards = some []) (hg : Gl X x) (ha : PA X (e :: es) (loA X.K O ta)) (hdb : (x == ("__debug__" : Str)) = false) (he : starEach (e :: es) X.env = (false, eval e X.env) :: starEach es X.env)
    (hpl : (backTo pos (starEach es X.env)).any (·.1) = false) : PE X (.Call (.Name x p) (e :: es) [] pos) (lo X.K O (dCall n sp ta)) := by
  obtain ⟨f, fd, ps, hl, hm, hk, hb, G⟩ := C.ex
  refine ⟨fun pins s σ H Q I h => ?_⟩
  obtain ⟨F, M, ρ, Φ, A, h, kk⟩ := h
  refine wpAny_Call_Name_kw (ld_glob I hg hm ?_ hdb)
  refine PySem.W.callWith_K (h₀ := X.base) I.ok.mod.kin hk (thn (ha.run pos pins s σ H (fun vs H' => ∃ F' M' ds, Lm X.K F H M F' H' M' ∧ AbsM X.K F' H' M' ∧ Reps X.K F' H' ds vs ∧ ds.length = n ∧ sp ds M' Φ noX) I
    ⟨F, M, ρ, _, A, h, fun vs H' F' M' ds l a r q => ⟨F', M', ds, l, a, r, q⟩⟩) fun us s1 ⟨vs, H1, I1, r, F1, M1, ds, l1, a1, rs, hn, q⟩ => ⟨I1.kIn, ?_⟩) he hpl
  have hsp : loSp X.K sp n vs H1 Q (fun _ _ _ => False) := ⟨F1, M1, ds, Φ, hn, a1, rs, q, fun v H' z => kk v H' (z.le l1)⟩
  have hlen : us.length = ps.length := by rw [← r.length]; exact G.len _ _ _ _ hsp
  have b := hb s1 us I1.kIn (by rw [List.append_nil]; exact hlen)
  rw [List.append_nil] at b
  refine wpAny_call (codeAny_mono (G.run X.A X.stack s1 H1 ⟨us, []⟩ us vs _ (hr.mono hjk) hgd I1.env0 b r hsp) fun res s' hq => ?_)
  cases res with
  | error e => exact hq.elim
  | ok fl =>
    cases fl with
    | ret u => exact I1.after hq
    | next => exact hq.elim
    | brk => exact hq.elim
    | cont => exact hq.elim
end
end DL
namespace DL
open PySem PySem.Spec PyProof.Rows L2
def isaE (n : Str) : D → Option Bool
  | .ty u => if u = .none then none else some (subB n u.name)
  | .obj .cls c _ _ => some (subB n c)
  | _ => none
def isaEL (n : Str) : List D → Option Bool
  | [] => some false
  | c :: cs => match isaE n c, isaEL n cs with
    | some a, some b => some (a || b)
    | _, _ => none
def rIsiE (args : List D) (M : MS) (Φ : DQ) : Prop := match args with
  | [.obj .exc n _ _, .tup cs] => ∃ b, isaEL n cs = some b ∧ Φ (.bl b) M
  | [.obj .exc n _ _, c] => ∃ b, isaE n c = some b ∧ Φ (.bl b) M
  | _ => False
theorem cexc_facts {K : PySem.W.Frag} {n : Str} (h : cexcB K n = true) : XfC K (He.ga K n) ∧ classB K n = true ∧ kitsB K n = true ∧ ∀ f ∈ fieldsT n, PySem.W.findIn K (.ref (He.ga K n)) f = some none := by
  obtain ⟨h1, h⟩ := He.ba h
  obtain ⟨h2, h⟩ := He.ba h
  obtain ⟨h3, h⟩ := He.ba h
  obtain ⟨h4, _⟩ := He.ba h
  refine ⟨xfB_ok h1, h2, h3, fun f hf => ?_⟩
  have := List.all_eq_true.mp h4 f hf
  unfold findB at this
  exact of_decide_eq_true this
section
variable {X : Cx} {pins : List (Addr × Obj)} {σ : L2.St} {H : Hp} {s : Shared} {F : Addr → Prop} {M : MS} {n : Str} {ks : List Str} {xs : List D} {v : V} {u : Value}
/-- the exception's object stands there -/
theorem exc_at (I : Inv X pins σ H s) (rx : Rep X.K F H (.obj .exc n ks xs) v) (r : RelV v u) : cexcB X.K n = true ∧ ∃ a ob od, u = .ref a ∧ PySem.W.InstAt s.heap a ob (He.ga X.K n) od ∧
    ((od = none ∧ ks = [] ∧ xs = []) ∨ ∃ dd o vs mA, od = some o ∧ s.heap.get? dd = some o ∧ s.heap.Ns1 dd mA ∧ (∀ f, RelO ((ks.zip vs).lookup f) (mA f)) ∧ ks.length = xs.length ∧ Reps X.K F H xs vs) := by
  simp only [Rep] at rx
  obtain ⟨hc, a, ob, vs, ev, fa, ha, hcl, ⟨fv, hd⟩, hl, rs, q⟩ := rx
  subst ev
  obtain rfl : u = Value.ref a := r
  have go : s.heap.get? a = some ob := (show ObjOk X.prog X.w H s.heap a (xoO ob) from I.hok a _ ha).1
  refine ⟨hc, a, ob, ?_⟩
  have nc : PySem.W.notCls ob = true := by unfold PySem.W.notCls; rw [hd] <;> rfl
  rcases q with ⟨q1, q2⟩ | ⟨dd, q1, q2, q3⟩
  · subst q2
    have : xs = [] := by cases xs with | nil => rfl | cons _ _ => cases hl
    exact ⟨none, rfl, ⟨go, hcl, nc, by rw [q1]; trivial⟩, .inl ⟨rfl, rfl, this⟩⟩
  · obtain ⟨mA, hns, hr⟩ := (show ObjOk X.prog X.w H s.heap dd (.xd (ks.zip vs)) from I.hok dd _ q3)
    obtain ⟨o, ho, _⟩ := lookIn_ns hns
    exact ⟨some o, rfl, ⟨go, hcl, nc, by rw [q1]; exact ho⟩, .inr ⟨dd, o, vs, mA, rfl, ho, hns, hr, hl, rs⟩⟩
theorem isaE_kit {K : PySem.W.Frag} {H : Hp} {c : D} {w : V} {b : Bool} (hc : cexcB K n = true) (rc : Rep K F H c w) (h : isaE n c = some b) : ∃ t, ClsV w t ∧ PySem.W.kitOne K (.ref (He.ga K n)) t = some b := by
  obtain ⟨k1, k2⟩ := kits_ok (cexc_facts hc).2.2.1
  unfold isaE at h
  split at h
  · rename_i t
    split at h
    · cases h
    · rename_i ht
      injection h with h
      subst h
      simp only [Rep] at rc
      subst rc
      exact ⟨_, .ty _, k2 t ht⟩
  · injection h with h
    subst h
    simp only [Rep] at rc
    obtain ⟨rfl, hb⟩ := rc
    exact ⟨_, .own _, k1 _ (ccls_ok hb).1 (ccls_ok hb).2.1⟩
  · cases h
theorem isaEL_kit {K : PySem.W.Frag} {H : Hp} (hc : cexcB K n = true) : ∀ {cs : List D} {ws : List V} {b : Bool}, Reps K F H cs ws → isaEL n cs = some b → ∃ us, Paired ClsV ws us ∧ PySem.W.kitAny K (.ref (He.ga K n)) us = some b
  | [], ws, b, r, h => by
    simp only [Reps] at r
    subst r
    simp only [isaEL, Option.some.injEq] at h
    subst h
    exact ⟨[], .nil, kitAny_nil⟩
  | c :: cs, ws, b, r, h => by
    simp only [Reps] at r
    obtain ⟨w, wr, e, r1, r2⟩ := r
    subst e
    unfold isaEL at h
    split at h
    · rename_i b1 b2 h1 h2
      injection h with h
      subst h
      obtain ⟨u, k1, q1⟩ := isaE_kit hc r1 h1
      obtain ⟨us, k2, q2⟩ := isaEL_kit hc r2 h2
      exact ⟨u :: us, .cons k1 k2, kitAny_cons q1 (fun e => by rw [q2, e]; rfl) fun e => by rw [e]; rfl⟩
    · cases h
theorem exc_kit {a : Addr} {ob : Obj} {od : Option Obj} (hc : cexcB X.K n = true) : PySem.W.KitX X.K (.ref a) (.ref (He.ga X.K n)) (fun h => PySem.W.InstAt h a ob (He.ga X.K n) od) := by
  obtain ⟨x, h2, _⟩ := cexc_facts hc
  obtain ⟨c1, c2, c3, c4⟩ := class_ok h2
  refine PySem.W.kitx_exc ?_ x.ga x.gg x.exC c1 c2 c3 c4
  obtain ⟨cd, hcd, _⟩ := PySem.W.any_some x.hdC
  rw [hcd]; rfl
theorem c_isiE : CallR X (.builtin "isinstance") (loC X.K rIsiE) := by
  rintro pins s σ H vs us Q I r ⟨F, M, ds, Φ, am, rs, h, k⟩
  unfold rIsiE at h
  split at h
  · rename_i n ks xs cs
    simp only [Reps] at rs
    obtain ⟨v, _, e, rx, w, _, rfl, rc, rfl⟩ := rs
    subst e
    obtain ⟨b, hb, q⟩ := h
    obtain ⟨tp, ws, rfl, hq, rw⟩ := rep_tup rc
    obtain ⟨u1, u2, rfl, r1, r2⟩ := vals2 r
    obtain ⟨hc, a, ob, od, rfl, J, _⟩ := exc_at I rx r1
    obtain ⟨us', hcv, ka⟩ := isaEL_kit hc rw hb
    cases r2
    obtain ⟨its, rv, ⟨⟨oc, od2, dt, sl⟩, ho, hcl, n2, hd⟩, _⟩ := I.tuple hq
    have e2 := ClsV.all hcv rv
    subst e2
    simp only at hcl hd
    subst hcl hd
    exact PySem.W.kia_tup (exc_kit hc) I.kIn J ho ka (fun z => nomatch z) fun tk => ⟨.bl _, H, I.tok tk, rfl, k _ _ (hB am q)⟩
  · rename_i n ks xs c _
    simp only [Reps] at rs
    obtain ⟨v, _, e, rx, w, _, rfl, rc, rfl⟩ := rs
    subst e
    obtain ⟨b, hb, q⟩ := h
    obtain ⟨u1, u2, rfl, r1, r2⟩ := vals2 r
    obtain ⟨hc, a, ob, od, rfl, J, _⟩ := exc_at I rx r1
    obtain ⟨t, kc, kq⟩ := isaE_kit hc rc hb
    have e2 := kc.eq r2
    subst e2
    exact PySem.W.kia_one (exc_kit hc) I.kIn J kq (fun z => nomatch z) fun tk => ⟨.bl _, H, I.tok tk, rfl, k _ _ (hB am q)⟩
  · exact h.elim
/-- e.f of an exception -/
def rXf (f : Str) (x : D) (M : MS) (Φ : DQ) : Prop := match x with
  | .obj .exc n ks xs => f ∈ fieldsT n ∧ ∃ d, (ks.zip xs).lookup f = some d ∧ Φ d M
  | _ => False
theorem q_xfld {O : Og X.K} {e : Expr} {te : DE} {f : Str} {pos : Pos} (he : PE X e (lo X.K O te)) (hb : attributeBase e f X.env (eval e X.env) = eval e X.env) : PE X (.Attribute e f pos) (lo X.K O (dUn (rXf f) te)) := by
  refine ⟨fun pins s σ H Q I h => ?_⟩
  obtain ⟨F, M, ρ, Φ, A, h, kk⟩ := h
  refine attr_of hb (thn (he.run pins s σ H (fun v H' => loQ X.K F H M _ v H') I ⟨F, M, ρ, _, A, h, fun v H' q => q⟩) fun u s1 ⟨x, H1, I1, rx, F1, M1, d, l1, a1, r1, h1⟩ => ?_)
  replace h1 : rXf f d M1 Φ := h1
  unfold rXf at h1
  split at h1
  · rename_i n ks xs
    obtain ⟨hf, y, ey, q⟩ := h1
    obtain ⟨hc, a, ob, od, rfl, J, z⟩ := exc_at I1 r1 rx
    obtain ⟨xf, _, _, hno⟩ := cexc_facts hc
    rcases z with ⟨_, e1, e2⟩ | ⟨dd, o, vs, mA, rfl, ho, hns, hr, hl, rs⟩
    · subst e1; cases ey
    · have hk : ((ks.zip xs).map (·.1)) = ((ks.zip vs).map (·.1)) := by rw [zip_fst hl, zip_fst (hl.trans rs.length)]
      have hv : Reps X.K F1 H1 ((ks.zip xs).map (·.2)) ((ks.zip vs).map (·.2)) := by rw [zip_snd hl, zip_snd (hl.trans rs.length)]; exact rs
      obtain ⟨w, ew, rw⟩ := (look_rep hk hv f).1 y ey
      obtain ⟨o2, ho2, hlk⟩ := lookIn_ns hns
      have eo : o2 = o := Option.some.inj (ho2.symm.trans ho)
      subst eo
      obtain ⟨u, hu, ru⟩ := RelO.some_of (v := w) (o := mA f) (by rw [← ew]; exact hr f)
      exact HandSPX.exc_get I1.kIn J xf.ga xf.gg xf.exC (PySem.W.findObj_own xf.hdC (hno f hf) rfl (by rw [hlk, hu])) (handed_of ru) ⟨w, H1, I1.tok _, ru, kk _ _ ((loQ.here a1 rw q).le l1)⟩
  · exact h1.elim
end
def dCntB (to te : DE) : DE := fun ρ M Φ => to ρ M fun x M1 => (∃ xs, x = .lst xs) ∧ te ρ M1 fun y M2 => ∃ (bs : List Bool) (b : Bool), x = .lst (bs.map D.bl) ∧ y = .bl b ∧ Φ (.int (bs.count b : Nat)) M2
theorem bls_rp {K : PySem.W.Frag} {F : Addr → Prop} {H : Hp} : ∀ {bs : List Bool} {vs : List V}, Reps K F H (bs.map D.bl) vs → vs = bs.map V.bl
  | [], vs, h => by simpa [Reps] using h
  | b :: bs, vs, h => by
    simp only [List.map_cons, Reps, Rep] at h
    obtain ⟨v, r, e, rfl, h2⟩ := h
    rw [e, bls_rp h2]; rfl
theorem count_bl {b : Bool} : ∀ {bs : List Bool} {us : List Value}, Vals (bs.map V.bl) us → us.countP (eqU (.bl b)) = bs.count b
  | [], _, .nil => rfl
  | c :: bs, _, .cons r t => by
    have ih := count_bl (b := b) t
    cases r
    rw [List.countP_cons, List.count_cons, ih]
    rfl
def rCntB (K : PySem.W.Frag) : V → List V → Hp → VK → Prop := fun x xs H Q => ∃ (p : Addr) (bs : List Bool) (b : Bool), x = .ref p ∧ xs = [.bl b] ∧ SqL K H p (bs.map V.bl) ∧ Q (.int (bs.count b : Nat)) H
theorem mt_cntB {X : Cx} : MtR X "list.count" (rCntB X.K) := by
  intro pins s σ H x xs v us Q I rx rxs h
  obtain ⟨p, bs, b, rfl, rfl, hs, q⟩ := h
  cases rx
  obtain ⟨u, rfl, ru⟩ := rxs.one
  obtain ⟨its, rv, ⟨⟨oc, dd, od, sl⟩, n, ho, hc, hdn, hd⟩, _⟩ := I.list hs
  simp only at hc hd
  subst hc hd
  have fl : (bs.map V.bl).all flatV = true := by rw [List.all_map]; exact List.all_eq_true.mpr fun _ _ => rfl
  refine call_meets PySem.F.slot_list_count ⟨_, ho, rfl⟩ PySem.F.entry_list_count (PySem.F.args_list_count_2 _ _) (SeqAt.list_countAt p its.toArray n dd sl u (eqU (.bl b))) ⟨ho, fun y hy => mem_eqAt ru rfl rv fl y (by simpa using hy), ?_⟩
  have ec : its.toArray.toList.countP (eqU (.bl b)) = bs.count b := count_bl rv
  refine ⟨.int (bs.count b : Nat), H, I.tok _, ⟨s.toks, ?_⟩, q⟩
  show Value.int ((its.toArray.toList.countP (eqU (.bl b)) : Nat) : Int) s.toks = _
  rw [ec]
section
variable {X : Cx} {O : Og X.K} {o e : Expr} {to te : DE} {apos cpos : Pos}
theorem q_cntB (ho : PE X o (lo X.K O to)) (ha : PE X e (lo X.K O te)) (hbase : attributeBase o "count" X.env (eval o X.env) = eval o X.env)
    (hfew : ((backTo cpos (starEach [e] X.env)).all (fun x => !x.1) && (backToKw cpos (keywordEach [] X.env)).all (fun x => x.1.isSome)
      && decide ([e].length + ([] : List Keyword).length + (if ([] : List Keyword).isEmpty then 0 else 1) < 30)) = true)
    (hline : (apos.endLine == cpos.line) = true) (hs : starEach [e] X.env = (false, eval e X.env) :: starEach [] X.env) (hplain : (backTo cpos (starEach [] X.env)).any (·.1) = false) :
    PE X (.Call (.Attribute o "count" apos) [e] [] cpos) (lo X.K O (dCntB to te)) :=
  PE.imp (pe_bm PySem.F.plainAttrs_list PySem.F.slot_list_count PySem.F.type_list_count mt_cntB ho (q_cons ha q_nil hs) hbase hfew hline hs hplain) fun σ H Q h => by
    obtain ⟨F, M, ρ, Φ, A, h, k⟩ := h
    refine ⟨F, M, ρ, _, A, h, fun v H1 ⟨F1, M1, x, l1, a1, r1, ⟨ys, ey⟩, h1⟩ => ?_⟩
    subst ey
    have r1' := r1
    simp only [Rep] at r1'
    obtain ⟨p, vs, ev, fp, hp, rs⟩ := r1'
    subst ev
    refine ⟨.inl ⟨rfl, vs, SqL.of hp⟩, F1, M1, ρ, (fun ds M2 => match ds with | [y] => ∃ (bs : List Bool) (b : Bool), D.lst ys = .lst (bs.map D.bl) ∧ y = .bl b ∧ Φ (.int (bs.count b : Nat)) M2 | _ => False), A.go l1 a1, h1, fun ws H2 F2 M2 ds l2 a2 r2 q => ?_⟩
    dsimp only at q
    split at q
    · rename_i y
      obtain ⟨bs, b, e1, e2, q⟩ := q
      injection e1 with e1
      subst e1 e2
      simp only [Reps, Rep] at r2
      obtain ⟨w, wr, rfl, rfl, rfl⟩ := r2
      have ev := bls_rp rs
      subst ev
      have hp2 : H2 p = some (.lst (bs.map V.bl)) := (l2.le.frz p fp).trans hp
      exact ⟨p, bs, b, rfl, rfl, SqL.of hp2, k _ _ ((loQ.here a2 (show Rep X.K F2 H2 (.int (bs.count b : Nat)) (.int (bs.count b : Nat)) from rfl) q).le (l1.trans l2))⟩
    · exact q.elim
end
theorem bt_ValueError : bootBuiltins "ValueError" = some (.type "ValueError") := by decide +kernel
end DL
theorem L2H.RoomH.u64 {k : Nat} {A : PySem.Around} (r : L2H.RoomH k A) : A.units + 64 < PySem.cLine := by have := r.un; omega
namespace DL
open PySem PySem.Spec PyProof.Rows L2
end DL
namespace DL
open PySem PySem.Spec PyProof.Rows L2
end DL
namespace DL
open PySem PySem.Spec PyProof.Rows L2
end DL
namespace DL
open PySem PySem.Spec PyProof.Rows L2
end DL
namespace DL
open PySem PySem.Spec PyProof.Rows L2
structure Wks (M : MS) (p : Nat → Addr) (w : Nat → Int × Int) (l l' : Nat → Int) (pl : Addr) : Prop where
  a0 : M.map (p 0) = some (walkerO (w 0) (l 0))
  a1 : M.map (p 1) = some (walkerO (w 1) (l 1))
  ll : M.map pl = some (.lst [.int (l' 0), .int (l' 1)])
  ne : p 0 ≠ p 1
theorem Wks.at {M : MS} {p : Nat → Addr} {w : Nat → Int × Int} {l l' : Nat → Int} {pl : Addr} (h : Wks M p w l l' pl) {s : Nat} (hs : s < 2) : M.map (p s) = some (walkerO (w s) (l s)) := by
  match s, hs with
  | 0, _ => exact h.a0
  | 1, _ => exact h.a1
theorem Wks.ext {M M' : MS} {p : Nat → Addr} {w : Nat → Int × Int} {l l' : Nat → Int} {pl : Addr} (h : Wks M p w l l' pl) (x : Ext M M') : Wks M' p w l l' pl :=
  ⟨(x _ (by rw [h.a0]; simp)).trans h.a0, (x _ (by rw [h.a1]; simp)).trans h.a1, (x _ (by rw [h.ll]; simp)).trans h.ll, h.ne⟩
theorem Wks.kp {M M' : MS} {p : Nat → Addr} {w : Nat → Int × Int} {l l' : Nat → Int} {pl a c : Addr} (h : Wks M p w l l' pl) (k : Kp a c M M') (hp : ∀ s < 2, p s ≠ a ∧ p s ≠ c) (ha : pl ≠ a) (hc : pl ≠ c) : Wks M' p w l l' pl :=
  ⟨k.keep (hp 0 (by decide)).1 (hp 0 (by decide)).2 h.a0, k.keep (hp 1 (by decide)).1 (hp 1 (by decide)).2 h.a1, k.keep ha hc h.ll, h.ne⟩
theorem seq_post {a b : DS} {Δ : DEnds} {ρ : DEnv} {M : MS} (P : DEnv → MS → Prop) (h2 : ∀ ρ' M', P ρ' M' → b Δ ρ' M') (h1 : ∀ K : DEnv → MS → Prop, (∀ ρ' M', P ρ' M' → K ρ' M') → a { Δ with nx := K } ρ M) : sSeq a b Δ ρ M := h1 _ h2
end DL
namespace DL
open PySem PySem.Spec PyProof.Rows L2
end DL
namespace DL
open PySem PySem.Spec PyProof.Rows L2
end DL
namespace DL
open PySem PySem.Spec PyProof.Rows L2
end DL
namespace DL
open PySem PySem.Spec PyProof.Rows L2
end DL
namespace DL
open PySem PySem.Spec PyProof.Rows L2
end DL
namespace DL
open PySem PySem.Spec PyProof.Rows L2
def sp_law_draw_v3 : DSp := sp_law_draw
def t_law_draw_v3 : DS := (sSeq (sSetI (dOp rAdd (dOp rIx (dVar 0) (dC (.int 1))) (dC (.int 1))) (dVar 0) (dC (.int 1))) (sSeq (sAsg (dC (.int 0)) (.nm 2)) (sSeq (sAsg (dUn rNeg (dC (.int 1))) (.nm 3)) (sSeq (sIf (dTest (dOp rGt (dFn rLen (dCons (dOp rIx (dVar 0) (dC (.int 0))) dNil)) (dC (.int 0)))) (sSeq (sAsg (dOp rMod (dOp rIx (dVar 0) (dC (.int 1))) (dFn rLen (dCons (dOp rIx (dVar 0) (dC (.int 0))) dNil))) (.nm 3)) (sSeq (sAsg (dOp rIx (dOp rIx (dVar 0) (dC (.int 0))) (dVar 3)) (.nm 2)) sNext)) sNext) (sSeq (sIf (dTest (dOp rGe (dVar 2) (dOp rPow (dC (.int 10)) (dC (.int 18))))) (sSeq (sSetI (dOp rDiv (dVar 2) (dVar 1)) (dOp rIx (dVar 0) (dC (.int 0))) (dVar 3)) (sSeq (sRet (dOp rMod (dVar 2) (dVar 1))) sNext)) sNext) (sSeq (sRet (dOp rMod (dOp rMod (dOp rPow (dOp rAdd (dOp rAdd (dOp rMod (dVar 2) (dC (.int 2147483587))) (dOp rMul (dC (.int 7919)) (dOp rIx (dVar 0) (dC (.int 1))))) (dC (.int 1))) (dC (.int 5))) (dC (.int 2147483647))) (dVar 1))) sNext))))))
theorem mix_ok3 {x n l : Int} {M : MS} {Φ : DQ} (hx : 0 ≤ x) (hn0 : 0 ≤ n) (hn : n ≤ 2 ^ 40) (hl1 : 1 ≤ l) (h : ∀ r : Int, 0 ≤ r → r < l → Φ (.int r) M) :
    rMod (.int x) (.int 2147483587) M fun u M => rMul (.int 7919) (.int n) M fun v M => rAdd u v M fun w M => rAdd w (.int 1) M fun t M => rPow t (.int 5) M fun t M => rMod t (.int 2147483647) M fun t M => rMod t (.int l) M Φ := by
  refine rMod_i (by decide) (rMul_i (.inl (by decide)) (rAdd_i (rAdd_i ?_)))
  have b1 : 0 ≤ x % 2147483587 := Int.emod_nonneg _ (by decide)
  have b2 : x % 2147483587 < 2147483587 := Int.emod_lt_of_pos _ (by decide)
  refine rPow_i ⟨by decide, by decide, by omega⟩ (rMod_i (by decide) (rMod_i (by omega) ?_))
  exact h _ (Int.emod_nonneg _ (by omega)) (Int.emod_lt_of_pos _ (by omega))
theorem p_law_draw_v3 (ds : List D) (M : MS) (Φ : DQ) (h : sp_law_draw_v3 ds M Φ noX) : t_law_draw_v3 { nx := fun _ M' => Φ .non M', rt := Φ } (startD 4 ds) M := by
  obtain ⟨a, c, k, l, rfl, hl1, hl2, hD, h⟩ := h
  obtain ⟨hac, n, cells, ha, hc, hn0, hn, hlen, hpos⟩ := hD
  simp only [t_law_draw_v3, sSeq, sRet, sRetN, sNext, sIf, sAsg, sPar, sPar3, sSetI, sAug, sAugI, sDrop, sBreak, sCont, dOp, dUn, dCons, dNil, dFn, dC, dTup, dLst, dLstM, dIf, dTest, dTru, dAnd, dOr, dNot, dAndV, dOrV, dNotE, dChain, dSl, dNoPart, dPart, dSeq, dEnum, dZip, dRng1, dRng2, dYes, dCall, dMt, dVar, dDic0, dDic1, put_nm, put_tp, puts_nil, puts_cons, List.getElem?_cons_zero, List.getElem?_cons_succ, List.set_cons_zero, List.set_cons_succ, startD, List.map_cons, List.map_nil, List.cons_append, List.nil_append, List.length_cons, List.length_nil, List.replicate_succ, List.replicate_zero, Nat.reduceSub, Nat.reduceAdd, Nat.zero_add, wipeD, keyD, gSeq, gPlain, gNil, gYield, gFor, dTupP, dRngP, dCallG, sForG, dLcG, GE.at, dTupRg, dStar]
  refine rIx_seq (seqA_ref ha) (d := .int n) (by rw [at1]; rfl) (rAdd_i ?_)
  refine rSet_ref (n := 1) ha rfl ?_
  have ea : (M.put a (.lst [.ref c, .int (n + 1)])).map a = some (.lst [.ref c, .int (n + 1)]) := MS.put_same
  have ec : (M.put a (.lst [.ref c, .int (n + 1)])).map c = some (.lst (cells.map D.int)) := by rw [MS.put_ne (Ne.symm hac)]; exact hc
  have eb : ∀ b, b ≠ a → b ≠ c → (M.put a (.lst [.ref c, .int (n + 1)])).map b = M.map b := fun b x _ => MS.put_ne x
  show rNeg (.int 1) (M.put a (.lst [.ref c, .int (n + 1)])) _
  generalize M.put a (.lst [.ref c, .int (n + 1)]) = M1 at ea ec eb ⊢
  refine rNeg_i ?_
  refine rIx_seq (seqA_ref ea) (d := .ref c) (by rw [at0]; rfl) ?_
  refine rLen_seq (fun z e => nomatch e) (seqA_ref ec) ?_
  simp only [List.length_map, rGt, rCmp]
  have tail : ∀ x : Int, 0 ≤ x → rMod (.int x) (.int 2147483587) M1 fun x M1 => rIx (.ref a) (.int 1) M1 fun y M2 => rMul (.int 7919) y M2 fun y M2 => rAdd x y M2 fun x M1 => rAdd x (.int 1) M1 fun x M1 => rPow x (.int 5) M1 fun x M1 => rMod x (.int 2147483647) M1 fun x M1 => rMod x (.int l) M1 Φ := fun x hx => by
    have q := mix_ok3 (M := M1) (Φ := Φ) (l := l) (n := n + 1) hx (by omega) (by omega) hl1 fun r r0 r1 => by
      obtain ⟨d1, d2⟩ := draw_out hac hn0 hn ea ec hlen hpos eb
      exact h r M1 d1 d2 r0 r1
    refine ⟨by decide, rIx_seq (seqA_ref ea) (d := .int (n + 1)) (by rw [at1]; rfl) q.2⟩
  by_cases h0 : cells.length = 0
  · rw [if_neg (by rw [h0]; decide)]
    refine rPow_i ⟨by decide, by decide, by decide⟩ (rCmp_i ?_)
    dsimp only
    rw [if_neg (by decide)]
    exact tail 0 (by decide)
  · rw [if_pos (decide_eq_true (by omega))]
    refine rIx_seq (seqA_ref ea) (d := .int (n + 1)) (by rw [at1]; rfl) ?_
    refine rIx_seq (seqA_ref ea) (d := .ref c) (by rw [at0]; rfl) ?_
    refine rLen_seq (fun z e => nomatch e) (seqA_ref ec) ?_
    rw [List.length_map]
    refine rMod_i (by omega) ?_
    refine rIx_seq (seqA_ref ea) (d := .ref c) (by rw [at0]; rfl) ?_
    have m0 : 0 ≤ (n + 1) % (cells.length : Int) := Int.emod_nonneg _ (by omega)
    have m1 : (n + 1) % (cells.length : Int) < (cells.length : Int) := Int.emod_lt_of_pos _ (by omega)
    generalize hi : (n + 1) % (cells.length : Int) = i at m0 m1 ⊢
    have hj : i.toNat < cells.length := by omega
    have gx : cells[i.toNat]? = some cells[i.toNat] := List.getElem?_eq_getElem hj
    generalize hx : cells[i.toNat] = x at gx
    have px : 0 ≤ x := hpos x (hx ▸ List.getElem_mem hj)
    refine rIx_seq (seqA_ref ec) (d := .int x) (by rw [atI_t _ _ m0, List.getElem?_map, gx]; rfl) ?_
    refine rPow_i ⟨by decide, by decide, by decide⟩ (rCmp_i ?_)
    dsimp only
    split
    · refine rDiv_i (by omega) (by omega) ?_
      refine rIx_seq (seqA_ref ea) (d := .ref c) (by rw [at0]; rfl) ?_
      refine rSet_ref (n := i.toNat) ec (by rw [List.length_map]; exact ixN_t _ _ m0 m1) ?_
      refine rMod_i (by omega) ?_
      obtain ⟨d1, d2⟩ := draw_out (M := M) (M' := M1.put c (.lst ((cells.map D.int).set i.toNat (.int (x / l))))) (cells' := cells.set i.toNat (x / l)) hac hn0 hn (by rw [MS.put_ne hac]; exact ea) (by rw [MS.put_same, ← List.map_set]) (by rw [List.length_set]; exact hlen)
        (fun y hy => by
          rcases List.mem_or_eq_of_mem_set hy with z | z
          · exact hpos y z
          · rw [z]; exact Int.ediv_nonneg px (by omega)) (fun b x y => by rw [MS.put_ne y]; exact eb b x y)
      exact h _ _ d1 d2 (Int.emod_nonneg _ (by omega)) (Int.emod_lt_of_pos _ (by omega))
    · exact tail x px
end DL
namespace DL
open PySem PySem.Spec PyProof.Rows L2
theorem use_draw3 {M : MS} {Φ : DQ} {a c : Addr} {k : Nat} {l : Int} (hD : Dk M a c (k + 1)) (h1 : 1 ≤ l) (h2 : l < 2 ^ 30) (h : ∀ (r : Int) M', Dk M' a c k → Kp a c M M' → 0 ≤ r → r < l → Φ (.int r) M') : True ∧ sp_law_draw_v3 [.ref a, .int l] M Φ noX :=
  ⟨trivial, a, c, k, l, rfl, h1, h2, hD, h⟩
end DL
namespace DL
open PySem PySem.Spec PyProof.Rows L2 TL
end DL
namespace DL
open PySem PySem.Spec PyProof.Rows
open Builtin Float
/-- n spaces -/
def spaces (n : Nat) : Str := ⟨(List.replicate n 32).toArray⟩
section
open L2
variable {X : Cx} {x : Str} {p pos apos : Pos} {o e : Expr} {to te : DE}
variable {O : Og X.K}
/-- an f-string of {x:>4} alone -/
def dFmt4 (te : DE) : DE := fun ρ M Φ => te ρ M fun x M1 => match x with
  | .int i => 0 ≤ i ∧ i.natAbs.log2 < 1920 ∧ Φ (.str (spaces (4 - (Str.ofString (toString i)).length) ++ Str.ofString (toString i))) M1
  | _ => False
end
end DL
namespace DL.EQ
open PySem PySem.SeqAt PySem.W
open MeetsSeq
open AutoSeq1 (wpAny_loadPart')
end DL.EQ
namespace DL
open PySem PySem.Spec PyProof.Rows L2
end DL
namespace DL
open PySem PySem.Spec PyProof.Rows L2 TL
end DL
namespace DL
open PySem PySem.Spec PyProof.Rows L2 TL
end DL
namespace DL
open PySem PySem.Spec PyProof.Rows L2
def dIdxB (to te : DE) : DE := fun ρ M Φ => to ρ M fun x M1 => (∃ xs, x = .lst xs) ∧ te ρ M1 fun y M2 => ∃ (bs : List Bool) (b : Bool) (j : Nat), x = .lst (bs.map D.bl) ∧ y = .bl b ∧ bs[j]? = some b ∧ (∀ m, m < j → bs[m]? ≠ some b) ∧ j ≤ 1000000 ∧ Φ (.int (j : Nat)) M2
theorem vals_bl : ∀ {bs : List Bool} {us : List Value}, Vals (bs.map V.bl) us → us = bs.map Value.bool
  | [], _, .nil => rfl
  | c :: bs, _, .cons r t => by
    rw [vals_bl t]
    cases r
    rfl
def rIdxB (K : PySem.W.Frag) : V → List V → Hp → VK → Prop := fun x xs H Q => ∃ (p : Addr) (bs : List Bool) (b : Bool) (j : Nat), x = .ref p ∧ xs = [.bl b] ∧ SqL K H p (bs.map V.bl) ∧ bs[j]? = some b ∧ (∀ m, m < j → bs[m]? ≠ some b) ∧ j ≤ 1000000 ∧ Q (.int (j : Nat)) H
theorem mt_idxB {X : Cx} : MtR X "list.index" (rIdxB X.K) := by
  intro pins s σ H x xs v us Q I rx rxs h
  obtain ⟨p, bs, b, j, rfl, rfl, hs, h1, h2, h3, q⟩ := h
  cases rx
  obtain ⟨u, rfl, ru⟩ := rxs.one
  obtain ⟨its, rv, ⟨⟨oc, dd, od, sl⟩, n, ho, hc, hdn, hd⟩, _⟩ := I.list hs
  simp only at hc hd
  subst hc hd
  have fl : (bs.map V.bl).all flatV = true := by rw [List.all_map]; exact List.all_eq_true.mpr fun _ _ => rfl
  have ei := vals_bl rv
  subst ei
  have e : ∀ c : Bool, eqU (.bl b) (Value.bool c) = (c == b) := fun c => rfl
  have hj : j < bs.length := (List.getElem?_eq_some_iff.mp h1).1
  refine call_meets PySem.F.slot_list_index ⟨_, ho, rfl⟩ PySem.F.entry_list_index (PySem.F.args_list_index_2 _ _) (SeqAt.list_indexAt p (bs.map Value.bool).toArray n dd sl u (eqU (.bl b)) j (by simpa using hj) (by omega) ?_ fun m hm hmj => ?_) ⟨ho, fun y hy => mem_eqAt ru rfl rv fl y (by simpa using hy), ?_⟩
  · have : bs[j] = b := (List.getElem?_eq_some_iff.mp h1).2
    simp only [List.getElem_toArray, List.getElem_map, e, this, beq_self_eq_true]
  · have hm' : m < bs.length := by simpa using hm
    have := h2 m hmj
    rw [List.getElem?_eq_getElem hm'] at this
    simp only [List.getElem_toArray, List.getElem_map, e]
    exact beq_eq_false_iff_ne.mpr fun z => this (by rw [z])
  · exact ⟨.int (j : Nat), H, I.tok _, ⟨s.toks, rfl⟩, q⟩
section
variable {X : Cx} {O : Og X.K} {o e : Expr} {to te : DE} {apos cpos : Pos}
theorem q_idxB (ho : PE X o (lo X.K O to)) (ha : PE X e (lo X.K O te)) (hbase : attributeBase o "index" X.env (eval o X.env) = eval o X.env)
    (hfew : ((backTo cpos (starEach [e] X.env)).all (fun x => !x.1) && (backToKw cpos (keywordEach [] X.env)).all (fun x => x.1.isSome)
      && decide ([e].length + ([] : List Keyword).length + (if ([] : List Keyword).isEmpty then 0 else 1) < 30)) = true)
    (hline : (apos.endLine == cpos.line) = true) (hs : starEach [e] X.env = (false, eval e X.env) :: starEach [] X.env) (hplain : (backTo cpos (starEach [] X.env)).any (·.1) = false) :
    PE X (.Call (.Attribute o "index" apos) [e] [] cpos) (lo X.K O (dIdxB to te)) :=
  PE.imp (pe_bm PySem.F.plainAttrs_list PySem.F.slot_list_index PySem.F.type_list_index mt_idxB ho (q_cons ha q_nil hs) hbase hfew hline hs hplain) fun σ H Q h => by
    obtain ⟨F, M, ρ, Φ, A, h, k⟩ := h
    refine ⟨F, M, ρ, _, A, h, fun v H1 ⟨F1, M1, x, l1, a1, r1, ⟨ys, ey⟩, h1⟩ => ?_⟩
    subst ey
    have r1' := r1
    simp only [Rep] at r1'
    obtain ⟨p, vs, ev, fp, hp, rs⟩ := r1'
    subst ev
    refine ⟨.inl ⟨rfl, vs, SqL.of hp⟩, F1, M1, ρ, (fun ds M2 => match ds with | [y] => ∃ (bs : List Bool) (b : Bool) (j : Nat), D.lst ys = .lst (bs.map D.bl) ∧ y = .bl b ∧ bs[j]? = some b ∧ (∀ m, m < j → bs[m]? ≠ some b) ∧ j ≤ 1000000 ∧ Φ (.int (j : Nat)) M2 | _ => False), A.go l1 a1, h1, fun ws H2 F2 M2 ds l2 a2 r2 q => ?_⟩
    dsimp only at q
    split at q
    · rename_i y
      obtain ⟨bs, b, j, e1, e2, g1, g2, g3, q⟩ := q
      injection e1 with e1
      subst e1 e2
      simp only [Reps, Rep] at r2
      obtain ⟨w, wr, rfl, rfl, rfl⟩ := r2
      have ev := bls_rp rs
      subst ev
      have hp2 : H2 p = some (.lst (bs.map V.bl)) := (l2.le.frz p fp).trans hp
      exact ⟨p, bs, b, j, rfl, rfl, SqL.of hp2, g1, g2, g3, k _ _ ((loQ.here a2 (show Rep X.K F2 H2 (.int (j : Nat)) (.int (j : Nat)) from rfl) q).le (l1.trans l2))⟩
    · exact q.elim
end
end DL
namespace DL
open PySem PySem.Spec PyProof.Rows L2
def guardD (x y : D) : D := .obj .ins "Guard" ["place", "bottom"] [x, y]
theorem put_put {M : MS} {p : Addr} {a b : MO} : (M.put p a).put p b = M.put p b := by
  simp only [MS.put]
  congr 1
  funext c
  by_cases hc : c = p <;> simp [hc]
def sp_is_number_to : DSp := fun ds M Φ _ => ∃ d m, ds = [d, .int m] ∧ still d = true ∧ Φ (.bl (numD d 0 m)) M
def sp_law_is_within : DSp := fun ds M Φ _ => ∃ d lo hi, ds = [d, .int lo, .int hi] ∧ still d = true ∧ Φ (.bl (numD d lo hi)) M
def sp_Guard_init_x : DSp := fun ds M Φ ξ => ∃ p x y, ds = [.ref p, x, y] ∧ M.map p = some (.ins "Guard" []) ∧ still x = true ∧ still y = true ∧
  (numD x 0 9 = true → numD y 0 1000000 = true → Φ .non (M.put p (.ins "Guard" [("place", x), ("bottom", y)]))) ∧
  (numD x 0 9 = false → ξ "BadPost" [("value", x)] M) ∧ (numD x 0 9 = true → numD y 0 1000000 = false → ξ "BadLeast" [("value", y)] M)
def sp_Guard_post : DSp := fun ds M Φ _ => ∃ x y, ds = [guardD x y] ∧ Φ x M
def sp_Guard_least : DSp := fun ds M Φ _ => ∃ x y, ds = [guardD x y] ∧ Φ y M
def sp_Guard_short_v2_x : DSp := fun ds M Φ ξ => ∃ x j v, ds = [guardD x (.int j), v] ∧ still v = true ∧ (∀ i, v = .int i → 0 ≤ i → i ≤ 1000000 → Φ (.int (max 0 (j - i))) M) ∧ (numD v 0 1000000 = false → ξ "BadLeast" [("value", v)] M)
def t_is_number_to : DS := (sSeq (sRet (dAndV (dFn rIsi (dCons (dVar 0) (dCons (dC (.ty .int)) dNil))) (dAndV (dNotE (dFn rIsi (dCons (dVar 0) (dCons (dC (.ty .bool)) dNil)))) (dChain rLe rLe (dC (.int 0)) (dVar 0) (dVar 1))))) sNext)
def t_law_is_within : DS := (sSeq (sRet (dAndV (dFn rIsi (dCons (dVar 0) (dCons (dC (.ty .int)) dNil))) (dAndV (dNotE (dFn rIsi (dCons (dVar 0) (dCons (dC (.ty .bool)) dNil)))) (dChain rLe rLe (dVar 1) (dVar 0) (dVar 2))))) sNext)
def t_Guard_init_x (ξ : DXs) : DS := (sSeq (sIf (dNot (dTru (dCall 2 sp_is_number_to (dCons (dVar 1) (dCons (dOp rSub (dC (.int 10)) (dC (.int 1))) dNil))))) (sSeq (sRaise1 "BadPost" "value" ξ (dVar 1)) sNext) sNext) (sSeq (sIf (dNot (dTru (dCall 2 sp_is_number_to (dCons (dVar 2) (dCons (dC (.int 1000000)) dNil))))) (sSeq (sRaise1 "BadLeast" "value" ξ (dVar 2)) sNext) sNext) (sSeq (sFld "place" (dVar 0) (dVar 1)) (sSeq (sFld "bottom" (dVar 0) (dVar 2)) sNext))))
def t_Guard_post : DS := (sSeq (sRet (dUn (rFld "place") (dVar 0))) sNext)
def t_Guard_least : DS := (sSeq (sRet (dUn (rFld "bottom") (dVar 0))) sNext)
def t_Guard_short_v2_x (ξ : DXs) : DS := (sSeq (sIf (dNot (dTru (dCall 2 sp_is_number_to (dCons (dVar 1) (dCons (dC (.int 1000000)) dNil))))) (sSeq (sRaise1 "BadLeast" "value" ξ (dVar 1)) sNext) sNext) (sSeq (sRet (dFn rMax (dCons (dC (.int 0)) (dCons (dOp rSub (dUn (rFld "bottom") (dVar 0)) (dVar 1)) dNil)))) sNext))
theorem p_is_number_to (ds : List D) (M : MS) (Φ : DQ) (h : sp_is_number_to ds M Φ noX) : t_is_number_to { nx := fun _ M' => Φ .non M', rt := Φ } (startD 2 ds) M := by
  obtain ⟨d, m, rfl, hd, q⟩ := h
  rw [show startD 2 [d, D.int m] = [some d, some (.int m)] from rfl]
  simp only [t_is_number_to, sSeq, sRet, sRetN, sNext, sIf, sAsg, sPar, sPar3, sSetI, sAug, sAugI, sDrop, sBreak, sCont, dOp, dUn, dCons, dNil, dFn, dC, dTup, dLst, dLstM, dIf, dTest, dTru, dAnd, dOr, dNot, dAndV, dOrV, dNotE, dChain, dSl, dNoPart, dPart, dSeq, dEnum, dZip, dRng1, dRng2, dYes, dCall, dMt, dVar, dDic0, dDic1, put_nm, put_tp, puts_nil, puts_cons, List.getElem?_cons_zero, List.getElem?_cons_succ, List.set_cons_zero, List.set_cons_succ, startD, List.map_cons, List.map_nil, List.cons_append, List.nil_append, List.length_cons, List.length_nil, List.replicate_succ, List.replicate_zero, Nat.reduceSub, Nat.reduceAdd, Nat.zero_add, wipeD, keyD, gSeq, gPlain, gNil, gYield, gFor, dTupP, dRngP, dCallG, sForG, dLcG, GE.at, dTupRg, dStar, sPutT, dKeysT, dDicT0, dDicT1, sAsgL, dMake, dMakeF, dProp, dMeth, dCallO, dOp3, dLenO, dStrO, sFld, sFldAug, noXs, sRaise0, sRaise1, sTry, goneE, dCntB, rIsi]
  cases d with
  | int i =>
    simp only [tyD]
    refine ⟨by decide, ?_⟩
    simp only [show isaT .int .int = true from rfl, if_true]
    refine ⟨by decide, ?_⟩
    simp only [show isaT .int .bool = false from rfl, Bool.not_false, if_true, rLe, rCmp]
    by_cases h : 0 ≤ i
    · rw [if_pos (decide_eq_true h)]
      simpa only [numD, decide_eq_true h, Bool.true_and] using q
    · rw [if_neg (by simpa using h)]
      simpa only [numD, decide_eq_false h, Bool.false_and] using q
  | bl b =>
    simp only [tyD]
    refine ⟨by decide, ?_⟩
    simp only [show isaT .bool .int = true from rfl, if_true]
    refine ⟨by decide, ?_⟩
    simp only [show isaT .bool .bool = true from rfl, Bool.not_true, Bool.false_eq_true, if_false]
    exact q
  | ref a => simp [still] at hd
  | scr a => simp [still] at hd
  | ty a => simp [still] at hd
  | obj _ _ _ _ => simp [still] at hd
  | _ =>
    simp only [tyD]
    refine ⟨by decide, ?_⟩
    first
      | (rw [show isaT .none .int = false from rfl, if_neg Bool.false_ne_true]; exact q)
      | (rw [show isaT .str .int = false from rfl, if_neg Bool.false_ne_true]; exact q)
      | (rw [show isaT .tuple .int = false from rfl, if_neg Bool.false_ne_true]; exact q)
      | (rw [show isaT .list .int = false from rfl, if_neg Bool.false_ne_true]; exact q)
      | (rw [show isaT .dict .int = false from rfl, if_neg Bool.false_ne_true]; exact q)
theorem p_law_is_within (ds : List D) (M : MS) (Φ : DQ) (h : sp_law_is_within ds M Φ noX) : t_law_is_within { nx := fun _ M' => Φ .non M', rt := Φ } (startD 3 ds) M := by
  obtain ⟨d, lo, hi, rfl, hd, q⟩ := h
  exact run_num hd q
theorem use_to {d : D} {m : Int} {M : MS} {Φ : DQ} (hd : still d = true) (q : Φ (.bl (numD d 0 m)) M) : True ∧ sp_is_number_to [d, .int m] M Φ noX := ⟨trivial, d, m, rfl, hd, q⟩
theorem use_in {d : D} {lo hi : Int} {M : MS} {Φ : DQ} (hd : still d = true) (q : Φ (.bl (numD d lo hi)) M) : True ∧ sp_law_is_within [d, .int lo, .int hi] M Φ noX := ⟨trivial, d, lo, hi, rfl, hd, q⟩
theorem p_Guard_init_x (ds : List D) (M : MS) (Φ : DQ) (ξ : DX) (h : sp_Guard_init_x ds M Φ ξ) : t_Guard_init_x (fun _ => ξ) { nx := fun _ M' => Φ .non M', rt := Φ } (startD 3 ds) M := by
  obtain ⟨p, x, y, rfl, hp, hx, hy, q, r1, r2⟩ := h
  rw [show startD 3 [D.ref p, x, y] = [some (.ref p), some x, some y] from rfl]
  simp only [t_Guard_init_x, sSeq, sRet, sRetN, sNext, sIf, sAsg, sPar, sPar3, sSetI, sAug, sAugI, sDrop, sBreak, sCont, dOp, dUn, dCons, dNil, dFn, dC, dTup, dLst, dLstM, dIf, dTest, dTru, dAnd, dOr, dNot, dAndV, dOrV, dNotE, dChain, dSl, dNoPart, dPart, dSeq, dEnum, dZip, dRng1, dRng2, dYes, dCall, dMt, dVar, dDic0, dDic1, put_nm, put_tp, puts_nil, puts_cons, List.getElem?_cons_zero, List.getElem?_cons_succ, List.set_cons_zero, List.set_cons_succ, startD, List.map_cons, List.map_nil, List.cons_append, List.nil_append, List.length_cons, List.length_nil, List.replicate_succ, List.replicate_zero, Nat.reduceSub, Nat.reduceAdd, Nat.zero_add, wipeD, keyD, gSeq, gPlain, gNil, gYield, gFor, dTupP, dRngP, dCallG, sForG, dLcG, GE.at, dTupRg, dStar, sPutT, dKeysT, dDicT0, dDicT1, sAsgL, dMake, dMakeF, dProp, dMeth, dCallO, dOp3, dLenO, dStrO, sFld, sFldAug, noXs, sRaise0, sRaise1, sTry, goneE, dCntB]
  refine rSub_i (use_to hx ?_)
  rw [show (10 : Int) - 1 = 9 from rfl]
  cases hb : numD x 0 9 with
  | false =>
    simp only [truD, Bool.not_false, if_true]
    exact r1 hb
  | true =>
    simp only [truD, Bool.not_true, Bool.false_eq_true, if_false]
    refine use_to hy ?_
    cases hc : numD y 0 1000000 with
    | false =>
      simp only [truD, Bool.not_false, if_true]
      exact r2 hb hc
    | true =>
      simp only [truD, Bool.not_true, Bool.false_eq_true, if_false]
      refine ⟨p, _, _, rfl, hp, by decide, by decide, p, _, _, rfl, MS.put_same, by decide, (show (1 : Nat) < 100 by decide), ?_⟩
      rw [put_put]
      exact q hb hc
theorem rFld_guard {f : Str} {x y d : D} {M : MS} {Φ : DQ} (h : ([(("place" : Str), x), (("bottom" : Str), y)] : List (Str × D)).lookup f = some d) (hf : f ∈ fieldsT "Guard") (q : Φ d M) : rFld f (guardD x y) M Φ := ⟨"Guard", _, _, rfl, hf, h, q⟩
theorem p_Guard_post (ds : List D) (M : MS) (Φ : DQ) (h : sp_Guard_post ds M Φ noX) : t_Guard_post { nx := fun _ M' => Φ .non M', rt := Φ } (startD 1 ds) M := by
  obtain ⟨x, y, rfl, q⟩ := h
  rw [show startD 1 [guardD x y] = [some (guardD x y)] from rfl]
  simp only [t_Guard_post, sSeq, sRet, sRetN, sNext, sIf, sAsg, sPar, sPar3, sSetI, sAug, sAugI, sDrop, sBreak, sCont, dOp, dUn, dCons, dNil, dFn, dC, dTup, dLst, dLstM, dIf, dTest, dTru, dAnd, dOr, dNot, dAndV, dOrV, dNotE, dChain, dSl, dNoPart, dPart, dSeq, dEnum, dZip, dRng1, dRng2, dYes, dCall, dMt, dVar, dDic0, dDic1, put_nm, put_tp, puts_nil, puts_cons, List.getElem?_cons_zero, List.getElem?_cons_succ, List.set_cons_zero, List.set_cons_succ, startD, List.map_cons, List.map_nil, List.cons_append, List.nil_append, List.length_cons, List.length_nil, List.replicate_succ, List.replicate_zero, Nat.reduceSub, Nat.reduceAdd, Nat.zero_add, wipeD, keyD, gSeq, gPlain, gNil, gYield, gFor, dTupP, dRngP, dCallG, sForG, dLcG, GE.at, dTupRg, dStar, sPutT, dKeysT, dDicT0, dDicT1, sAsgL, dMake, dMakeF, dProp, dMeth, dCallO, dOp3, dLenO, dStrO, sFld, sFldAug, noXs, sRaise0, sRaise1, sTry, goneE, dCntB]
  exact rFld_guard rfl (by decide) q
theorem p_Guard_least (ds : List D) (M : MS) (Φ : DQ) (h : sp_Guard_least ds M Φ noX) : t_Guard_least { nx := fun _ M' => Φ .non M', rt := Φ } (startD 1 ds) M := by
  obtain ⟨x, y, rfl, q⟩ := h
  rw [show startD 1 [guardD x y] = [some (guardD x y)] from rfl]
  simp only [t_Guard_least, sSeq, sRet, sRetN, sNext, sIf, sAsg, sPar, sPar3, sSetI, sAug, sAugI, sDrop, sBreak, sCont, dOp, dUn, dCons, dNil, dFn, dC, dTup, dLst, dLstM, dIf, dTest, dTru, dAnd, dOr, dNot, dAndV, dOrV, dNotE, dChain, dSl, dNoPart, dPart, dSeq, dEnum, dZip, dRng1, dRng2, dYes, dCall, dMt, dVar, dDic0, dDic1, put_nm, put_tp, puts_nil, puts_cons, List.getElem?_cons_zero, List.getElem?_cons_succ, List.set_cons_zero, List.set_cons_succ, startD, List.map_cons, List.map_nil, List.cons_append, List.nil_append, List.length_cons, List.length_nil, List.replicate_succ, List.replicate_zero, Nat.reduceSub, Nat.reduceAdd, Nat.zero_add, wipeD, keyD, gSeq, gPlain, gNil, gYield, gFor, dTupP, dRngP, dCallG, sForG, dLcG, GE.at, dTupRg, dStar, sPutT, dKeysT, dDicT0, dDicT1, sAsgL, dMake, dMakeF, dProp, dMeth, dCallO, dOp3, dLenO, dStrO, sFld, sFldAug, noXs, sRaise0, sRaise1, sTry, goneE, dCntB]
  exact rFld_guard rfl (by decide) q
theorem numD_i {d : D} {lo hi : Int} (h : numD d lo hi = true) : ∃ i, d = .int i ∧ lo ≤ i ∧ i ≤ hi := by
  cases d with
  | int i =>
    simp only [numD, Bool.and_eq_true, decide_eq_true_eq] at h
    exact ⟨i, rfl, h.1, h.2⟩
  | _ => cases h
theorem p_Guard_short_v2_x (ds : List D) (M : MS) (Φ : DQ) (ξ : DX) (h : sp_Guard_short_v2_x ds M Φ ξ) : t_Guard_short_v2_x (fun _ => ξ) { nx := fun _ M' => Φ .non M', rt := Φ } (startD 2 ds) M := by
  obtain ⟨x, j, v, rfl, hv, q, r⟩ := h
  rw [show startD 2 [guardD x (.int j), v] = [some (guardD x (.int j)), some v] from rfl]
  simp only [t_Guard_short_v2_x, sSeq, sRet, sRetN, sNext, sIf, sAsg, sPar, sPar3, sSetI, sAug, sAugI, sDrop, sBreak, sCont, dOp, dUn, dCons, dNil, dFn, dC, dTup, dLst, dLstM, dIf, dTest, dTru, dAnd, dOr, dNot, dAndV, dOrV, dNotE, dChain, dSl, dNoPart, dPart, dSeq, dEnum, dZip, dRng1, dRng2, dYes, dCall, dMt, dVar, dDic0, dDic1, put_nm, put_tp, puts_nil, puts_cons, List.getElem?_cons_zero, List.getElem?_cons_succ, List.set_cons_zero, List.set_cons_succ, startD, List.map_cons, List.map_nil, List.cons_append, List.nil_append, List.length_cons, List.length_nil, List.replicate_succ, List.replicate_zero, Nat.reduceSub, Nat.reduceAdd, Nat.zero_add, wipeD, keyD, gSeq, gPlain, gNil, gYield, gFor, dTupP, dRngP, dCallG, sForG, dLcG, GE.at, dTupRg, dStar, sPutT, dKeysT, dDicT0, dDicT1, sAsgL, dMake, dMakeF, dProp, dMeth, dCallO, dOp3, dLenO, dStrO, sFld, sFldAug, noXs, sRaise0, sRaise1, sTry, goneE, dCntB]
  refine use_to hv ?_
  cases hb : numD v 0 1000000 with
  | false =>
    simp only [truD, Bool.not_false, if_true]
    exact r hb
  | true =>
    obtain ⟨i, rfl, h0, h1⟩ := numD_i hb
    simp only [truD, Bool.not_true, Bool.false_eq_true, if_false]
    refine rFld_guard rfl (by decide) (rSub_i ?_)
    exact q i rfl h0 h1
def oddsG : List D := [.non, .bl true, .bl false, .int (-1), .int 10, .int (10 ^ 6 + 1), .int (10 ^ 39), .str "5", .str "", .tup [], .lst [], .dic [] [], .tup [.int 3]]
theorem oddsG_all : (oddsG.all fun d => fineB d 3 10000 && fineB (.str (rpr d)) 0 1921) = true := by decide +kernel
theorem oddsG_fine {d : D} (h : d ∈ oddsG) : F2 d 3 10000 ∧ F2 (.str (rpr d)) 0 1921 := by
  have := List.all_eq_true.mp oddsG_all d h
  rw [Bool.and_eq_true] at this
  exact ⟨F2.of this.1, F2.of this.2⟩
def postG (v : D) : D := .lst [.str "post", .str (rpr v)]
def leastG (v : D) : D := .lst [.str "least", .str (rpr v)]
def madeG (x y : D) : D := if numD x 0 9 = true then (if numD y 0 1000000 = true then guardD x y else leastG y) else postG x
def shortG (j : Int) (v : D) : D := match v with
  | .int i => if numD (.int i) 0 1000000 = true then .int (max 0 (j - i)) else leastG (.int i)
  | v => leastG v
def sp_law_error_v2 : DSp := fun ds M Φ _ => ∃ n v r, ds = [excD n [("value", v)]] ∧ ((n = "BadPost" ∧ r = postG v) ∨ (n = "BadLeast" ∧ r = leastG v)) ∧ v ∈ oddsG ∧ Φ r M
def sp_law_made : DSp := fun ds M Φ _ => ∃ x y, ds = [x, y] ∧ still x = true ∧ still y = true ∧ (numD x 0 9 = false → x ∈ oddsG) ∧ (numD y 0 1000000 = false → y ∈ oddsG) ∧ ∀ M', Ext M M' → Φ (madeG x y) M'
def sp_law_short : DSp := fun ds M Φ _ => ∃ x j v, ds = [guardD x (.int j), v] ∧ still v = true ∧ (numD v 0 1000000 = false → v ∈ oddsG) ∧ Φ (shortG j v) M
def t_law_error_v2 : DS := (sSeq (sAsg (dLst (dCons (dFn rIsiE (dCons (dVar 0) (dCons (dC (.obj .cls "BadPost" [] [])) dNil))) (dCons (dFn rIsiE (dCons (dVar 0) (dCons (dC (.obj .cls "BadLeast" [] [])) dNil))) dNil))) (.nm 1)) (sSeq (sIf (dOr (dTest (dOp rNe (dCntB (dVar 1) (dC (.bl true))) (dC (.int 1)))) (dOr (dNot (dTru (dFn rIsiE (dCons (dVar 0) (dCons (dC (.ty .verr)) dNil))))) (dTru (dFn rIsiE (dCons (dVar 0) (dCons (dTup (dCons (dC (.obj .cls "BadCount" [] [])) (dCons (dC (.obj .cls "BadNumbers" [] [])) (dCons (dC (.obj .cls "TooLow" [] [])) dNil)))) dNil)))))) (sSeq (sRet (dLst (dCons (dC (.str "other")) dNil))) sNext) sNext) (sSeq (sRet (dLst (dCons (dOp rIx (dLst (dCons (dC (.str "post")) (dCons (dC (.str "least")) dNil))) (dIdxB (dVar 1) (dC (.bl true)))) (dCons (dFn rRepr (dCons (dUn (rXf "value") (dVar 0)) dNil)) dNil)))) sNext)))
def t_law_made : DS := (sSeq (sTry "ChairError" 2 (fun ξ1 => (sSeq (sRet (dMakeF "Guard" 3 sp_Guard_init_x ξ1 (dCons (dVar 0) (dCons (dVar 1) dNil)))) sNext)) (sSeq (sRet (dCall 1 sp_law_error_v2 (dCons (dVar 2) dNil))) sNext) noXs) sNext)
def t_law_short : DS := (sSeq (sTry "ChairError" 2 (fun ξ1 => (sSeq (sRet (dMeth "short" 2 [("Guard", sp_Guard_short_v2_x)] ξ1 (dVar 0) (dCons (dVar 1) dNil))) sNext)) (sSeq (sRet (dCall 1 sp_law_error_v2 (dCons (dVar 2) dNil))) sNext) noXs) sNext)
theorem p_law_error_v2 (ds : List D) (M : MS) (Φ : DQ) (h : sp_law_error_v2 ds M Φ noX) : t_law_error_v2 { nx := fun _ M' => Φ .non M', rt := Φ } (startD 2 ds) M := by
  obtain ⟨n, v, r, rfl, hr, hv, q⟩ := h
  rw [show startD 2 [excD n [("value", v)]] = [some (excD n [("value", v)]), none] from rfl]
  have fv := oddsG_fine hv
  rcases hr with ⟨rfl, rfl⟩ | ⟨rfl, rfl⟩
  · simp only [t_law_error_v2, sSeq, sRet, sRetN, sNext, sIf, sAsg, sPar, sPar3, sSetI, sAug, sAugI, sDrop, sBreak, sCont, dOp, dUn, dCons, dNil, dFn, dC, dTup, dLst, dLstM, dIf, dTest, dTru, dAnd, dOr, dNot, dAndV, dOrV, dNotE, dChain, dSl, dNoPart, dPart, dSeq, dEnum, dZip, dRng1, dRng2, dYes, dCall, dMt, dVar, dDic0, dDic1, put_nm, put_tp, puts_nil, puts_cons, List.getElem?_cons_zero, List.getElem?_cons_succ, List.set_cons_zero, List.set_cons_succ, startD, List.map_cons, List.map_nil, List.cons_append, List.nil_append, List.length_cons, List.length_nil, List.replicate_succ, List.replicate_zero, Nat.reduceSub, Nat.reduceAdd, Nat.zero_add, wipeD, keyD, gSeq, gPlain, gNil, gYield, gFor, dTupP, dRngP, dCallG, sForG, dLcG, GE.at, dTupRg, dStar, sPutT, dKeysT, dDicT0, dDicT1, sAsgL, dMake, dMakeF, dProp, dMeth, dCallO, dOp3, dLenO, dStrO, sFld, sFldAug, noXs, sRaise0, sRaise1, sTry, goneE, dCntB, dIdxB, dFmt4, dJoin, rIsiE, excD]
    refine ⟨true, by decide, false, by decide, by decide, ⟨_, rfl⟩, [true, false], true, rfl, rfl, rNe_i ?_⟩
    rw [show (!((([true, false].count true : Nat) : Int) == 1)) = false from by decide]
    simp only [Bool.false_eq_true, if_false]
    refine ⟨true, by decide, ?_⟩
    simp only [truD, Bool.not_true, Bool.false_eq_true, if_false]
    refine ⟨by decide, false, by decide, ?_⟩
    simp only [truD, Bool.false_eq_true, if_false]
    refine ⟨by decide, ⟨_, rfl⟩, [true, false], true, 0, rfl, rfl, rfl, fun m hm => by omega, by decide, rIx_seq (x := .lst _) rfl (by rw [show (((0 : Nat) : Nat) : Int) = 0 from rfl, at0]; rfl) ?_⟩
    refine ⟨by decide, _, rfl, repr_fin2 (fv.1.fin (by decide)) (by decide) ⟨by decide, q⟩⟩
  · simp only [t_law_error_v2, sSeq, sRet, sRetN, sNext, sIf, sAsg, sPar, sPar3, sSetI, sAug, sAugI, sDrop, sBreak, sCont, dOp, dUn, dCons, dNil, dFn, dC, dTup, dLst, dLstM, dIf, dTest, dTru, dAnd, dOr, dNot, dAndV, dOrV, dNotE, dChain, dSl, dNoPart, dPart, dSeq, dEnum, dZip, dRng1, dRng2, dYes, dCall, dMt, dVar, dDic0, dDic1, put_nm, put_tp, puts_nil, puts_cons, List.getElem?_cons_zero, List.getElem?_cons_succ, List.set_cons_zero, List.set_cons_succ, startD, List.map_cons, List.map_nil, List.cons_append, List.nil_append, List.length_cons, List.length_nil, List.replicate_succ, List.replicate_zero, Nat.reduceSub, Nat.reduceAdd, Nat.zero_add, wipeD, keyD, gSeq, gPlain, gNil, gYield, gFor, dTupP, dRngP, dCallG, sForG, dLcG, GE.at, dTupRg, dStar, sPutT, dKeysT, dDicT0, dDicT1, sAsgL, dMake, dMakeF, dProp, dMeth, dCallO, dOp3, dLenO, dStrO, sFld, sFldAug, noXs, sRaise0, sRaise1, sTry, goneE, dCntB, dIdxB, dFmt4, dJoin, rIsiE, excD]
    refine ⟨false, by decide, true, by decide, by decide, ⟨_, rfl⟩, [false, true], true, rfl, rfl, rNe_i ?_⟩
    rw [show (!((([false, true].count true : Nat) : Int) == 1)) = false from by decide]
    simp only [Bool.false_eq_true, if_false]
    refine ⟨true, by decide, ?_⟩
    simp only [truD, Bool.not_true, Bool.false_eq_true, if_false]
    refine ⟨by decide, false, by decide, ?_⟩
    simp only [truD, Bool.false_eq_true, if_false]
    refine ⟨by decide, ⟨_, rfl⟩, [false, true], true, 1, rfl, rfl, rfl, fun m hm => (by obtain rfl : m = 0 := by omega
                                                                                        decide), by decide, rIx_seq (x := .lst _) rfl (by rw [show (((1 : Nat) : Nat) : Int) = 1 from rfl, at1]; rfl) ?_⟩
    refine ⟨by decide, _, rfl, repr_fin2 (fv.1.fin (by decide)) (by decide) ⟨by decide, q⟩⟩
theorem p_law_made (ds : List D) (M : MS) (Φ : DQ) (h : sp_law_made ds M Φ noX) : t_law_made { nx := fun _ M' => Φ .non M', rt := Φ } (startD 3 ds) M := by
  obtain ⟨x, y, rfl, hx, hy, ox, oy, q⟩ := h
  rw [show startD 3 [x, y] = [some x, some y, none] from rfl]
  simp only [t_law_made, sSeq, sRet, sRetN, sNext, sIf, sAsg, sPar, sPar3, sSetI, sAug, sAugI, sDrop, sBreak, sCont, dOp, dUn, dCons, dNil, dFn, dC, dTup, dLst, dLstM, dIf, dTest, dTru, dAnd, dOr, dNot, dAndV, dOrV, dNotE, dChain, dSl, dNoPart, dPart, dSeq, dEnum, dZip, dRng1, dRng2, dYes, dCall, dMt, dVar, dDic0, dDic1, put_nm, put_tp, puts_nil, puts_cons, List.getElem?_cons_zero, List.getElem?_cons_succ, List.set_cons_zero, List.set_cons_succ, startD, List.map_cons, List.map_nil, List.cons_append, List.nil_append, List.length_cons, List.length_nil, List.replicate_succ, List.replicate_zero, Nat.reduceSub, Nat.reduceAdd, Nat.zero_add, wipeD, keyD, gSeq, gPlain, gNil, gYield, gFor, dTupP, dRngP, dCallG, sForG, dLcG, GE.at, dTupRg, dStar, sPutT, dKeysT, dDicT0, dDicT1, sAsgL, dMake, dMakeF, dProp, dMeth, dCallO, dOp3, dLenO, dStrO, sFld, sFldAug, noXs, sRaise0, sRaise1, sTry, goneE, dCntB]
  unfold madeG at q
  refine ⟨trivial, fun p hp => ⟨p, x, y, rfl, MS.put_same, hx, hy, fun h1 h2 => ⟨rfl, _, MS.put_same, ?_⟩, fun h1 => ?_, fun h1 h2 => ?_⟩⟩
  · rw [put_put_del hp]
    rw [if_pos h1, if_pos h2] at q
    exact q _ Ext.refl
  · rw [if_neg (by rw [h1]; decide)] at q
    rw [if_pos (by decide)]
    exact ⟨trivial, "BadPost", x, _, rfl, .inl ⟨rfl, rfl⟩, ox h1, q _ (Ext.new hp)⟩
  · rw [if_pos h1, if_neg (by rw [h2]; decide)] at q
    rw [if_pos (by decide)]
    exact ⟨trivial, "BadLeast", y, _, rfl, .inr ⟨rfl, rfl⟩, oy h2, q _ (Ext.new hp)⟩
theorem p_law_short (ds : List D) (M : MS) (Φ : DQ) (h : sp_law_short ds M Φ noX) : t_law_short { nx := fun _ M' => Φ .non M', rt := Φ } (startD 3 ds) M := by
  obtain ⟨x, j, v, rfl, hv, ov, q⟩ := h
  rw [show startD 3 [guardD x (.int j), v] = [some (guardD x (.int j)), some v, none] from rfl]
  simp only [t_law_short, sSeq, sRet, sRetN, sNext, sIf, sAsg, sPar, sPar3, sSetI, sAug, sAugI, sDrop, sBreak, sCont, dOp, dUn, dCons, dNil, dFn, dC, dTup, dLst, dLstM, dIf, dTest, dTru, dAnd, dOr, dNot, dAndV, dOrV, dNotE, dChain, dSl, dNoPart, dPart, dSeq, dEnum, dZip, dRng1, dRng2, dYes, dCall, dMt, dVar, dDic0, dDic1, put_nm, put_tp, puts_nil, puts_cons, List.getElem?_cons_zero, List.getElem?_cons_succ, List.set_cons_zero, List.set_cons_succ, startD, List.map_cons, List.map_nil, List.cons_append, List.nil_append, List.length_cons, List.length_nil, List.replicate_succ, List.replicate_zero, Nat.reduceSub, Nat.reduceAdd, Nat.zero_add, wipeD, keyD, gSeq, gPlain, gNil, gYield, gFor, dTupP, dRngP, dCallG, sForG, dLcG, GE.at, dTupRg, dStar, sPutT, dKeysT, dDicT0, dDicT1, sAsgL, dMake, dMakeF, dProp, dMeth, dCallO, dOp3, dLenO, dStrO, sFld, sFldAug, noXs, sRaise0, sRaise1, sTry, goneE, dCntB]
  refine ⟨"Guard", _, sp_Guard_short_v2_x, rfl, rfl, rfl, trivial, x, j, v, rfl, hv, fun i hi h0 h1 => ?_, fun hb => ?_⟩
  · subst hi
    unfold shortG at q
    dsimp only at q
    rw [if_pos (by simp only [numD, decide_eq_true h0, decide_eq_true h1]; rfl)] at q
    exact q
  · have e : shortG j v = leastG v := by
      cases v with
      | int i => unfold shortG; dsimp only; rw [if_neg (by rw [hb]; decide)]
      | _ => rfl
    rw [e] at q
    dsimp only
    rw [if_pos (by decide)]
    exact ⟨trivial, "BadLeast", v, _, rfl, .inr ⟨rfl, rfl⟩, ov hb, q⟩
end DL
namespace DL
open PySem PySem.Spec PyProof.Rows L2
/-- numbers up to a bound, and odd values -/
def gv (m : Int) (d : D) : Prop := d ∈ oddsG ∨ ∃ i, d = .int i ∧ 0 ≤ i ∧ i ≤ m
theorem gv_fine {m : Int} {d : D} (h : gv m d) (hm : m ≤ 1000001) : F2 d 3 10000 := by
  rcases h with h | ⟨i, rfl, h0, h1⟩
  · exact (oddsG_fine h).1
  · exact (F2.int (by omega) (by omega)).mono (by decide) (by decide)
theorem gv_no {m : Int} {d : D} (h : gv m d) (hm : numD d 0 m = false) : d ∈ oddsG := by
  rcases h with h | ⟨i, rfl, h0, h1⟩
  · exact h
  · simp only [numD, decide_eq_true h0, decide_eq_true h1] at hm; cases hm
theorem gv_no1 {d : D} (h : gv 1000001 d) (hm : numD d 0 1000000 = false) : d ∈ oddsG := by
  rcases h with h | ⟨i, rfl, h0, h1⟩
  · exact h
  · by_cases h2 : i ≤ 1000000
    · simp only [numD, decide_eq_true h0, decide_eq_true h2] at hm; cases hm
    · obtain rfl : i = 1000001 := by omega
      exact List.mem_of_getElem? (show oddsG[5]? = some (.int 1000001) from rfl)
theorem odd_f : D.bl false ∈ oddsG := List.mem_of_getElem? (show oddsG[2]? = some (.bl false) from rfl)
theorem odd_t : D.bl true ∈ oddsG := List.mem_of_getElem? (show oddsG[1]? = some (.bl true) from rfl)
theorem odd_at {r : Int} (h0 : 0 ≤ r) (h1 : r < 13) {M : MS} {Φ : DQ} (q : ∀ d, d ∈ oddsG → Φ d M) : rIx (.lst oddsG) (.int r) M Φ := by
  have hr : r.toNat < oddsG.length := by have : oddsG.length = 13 := rfl; omega
  exact rIx_seq (x := .lst oddsG) rfl (d := oddsG[r.toNat]) (by rw [atI_t _ _ h0, List.getElem?_eq_getElem hr]) (q _ (List.getElem_mem hr))
theorem pick4 {m : Int} {a b c d : D} (ha : gv m a) (hb : gv m b) (hc : gv m c) (hd : gv m d) {r : Int} (h0 : 0 ≤ r) (h1 : r < 4) {M : MS} {Φ : DQ} (q : ∀ x, gv m x → Φ x M) : rIx (.lst [a, b, c, d]) (.int r) M Φ := by
  have hr : r.toNat < [a, b, c, d].length := by have : [a, b, c, d].length = 4 := rfl; omega
  refine rIx_seq (x := .lst [a, b, c, d]) rfl (d := [a, b, c, d][r.toNat]) (by rw [atI_t _ _ h0, List.getElem?_eq_getElem hr]) (q _ ?_)
  have hm : ∀ x ∈ [a, b, c, d], gv m x := fun x hx => by
    simp only [List.mem_cons, List.not_mem_nil, or_false] at hx
    rcases hx with rfl | rfl | rfl | rfl <;> assumption
  exact hm _ (List.getElem_mem hr)
theorem oddsG_plain : (oddsG.all fun d => plain (.str (rpr d))) = true := by decide +kernel
theorem post_plain {v : D} (h : v ∈ oddsG) : plain (.lst [.str "post", .str (rpr v)]) = true := by
  have h2 := List.all_eq_true.mp oddsG_plain v h
  simp only [plain] at h2
  simp only [plain, plains, h2, Bool.and_true, show PyData.strOk "post" = true from by decide +kernel]
theorem least_plain {v : D} (h : v ∈ oddsG) : plain (.lst [.str "least", .str (rpr v)]) = true := by
  have h2 := List.all_eq_true.mp oddsG_plain v h
  simp only [plain] at h2
  simp only [plain, plains, h2, Bool.and_true, show PyData.strOk "least" = true from by decide +kernel]
theorem eqd_two (a b : Str) : eqd (.lst [.str a, .str b]) (.lst [.str a, .str b]) = true := by simp [eqd, eqds]
theorem least_f2 {v : D} (h : v ∈ oddsG) : F2 (leastG v) 3 10000 :=
  ((A2.lst (n := 0) (w := 1921) (L := 2) (A2.cons (F2.of (by decide +kernel)) (A2.cons (oddsG_fine h).2 A2.nil)) (Nat.le_refl 2))).mono (by decide) (by decide)
theorem short_f2 {j : Int} {v : D} (h : gv 1000001 v) (hj : 0 ≤ j) (hj2 : j ≤ 1000000) : F2 (shortG j v) 3 10000 := by
  cases hb : numD v 0 1000000 with
  | true =>
    obtain ⟨i, rfl, h0, h1⟩ := numD_i hb
    unfold shortG
    dsimp only
    rw [if_pos hb]
    exact (F2.int (by omega) (by omega)).mono (by decide) (by decide)
  | false =>
    have e : shortG j v = leastG v := by
      cases v with
      | int i => unfold shortG; dsimp only; rw [if_neg (by rw [hb]; decide)]
      | _ => rfl
    rw [e]
    exact least_f2 (gv_no1 h hb)
def sp_law_k46 : DSp := fun ds M Φ _ => ∃ ns : List Int, ds = [.scr ns] ∧ ∀ M', Φ (.bl true) M'
def t_law_k46 : DS := (sSeq (sAsg (dCall 1 sp_law_deck (dCons (dVar 0) dNil)) (.nm 1)) (sSeq (sAsg (dLst (dCons (dC .non) (dCons (dC (.bl true)) (dCons (dC (.bl false)) (dCons (dUn rNeg (dC (.int 1))) (dCons (dC (.int 10)) (dCons (dOp rAdd (dOp rPow (dC (.int 10)) (dC (.int 6))) (dC (.int 1))) (dCons (dOp rPow (dC (.int 10)) (dC (.int 39))) (dCons (dC (.str "5")) (dCons (dC (.str "")) (dCons (dTup dNil) (dCons (dLst dNil) (dCons dDic0 (dCons (dTup (dCons (dC (.int 3)) dNil)) dNil)))))))))))))) (.nm 2)) (sSeq (sFor (dRng1 (dC (.int 6))) (.nm 3) (sSeq (sAsg (dOp rIx (dLst (dCons (dC (.int 0)) (dCons (dC (.int 9)) (dCons (dCall 2 sp_law_draw_v3 (dCons (dVar 1) (dCons (dC (.int 10)) dNil))) (dCons (dOp rIx (dVar 2) (dCall 2 sp_law_draw_v3 (dCons (dVar 1) (dCons (dC (.int 13)) dNil)))) dNil))))) (dCall 2 sp_law_draw_v3 (dCons (dVar 1) (dCons (dC (.int 4)) dNil)))) (.nm 4)) (sSeq (sAsg (dOp rIx (dLst (dCons (dC (.int 0)) (dCons (dOp rPow (dC (.int 10)) (dC (.int 6))) (dCons (dCall 2 sp_law_draw_v3 (dCons (dVar 1) (dCons (dOp rAdd (dOp rPow (dC (.int 10)) (dC (.int 6))) (dC (.int 1))) dNil))) (dCons (dOp rIx (dVar 2) (dCall 2 sp_law_draw_v3 (dCons (dVar 1) (dCons (dC (.int 13)) dNil)))) dNil))))) (dCall 2 sp_law_draw_v3 (dCons (dVar 1) (dCons (dC (.int 4)) dNil)))) (.nm 5)) (sSeq (sAsg (dCall 2 sp_law_made (dCons (dVar 4) (dCons (dVar 5) dNil))) (.nm 6)) (sSeq (sIf (dOr (dNot (dTru (dCall 3 sp_law_is_within (dCons (dVar 4) (dCons (dC (.int 0)) (dCons (dC (.int 9)) dNil)))))) (dNot (dTru (dCall 3 sp_law_is_within (dCons (dVar 5) (dCons (dC (.int 0)) (dCons (dOp rPow (dC (.int 10)) (dC (.int 6))) dNil))))))) (sSeq (sAsg (dIf (dTru (dCall 3 sp_law_is_within (dCons (dVar 4) (dCons (dC (.int 0)) (dCons (dC (.int 9)) dNil))))) (dLst (dCons (dC (.str "least")) (dCons (dFn rRepr (dCons (dVar 5) dNil)) dNil))) (dLst (dCons (dC (.str "post")) (dCons (dFn rRepr (dCons (dVar 4) dNil)) dNil)))) (.nm 7)) (sSeq (sIf (dOr (dNot (dTru (dFn rIsiO (dCons (dVar 6) (dCons (dC (.ty .list)) dNil))))) (dTest (dOp rNe (dVar 6) (dVar 7)))) (sSeq (sRet (dC (.bl false))) sNext) sNext) sNext)) (sSeq (sIf (dTru (dFn rIsiO (dCons (dVar 6) (dCons (dC (.ty .list)) dNil)))) (sSeq (sRet (dC (.bl false))) sNext) (sSeq (sAsg (dLst (dCons (dC (.int 0)) (dCons (dC (.bl false)) (dCons (dC (.int 1)) (dCons (dC (.bl true)) (dCons (dVar 5) (dCons (dFn rMax (dCons (dC (.int 0)) (dCons (dOp rSub (dVar 5) (dC (.int 1))) dNil))) (dCons (dOp rAdd (dVar 5) (dC (.int 1))) (dCons (dCall 2 sp_law_draw_v3 (dCons (dVar 1) (dCons (dOp rAdd (dOp rPow (dC (.int 10)) (dC (.int 6))) (dC (.int 1))) dNil))) (dCons (dOp rPow (dC (.int 10)) (dC (.int 6))) dNil)))))))))) (.nm 8)) (sSeq (sFor (dSeq (dOp rAdd (dVar 8) (dLst (dCons (dOp rIx (dVar 2) (dCall 2 sp_law_draw_v3 (dCons (dVar 1) (dCons (dC (.int 13)) dNil)))) (dCons (dOp rIx (dVar 2) (dCall 2 sp_law_draw_v3 (dCons (dVar 1) (dCons (dC (.int 13)) dNil)))) dNil))))) (.nm 9) (sSeq (sAsg (dLst (dCons (dC (.str "least")) (dCons (dFn rRepr (dCons (dVar 9) dNil)) dNil))) (.nm 7)) (sSeq (sIf (dTru (dCall 3 sp_law_is_within (dCons (dVar 9) (dCons (dC (.int 0)) (dCons (dOp rPow (dC (.int 10)) (dC (.int 6))) dNil))))) (sSeq (sAsg (dFn rMax (dCons (dC (.int 0)) (dCons (dOp rSub (dVar 5) (dVar 9)) dNil))) (.nm 7)) sNext) sNext) (sSeq (sIf (dTest (dOp rNe (dFn rRepr (dCons (dLst (dCons (dCall 2 sp_law_short (dCons (dVar 6) (dCons (dVar 9) dNil))) (dCons (dProp [("Guard", sp_Guard_post)] noXs (dVar 6)) (dCons (dProp [("Guard", sp_Guard_least)] noXs (dVar 6)) dNil)))) dNil)) (dFn rRepr (dCons (dLst (dCons (dVar 7) (dCons (dVar 4) (dCons (dVar 5) dNil)))) dNil)))) (sSeq (sRet (dC (.bl false))) sNext) sNext) sNext)))) sNext))) sNext)) sNext))))) (sSeq (sRet (dC (.bl true))) sNext))))
theorem p_law_k46 (ds : List D) (M : MS) (Φ : DQ) (h : sp_law_k46 ds M Φ noX) : t_law_k46 { nx := fun _ M' => Φ .non M', rt := Φ } (startD 10 ds) M := by
  obtain ⟨ns, rfl, h⟩ := h
  rw [show startD 10 [D.scr ns] = [some (.scr ns), none, none, none, none, none, none, none, none, none] from rfl]
  unfold t_law_k46
  refine seq_post (fun ρ M => ∃ a c, ρ = [some (.scr ns), some (.ref a), none, none, none, none, none, none, none, none] ∧ Dk M a c (2 ^ 40)) (fun ρ M q => ?_) (fun K nk => ?_)
  rotate_left
  · simp only [sSeq, sRet, sRetN, sNext, sIf, sAsg, sPar, sPar3, sSetI, sAug, sAugI, sDrop, sBreak, sCont, dOp, dUn, dCons, dNil, dFn, dC, dTup, dLst, dLstM, dIf, dTest, dTru, dAnd, dOr, dNot, dAndV, dOrV, dNotE, dChain, dSl, dNoPart, dPart, dSeq, dEnum, dZip, dRng1, dRng2, dYes, dCall, dMt, dVar, dDic0, dDic1, put_nm, put_tp, puts_nil, puts_cons, List.getElem?_cons_zero, List.getElem?_cons_succ, List.set_cons_zero, List.set_cons_succ, startD, List.map_cons, List.map_nil, List.cons_append, List.nil_append, List.length_cons, List.length_nil, List.replicate_succ, List.replicate_zero, Nat.reduceSub, Nat.reduceAdd, Nat.zero_add, wipeD, keyD, gSeq, gPlain, gNil, gYield, gFor, dTupP, dRngP, dCallG, sForG, dLcG, GE.at, dTupRg, dStar, sPutT, dKeysT, dDicT0, dDicT1, sAsgL, dMake, dMakeF, dProp, dMeth, dCallO, dOp3, dLenO, dStrO, sFld, sFldAug, noXs, sRaise0, sRaise1, sTry, goneE, dCntB]
    exact ⟨trivial, ns, rfl, fun a c M' _ _ hD _ => nk _ _ ⟨a, c, rfl, hD⟩⟩
  obtain ⟨a, c, rfl, hD0⟩ := q
  refine seq_post (fun ρ M => ρ = [some (.scr ns), some (.ref a), some (.lst oddsG), none, none, none, none, none, none, none] ∧ Dk M a c (2 ^ 40)) (fun ρ M q => ?_) (fun K nk => ?_)
  rotate_left
  · simp only [sSeq, sRet, sRetN, sNext, sIf, sAsg, sPar, sPar3, sSetI, sAug, sAugI, sDrop, sBreak, sCont, dOp, dUn, dCons, dNil, dFn, dC, dTup, dLst, dLstM, dIf, dTest, dTru, dAnd, dOr, dNot, dAndV, dOrV, dNotE, dChain, dSl, dNoPart, dPart, dSeq, dEnum, dZip, dRng1, dRng2, dYes, dCall, dMt, dVar, dDic0, dDic1, put_nm, put_tp, puts_nil, puts_cons, List.getElem?_cons_zero, List.getElem?_cons_succ, List.set_cons_zero, List.set_cons_succ, startD, List.map_cons, List.map_nil, List.cons_append, List.nil_append, List.length_cons, List.length_nil, List.replicate_succ, List.replicate_zero, Nat.reduceSub, Nat.reduceAdd, Nat.zero_add, wipeD, keyD, gSeq, gPlain, gNil, gYield, gFor, dTupP, dRngP, dCallG, sForG, dLcG, GE.at, dTupRg, dStar, sPutT, dKeysT, dDicT0, dDicT1, sAsgL, dMake, dMakeF, dProp, dMeth, dCallO, dOp3, dLenO, dStrO, sFld, sFldAug, noXs, sRaise0, sRaise1, sTry, goneE, dCntB, rNeg]
    refine rPow_i ⟨by decide, by decide, by decide⟩ (rAdd_i (rPow_i ⟨by decide, by decide, by decide⟩ ⟨by decide, by decide, by decide, by decide, nk _ _ ⟨rfl, hD0⟩⟩))
  clear hD0
  obtain ⟨rfl, hD0⟩ := q
  refine seq_post (fun ρ M => True) (fun ρ M q => ?_) (fun K nk => ?_)
  · simp only [sSeq, sRet, sRetN, sNext, sIf, sAsg, sPar, sPar3, sSetI, sAug, sAugI, sDrop, sBreak, sCont, dOp, dUn, dCons, dNil, dFn, dC, dTup, dLst, dLstM, dIf, dTest, dTru, dAnd, dOr, dNot, dAndV, dOrV, dNotE, dChain, dSl, dNoPart, dPart, dSeq, dEnum, dZip, dRng1, dRng2, dYes, dCall, dMt, dVar, dDic0, dDic1, put_nm, put_tp, puts_nil, puts_cons, List.getElem?_cons_zero, List.getElem?_cons_succ, List.set_cons_zero, List.set_cons_succ, startD, List.map_cons, List.map_nil, List.cons_append, List.nil_append, List.length_cons, List.length_nil, List.replicate_succ, List.replicate_zero, Nat.reduceSub, Nat.reduceAdd, Nat.zero_add, wipeD, keyD, gSeq, gPlain, gNil, gYield, gFor, dTupP, dRngP, dCallG, sForG, dLcG, GE.at, dTupRg, dStar, sPutT, dKeysT, dDicT0, dDicT1, sAsgL, dMake, dMakeF, dProp, dMeth, dCallO, dOp3, dLenO, dStrO, sFld, sFldAug, noXs, sRaise0, sRaise1, sTry, goneE, dCntB]
    exact h M
  simp only [sFor, dRng1, dC]
  refine ⟨by decide, by decide, ?_⟩
  refine forW_inv (fun ds ρ M => (∃ r3 r4 r5 r6 r7 r8 r9, ρ = [some (.scr ns), some (.ref a), some (.lst oddsG), r3, r4, r5, r6, r7, r8, r9]) ∧ Dk M a c (20 * ds.length)) (fun _ _ _ _ => trivial) (fun ρ M' q => nk _ _ trivial) (fun d ds ρ M' Nx q nx => ?_) _ _ _
    ⟨⟨_, _, _, _, _, _, _, rfl⟩, hD0.mono (by rw [rangeD_length]; decide)⟩
  obtain ⟨⟨r3, r4, r5, r6, r7, r8, r9, rfl⟩, hD⟩ := q
  rw [List.length_cons] at hD
  refine ⟨_, rfl, ?_⟩
  have e2 : ([some (.scr ns), some (.ref a), some (.lst oddsG), r3, r4, r5, r6, r7, r8, r9] : DEnv).set 3 (some d) = [some (.scr ns), some (.ref a), some (.lst oddsG), some d, r4, r5, r6, r7, r8, r9] := rfl
  rw [e2]
  have gi : ∀ {m i : Int}, 0 ≤ i → i ≤ m → gv m (.int i) := fun h0 h1 => .inr ⟨_, rfl, h0, h1⟩
  refine seq_post (fun ρ M => ∃ x, gv 9 x ∧ ρ = [some (.scr ns), some (.ref a), some (.lst oddsG), some d, some x, r5, r6, r7, r8, r9] ∧ Dk M a c (20 * ds.length + 17)) (fun ρ M q => ?_) (fun K nk => ?_)
  rotate_left
  · simp only [sSeq, sRet, sRetN, sNext, sIf, sAsg, sPar, sPar3, sSetI, sAug, sAugI, sDrop, sBreak, sCont, dOp, dUn, dCons, dNil, dFn, dC, dTup, dLst, dLstM, dIf, dTest, dTru, dAnd, dOr, dNot, dAndV, dOrV, dNotE, dChain, dSl, dNoPart, dPart, dSeq, dEnum, dZip, dRng1, dRng2, dYes, dCall, dMt, dVar, dDic0, dDic1, put_nm, put_tp, puts_nil, puts_cons, List.getElem?_cons_zero, List.getElem?_cons_succ, List.set_cons_zero, List.set_cons_succ, startD, List.map_cons, List.map_nil, List.cons_append, List.nil_append, List.length_cons, List.length_nil, List.replicate_succ, List.replicate_zero, Nat.reduceSub, Nat.reduceAdd, Nat.zero_add, wipeD, keyD, gSeq, gPlain, gNil, gYield, gFor, dTupP, dRngP, dCallG, sForG, dLcG, GE.at, dTupRg, dStar, sPutT, dKeysT, dDicT0, dDicT1, sAsgL, dMake, dMakeF, dProp, dMeth, dCallO, dOp3, dLenO, dStrO, sFld, sFldAug, noXs, sRaise0, sRaise1, sTry, goneE, dCntB]
    refine use_draw3 (k := 20 * ds.length + 19) (hD.mono (by omega)) (by decide) (by decide) fun v M1 d1 k1 v0 v1 => ?_
    refine use_draw3 (k := 20 * ds.length + 18) d1 (by decide) (by decide) fun w M2 d2 k2 w0 w1 => odd_at w0 w1 fun o ho => ⟨by decide, ?_⟩
    refine use_draw3 (k := 20 * ds.length + 17) d2 (by decide) (by decide) fun z M3 d3 k3 z0 z1 => pick4 (gi (by decide) (by decide)) (gi (by decide) (by decide)) (gi v0 (by omega)) (.inl ho) z0 z1 fun x hx => nk _ _ ⟨x, hx, rfl, d3⟩
  clear hD
  obtain ⟨x, gx, rfl, hD⟩ := q
  refine seq_post (fun ρ M => ∃ y, gv 1000000 y ∧ ρ = [some (.scr ns), some (.ref a), some (.lst oddsG), some d, some x, some y, r6, r7, r8, r9] ∧ Dk M a c (20 * ds.length + 14)) (fun ρ M q => ?_) (fun K nk => ?_)
  rotate_left
  · simp only [sSeq, sRet, sRetN, sNext, sIf, sAsg, sPar, sPar3, sSetI, sAug, sAugI, sDrop, sBreak, sCont, dOp, dUn, dCons, dNil, dFn, dC, dTup, dLst, dLstM, dIf, dTest, dTru, dAnd, dOr, dNot, dAndV, dOrV, dNotE, dChain, dSl, dNoPart, dPart, dSeq, dEnum, dZip, dRng1, dRng2, dYes, dCall, dMt, dVar, dDic0, dDic1, put_nm, put_tp, puts_nil, puts_cons, List.getElem?_cons_zero, List.getElem?_cons_succ, List.set_cons_zero, List.set_cons_succ, startD, List.map_cons, List.map_nil, List.cons_append, List.nil_append, List.length_cons, List.length_nil, List.replicate_succ, List.replicate_zero, Nat.reduceSub, Nat.reduceAdd, Nat.zero_add, wipeD, keyD, gSeq, gPlain, gNil, gYield, gFor, dTupP, dRngP, dCallG, sForG, dLcG, GE.at, dTupRg, dStar, sPutT, dKeysT, dDicT0, dDicT1, sAsgL, dMake, dMakeF, dProp, dMeth, dCallO, dOp3, dLenO, dStrO, sFld, sFldAug, noXs, sRaise0, sRaise1, sTry, goneE, dCntB]
    refine rPow_i ⟨by decide, by decide, by decide⟩ (rPow_i ⟨by decide, by decide, by decide⟩ (rAdd_i ?_))
    refine use_draw3 (k := 20 * ds.length + 16) hD (by decide) (by decide) fun v M1 d1 k1 v0 v1 => ?_
    refine use_draw3 (k := 20 * ds.length + 15) d1 (by decide) (by decide) fun w M2 d2 k2 w0 w1 => odd_at w0 w1 fun o ho => ⟨by decide, ?_⟩
    have v2 : v ≤ 1000000 := by have : (10 : Int) ^ Int.toNat 6 = 1000000 := rfl; omega
    refine use_draw3 (k := 20 * ds.length + 14) d2 (by decide) (by decide) fun z M3 d3 k3 z0 z1 => pick4 (m := 1000000) (gi (by decide) (by decide)) (gi (by decide) (by decide)) (gi v0 v2) (.inl ho) z0 z1 fun x hx => nk _ _ ⟨x, hx, rfl, d3⟩
  clear hD
  obtain ⟨y, gy, rfl, hD⟩ := q
  have fx := gv_fine gx (by decide)
  have fy := gv_fine gy (by decide)
  refine seq_post (fun ρ M => ρ = [some (.scr ns), some (.ref a), some (.lst oddsG), some d, some x, some y, some (madeG x y), r7, r8, r9] ∧ Dk M a c (20 * ds.length + 14)) (fun ρ M q => ?_) (fun K nk => ?_)
  rotate_left
  · simp only [sSeq, sRet, sRetN, sNext, sIf, sAsg, sPar, sPar3, sSetI, sAug, sAugI, sDrop, sBreak, sCont, dOp, dUn, dCons, dNil, dFn, dC, dTup, dLst, dLstM, dIf, dTest, dTru, dAnd, dOr, dNot, dAndV, dOrV, dNotE, dChain, dSl, dNoPart, dPart, dSeq, dEnum, dZip, dRng1, dRng2, dYes, dCall, dMt, dVar, dDic0, dDic1, put_nm, put_tp, puts_nil, puts_cons, List.getElem?_cons_zero, List.getElem?_cons_succ, List.set_cons_zero, List.set_cons_succ, startD, List.map_cons, List.map_nil, List.cons_append, List.nil_append, List.length_cons, List.length_nil, List.replicate_succ, List.replicate_zero, Nat.reduceSub, Nat.reduceAdd, Nat.zero_add, wipeD, keyD, gSeq, gPlain, gNil, gYield, gFor, dTupP, dRngP, dCallG, sForG, dLcG, GE.at, dTupRg, dStar, sPutT, dKeysT, dDicT0, dDicT1, sAsgL, dMake, dMakeF, dProp, dMeth, dCallO, dOp3, dLenO, dStrO, sFld, sFldAug, noXs, sRaise0, sRaise1, sTry, goneE, dCntB]
    exact ⟨trivial, x, y, rfl, fx.1, fy.1, gv_no gx, gv_no gy, fun M2 x2 => nk _ _ ⟨rfl, x2.dk hD⟩⟩
  clear hD
  obtain ⟨rfl, hD⟩ := q
  have sl : still (.lst oddsG) = true := by decide
  simp only [sSeq, sRet, sRetN, sNext, sIf, sAsg, sPar, sPar3, sSetI, sAug, sAugI, sDrop, sBreak, sCont, dOp, dUn, dCons, dNil, dFn, dC, dTup, dLst, dLstM, dIf, dTest, dTru, dAnd, dOr, dNot, dAndV, dOrV, dNotE, dChain, dSl, dNoPart, dPart, dSeq, dEnum, dZip, dRng1, dRng2, dYes, dCall, dMt, dVar, dDic0, dDic1, put_nm, put_tp, puts_nil, puts_cons, List.getElem?_cons_zero, List.getElem?_cons_succ, List.set_cons_zero, List.set_cons_succ, startD, List.map_cons, List.map_nil, List.cons_append, List.nil_append, List.length_cons, List.length_nil, List.replicate_succ, List.replicate_zero, Nat.reduceSub, Nat.reduceAdd, Nat.zero_add, wipeD, keyD, gSeq, gPlain, gNil, gYield, gFor, dTupP, dRngP, dCallG, sForG, dLcG, GE.at, dTupRg, dStar, sPutT, dKeysT, dDicT0, dDicT1, sAsgL, dMake, dMakeF, dProp, dMeth, dCallO, dOp3, dLenO, dStrO, sFld, sFldAug, noXs, sRaise0, sRaise1, sTry, goneE, dCntB]
  refine use_in fx.1 ?_
  cases hx : numD x 0 9 with
  | false =>
    have em : madeG x y = postG x := by unfold madeG; rw [if_neg (by rw [hx]; decide)]
    have ox := gv_no gx hx
    rw [em]
    simp only [truD, Bool.not_false, if_true]
    refine use_in fx.1 ?_
    rw [hx]
    simp only [truD, Bool.false_eq_true, if_false]
    refine repr_fin2 (fx.fin (by decide)) (by decide) ⟨by decide, ?_⟩
    simp only [rIsiO]
    refine ⟨true, rfl, ?_⟩
    simp only [truD, Bool.not_true, Bool.false_eq_true, if_false]
    refine rNe_still (post_plain ox) (show 1 ≤ 60 by decide) (post_plain ox) (show 1 ≤ 60 by decide) ?_
    simp only [postG, leastG, eqd_two]
    simp only [Bool.not_true, Bool.false_eq_true, if_false]
    exact nx _ _ ⟨⟨_, _, _, _, _, _, _, rfl⟩, hD.mono (by omega)⟩
  | true =>
    simp only [truD, Bool.not_true, Bool.false_eq_true, if_false]
    refine rPow_i ⟨by decide, by decide, by decide⟩ (use_in fy.1 ?_)
    rw [show (10 : Int) ^ Int.toNat 6 = 1000000 from rfl]
    cases hy : numD y 0 1000000 with
    | false =>
      have em : madeG x y = leastG y := by unfold madeG; rw [if_pos hx, if_neg (by rw [hy]; decide)]
      rw [em]
      simp only [truD, Bool.not_false, if_true]
      refine use_in fx.1 ?_
      rw [hx]
      simp only [truD, if_true]
      refine repr_fin2 (fy.fin (by decide)) (by decide) ⟨by decide, ?_⟩
      simp only [rIsiO]
      refine ⟨true, rfl, ?_⟩
      simp only [truD, Bool.not_true, Bool.false_eq_true, if_false]
      refine rNe_still (least_plain (gv_no gy hy)) (show 1 ≤ 60 by decide) (least_plain (gv_no gy hy)) (show 1 ≤ 60 by decide) ?_
      simp only [postG, leastG, eqd_two]
      simp only [Bool.not_true, Bool.false_eq_true, if_false]
      exact nx _ _ ⟨⟨_, _, _, _, _, _, _, rfl⟩, hD.mono (by omega)⟩
    | true =>
      have em : madeG x y = guardD x y := by unfold madeG; rw [if_pos hx, if_pos hy]
      rw [em]
      obtain ⟨j, rfl, j0, j1⟩ := numD_i hy
      simp only [truD, Bool.not_true, Bool.false_eq_true, if_false, rIsiO]
      refine ⟨false, rfl, ?_⟩
      simp only [truD, Bool.false_eq_true, if_false]
      refine rSub_i ?_
      simp only [rMax]
      refine rAdd_i (rPow_i ⟨by decide, by decide, by decide⟩ (rAdd_i (use_draw3 (k := 20 * ds.length + 13) hD (by decide) (by decide) fun v M1 d1 k1 v0 v1 => rPow_i ⟨by decide, by decide, by decide⟩ ⟨by decide, ?_⟩)))
      have v2 : v ≤ 1000000 := by have : (10 : Int) ^ Int.toNat 6 = 1000000 := rfl; omega
      obtain ⟨xs, hxs, lx, exs⟩ : ∃ xs : List D, (∀ v ∈ xs, gv 1000001 v) ∧ xs.length = 9 ∧ [D.int 0, .bl false, .int 1, .bl true, .int j, .int (max 0 (j - 1)), .int (j + 1), .int v, .int (10 ^ Int.toNat 6)] = xs := ⟨_, fun v hv => by
        simp only [List.mem_cons, List.not_mem_nil, or_false] at hv
        rcases hv with rfl | rfl | rfl | rfl | rfl | rfl | rfl | rfl | rfl
        · exact gi (by decide) (by decide)
        · exact .inl odd_f
        · exact gi (by decide) (by decide)
        · exact .inl odd_t
        · exact gi j0 (by omega)
        · exact gi (by omega) (by omega)
        · exact gi (by omega) (by omega)
        · exact gi v0 (by omega)
        · exact gi (by decide) (by decide), rfl, rfl⟩
      rw [exs]
      clear hD
      have hD := d1
      simp only [sFor, sSeq, sRet, sRetN, sNext, sIf, sAsg, sPar, sPar3, sSetI, sAug, sAugI, sDrop, sBreak, sCont, dOp, dUn, dCons, dNil, dFn, dC, dTup, dLst, dLstM, dIf, dTest, dTru, dAnd, dOr, dNot, dAndV, dOrV, dNotE, dChain, dSl, dNoPart, dPart, dSeq, dEnum, dZip, dRng1, dRng2, dYes, dCall, dMt, dVar, dDic0, dDic1, put_nm, put_tp, puts_nil, puts_cons, List.getElem?_cons_zero, List.getElem?_cons_succ, List.set_cons_zero, List.set_cons_succ, startD, List.map_cons, List.map_nil, List.cons_append, List.nil_append, List.length_cons, List.length_nil, List.replicate_succ, List.replicate_zero, Nat.reduceSub, Nat.reduceAdd, Nat.zero_add, wipeD, keyD, gSeq, gPlain, gNil, gYield, gFor, dTupP, dRngP, dCallG, sForG, dLcG, GE.at, dTupRg, dStar, sPutT, dKeysT, dDicT0, dDicT1, sAsgL, dMake, dMakeF, dProp, dMeth, dCallO, dOp3, dLenO, dStrO, sFld, sFldAug, noXs, sRaise0, sRaise1, sTry, goneE, dCntB]
      refine use_draw3 (k := 20 * ds.length + 12) hD (by decide) (by decide) fun w M2 d2 k2 w0 w1 => odd_at w0 w1 fun o ho => ?_
      refine use_draw3 (k := 20 * ds.length + 11) d2 (by decide) (by decide) fun w' M3 d3 k3 w0' w1' => odd_at w0' w1' fun o' ho' => ⟨by decide, rAdd_l (by rw [lx]; exact (show 9 + 2 ≤ 100000 by decide)) ?_⟩
      simp only [seqA]
      refine forW_inv (fun ds' ρ M => (∃ r7 r9, ρ = [some (.scr ns), some (.ref a), some (.lst oddsG), some d, some x, some (.int j), some (guardD x (.int j)), r7, some (.lst xs), r9]) ∧ Dk M a c (20 * ds.length) ∧ ∀ v ∈ ds', gv 1000001 v) (fun _ _ _ _ => trivial) (fun ρ M q => nx _ _ ⟨?_, q.2.1⟩) (fun v ds' ρ M Nx q nx => ?_) _ _ _ ⟨⟨_, _, rfl⟩, d3.mono (by omega), fun v hv => ?_⟩
      · obtain ⟨⟨r7, r9, rfl⟩, _⟩ := q
        exact ⟨_, _, _, _, _, _, _, rfl⟩
      rotate_left
      · rcases List.mem_append.mp hv with hv | hv
        · exact hxs v hv
        · simp only [List.mem_cons, List.not_mem_nil, or_false] at hv
          rcases hv with rfl | rfl
          · exact .inl ho
          · exact .inl ho'
      obtain ⟨⟨r7, r9, rfl⟩, d5, hv⟩ := q
      have gv1 := hv v (List.mem_cons_self ..)
      have fv := gv_fine gv1 (by decide)
      have fs := short_f2 gv1 j0 j1
      refine ⟨_, rfl, ?_⟩
      have e9 : ([some (.scr ns), some (.ref a), some (.lst oddsG), some d, some x, some (.int j), some (guardD x (.int j)), r7, some (.lst xs), r9] : DEnv).set 9 (some v) = [some (.scr ns), some (.ref a), some (.lst oddsG), some d, some x, some (.int j), some (guardD x (.int j)), r7, some (.lst xs), some v] := rfl
      rw [e9]
      refine seq_post (fun ρ M2 => ρ = [some (.scr ns), some (.ref a), some (.lst oddsG), some d, some x, some (.int j), some (guardD x (.int j)), some (leastG v), some (.lst xs), some v] ∧ M2 = M) (fun ρ M2 q => ?_) (fun K nk => ?_)
      rotate_left
      · simp only [sSeq, sRet, sRetN, sNext, sIf, sAsg, sPar, sPar3, sSetI, sAug, sAugI, sDrop, sBreak, sCont, dOp, dUn, dCons, dNil, dFn, dC, dTup, dLst, dLstM, dIf, dTest, dTru, dAnd, dOr, dNot, dAndV, dOrV, dNotE, dChain, dSl, dNoPart, dPart, dSeq, dEnum, dZip, dRng1, dRng2, dYes, dCall, dMt, dVar, dDic0, dDic1, put_nm, put_tp, puts_nil, puts_cons, List.getElem?_cons_zero, List.getElem?_cons_succ, List.set_cons_zero, List.set_cons_succ, startD, List.map_cons, List.map_nil, List.cons_append, List.nil_append, List.length_cons, List.length_nil, List.replicate_succ, List.replicate_zero, Nat.reduceSub, Nat.reduceAdd, Nat.zero_add, wipeD, keyD, gSeq, gPlain, gNil, gYield, gFor, dTupP, dRngP, dCallG, sForG, dLcG, GE.at, dTupRg, dStar, sPutT, dKeysT, dDicT0, dDicT1, sAsgL, dMake, dMakeF, dProp, dMeth, dCallO, dOp3, dLenO, dStrO, sFld, sFldAug, noXs, sRaise0, sRaise1, sTry, goneE, dCntB]
        exact repr_fin2 (fv.fin (by decide)) (by decide) ⟨by decide, nk _ _ ⟨rfl, rfl⟩⟩
      obtain ⟨rfl, rfl⟩ := q
      refine seq_post (fun ρ M3 => ρ = [some (.scr ns), some (.ref a), some (.lst oddsG), some d, some x, some (.int j), some (guardD x (.int j)), some (shortG j v), some (.lst xs), some v] ∧ M3 = M2) (fun ρ M3 q => ?_) (fun K nk => ?_)
      rotate_left
      · simp only [sSeq, sRet, sRetN, sNext, sIf, sAsg, sPar, sPar3, sSetI, sAug, sAugI, sDrop, sBreak, sCont, dOp, dUn, dCons, dNil, dFn, dC, dTup, dLst, dLstM, dIf, dTest, dTru, dAnd, dOr, dNot, dAndV, dOrV, dNotE, dChain, dSl, dNoPart, dPart, dSeq, dEnum, dZip, dRng1, dRng2, dYes, dCall, dMt, dVar, dDic0, dDic1, put_nm, put_tp, puts_nil, puts_cons, List.getElem?_cons_zero, List.getElem?_cons_succ, List.set_cons_zero, List.set_cons_succ, startD, List.map_cons, List.map_nil, List.cons_append, List.nil_append, List.length_cons, List.length_nil, List.replicate_succ, List.replicate_zero, Nat.reduceSub, Nat.reduceAdd, Nat.zero_add, wipeD, keyD, gSeq, gPlain, gNil, gYield, gFor, dTupP, dRngP, dCallG, sForG, dLcG, GE.at, dTupRg, dStar, sPutT, dKeysT, dDicT0, dDicT1, sAsgL, dMake, dMakeF, dProp, dMeth, dCallO, dOp3, dLenO, dStrO, sFld, sFldAug, noXs, sRaise0, sRaise1, sTry, goneE, dCntB]
        refine rPow_i ⟨by decide, by decide, by decide⟩ (use_in fv.1 ?_)
        rw [show (10 : Int) ^ Int.toNat 6 = 1000000 from rfl]
        cases hb : numD v 0 1000000 with
        | true =>
          obtain ⟨i, rfl, i0, i1⟩ := numD_i hb
          simp only [truD, if_true]
          refine rSub_i ?_
          have e : shortG j (.int i) = .int (max 0 (j - i)) := by unfold shortG; dsimp only; rw [if_pos hb]
          rw [e] at nk
          exact nk _ _ ⟨rfl, rfl⟩
        | false =>
          simp only [truD, Bool.false_eq_true, if_false]
          have e : shortG j v = leastG v := by
            cases v with
            | int i => unfold shortG; dsimp only; rw [if_neg (by rw [hb]; decide)]
            | _ => rfl
          rw [e] at nk
          exact nk _ _ ⟨rfl, rfl⟩
      obtain ⟨rfl, rfl⟩ := q
      have F : Fin2 (.lst [shortG j v, x, .int j]) 500000 := ((A2.lst (n := 3) (w := 10000) (L := 3) (A2.cons fs (A2.cons fx (A2.cons fy A2.nil))) (Nat.le_refl 3)).mono (n' := 4) (Nat.le_refl _) (by decide)).fin (by decide)
      simp only [sSeq, sRet, sRetN, sNext, sIf, sAsg, sPar, sPar3, sSetI, sAug, sAugI, sDrop, sBreak, sCont, dOp, dUn, dCons, dNil, dFn, dC, dTup, dLst, dLstM, dIf, dTest, dTru, dAnd, dOr, dNot, dAndV, dOrV, dNotE, dChain, dSl, dNoPart, dPart, dSeq, dEnum, dZip, dRng1, dRng2, dYes, dCall, dMt, dVar, dDic0, dDic1, put_nm, put_tp, puts_nil, puts_cons, List.getElem?_cons_zero, List.getElem?_cons_succ, List.set_cons_zero, List.set_cons_succ, startD, List.map_cons, List.map_nil, List.cons_append, List.nil_append, List.length_cons, List.length_nil, List.replicate_succ, List.replicate_zero, Nat.reduceSub, Nat.reduceAdd, Nat.zero_add, wipeD, keyD, gSeq, gPlain, gNil, gYield, gFor, dTupP, dRngP, dCallG, sForG, dLcG, GE.at, dTupRg, dStar, sPutT, dKeysT, dDicT0, dDicT1, sAsgL, dMake, dMakeF, dProp, dMeth, dCallO, dOp3, dLenO, dStrO, sFld, sFldAug, noXs, sRaise0, sRaise1, sTry, goneE, dCntB]
      refine ⟨trivial, x, j, v, rfl, fv.1, gv_no1 gv1, "Guard", _, _, rfl, rfl, x, .int j, rfl, "Guard", _, _, rfl, rfl, x, .int j, rfl, by decide, ?_⟩
      refine repr_fin2 F (by decide) ⟨by decide, repr_fin2 F (by decide) (rNe_s ?_)⟩
      simp only [beq_self_eq_true, Bool.not_true, Bool.false_eq_true, if_false]
      exact nx _ _ ⟨⟨_, _, rfl⟩, d5, fun v hv' => hv v (List.mem_cons_of_mem _ hv')⟩
end DL
namespace Hd
open PySem PySem.Spec PyProof.Rows L2
def top (i : Nat) : Stmt := PySem.Challenge.pw_chairwalks_k46_guards.main.body.getD i (.Pass ⟨0, 0, 0, 0⟩)
def clsB : Stmt → List Stmt
  | .ClassDef _ _ _ b _ _ _ _ _ _ _ => b
  | _ => []
abbrev s_BadPost_init : Stmt := (clsB (top 6)).getD 0 (.Pass ⟨0, 0, 0, 0⟩)
abbrev s_BadLeast_init : Stmt := (clsB (top 7)).getD 0 (.Pass ⟨0, 0, 0, 0⟩)
abbrev s_is_number_to : Stmt := top 10
abbrev s_Guard_init : Stmt := (clsB (top 11)).getD 0 (.Pass ⟨0, 0, 0, 0⟩)
abbrev s_Guard_short : Stmt := (clsB (top 11)).getD 3 (.Pass ⟨0, 0, 0, 0⟩)
abbrev s_law_deck : Stmt := top 13
abbrev s_law_draw : Stmt := top 14
abbrev s_law_is_within : Stmt := top 15
abbrev s_law_error : Stmt := top 16
abbrev s_law_made : Stmt := top 17
abbrev s_law_short : Stmt := top 18
abbrev s_law : Stmt := top 19
abbrev s_Guard_post : Stmt := (clsB (top 11)).getD 1 (.Pass ⟨0, 0, 0, 0⟩)
abbrev s_Guard_least : Stmt := (clsB (top 11)).getD 2 (.Pass ⟨0, 0, 0, 0⟩)
def ds_BadPost_init : He.DefD := ⟨("BadPost", some "__init__"), "__init__", "BadPost.__init__", defArgs s_BadPost_init, defBody s_BadPost_init, defScope s_BadPost_init, [], []⟩
def ds_BadLeast_init : He.DefD := ⟨("BadLeast", some "__init__"), "__init__", "BadLeast.__init__", defArgs s_BadLeast_init, defBody s_BadLeast_init, defScope s_BadLeast_init, [], []⟩
def ds_is_number_to : He.DefD := ⟨("is_number_to", none), "is_number_to", "is_number_to", defArgs s_is_number_to, defBody s_is_number_to, defScope s_is_number_to, [], []⟩
def ds_Guard_init : He.DefD := ⟨("Guard", some "__init__"), "__init__", "Guard.__init__", defArgs s_Guard_init, defBody s_Guard_init, defScope s_Guard_init, [], []⟩
def ds_Guard_short : He.DefD := ⟨("Guard", some "short"), "short", "Guard.short", defArgs s_Guard_short, defBody s_Guard_short, defScope s_Guard_short, [], []⟩
def ds_law_deck : He.DefD := ⟨("_law_deck", none), "_law_deck", "_law_deck", defArgs s_law_deck, defBody s_law_deck, defScope s_law_deck, [], []⟩
def ds_law_draw : He.DefD := ⟨("_law_draw", none), "_law_draw", "_law_draw", defArgs s_law_draw, defBody s_law_draw, defScope s_law_draw, [], []⟩
def ds_law_is_within : He.DefD := ⟨("_law_is_within", none), "_law_is_within", "_law_is_within", defArgs s_law_is_within, defBody s_law_is_within, defScope s_law_is_within, [], []⟩
def ds_law_error : He.DefD := ⟨("_law_error", none), "_law_error", "_law_error", defArgs s_law_error, defBody s_law_error, defScope s_law_error, [], []⟩
def ds_law_made : He.DefD := ⟨("_law_made", none), "_law_made", "_law_made", defArgs s_law_made, defBody s_law_made, defScope s_law_made, [], []⟩
def ds_law_short : He.DefD := ⟨("_law_short", none), "_law_short", "_law_short", defArgs s_law_short, defBody s_law_short, defScope s_law_short, [], []⟩
def ds_law : He.DefD := ⟨("law", none), "law", "law", defArgs s_law, defBody s_law, defScope s_law, [], []⟩
def ds_Guard_post : He.DefD := ⟨("Guard", some "post"), "post", "Guard.post", defArgs s_Guard_post, defBody s_Guard_post, defScope s_Guard_post, [], []⟩
def ds_Guard_least : He.DefD := ⟨("Guard", some "least"), "least", "Guard.least", defArgs s_Guard_least, defBody s_Guard_least, defScope s_Guard_least, [], []⟩
def fn : List He.DefD := [ds_BadPost_init, ds_BadLeast_init, ds_is_number_to, ds_Guard_init, ds_Guard_short, ds_law_deck, ds_law_draw, ds_law_is_within, ds_law_error, ds_law_made, ds_law_short, ds_law]
def fa : List He.Fa := [.glo "is_number_to", .glo "_law_deck", .glo "_law_draw", .glo "_law_is_within", .glo "_law_error", .glo "_law_made", .glo "_law_short", .glo "law", .free "ValueError", .free "abs", .free "bool", .free "int", .free "isinstance", .free "len", .free "list", .free "max", .free "property", .free "range", .free "repr", .int "LIMIT" 1000000, .int "MAX_STATIONS" 10, .glo "ChairError", .glo "BadNumbers", .glo "BadCount", .glo "BadPost", .glo "BadLeast", .glo "TooLow", .glo "Guard", .meth "Guard" "short", .mkr "Guard"]
def vals : List He.FnW := [ds_BadPost_init.val, ds_BadLeast_init.val, ds_is_number_to.val, ds_Guard_init.val, ds_Guard_short.val, ds_law_deck.val, ds_law_draw.val, ds_law_is_within.val, ds_law_error.val, ds_law_made.val, ds_law_short.val, ds_law.val]
def xf : List DL.Xf := [.ccls "ChairError", .ccls "BadNumbers", .ccls "BadCount", .ccls "BadPost", .ccls "BadLeast", .ccls "TooLow", .cins "Guard", .fnin "Guard" "short", .prop "Guard" "post", .prop "Guard" "least", .xin "BadPost" "value", .xin "BadLeast" "value"]
def gt : List (He.DefD × (PySem.W.Frag → Addr)) := [(ds_Guard_post, fun K => DL.pa K "Guard" "post"), (ds_Guard_least, fun K => DL.pa K "Guard" "least")]
def gvals : List He.FnW := [ds_Guard_post.val, ds_Guard_least.val]
abbrev R : PySem.W.OpenRow := PySem.W.OpenLaw.row PySem.Challenge.rw_chairwalks_k46_guards
abbrev Al2 := He.AlD × He.AlD
def says (K : PySem.W.Frag) : Prop := (K.lookup sysModules).isSome = true ∧ (∀ x ∈ xf, x.ok K = true) ∧ (∀ d ∈ gt, DL.getW K (d.2 K) = d.1.val ∧ DL.getOk K d.1 (d.2 K) = true) ∧ He.obsD fa fn K = (true, vals)
def obsM (K : PySem.W.Frag) : Al2 := (((K.lookup sysModules).isSome && (xf.all (fun x => x.ok K) && gt.all fun d => DL.getOk K d.1 (d.2 K)), gt.map fun d => DL.getW K (d.2 K)), He.obsD fa fn K)
theorem obsM_ok {K : PySem.W.Frag} (h : obsM K = ((true, gvals), (true, vals))) : says K := by
  obtain ⟨h1, h2⟩ := Prod.mk.inj h
  obtain ⟨h3, h4⟩ := Prod.mk.inj h1
  obtain ⟨h5, h6⟩ := He.ba h3
  obtain ⟨h7, h8⟩ := He.ba h6
  refine ⟨h5, List.all_eq_true.mp h7, fun d hd => ⟨?_, List.all_eq_true.mp h8 d hd⟩, h2⟩
  have e : gt.map (fun d => DL.getW K (d.2 K)) = gt.map fun d => d.1.val := h4
  exact List.map_inj_left.mp e d hd
def obsMG (g : Addr → Option Obj) : Al2 := obsM (He.frG g (sysModules :: He.asD g 5))
def hk : PySem.W.Hook where
  α := Al2
  obs := fun s => obsMG s.heap.get?
  val := fun _ => ((true, gvals), (true, vals))
  says := fun _ h => ∃ K : PySem.W.Frag, K.In h ∧ says K
  of := fun _ _ e => ⟨_, He.frG_in, obsM_ok e⟩
  keeps := fun _ _ _ ⟨K, hK, c⟩ k => ⟨K, PySem.W.Frag.In.keeps hK k, c⟩
def ob (s : PySem.W.SharedT) : Al2 := obsMG (HandSHeadRun.getT s)
theorem ob_eq (s : PySem.W.SharedT) : ob s = hk.obs s.abs := by
  have e : HandSHeadRun.getT s = s.abs.heap.get? := funext (HandSHeadRun.getT_eq s)
  unfold ob
  rw [e] <;> rfl
def loose : List PySem.Str := "LIMIT" :: "MAX_STATIONS" :: "ChairError" :: "BadNumbers" :: "BadCount" :: "BadPost" :: "BadLeast" :: "TooLow" :: "is_number_to" :: "Guard" :: "_law_deck" :: "_law_draw" :: "_law_is_within" :: "_law_error" :: "_law_made" :: "_law_short" :: []
theorem run (w : World) : HandSHeadRun.RunEq R (PySem.W.view R.prog [19]) hk ob 4000 loose w := by
  intro os
  kernel_rfl
end Hd
namespace LK
open PySem PySem.Spec PyProof.Rows L2 DL
structure Tab (K : PySem.W.Frag) (mg : Str → Option Value) : Prop where
  sm : (K.lookup sysModules).isSome = true
  f_ValueError : mg "ValueError" = none
  f_abs : mg "abs" = none
  f_bool : mg "bool" = none
  f_int : mg "int" = none
  f_isinstance : mg "isinstance" = none
  f_len : mg "len" = none
  f_list : mg "list" = none
  f_max : mg "max" = none
  f_property : mg "property" = none
  f_range : mg "range" = none
  f_repr : mg "repr" = none
  i_LIMIT : ∃ t, mg "LIMIT" = some (.int 1000000 t)
  i_MAX_STATIONS : ∃ t, mg "MAX_STATIONS" = some (.int 10 t)
  g_ChairError : mg "ChairError" = some (.ref (He.ga K "ChairError"))
  k_ChairError : cclsB K "ChairError" = true
  g_BadNumbers : mg "BadNumbers" = some (.ref (He.ga K "BadNumbers"))
  k_BadNumbers : cclsB K "BadNumbers" = true
  g_BadCount : mg "BadCount" = some (.ref (He.ga K "BadCount"))
  k_BadCount : cclsB K "BadCount" = true
  g_BadPost : mg "BadPost" = some (.ref (He.ga K "BadPost"))
  k_BadPost : cclsB K "BadPost" = true
  g_BadLeast : mg "BadLeast" = some (.ref (He.ga K "BadLeast"))
  k_BadLeast : cclsB K "BadLeast" = true
  g_TooLow : mg "TooLow" = some (.ref (He.ga K "TooLow"))
  k_TooLow : cclsB K "TooLow" = true
variable {P : Program} {w : World} {K : PySem.W.Frag} {mg : Str → Option Value} {base : Heap}
abbrev n_is_number_to : List Str := ["value", "most"]
theorem b_is_number_to (T : Tab K mg) {cdv : Value} {A : Around} {outer : List Env} {s : Shared} {H : Hp} {E : XK} {f : Addr} (hr : Room 0 (A.deeper (envOfC "is_number_to" (defScope Hd.s_is_number_to) s.heap.objs.size f cdv))) (hg : (A.deeper (envOfC "is_number_to" (defScope Hd.s_is_number_to) s.heap.objs.size f cdv)).guards = some []) :
    PSs (cxOf CX0 P w K mg base n_is_number_to "is_number_to" (defScope Hd.s_is_number_to) f cdv A outer s H E).nox (defBody Hd.s_is_number_to) (loS K Og.top t_is_number_to) := by
  have nd : n_is_number_to.Nodup := by decide +kernel
  exact (z_cons (z_ret (q_andV (q_callB c_isi rfl T.f_isinstance bt_isinstance (q_cons (q_var (i := 0) rfl (.inl rfl) rfl rfl) (q_cons (q_ty .int rfl T.f_int bt_int (by decide) rfl) q_nil rfl) rfl) (by decide) rfl rfl rfl) (q_andV (q_notE (q_callB c_isi rfl T.f_isinstance bt_isinstance (q_cons (q_var (i := 0) rfl (.inl rfl) rfl rfl) (q_cons (q_ty .bool rfl T.f_bool bt_bool (by decide) rfl) q_nil rfl) rfl) (by decide) rfl rfl rfl)) (q_one (q_chain (o_cmp op_le) (o_cmp op_le) q_int (q_var (i := 0) rfl (.inl rfl) rfl rfl) (q_var (i := 1) rfl (.inl rfl) rfl rfl) (by with_unfolding_all rfl)))))) z_nil)
abbrev n_Guard_init_x : List Str := ["self", "post", "least"]
theorem b_Guard_init_x (T : Tab K mg) (C_is_number_to : Callee P w K mg base 1 "is_number_to" 2 sp_is_number_to) (X_BadPost : XCallee P w K mg base "BadPost" "value") (X_BadLeast : XCallee P w K mg base "BadLeast" "value") {cdv : Value} {A : Around} {outer : List Env} {s : Shared} {H : Hp} {E : XK} {f : Addr} (hr : Room 2 (A.deeper (envOfC "Guard.__init__" (defScope Hd.s_Guard_init) s.heap.objs.size f cdv))) (hg : (A.deeper (envOfC "Guard.__init__" (defScope Hd.s_Guard_init) s.heap.objs.size f cdv)).guards = some [])
    {O : Og K} {ξ : DXs} (tk : Tk (cxOf (CX P w) P w K mg base n_Guard_init_x "Guard.__init__" (defScope Hd.s_Guard_init) f cdv A outer s H E) O ξ) (ps : PassesOwn (model P w) (A.deeper (envOfC "Guard.__init__" (defScope Hd.s_Guard_init) s.heap.objs.size f cdv)) (envOfC "Guard.__init__" (defScope Hd.s_Guard_init) s.heap.objs.size f cdv) (cxOf (CX P w) P w K mg base n_Guard_init_x "Guard.__init__" (defScope Hd.s_Guard_init) f cdv A outer s H E).xe) :
    PSs (cxOf (CX P w) P w K mg base n_Guard_init_x "Guard.__init__" (defScope Hd.s_Guard_init) f cdv A outer s H E) (defBody Hd.s_Guard_init) (loS K O (t_Guard_init_x ξ)) := by
  have nd : n_Guard_init_x.Nodup := by decide +kernel
  exact (z_cons (z_if (q_not (q_tru (q_call C_is_number_to hr (by decide) hg rfl (q_cons (q_var (i := 1) rfl (.inl rfl) rfl rfl) (q_cons (q_op o_sub (q_gint rfl T.i_MAX_STATIONS rfl) q_int) q_nil rfl) rfl) rfl rfl rfl) (fun _ => rfl))) (z_cons (z_raise1 hr (by decide) rfl tk X_BadPost (q_var (i := 1) rfl (.inl rfl) rfl rfl) rfl rfl rfl rfl) z_nil) z_nil) (z_cons (z_if (q_not (q_tru (q_call C_is_number_to hr (by decide) hg rfl (q_cons (q_var (i := 2) rfl (.inl rfl) rfl rfl) (q_cons (q_gint rfl T.i_LIMIT rfl) q_nil rfl) rfl) rfl rfl rfl) (fun _ => rfl))) (z_cons (z_raise1 hr (by decide) rfl tk X_BadLeast (q_var (i := 2) rfl (.inl rfl) rfl rfl) rfl rfl rfl rfl) z_nil) z_nil) (z_cons (z_fld (q_var (i := 0) rfl (.inl rfl) rfl rfl) (q_var (i := 1) rfl (.inl rfl) rfl rfl) rfl) (z_cons (z_fld (q_var (i := 0) rfl (.inl rfl) rfl rfl) (q_var (i := 2) rfl (.inl rfl) rfl rfl) rfl) z_nil))))
abbrev n_Guard_post : List Str := ["self"]
theorem b_Guard_post (T : Tab K mg) {cdv : Value} {A : Around} {outer : List Env} {s : Shared} {H : Hp} {E : XK} {f : Addr} (hr : Room 0 (A.deeper (envOfC "Guard.post" (defScope Hd.s_Guard_post) s.heap.objs.size f cdv))) (hg : (A.deeper (envOfC "Guard.post" (defScope Hd.s_Guard_post) s.heap.objs.size f cdv)).guards = some []) :
    PSs (cxOf CX0 P w K mg base n_Guard_post "Guard.post" (defScope Hd.s_Guard_post) f cdv A outer s H E).nox (defBody Hd.s_Guard_post) (loS K Og.top t_Guard_post) := by
  have nd : n_Guard_post.Nodup := by decide +kernel
  exact (z_cons (z_ret (q_fld (q_var (i := 0) rfl (.inl rfl) rfl rfl) rfl)) z_nil)
abbrev n_Guard_least : List Str := ["self"]
theorem b_Guard_least (T : Tab K mg) {cdv : Value} {A : Around} {outer : List Env} {s : Shared} {H : Hp} {E : XK} {f : Addr} (hr : Room 0 (A.deeper (envOfC "Guard.least" (defScope Hd.s_Guard_least) s.heap.objs.size f cdv))) (hg : (A.deeper (envOfC "Guard.least" (defScope Hd.s_Guard_least) s.heap.objs.size f cdv)).guards = some []) :
    PSs (cxOf CX0 P w K mg base n_Guard_least "Guard.least" (defScope Hd.s_Guard_least) f cdv A outer s H E).nox (defBody Hd.s_Guard_least) (loS K Og.top t_Guard_least) := by
  have nd : n_Guard_least.Nodup := by decide +kernel
  exact (z_cons (z_ret (q_fld (q_var (i := 0) rfl (.inl rfl) rfl rfl) rfl)) z_nil)
abbrev n_Guard_short_v2_x : List Str := ["self", "number"]
theorem b_Guard_short_v2_x (T : Tab K mg) (C_is_number_to : Callee P w K mg base 1 "is_number_to" 2 sp_is_number_to) (X_BadLeast : XCallee P w K mg base "BadLeast" "value") {cdv : Value} {A : Around} {outer : List Env} {s : Shared} {H : Hp} {E : XK} {f : Addr} (hr : Room 2 (A.deeper (envOfC "Guard.short" (defScope Hd.s_Guard_short) s.heap.objs.size f cdv))) (hg : (A.deeper (envOfC "Guard.short" (defScope Hd.s_Guard_short) s.heap.objs.size f cdv)).guards = some [])
    {O : Og K} {ξ : DXs} (tk : Tk (cxOf (CX P w) P w K mg base n_Guard_short_v2_x "Guard.short" (defScope Hd.s_Guard_short) f cdv A outer s H E) O ξ) (ps : PassesOwn (model P w) (A.deeper (envOfC "Guard.short" (defScope Hd.s_Guard_short) s.heap.objs.size f cdv)) (envOfC "Guard.short" (defScope Hd.s_Guard_short) s.heap.objs.size f cdv) (cxOf (CX P w) P w K mg base n_Guard_short_v2_x "Guard.short" (defScope Hd.s_Guard_short) f cdv A outer s H E).xe) :
    PSs (cxOf (CX P w) P w K mg base n_Guard_short_v2_x "Guard.short" (defScope Hd.s_Guard_short) f cdv A outer s H E) (defBody Hd.s_Guard_short) (loS K O (t_Guard_short_v2_x ξ)) := by
  have nd : n_Guard_short_v2_x.Nodup := by decide +kernel
  exact (z_cons (z_if (q_not (q_tru (q_call C_is_number_to hr (by decide) hg rfl (q_cons (q_var (i := 1) rfl (.inl rfl) rfl rfl) (q_cons (q_gint rfl T.i_LIMIT rfl) q_nil rfl) rfl) rfl rfl rfl) (fun _ => rfl))) (z_cons (z_raise1 hr (by decide) rfl tk X_BadLeast (q_var (i := 1) rfl (.inl rfl) rfl rfl) rfl rfl rfl rfl) z_nil) z_nil) (z_cons (z_ret (q_callB (c_max rfl) rfl T.f_max bt_max (q_cons q_int (q_cons (q_op o_sub (q_fld (q_var (i := 0) rfl (.inl rfl) rfl rfl) rfl) (q_var (i := 1) rfl (.inl rfl) rfl rfl)) q_nil rfl) rfl) (by decide) rfl rfl rfl)) z_nil))
abbrev n_law_deck : List Str := ["script", "cell"]
theorem b_law_deck (T : Tab K mg) {cdv : Value} {A : Around} {outer : List Env} {s : Shared} {H : Hp} {E : XK} {f : Addr} (hr : Room 0 (A.deeper (envOfC "_law_deck" (defScope Hd.s_law_deck) s.heap.objs.size f cdv))) (hg : (A.deeper (envOfC "_law_deck" (defScope Hd.s_law_deck) s.heap.objs.size f cdv)).guards = some []) :
    PSs (cxOf CX0 P w K mg base n_law_deck "_law_deck" (defScope Hd.s_law_deck) f cdv A outer s H E).nox (defBody Hd.s_law_deck) (loS K Og.top t_law_deck) := by
  have nd : n_law_deck.Nodup := by decide +kernel
  exact (z_cons (z_ret (q_lstM (q_cons (q_lcM (own := [("cell", 1)]) rfl nd (pi_seq (q_sl (q_var (i := 0) rfl (.inl rfl) rfl rfl) q_nopart (q_part q_int))) (blkOk_by (by kernel_rfl)) (fun _ _ _ _ _ => (g_nm (i := 1) nd rfl (.inl rfl) (.inr rfl))) (fun _ _ _ _ _ => q_yes) (fun _ _ _ _ _ => (q_callB c_abs rfl T.f_abs bt_abs (q_cons (q_var (i := 1) rfl (.inl rfl) rfl rfl) q_nil rfl) (by decide) rfl rfl rfl)) (fun _ => rfl) (by decide)) (q_cons q_int q_nil rfl) rfl))) z_nil)
abbrev n_law_draw_v3 : List Str := ["deck", "many", "cell", "place"]
theorem b_law_draw_v3 (T : Tab K mg) {cdv : Value} {A : Around} {outer : List Env} {s : Shared} {H : Hp} {E : XK} {f : Addr} (hr : Room 0 (A.deeper (envOfC "_law_draw" (defScope Hd.s_law_draw) s.heap.objs.size f cdv))) (hg : (A.deeper (envOfC "_law_draw" (defScope Hd.s_law_draw) s.heap.objs.size f cdv)).guards = some []) :
    PSs (cxOf CX0 P w K mg base n_law_draw_v3 "_law_draw" (defScope Hd.s_law_draw) f cdv A outer s H E).nox (defBody Hd.s_law_draw) (loS K Og.top t_law_draw_v3) := by
  have nd : n_law_draw_v3.Nodup := by decide +kernel
  exact (z_cons (z_setI (q_op o_add (q_ix (q_var (i := 0) rfl (.inl rfl) rfl rfl) q_int (fun _ _ => rfl)) q_int) (q_var (i := 0) rfl (.inl rfl) rfl rfl) q_int (fun _ => rfl) rfl rfl rfl) (z_cons (z_set (i := 2) nd rfl (.inl rfl) q_int rfl (.inr rfl)) (z_cons (z_set (i := 3) nd rfl (.inl rfl) (q_un o_neg q_int) rfl (.inr rfl)) (z_cons (z_if (q_cmpT (o_cmp op_gt) (q_callB c_len rfl T.f_len bt_len (q_cons (q_ix (q_var (i := 0) rfl (.inl rfl) rfl rfl) q_int (fun _ _ => rfl)) q_nil rfl) (by decide) rfl rfl rfl) q_int (nomark _)) (z_cons (z_set (i := 3) nd rfl (.inl rfl) (q_op o_mod (q_ix (q_var (i := 0) rfl (.inl rfl) rfl rfl) q_int (fun _ _ => rfl)) (q_callB c_len rfl T.f_len bt_len (q_cons (q_ix (q_var (i := 0) rfl (.inl rfl) rfl rfl) q_int (fun _ _ => rfl)) q_nil rfl) (by decide) rfl rfl rfl)) rfl (.inr rfl)) (z_cons (z_set (i := 2) nd rfl (.inl rfl) (q_ix (q_ix (q_var (i := 0) rfl (.inl rfl) rfl rfl) q_int (fun _ _ => rfl)) (q_var (i := 3) rfl (.inl rfl) rfl rfl) (fun _ _ => rfl)) rfl (.inr rfl)) z_nil)) z_nil) (z_cons (z_if (q_cmpT (o_cmp op_ge) (q_var (i := 2) rfl (.inl rfl) rfl rfl) (q_op o_pow q_int q_int) (nomark _)) (z_cons (z_setI (q_op o_div (q_var (i := 2) rfl (.inl rfl) rfl rfl) (q_var (i := 1) rfl (.inl rfl) rfl rfl)) (q_ix (q_var (i := 0) rfl (.inl rfl) rfl rfl) q_int (fun _ _ => rfl)) (q_var (i := 3) rfl (.inl rfl) rfl rfl) (fun _ => rfl) rfl rfl rfl) (z_cons (z_ret (q_op o_mod (q_var (i := 2) rfl (.inl rfl) rfl rfl) (q_var (i := 1) rfl (.inl rfl) rfl rfl))) z_nil)) z_nil) (z_cons (z_ret (q_op o_mod (q_op o_mod (q_op o_pow (q_op o_add (q_op o_add (q_op o_mod (q_var (i := 2) rfl (.inl rfl) rfl rfl) q_int) (q_op o_mul q_int (q_ix (q_var (i := 0) rfl (.inl rfl) rfl rfl) q_int (fun _ _ => rfl)))) q_int) q_int) q_int) (q_var (i := 1) rfl (.inl rfl) rfl rfl))) z_nil))))))
abbrev n_law_is_within : List Str := ["value", "low", "high"]
theorem b_law_is_within (T : Tab K mg) {cdv : Value} {A : Around} {outer : List Env} {s : Shared} {H : Hp} {E : XK} {f : Addr} (hr : Room 0 (A.deeper (envOfC "_law_is_within" (defScope Hd.s_law_is_within) s.heap.objs.size f cdv))) (hg : (A.deeper (envOfC "_law_is_within" (defScope Hd.s_law_is_within) s.heap.objs.size f cdv)).guards = some []) :
    PSs (cxOf CX0 P w K mg base n_law_is_within "_law_is_within" (defScope Hd.s_law_is_within) f cdv A outer s H E).nox (defBody Hd.s_law_is_within) (loS K Og.top t_law_is_within) := by
  have nd : n_law_is_within.Nodup := by decide +kernel
  exact (z_cons (z_ret (q_andV (q_callB c_isi rfl T.f_isinstance bt_isinstance (q_cons (q_var (i := 0) rfl (.inl rfl) rfl rfl) (q_cons (q_ty .int rfl T.f_int bt_int (by decide) rfl) q_nil rfl) rfl) (by decide) rfl rfl rfl) (q_andV (q_notE (q_callB c_isi rfl T.f_isinstance bt_isinstance (q_cons (q_var (i := 0) rfl (.inl rfl) rfl rfl) (q_cons (q_ty .bool rfl T.f_bool bt_bool (by decide) rfl) q_nil rfl) rfl) (by decide) rfl rfl rfl)) (q_one (q_chain (o_cmp op_le) (o_cmp op_le) (q_var (i := 1) rfl (.inl rfl) rfl rfl) (q_var (i := 0) rfl (.inl rfl) rfl rfl) (q_var (i := 2) rfl (.inl rfl) rfl rfl) (by with_unfolding_all rfl)))))) z_nil)
abbrev n_law_error_v2 : List Str := ["e", "flags"]
theorem b_law_error_v2 (T : Tab K mg) {cdv : Value} {A : Around} {outer : List Env} {s : Shared} {H : Hp} {f : Addr} (hr : L2H.RoomH 0 (A.deeper (envOfC "_law_error" (defScope Hd.s_law_error) s.heap.objs.size f cdv))) (hg : (A.deeper (envOfC "_law_error" (defScope Hd.s_law_error) s.heap.objs.size f cdv)).guards = some []) :
    PSs (cxQ P w K mg base n_law_error_v2 "_law_error" (defScope Hd.s_law_error) f cdv A outer s H).nox (defBody Hd.s_law_error) (loS K Og.top t_law_error_v2) := by
  have nd : n_law_error_v2.Nodup := by decide +kernel
  exact (z_cons (z_set (i := 1) nd rfl (.inl rfl) (q_lst (q_cons (q_callB c_isiE rfl T.f_isinstance bt_isinstance (q_cons (q_var (i := 0) rfl (.inl rfl) rfl rfl) (q_cons (q_cls rfl T.g_BadPost T.k_BadPost rfl) q_nil rfl) rfl) (by decide) rfl rfl rfl) (q_cons (q_callB c_isiE rfl T.f_isinstance bt_isinstance (q_cons (q_var (i := 0) rfl (.inl rfl) rfl rfl) (q_cons (q_cls rfl T.g_BadLeast T.k_BadLeast rfl) q_nil rfl) rfl) (by decide) rfl rfl rfl) q_nil rfl) rfl)) rfl (.inr rfl)) (z_cons (z_if (PW.pt (q_or (q_cmpT (o_ne hr.u64) (q_cntB (q_var (i := 1) rfl (.inl rfl) rfl rfl) q_bl rfl rfl rfl rfl rfl) q_int (nomark _)) (q_or (q_not (q_tru (q_callB c_isiE rfl T.f_isinstance bt_isinstance (q_cons (q_var (i := 0) rfl (.inl rfl) rfl rfl) (q_cons (q_ty .verr rfl T.f_ValueError bt_ValueError (by decide) rfl) q_nil rfl) rfl) (by decide) rfl rfl rfl) (fun _ => rfl))) (q_or1 (q_tru (q_callB c_isiE rfl T.f_isinstance bt_isinstance (q_cons (q_var (i := 0) rfl (.inl rfl) rfl rfl) (q_cons (q_tup (q_cons (q_cls rfl T.g_BadCount T.k_BadCount rfl) (q_cons (q_cls rfl T.g_BadNumbers T.k_BadNumbers rfl) (q_cons (q_cls rfl T.g_TooLow T.k_TooLow rfl) q_nil rfl) rfl) rfl)) q_nil rfl) rfl) (by decide) rfl rfl rfl) (fun _ => rfl)))))) (z_cons (z_ret (q_lst (q_cons q_str q_nil rfl))) z_nil) z_nil) (z_cons (z_ret (q_lst (q_cons (q_ix (q_lst (q_cons q_str (q_cons q_str q_nil rfl) rfl)) (q_idxB (q_var (i := 1) rfl (.inl rfl) rfl rfl) q_bl rfl rfl rfl rfl rfl) (fun _ _ => rfl)) (q_cons (q_callB (c_repr hg hr.u64 T.sm) rfl T.f_repr bt_repr (q_cons (q_xfld (q_var (i := 0) rfl (.inl rfl) rfl rfl) rfl) q_nil rfl) (by decide) rfl rfl rfl) q_nil rfl) rfl))) z_nil)))
abbrev n_law_made : List Str := ["post", "least", "e"]
theorem b_law_made (T : Tab K mg) (N_Guard_init_x : NCallee P w K mg base 3 "Guard" 3 sp_Guard_init_x) (C_law_error_v2 : CalleeQ P w K mg base 1 "_law_error" 1 sp_law_error_v2) {cdv : Value} {A : Around} {outer : List Env} {s : Shared} {H : Hp} {E : XK} {f : Addr} (hr : Room 4 (A.deeper (envOfC "_law_made" (defScope Hd.s_law_made) s.heap.objs.size f cdv))) (hg : (A.deeper (envOfC "_law_made" (defScope Hd.s_law_made) s.heap.objs.size f cdv)).guards = some []) :
    PSs (cxOf CX0 P w K mg base n_law_made "_law_made" (defScope Hd.s_law_made) f cdv A outer s H E).nox (defBody Hd.s_law_made) (loS K Og.top t_law_made) := by
  have nd : n_law_made.Nodup := by decide +kernel
  exact (z_cons (z_try (i := 2) rfl rfl rfl nd rfl rfl Tk.no rfl rfl T.g_ChairError (by decide) (ccls_ok T.k_ChairError).2.1 (by decide) (fun pn1 xe1 O1 ξ1 tk1 ps1 => (z_cons (z_ret (q_makeF (j := 3) N_Guard_init_x hr (by decide) hg tk1 rfl (q_cons (q_var (i := 0) rfl (.inl rfl) rfl rfl) (q_cons (q_var (i := 1) rfl (.inl rfl) rfl rfl) q_nil rfl) rfl) rfl rfl rfl)) z_nil)) (fun a1 pn1 O1 => (z_cons (z_ret (q_callQ C_law_error_v2 (roomH_mark hr) (by decide) hg rfl (q_cons (q_var (i := 2) rfl (.inl rfl) rfl rfl) q_nil rfl) rfl rfl rfl)) z_nil))) z_nil)
abbrev n_law_short : List Str := ["guard", "number", "e"]
theorem b_law_short (T : Tab K mg) (C_Guard_short_v2_x : MCallee P w K mg base 3 "Guard" "short" 2 sp_Guard_short_v2_x) (C_law_error_v2 : CalleeQ P w K mg base 1 "_law_error" 1 sp_law_error_v2) {cdv : Value} {A : Around} {outer : List Env} {s : Shared} {H : Hp} {E : XK} {f : Addr} (hr : Room 3 (A.deeper (envOfC "_law_short" (defScope Hd.s_law_short) s.heap.objs.size f cdv))) (hg : (A.deeper (envOfC "_law_short" (defScope Hd.s_law_short) s.heap.objs.size f cdv)).guards = some []) :
    PSs (cxOf CX0 P w K mg base n_law_short "_law_short" (defScope Hd.s_law_short) f cdv A outer s H E).nox (defBody Hd.s_law_short) (loS K Og.top t_law_short) := by
  have nd : n_law_short.Nodup := by decide +kernel
  exact (z_cons (z_try (i := 2) rfl rfl rfl nd rfl rfl Tk.no rfl rfl T.g_ChairError (by decide) (ccls_ok T.k_ChairError).2.1 (by decide) (fun pn1 xe1 O1 ξ1 tk1 ps1 => (z_cons (z_ret (q_meth (j := 3) (Tb.ok_cons C_Guard_short_v2_x (Nat.le_refl _) Tb.ok_nil) hr (by decide) hg tk1 (q_var (i := 0) rfl (.inl rfl) rfl rfl) (q_cons (q_var (i := 1) rfl (.inl rfl) rfl rfl) q_nil rfl) rfl rfl rfl)) z_nil)) (fun a1 pn1 O1 => (z_cons (z_ret (q_callQ C_law_error_v2 (roomH_mark hr) (by decide) hg rfl (q_cons (q_var (i := 2) rfl (.inl rfl) rfl rfl) q_nil rfl) rfl rfl rfl)) z_nil))) z_nil)
abbrev n_law_k46 : List Str := ["script", "deck", "odd", "turn", "post", "least", "guard", "due", "some", "number"]
theorem b_law_k46 (T : Tab K mg) (C_law_deck : Callee P w K mg base 1 "_law_deck" 1 sp_law_deck) (C_law_draw_v3 : Callee P w K mg base 1 "_law_draw" 2 sp_law_draw_v3) (C_law_made : Callee P w K mg base 5 "_law_made" 2 sp_law_made) (C_law_is_within : Callee P w K mg base 1 "_law_is_within" 3 sp_law_is_within) (C_law_short : Callee P w K mg base 4 "_law_short" 2 sp_law_short) (C_Guard_post : PCallee P w K mg base 1 "Guard" "post" sp_Guard_post) (C_Guard_least : PCallee P w K mg base 1 "Guard" "least" sp_Guard_least) {cdv : Value} {A : Around} {outer : List Env} {s : Shared} {H : Hp} {E : XK} {f : Addr} (hr : Room 5 (A.deeper (envOfC "law" (defScope Hd.s_law) s.heap.objs.size f cdv))) (hg : (A.deeper (envOfC "law" (defScope Hd.s_law) s.heap.objs.size f cdv)).guards = some []) :
    PSs (cxOf CX0 P w K mg base n_law_k46 "law" (defScope Hd.s_law) f cdv A outer s H E).nox (defBody Hd.s_law) (loS K Og.top t_law_k46) := by
  have nd : n_law_k46.Nodup := by decide +kernel
  exact (z_cons (z_set (i := 1) nd rfl (.inl rfl) (q_call C_law_deck hr (by decide) hg rfl (q_cons (q_var (i := 0) rfl (.inl rfl) rfl rfl) q_nil rfl) rfl rfl rfl) rfl (.inr rfl)) (z_cons (z_set (i := 2) nd rfl (.inl rfl) (q_lst (q_cons q_non (q_cons q_bl (q_cons q_bl (q_cons (q_un o_neg q_int) (q_cons q_int (q_cons (q_op o_add (q_op o_pow q_int q_int) q_int) (q_cons (q_op o_pow q_int q_int) (q_cons q_str (q_cons q_str (q_cons (q_tup q_nil) (q_cons (q_lst q_nil) (q_cons q_dic0 (q_cons (q_tup (q_cons q_int q_nil rfl)) q_nil rfl) rfl) rfl) rfl) rfl) rfl) rfl) rfl) rfl) rfl) rfl) rfl) rfl)) rfl (.inr rfl)) (z_cons (z_for PassesOwn.never rfl (pi_rng1 rfl T.f_range q_int rfl rfl) (g_nm (i := 3) nd rfl (.inl rfl) (.inr rfl)) (z_cons (z_set (i := 4) nd rfl (.inl rfl) (q_ix (q_lst (q_cons q_int (q_cons q_int (q_cons (q_call C_law_draw_v3 hr (by decide) hg rfl (q_cons (q_var (i := 1) rfl (.inl rfl) rfl rfl) (q_cons q_int q_nil rfl) rfl) rfl rfl rfl) (q_cons (q_ix (q_var (i := 2) rfl (.inl rfl) rfl rfl) (q_call C_law_draw_v3 hr (by decide) hg rfl (q_cons (q_var (i := 1) rfl (.inl rfl) rfl rfl) (q_cons q_int q_nil rfl) rfl) rfl rfl rfl) (fun _ _ => rfl)) q_nil rfl) rfl) rfl) rfl)) (q_call C_law_draw_v3 hr (by decide) hg rfl (q_cons (q_var (i := 1) rfl (.inl rfl) rfl rfl) (q_cons q_int q_nil rfl) rfl) rfl rfl rfl) (fun _ _ => rfl)) rfl (.inr rfl)) (z_cons (z_set (i := 5) nd rfl (.inl rfl) (q_ix (q_lst (q_cons q_int (q_cons (q_op o_pow q_int q_int) (q_cons (q_call C_law_draw_v3 hr (by decide) hg rfl (q_cons (q_var (i := 1) rfl (.inl rfl) rfl rfl) (q_cons (q_op o_add (q_op o_pow q_int q_int) q_int) q_nil rfl) rfl) rfl rfl rfl) (q_cons (q_ix (q_var (i := 2) rfl (.inl rfl) rfl rfl) (q_call C_law_draw_v3 hr (by decide) hg rfl (q_cons (q_var (i := 1) rfl (.inl rfl) rfl rfl) (q_cons q_int q_nil rfl) rfl) rfl rfl rfl) (fun _ _ => rfl)) q_nil rfl) rfl) rfl) rfl)) (q_call C_law_draw_v3 hr (by decide) hg rfl (q_cons (q_var (i := 1) rfl (.inl rfl) rfl rfl) (q_cons q_int q_nil rfl) rfl) rfl rfl rfl) (fun _ _ => rfl)) rfl (.inr rfl)) (z_cons (z_set (i := 6) nd rfl (.inl rfl) (q_call C_law_made hr (by decide) hg rfl (q_cons (q_var (i := 4) rfl (.inl rfl) rfl rfl) (q_cons (q_var (i := 5) rfl (.inl rfl) rfl rfl) q_nil rfl) rfl) rfl rfl rfl) rfl (.inr rfl)) (z_cons (z_if (PW.pt (q_or (q_not (q_tru (q_call C_law_is_within hr (by decide) hg rfl (q_cons (q_var (i := 4) rfl (.inl rfl) rfl rfl) (q_cons q_int (q_cons q_int q_nil rfl) rfl) rfl) rfl rfl rfl) (fun _ => rfl))) (q_or1 (q_not (q_tru (q_call C_law_is_within hr (by decide) hg rfl (q_cons (q_var (i := 5) rfl (.inl rfl) rfl rfl) (q_cons q_int (q_cons (q_op o_pow q_int q_int) q_nil rfl) rfl) rfl) rfl rfl rfl) (fun _ => rfl)))))) (z_cons (z_set (i := 7) nd rfl (.inl rfl) (q_if (q_tru (q_call C_law_is_within hr (by decide) hg rfl (q_cons (q_var (i := 4) rfl (.inl rfl) rfl rfl) (q_cons q_int (q_cons q_int q_nil rfl) rfl) rfl) rfl rfl rfl) (fun _ => rfl)) (q_lst (q_cons q_str (q_cons (q_callB (c_repr hg hr.u64 T.sm) rfl T.f_repr bt_repr (q_cons (q_var (i := 5) rfl (.inl rfl) rfl rfl) q_nil rfl) (by decide) rfl rfl rfl) q_nil rfl) rfl)) (q_lst (q_cons q_str (q_cons (q_callB (c_repr hg hr.u64 T.sm) rfl T.f_repr bt_repr (q_cons (q_var (i := 4) rfl (.inl rfl) rfl rfl) q_nil rfl) (by decide) rfl rfl rfl) q_nil rfl) rfl))) rfl (.inr rfl)) (z_cons (z_if (PW.pt (q_or (q_not (q_tru (q_callB c_isiO rfl T.f_isinstance bt_isinstance (q_cons (q_var (i := 6) rfl (.inl rfl) rfl rfl) (q_cons (q_ty .list rfl T.f_list bt_list (by decide) rfl) q_nil rfl) rfl) (by decide) rfl rfl rfl) (fun _ => rfl))) (q_or1 (q_cmpT (o_ne hr.u64) (q_var (i := 6) rfl (.inl rfl) rfl rfl) (q_var (i := 7) rfl (.inl rfl) rfl rfl) (nomark _))))) (z_cons (z_ret q_bl) z_nil) z_nil) z_nil)) (z_cons (z_if (q_tru (q_callB c_isiO rfl T.f_isinstance bt_isinstance (q_cons (q_var (i := 6) rfl (.inl rfl) rfl rfl) (q_cons (q_ty .list rfl T.f_list bt_list (by decide) rfl) q_nil rfl) rfl) (by decide) rfl rfl rfl) (fun _ => rfl)) (z_cons (z_ret q_bl) z_nil) (z_cons (z_set (i := 8) nd rfl (.inl rfl) (q_lst (q_cons q_int (q_cons q_bl (q_cons q_int (q_cons q_bl (q_cons (q_var (i := 5) rfl (.inl rfl) rfl rfl) (q_cons (q_callB (c_max rfl) rfl T.f_max bt_max (q_cons q_int (q_cons (q_op o_sub (q_var (i := 5) rfl (.inl rfl) rfl rfl) q_int) q_nil rfl) rfl) (by decide) rfl rfl rfl) (q_cons (q_op o_add (q_var (i := 5) rfl (.inl rfl) rfl rfl) q_int) (q_cons (q_call C_law_draw_v3 hr (by decide) hg rfl (q_cons (q_var (i := 1) rfl (.inl rfl) rfl rfl) (q_cons (q_op o_add (q_op o_pow q_int q_int) q_int) q_nil rfl) rfl) rfl rfl rfl) (q_cons (q_op o_pow q_int q_int) q_nil rfl) rfl) rfl) rfl) rfl) rfl) rfl) rfl) rfl)) rfl (.inr rfl)) (z_cons (z_for PassesOwn.never rfl (pi_seq (q_op o_add (q_var (i := 8) rfl (.inl rfl) rfl rfl) (q_lst (q_cons (q_ix (q_var (i := 2) rfl (.inl rfl) rfl rfl) (q_call C_law_draw_v3 hr (by decide) hg rfl (q_cons (q_var (i := 1) rfl (.inl rfl) rfl rfl) (q_cons q_int q_nil rfl) rfl) rfl rfl rfl) (fun _ _ => rfl)) (q_cons (q_ix (q_var (i := 2) rfl (.inl rfl) rfl rfl) (q_call C_law_draw_v3 hr (by decide) hg rfl (q_cons (q_var (i := 1) rfl (.inl rfl) rfl rfl) (q_cons q_int q_nil rfl) rfl) rfl rfl rfl) (fun _ _ => rfl)) q_nil rfl) rfl)))) (g_nm (i := 9) nd rfl (.inl rfl) (.inr rfl)) (z_cons (z_set (i := 7) nd rfl (.inl rfl) (q_lst (q_cons q_str (q_cons (q_callB (c_repr hg hr.u64 T.sm) rfl T.f_repr bt_repr (q_cons (q_var (i := 9) rfl (.inl rfl) rfl rfl) q_nil rfl) (by decide) rfl rfl rfl) q_nil rfl) rfl)) rfl (.inr rfl)) (z_cons (z_if (q_tru (q_call C_law_is_within hr (by decide) hg rfl (q_cons (q_var (i := 9) rfl (.inl rfl) rfl rfl) (q_cons q_int (q_cons (q_op o_pow q_int q_int) q_nil rfl) rfl) rfl) rfl rfl rfl) (fun _ => rfl)) (z_cons (z_set (i := 7) nd rfl (.inl rfl) (q_callB (c_max rfl) rfl T.f_max bt_max (q_cons q_int (q_cons (q_op o_sub (q_var (i := 5) rfl (.inl rfl) rfl rfl) (q_var (i := 9) rfl (.inl rfl) rfl rfl)) q_nil rfl) rfl) (by decide) rfl rfl rfl) rfl (.inr rfl)) z_nil) z_nil) (z_cons (z_if (q_cmpT (o_ne hr.u64) (q_callB (c_repr hg hr.u64 T.sm) rfl T.f_repr bt_repr (q_cons (q_lst (q_cons (q_call C_law_short hr (by decide) hg rfl (q_cons (q_var (i := 6) rfl (.inl rfl) rfl rfl) (q_cons (q_var (i := 9) rfl (.inl rfl) rfl rfl) q_nil rfl) rfl) rfl rfl rfl) (q_cons (q_prop (j := 1) (Tb.okP_cons C_Guard_post (Nat.le_refl _) Tb.okP_nil) hr (by decide) hg (q_var (i := 6) rfl (.inl rfl) rfl rfl) rfl) (q_cons (q_prop (j := 1) (Tb.okP_cons C_Guard_least (Nat.le_refl _) Tb.okP_nil) hr (by decide) hg (q_var (i := 6) rfl (.inl rfl) rfl rfl) rfl) q_nil rfl) rfl) rfl)) q_nil rfl) (by decide) rfl rfl rfl) (q_callB (c_repr hg hr.u64 T.sm) rfl T.f_repr bt_repr (q_cons (q_lst (q_cons (q_var (i := 7) rfl (.inl rfl) rfl rfl) (q_cons (q_var (i := 4) rfl (.inl rfl) rfl rfl) (q_cons (q_var (i := 5) rfl (.inl rfl) rfl rfl) q_nil rfl) rfl) rfl)) q_nil rfl) (by decide) rfl rfl rfl) (nomark _)) (z_cons (z_ret q_bl) z_nil) z_nil) z_nil))) (fun _ => rfl)) z_nil))) z_nil)) z_nil)))) (fun _ => rfl)) (z_cons (z_ret q_bl) z_nil))))
theorem sc_is_number_to : FnScope n_is_number_to ["value", "most"] (defScope Hd.s_is_number_to) := ⟨rfl, rfl, rfl, by decide +kernel, rfl, by decide +kernel, by decide +kernel⟩
abbrev F_is_number_to (K : PySem.W.Frag) (f : Addr) (fd : FuncData) : Prop := FunD K "is_number_to" "is_number_to" (defArgs Hd.s_is_number_to) (defBody Hd.s_is_number_to) (defScope Hd.s_is_number_to) [] [] f fd
theorem bi_is_number_to {f : Addr} {fd : FuncData} (F : F_is_number_to K f fd) : Binds K fd ["value", "most"] [] :=
  F.bindsN fun _ _ _ _ _ _ us hl => match us, hl with | [_, _], _ => rfl
theorem r_is_number_to (T : Tab K mg) {f : Addr} {fd : FuncData} (F : F_is_number_to K f fd) : FnG P w K mg base CX0 1 f fd ["value", "most"] (loSp K sp_is_number_to 2) :=
  fnR F sc_is_number_to rfl (fun _ _ _ _ _ _ hr hg => b_is_number_to T hr hg) fun ds M Φ _ h => p_is_number_to ds M Φ h
theorem c_is_number_to (T : Tab K mg) {f : Addr} {fd : FuncData} (F : F_is_number_to K f fd) (hm : mg "is_number_to" = some (.ref f)) : Callee P w K mg base 1 "is_number_to" 2 sp_is_number_to :=
  ⟨f, fd, _, rfl, hm, F.kp, bi_is_number_to F, r_is_number_to T F⟩
theorem sc_Guard_init_x : FnScope n_Guard_init_x ["self", "post", "least"] (defScope Hd.s_Guard_init) := ⟨rfl, rfl, rfl, by decide +kernel, rfl, by decide +kernel, by decide +kernel⟩
abbrev F_Guard_init_x (K : PySem.W.Frag) (f : Addr) (fd : FuncData) : Prop := FunD K "__init__" "Guard.__init__" (defArgs Hd.s_Guard_init) (defBody Hd.s_Guard_init) (defScope Hd.s_Guard_init) [] [] f fd
theorem bi_Guard_init_x {f : Addr} {fd : FuncData} (F : F_Guard_init_x K f fd) : Binds K fd ["self", "post", "least"] [] :=
  F.bindsN fun _ _ _ _ _ _ us hl => match us, hl with | [_, _, _], _ => rfl
theorem r_Guard_init_x (T : Tab K mg) (C_is_number_to : Callee P w K mg base 1 "is_number_to" 2 sp_is_number_to) (X_BadPost : XCallee P w K mg base "BadPost" "value") (X_BadLeast : XCallee P w K mg base "BadLeast" "value") {f : Addr} {fd : FuncData} (F : F_Guard_init_x K f fd) : FnG P w K mg base (CX P w) 3 f fd ["self", "post", "least"] (loSpX K sp_Guard_init_x 3) :=
  fnRX F sc_Guard_init_x rfl (fun _ _ _ _ _ _ hr hg O ξ tk ps => b_Guard_init_x T C_is_number_to X_BadPost X_BadLeast hr hg tk ps) fun ds M Φ ξ _ h => p_Guard_init_x ds M Φ ξ h
theorem sc_Guard_post : FnScope n_Guard_post ["self"] (defScope Hd.s_Guard_post) := ⟨rfl, rfl, rfl, by decide +kernel, rfl, by decide +kernel, by decide +kernel⟩
abbrev F_Guard_post (K : PySem.W.Frag) (f : Addr) (fd : FuncData) : Prop := FunD K "post" "Guard.post" (defArgs Hd.s_Guard_post) (defBody Hd.s_Guard_post) (defScope Hd.s_Guard_post) [] [] f fd
theorem bi_Guard_post {f : Addr} {fd : FuncData} (F : F_Guard_post K f fd) : Binds K fd ["self"] [] :=
  F.bindsN fun _ _ _ _ _ _ us hl => match us, hl with | [_], _ => rfl
theorem r_Guard_post (T : Tab K mg) {f : Addr} {fd : FuncData} (F : F_Guard_post K f fd) : FnG P w K mg base CX0 1 f fd ["self"] (loSp K sp_Guard_post 1) :=
  fnR F sc_Guard_post rfl (fun _ _ _ _ _ _ hr hg => b_Guard_post T hr hg) fun ds M Φ _ h => p_Guard_post ds M Φ h
theorem sc_Guard_least : FnScope n_Guard_least ["self"] (defScope Hd.s_Guard_least) := ⟨rfl, rfl, rfl, by decide +kernel, rfl, by decide +kernel, by decide +kernel⟩
abbrev F_Guard_least (K : PySem.W.Frag) (f : Addr) (fd : FuncData) : Prop := FunD K "least" "Guard.least" (defArgs Hd.s_Guard_least) (defBody Hd.s_Guard_least) (defScope Hd.s_Guard_least) [] [] f fd
theorem bi_Guard_least {f : Addr} {fd : FuncData} (F : F_Guard_least K f fd) : Binds K fd ["self"] [] :=
  F.bindsN fun _ _ _ _ _ _ us hl => match us, hl with | [_], _ => rfl
theorem r_Guard_least (T : Tab K mg) {f : Addr} {fd : FuncData} (F : F_Guard_least K f fd) : FnG P w K mg base CX0 1 f fd ["self"] (loSp K sp_Guard_least 1) :=
  fnR F sc_Guard_least rfl (fun _ _ _ _ _ _ hr hg => b_Guard_least T hr hg) fun ds M Φ _ h => p_Guard_least ds M Φ h
theorem sc_Guard_short_v2_x : FnScope n_Guard_short_v2_x ["self", "number"] (defScope Hd.s_Guard_short) := ⟨rfl, rfl, rfl, by decide +kernel, rfl, by decide +kernel, by decide +kernel⟩
abbrev F_Guard_short_v2_x (K : PySem.W.Frag) (f : Addr) (fd : FuncData) : Prop := FunD K "short" "Guard.short" (defArgs Hd.s_Guard_short) (defBody Hd.s_Guard_short) (defScope Hd.s_Guard_short) [] [] f fd
theorem bi_Guard_short_v2_x {f : Addr} {fd : FuncData} (F : F_Guard_short_v2_x K f fd) : Binds K fd ["self", "number"] [] :=
  F.bindsN fun _ _ _ _ _ _ us hl => match us, hl with | [_, _], _ => rfl
theorem r_Guard_short_v2_x (T : Tab K mg) (C_is_number_to : Callee P w K mg base 1 "is_number_to" 2 sp_is_number_to) (X_BadLeast : XCallee P w K mg base "BadLeast" "value") {f : Addr} {fd : FuncData} (F : F_Guard_short_v2_x K f fd) : FnG P w K mg base (CX P w) 3 f fd ["self", "number"] (loSpX K sp_Guard_short_v2_x 2) :=
  fnRX F sc_Guard_short_v2_x rfl (fun _ _ _ _ _ _ hr hg O ξ tk ps => b_Guard_short_v2_x T C_is_number_to X_BadLeast hr hg tk ps) fun ds M Φ ξ _ h => p_Guard_short_v2_x ds M Φ ξ h
theorem sc_law_deck : FnScope n_law_deck ["script"] (defScope Hd.s_law_deck) := ⟨rfl, rfl, rfl, by decide +kernel, rfl, by decide +kernel, by decide +kernel⟩
abbrev F_law_deck (K : PySem.W.Frag) (f : Addr) (fd : FuncData) : Prop := FunD K "_law_deck" "_law_deck" (defArgs Hd.s_law_deck) (defBody Hd.s_law_deck) (defScope Hd.s_law_deck) [] [] f fd
theorem bi_law_deck {f : Addr} {fd : FuncData} (F : F_law_deck K f fd) : Binds K fd ["script"] [] :=
  F.bindsN fun _ _ _ _ _ _ us hl => match us, hl with | [_], _ => rfl
theorem r_law_deck (T : Tab K mg) {f : Addr} {fd : FuncData} (F : F_law_deck K f fd) : FnG P w K mg base CX0 1 f fd ["script"] (loSp K sp_law_deck 1) :=
  fnR F sc_law_deck rfl (fun _ _ _ _ _ _ hr hg => b_law_deck T hr hg) fun ds M Φ _ h => p_law_deck ds M Φ h
theorem c_law_deck (T : Tab K mg) {f : Addr} {fd : FuncData} (F : F_law_deck K f fd) (hm : mg "_law_deck" = some (.ref f)) : Callee P w K mg base 1 "_law_deck" 1 sp_law_deck :=
  ⟨f, fd, _, rfl, hm, F.kp, bi_law_deck F, r_law_deck T F⟩
theorem sc_law_draw_v3 : FnScope n_law_draw_v3 ["deck", "many"] (defScope Hd.s_law_draw) := ⟨rfl, rfl, rfl, by decide +kernel, rfl, by decide +kernel, by decide +kernel⟩
abbrev F_law_draw_v3 (K : PySem.W.Frag) (f : Addr) (fd : FuncData) : Prop := FunD K "_law_draw" "_law_draw" (defArgs Hd.s_law_draw) (defBody Hd.s_law_draw) (defScope Hd.s_law_draw) [] [] f fd
theorem bi_law_draw_v3 {f : Addr} {fd : FuncData} (F : F_law_draw_v3 K f fd) : Binds K fd ["deck", "many"] [] :=
  F.bindsN fun _ _ _ _ _ _ us hl => match us, hl with | [_, _], _ => rfl
theorem r_law_draw_v3 (T : Tab K mg) {f : Addr} {fd : FuncData} (F : F_law_draw_v3 K f fd) : FnG P w K mg base CX0 1 f fd ["deck", "many"] (loSp K sp_law_draw_v3 2) :=
  fnR F sc_law_draw_v3 rfl (fun _ _ _ _ _ _ hr hg => b_law_draw_v3 T hr hg) fun ds M Φ _ h => p_law_draw_v3 ds M Φ h
theorem c_law_draw_v3 (T : Tab K mg) {f : Addr} {fd : FuncData} (F : F_law_draw_v3 K f fd) (hm : mg "_law_draw" = some (.ref f)) : Callee P w K mg base 1 "_law_draw" 2 sp_law_draw_v3 :=
  ⟨f, fd, _, rfl, hm, F.kp, bi_law_draw_v3 F, r_law_draw_v3 T F⟩
theorem sc_law_is_within : FnScope n_law_is_within ["value", "low", "high"] (defScope Hd.s_law_is_within) := ⟨rfl, rfl, rfl, by decide +kernel, rfl, by decide +kernel, by decide +kernel⟩
abbrev F_law_is_within (K : PySem.W.Frag) (f : Addr) (fd : FuncData) : Prop := FunD K "_law_is_within" "_law_is_within" (defArgs Hd.s_law_is_within) (defBody Hd.s_law_is_within) (defScope Hd.s_law_is_within) [] [] f fd
theorem bi_law_is_within {f : Addr} {fd : FuncData} (F : F_law_is_within K f fd) : Binds K fd ["value", "low", "high"] [] :=
  F.bindsN fun _ _ _ _ _ _ us hl => match us, hl with | [_, _, _], _ => rfl
theorem r_law_is_within (T : Tab K mg) {f : Addr} {fd : FuncData} (F : F_law_is_within K f fd) : FnG P w K mg base CX0 1 f fd ["value", "low", "high"] (loSp K sp_law_is_within 3) :=
  fnR F sc_law_is_within rfl (fun _ _ _ _ _ _ hr hg => b_law_is_within T hr hg) fun ds M Φ _ h => p_law_is_within ds M Φ h
theorem c_law_is_within (T : Tab K mg) {f : Addr} {fd : FuncData} (F : F_law_is_within K f fd) (hm : mg "_law_is_within" = some (.ref f)) : Callee P w K mg base 1 "_law_is_within" 3 sp_law_is_within :=
  ⟨f, fd, _, rfl, hm, F.kp, bi_law_is_within F, r_law_is_within T F⟩
theorem sc_law_error_v2 : FnScope n_law_error_v2 ["e"] (defScope Hd.s_law_error) := ⟨rfl, rfl, rfl, by decide +kernel, rfl, by decide +kernel, by decide +kernel⟩
abbrev F_law_error_v2 (K : PySem.W.Frag) (f : Addr) (fd : FuncData) : Prop := FunD K "_law_error" "_law_error" (defArgs Hd.s_law_error) (defBody Hd.s_law_error) (defScope Hd.s_law_error) [] [] f fd
theorem bi_law_error_v2 {f : Addr} {fd : FuncData} (F : F_law_error_v2 K f fd) : Binds K fd ["e"] [] :=
  F.bindsN fun _ _ _ _ _ _ us hl => match us, hl with | [_], _ => rfl
theorem c_law_error_v2 (T : Tab K mg) {f : Addr} {fd : FuncData} (F : F_law_error_v2 K f fd) (hm : mg "_law_error" = some (.ref f)) : CalleeQ P w K mg base 1 "_law_error" 1 sp_law_error_v2 :=
  ⟨f, fd, _, rfl, hm, F.kp, bi_law_error_v2 F, fnRQ F sc_law_error_v2 rfl (fun _ _ _ _ _ hr hg => b_law_error_v2 T hr hg) fun ds M Φ _ h => p_law_error_v2 ds M Φ h⟩
theorem sc_law_made : FnScope n_law_made ["post", "least"] (defScope Hd.s_law_made) := ⟨rfl, rfl, rfl, by decide +kernel, rfl, by decide +kernel, by decide +kernel⟩
abbrev F_law_made (K : PySem.W.Frag) (f : Addr) (fd : FuncData) : Prop := FunD K "_law_made" "_law_made" (defArgs Hd.s_law_made) (defBody Hd.s_law_made) (defScope Hd.s_law_made) [] [] f fd
theorem bi_law_made {f : Addr} {fd : FuncData} (F : F_law_made K f fd) : Binds K fd ["post", "least"] [] :=
  F.bindsN fun _ _ _ _ _ _ us hl => match us, hl with | [_, _], _ => rfl
theorem r_law_made (T : Tab K mg) (N_Guard_init_x : NCallee P w K mg base 3 "Guard" 3 sp_Guard_init_x) (C_law_error_v2 : CalleeQ P w K mg base 1 "_law_error" 1 sp_law_error_v2) {f : Addr} {fd : FuncData} (F : F_law_made K f fd) : FnG P w K mg base CX0 5 f fd ["post", "least"] (loSp K sp_law_made 2) :=
  fnR F sc_law_made rfl (fun _ _ _ _ _ _ hr hg => b_law_made T N_Guard_init_x C_law_error_v2 hr hg) fun ds M Φ _ h => p_law_made ds M Φ h
theorem c_law_made (T : Tab K mg) (N_Guard_init_x : NCallee P w K mg base 3 "Guard" 3 sp_Guard_init_x) (C_law_error_v2 : CalleeQ P w K mg base 1 "_law_error" 1 sp_law_error_v2) {f : Addr} {fd : FuncData} (F : F_law_made K f fd) (hm : mg "_law_made" = some (.ref f)) : Callee P w K mg base 5 "_law_made" 2 sp_law_made :=
  ⟨f, fd, _, rfl, hm, F.kp, bi_law_made F, r_law_made T N_Guard_init_x C_law_error_v2 F⟩
theorem sc_law_short : FnScope n_law_short ["guard", "number"] (defScope Hd.s_law_short) := ⟨rfl, rfl, rfl, by decide +kernel, rfl, by decide +kernel, by decide +kernel⟩
abbrev F_law_short (K : PySem.W.Frag) (f : Addr) (fd : FuncData) : Prop := FunD K "_law_short" "_law_short" (defArgs Hd.s_law_short) (defBody Hd.s_law_short) (defScope Hd.s_law_short) [] [] f fd
theorem bi_law_short {f : Addr} {fd : FuncData} (F : F_law_short K f fd) : Binds K fd ["guard", "number"] [] :=
  F.bindsN fun _ _ _ _ _ _ us hl => match us, hl with | [_, _], _ => rfl
theorem r_law_short (T : Tab K mg) (C_Guard_short_v2_x : MCallee P w K mg base 3 "Guard" "short" 2 sp_Guard_short_v2_x) (C_law_error_v2 : CalleeQ P w K mg base 1 "_law_error" 1 sp_law_error_v2) {f : Addr} {fd : FuncData} (F : F_law_short K f fd) : FnG P w K mg base CX0 4 f fd ["guard", "number"] (loSp K sp_law_short 2) :=
  fnR F sc_law_short rfl (fun _ _ _ _ _ _ hr hg => b_law_short T C_Guard_short_v2_x C_law_error_v2 hr hg) fun ds M Φ _ h => p_law_short ds M Φ h
theorem c_law_short (T : Tab K mg) (C_Guard_short_v2_x : MCallee P w K mg base 3 "Guard" "short" 2 sp_Guard_short_v2_x) (C_law_error_v2 : CalleeQ P w K mg base 1 "_law_error" 1 sp_law_error_v2) {f : Addr} {fd : FuncData} (F : F_law_short K f fd) (hm : mg "_law_short" = some (.ref f)) : Callee P w K mg base 4 "_law_short" 2 sp_law_short :=
  ⟨f, fd, _, rfl, hm, F.kp, bi_law_short F, r_law_short T C_Guard_short_v2_x C_law_error_v2 F⟩
theorem sc_law_k46 : FnScope n_law_k46 ["script"] (defScope Hd.s_law) := ⟨rfl, rfl, rfl, by decide +kernel, rfl, by decide +kernel, by decide +kernel⟩
abbrev F_law_k46 (K : PySem.W.Frag) (f : Addr) (fd : FuncData) : Prop := FunD K "law" "law" (defArgs Hd.s_law) (defBody Hd.s_law) (defScope Hd.s_law) [] [] f fd
theorem r_law_k46 (T : Tab K mg) (C_law_deck : Callee P w K mg base 1 "_law_deck" 1 sp_law_deck) (C_law_draw_v3 : Callee P w K mg base 1 "_law_draw" 2 sp_law_draw_v3) (C_law_made : Callee P w K mg base 5 "_law_made" 2 sp_law_made) (C_law_is_within : Callee P w K mg base 1 "_law_is_within" 3 sp_law_is_within) (C_law_short : Callee P w K mg base 4 "_law_short" 2 sp_law_short) (C_Guard_post : PCallee P w K mg base 1 "Guard" "post" sp_Guard_post) (C_Guard_least : PCallee P w K mg base 1 "Guard" "least" sp_Guard_least) {f : Addr} {fd : FuncData} (F : F_law_k46 K f fd) : FnG P w K mg base CX0 6 f fd ["script"] (loSp K sp_law_k46 1) :=
  fnR F sc_law_k46 rfl (fun _ _ _ _ _ _ hr hg => b_law_k46 T C_law_deck C_law_draw_v3 C_law_made C_law_is_within C_law_short C_Guard_post C_Guard_least hr hg) fun ds M Φ _ h => p_law_k46 ds M Φ h
theorem facts {h : Heap} {fa : Addr} (X : K.In h) (G : h.Ns mainGlobals mg) (hfa : mg "law" = some (.ref fa)) (Y : Hd.says K) :
    ∃ fd : FuncData, (∀ (s : Shared) (u : Value), BindsTo s fd ⟨[u], []⟩ [("script", u)]) ∧ ∀ base : Heap, K.In base → base.Ns mainGlobals mg → FnG P w K mg base CX0 6 fa fd ["script"] (loSp K sp_law_k46 1) := by
  obtain ⟨hsn, hx, hgt, c⟩ := Y
  have c : He.SaysD Hd.fa Hd.fn K := c
  have xk : ∀ {i : Nat} {x : Xf}, Hd.xf[i]? = some x → x.ok K = true := fun h => hx _ (List.mem_of_getElem? h)
  have T : Tab K mg := ⟨hsn, He.free_ok X G (c.fact 8 (f := .free "ValueError") rfl), He.free_ok X G (c.fact 9 (f := .free "abs") rfl), He.free_ok X G (c.fact 10 (f := .free "bool") rfl), He.free_ok X G (c.fact 11 (f := .free "int") rfl), He.free_ok X G (c.fact 12 (f := .free "isinstance") rfl), He.free_ok X G (c.fact 13 (f := .free "len") rfl), He.free_ok X G (c.fact 14 (f := .free "list") rfl), He.free_ok X G (c.fact 15 (f := .free "max") rfl), He.free_ok X G (c.fact 16 (f := .free "property") rfl), He.free_ok X G (c.fact 17 (f := .free "range") rfl), He.free_ok X G (c.fact 18 (f := .free "repr") rfl), He.int_ok X G (c.fact 19 (f := .int "LIMIT" 1000000) rfl), He.int_ok X G (c.fact 20 (f := .int "MAX_STATIONS" 10) rfl), He.glo_ok X G (c.fact 21 (f := .glo "ChairError") rfl), (xk (i := 0) (x := .ccls "ChairError") rfl), He.glo_ok X G (c.fact 22 (f := .glo "BadNumbers") rfl), (xk (i := 1) (x := .ccls "BadNumbers") rfl), He.glo_ok X G (c.fact 23 (f := .glo "BadCount") rfl), (xk (i := 2) (x := .ccls "BadCount") rfl), He.glo_ok X G (c.fact 24 (f := .glo "BadPost") rfl), (xk (i := 3) (x := .ccls "BadPost") rfl), He.glo_ok X G (c.fact 25 (f := .glo "BadLeast") rfl), (xk (i := 4) (x := .ccls "BadLeast") rfl), He.glo_ok X G (c.fact 26 (f := .glo "TooLow") rfl), (xk (i := 5) (x := .ccls "TooLow") rfl)⟩
  obtain ⟨fd_BadPost_init, F_BadPost_init⟩ := c.def_ 0 (d := Hd.ds_BadPost_init) rfl
  obtain ⟨fd_BadLeast_init, F_BadLeast_init⟩ := c.def_ 1 (d := Hd.ds_BadLeast_init) rfl
  obtain ⟨fd_is_number_to, F_is_number_to⟩ := c.def_ 2 (d := Hd.ds_is_number_to) rfl
  obtain ⟨fd_Guard_init_x, F_Guard_init_x⟩ := c.def_ 3 (d := Hd.ds_Guard_init) rfl
  obtain ⟨fd_Guard_short_v2_x, F_Guard_short_v2_x⟩ := c.def_ 4 (d := Hd.ds_Guard_short) rfl
  obtain ⟨fd_law_deck, F_law_deck⟩ := c.def_ 5 (d := Hd.ds_law_deck) rfl
  obtain ⟨fd_law_draw_v3, F_law_draw_v3⟩ := c.def_ 6 (d := Hd.ds_law_draw) rfl
  obtain ⟨fd_law_is_within, F_law_is_within⟩ := c.def_ 7 (d := Hd.ds_law_is_within) rfl
  obtain ⟨fd_law_error_v2, F_law_error_v2⟩ := c.def_ 8 (d := Hd.ds_law_error) rfl
  obtain ⟨fd_law_made, F_law_made⟩ := c.def_ 9 (d := Hd.ds_law_made) rfl
  obtain ⟨fd_law_short, F_law_short⟩ := c.def_ 10 (d := Hd.ds_law_short) rfl
  obtain ⟨fd_law_k46, F_law_k46⟩ := c.def_ 11 (d := Hd.ds_law) rfl
  obtain ⟨fd_Guard_post, F_Guard_post⟩ := get_funD (hgt _ (List.mem_of_getElem? (i := 0) (a := (Hd.ds_Guard_post, fun K => pa K "Guard" "post")) rfl)).1 (hgt _ (List.mem_of_getElem? (i := 0) (a := (Hd.ds_Guard_post, fun K => pa K "Guard" "post")) rfl)).2
  obtain ⟨fd_Guard_least, F_Guard_least⟩ := get_funD (hgt _ (List.mem_of_getElem? (i := 1) (a := (Hd.ds_Guard_least, fun K => pa K "Guard" "least")) rfl)).1 (hgt _ (List.mem_of_getElem? (i := 1) (a := (Hd.ds_Guard_least, fun K => pa K "Guard" "least")) rfl)).2
  have e := hfa.symm.trans (He.glo_ok X G (c.fact 7 (f := .glo "law") rfl))
  cases e
  refine ⟨fd_law_k46, fun s v => FunD.bindsA (ps := ["script"]) F_law_k46 (fun _ _ _ _ _ _ us hl => match us, hl with | [_], _ => rfl) s [v] rfl, fun base KB GB => ?_⟩
  have X_BadPost : XCallee P w K mg base "BadPost" "value" := xcal (xk (i := 10) (x := .xin "BadPost" "value") rfl) (He.glo_ok X G (c.fact 24 (f := .glo "BadPost") rfl)) F_BadPost_init rfl rfl (by decide) (by decide) (by decide) (by decide) ⟨rfl, rfl, rfl, by decide +kernel, rfl, by decide +kernel, by decide +kernel⟩ (F_BadPost_init.bindsN fun _ _ _ _ _ _ us hl => match us, hl with | [_, _], _ => rfl)
  have X_BadLeast : XCallee P w K mg base "BadLeast" "value" := xcal (xk (i := 11) (x := .xin "BadLeast" "value") rfl) (He.glo_ok X G (c.fact 25 (f := .glo "BadLeast") rfl)) F_BadLeast_init rfl rfl (by decide) (by decide) (by decide) (by decide) ⟨rfl, rfl, rfl, by decide +kernel, rfl, by decide +kernel, by decide +kernel⟩ (F_BadLeast_init.bindsN fun _ _ _ _ _ _ us hl => match us, hl with | [_, _], _ => rfl)
  have C_is_number_to : Callee P w K mg base 1 "is_number_to" 2 sp_is_number_to := c_is_number_to T F_is_number_to (He.glo_ok X G (c.fact 0 (f := .glo "is_number_to") rfl))
  have C_Guard_post : PCallee P w K mg base 1 "Guard" "post" sp_Guard_post := ⟨_, _, fd_Guard_post, _, rfl, prop_ok (xk (i := 8) (x := .prop "Guard" "post") rfl), bi_Guard_post F_Guard_post, (r_Guard_post T F_Guard_post)⟩
  have C_Guard_least : PCallee P w K mg base 1 "Guard" "least" sp_Guard_least := ⟨_, _, fd_Guard_least, _, rfl, prop_ok (xk (i := 9) (x := .prop "Guard" "least") rfl), bi_Guard_least F_Guard_least, (r_Guard_least T F_Guard_least)⟩
  have C_law_deck : Callee P w K mg base 1 "_law_deck" 1 sp_law_deck := c_law_deck T F_law_deck (He.glo_ok X G (c.fact 1 (f := .glo "_law_deck") rfl))
  have C_law_draw_v3 : Callee P w K mg base 1 "_law_draw" 2 sp_law_draw_v3 := c_law_draw_v3 T F_law_draw_v3 (He.glo_ok X G (c.fact 2 (f := .glo "_law_draw") rfl))
  have C_law_is_within : Callee P w K mg base 1 "_law_is_within" 3 sp_law_is_within := c_law_is_within T F_law_is_within (He.glo_ok X G (c.fact 3 (f := .glo "_law_is_within") rfl))
  have C_law_error_v2 : CalleeQ P w K mg base 1 "_law_error" 1 sp_law_error_v2 := c_law_error_v2 T F_law_error_v2 (He.glo_ok X G (c.fact 4 (f := .glo "_law_error") rfl))
  have N_Guard_init_x : NCallee P w K mg base 3 "Guard" 3 sp_Guard_init_x := ⟨_, fd_Guard_init_x, _, rfl, He.glo_ok X G (c.fact 27 (f := .glo "Guard") rfl), (xk (i := 6) (x := .cins "Guard") rfl), He.mkr_ok (c.fact 29 (f := .mkr "Guard") rfl), bi_Guard_init_x F_Guard_init_x, (r_Guard_init_x T C_is_number_to X_BadPost X_BadLeast F_Guard_init_x)⟩
  have C_Guard_short_v2_x : MCallee P w K mg base 3 "Guard" "short" 2 sp_Guard_short_v2_x := ⟨_, fd_Guard_short_v2_x, _, rfl, He.meth_ok (c.fact 28 (f := .meth "Guard" "short") rfl), (xk (i := 7) (x := .fnin "Guard" "short") rfl), bi_Guard_short_v2_x F_Guard_short_v2_x, (r_Guard_short_v2_x T C_is_number_to X_BadLeast F_Guard_short_v2_x)⟩
  have C_law_short : Callee P w K mg base 4 "_law_short" 2 sp_law_short := c_law_short T C_Guard_short_v2_x C_law_error_v2 F_law_short (He.glo_ok X G (c.fact 6 (f := .glo "_law_short") rfl))
  have C_law_made : Callee P w K mg base 5 "_law_made" 2 sp_law_made := c_law_made T N_Guard_init_x C_law_error_v2 F_law_made (He.glo_ok X G (c.fact 5 (f := .glo "_law_made") rfl))
  exact r_law_k46 T C_law_deck C_law_draw_v3 C_law_made C_law_is_within C_law_short C_Guard_post C_Guard_least F_law_k46
end LK
open PySem PySem.W PySem.Calls PyProof.Rows
theorem PySem.Challenge.cw_chairwalks_k46_guards_holds : PySem.Challenge.rw_chairwalks_k46_guards.Holds := by
  w_on; o_law
  refine HandSHeadRun.head_any (r := OpenLaw.row PySem.Challenge.rw_chairwalks_k46_guards) (q := view (OpenLaw.row PySem.Challenge.rw_chairwalks_k46_guards).prog [19]) (H := Hd.hk) (ob := Hd.ob) (M := 4000) (loose := Hd.loose) (d := HandSHeadRun.topDef (OpenLaw.row PySem.Challenge.rw_chairwalks_k46_guards).prog 19) (kwd := []) Hd.ob_eq
    (by kernel_rfl) (fun s => by kernel_rfl) Hd.run (by kernel_rfl) (by kernel_rfl) (by kernel_rfl) (by rfl) (by first | assumption | decide +kernel) (by decide +kernel) ⟨rfl, rfl, rfl, rfl, rfl, by decide +kernel⟩ ?hw ?hc
  case hw => w_witness2
  case hc =>
    refine DL.walkG (l := PySem.Challenge.rw_chairwalks_k46_guards) (n := 63) (k := 6) (x := "script") (sp := DL.sp_law_k46) rfl (by decide) (by kernel_rfl) ⟨rfl, by decide, by decide⟩ (fun ns M Φ h => ⟨ns, rfl, h⟩) ?F
    intro w mg fa h Y G hmg0
    obtain ⟨K, KX, hsn⟩ := Y
    have hmg : mg ("law" : PySem.Str) = some (.ref fa) := by
      have e : (HandSHeadRun.topDef (OpenLaw.row PySem.Challenge.rw_chairwalks_k46_guards).prog 19).name = ("law" : PySem.Str) := by kernel_rfl
      rw [← e]; exact hmg0
    obtain ⟨fd, hb, hF⟩ := LK.facts (P := (PySem.Challenge.rw_chairwalks_k46_guards).prog) (w := w) KX G hmg hsn
    exact ⟨K, fd, KX, hb, hF⟩
