import PyProof.Rows.All
import Wide.All
import OpenK.AllK
import Wide.FinOn
import KE.KStateDown
import HandS.Base
import HandS.Call
import HandS.List
import HandS.Comp
import HandS.Iter
import HandS.Dict
import HandS.Text
import HandS.More
import HandS.Words
import HandS.WordsList
import HandS.WordsExc
import HandS.Ends
import HandS.IsInst
import HandS.Zip
import HandS.Walk
import HandS.TupAny
import HandS.TupMul
import HandS.TupLe
import HandS.Style
import HandS.Exc
import HandS.Defaults
import KE.GoesEnum
import KE.GoesZip
import KE.GoesMore
import PyProof.StrLawsRepr
import KE.KRevSl
import KE.KTupSum
import KE.DatumOrd
import HandS.Star
import HandS.SortInts
import HandS.SetFor
import HandS.Strs
import HandS.Conv
import PyProof.Gen
import PyProof.GenQ
import OpenK.XSeg
import HandS.GenList
import HandS.FStr
import HandS.HeadEnd
import HandS.Head0
import HandS.Head1
import HandS.Head2
import HandS.HeadEnd
import HandS.HeadHook1
import HandS.HeadHook2
import PySem.Challenge.RW_chairwalks_k55_corridor_texts
set_option Elab.async false
set_option linter.all false
set_option maxRecDepth 100000
set_option maxHeartbeats 4000000
/-! DL: data as values over the hand layer: tuples and lists that nobody changes are plain trees, what changes stands in a map. -/
namespace DL
open PySem PySem.Spec PyProof.Rows L2

inductive Ty where
  | none | bool | int | str | tuple | list | dict
  deriving DecidableEq
def Ty.name : Ty → String
  | .none => "NoneType" | .bool => "bool" | .int => "int" | .str => "str" | .tuple => "tuple" | .list => "list" | .dict => "dict"
/-- a value as a tree; ref: an object that may change (in the map), or any other object -/
inductive D where
  | non | bl (b : Bool) | int (i : Int) | str (s : Str)
  | tup (xs : List D) | lst (xs : List D) | dic (ks : List Key) (xs : List D) | ref (a : Addr) | scr (ns : List Int) | ty (t : Ty)

/-- the script's list: read, never written -/
def SqS (K : PySem.W.Frag) (H : Hp) (a : Addr) (vs : List V) : Prop := (∃ o, H a = some (.frz o (.lst vs))) ∨ SqL K (fun _ => none) a vs
theorem SqS.sq {K : PySem.W.Frag} {H : Hp} {a : Addr} {vs : List V} (h : SqS K H a vs) : SqL K H a vs := by
  rcases h with ⟨o, h⟩ | (h | h)
  · exact .inl (.inr ⟨o, h⟩)
  · rcases h with h | ⟨_, h⟩ <;> cases h
  · exact .inr h
theorem SqS.of {K : PySem.W.Frag} {H : Hp} {a : Addr} {vs : List V} (h : SqL K H a vs) (hn : ∀ ws, H a ≠ some (.lst ws)) : SqS K H a vs := by
  rcases h with (h | h) | h
  · exact absurd h (hn _)
  · exact .inl h
  · exact .inr (.inr h)

mutual
def Rep (K : PySem.W.Frag) (F : Addr → Prop) (H : Hp) : D → V → Prop
  | .non, v => v = .non
  | .bl b, v => v = .bl b
  | .int i, v => v = .int i
  | .str s, v => v = .str s
  | .tup xs, v => ∃ a vs, v = .ref a ∧ SqT K H a vs ∧ Reps K F H xs vs
  | .lst xs, v => ∃ a vs, v = .ref a ∧ F a ∧ H a = some (.lst vs) ∧ Reps K F H xs vs
  | .dic ks xs, v => ∃ a vs, v = .ref a ∧ F a ∧ H a = some (.dK (ks.zip vs)) ∧ ks.length = xs.length ∧ Reps K F H xs vs
  | .ref a, v => v = .ref a
  | .scr ns, v => ∃ a, v = .ref a ∧ SqS K H a (ns.map V.int)
  | .ty t, v => v = .ty t.name
def Reps (K : PySem.W.Frag) (F : Addr → Prop) (H : Hp) : List D → List V → Prop
  | [], vs => vs = []
  | x :: xs, vs => ∃ v r, vs = v :: r ∧ Rep K F H x v ∧ Reps K F H xs r
end

structure Le (K : PySem.W.Frag) (F : Addr → Prop) (H : Hp) (F' : Addr → Prop) (H' : Hp) : Prop where
  tup : ∀ a vs, SqT K H a vs → SqT K H' a vs
  sub : ∀ a, F a → F' a
  frz : ∀ a, F a → H' a = H a
  scr : ∀ a vs, SqS K H a vs → SqS K H' a vs

section
variable {K : PySem.W.Frag} {F F' F1 F2 : Addr → Prop} {H H' H1 H2 : Hp}
theorem Le.refl : Le K F H F H := ⟨fun _ _ h => h, fun _ h => h, fun _ _ => rfl, fun _ _ h => h⟩
theorem Le.trans (a : Le K F H F1 H1) (b : Le K F1 H1 F2 H2) : Le K F H F2 H2 :=
  ⟨fun x vs h => b.tup x vs (a.tup x vs h), fun x h => b.sub x (a.sub x h), fun x h => (b.frz x (a.sub x h)).trans (a.frz x h), fun x vs h => b.scr x vs (a.scr x vs h)⟩
mutual
theorem Rep.mono (l : Le K F H F' H') : ∀ {d : D} {v : V}, Rep K F H d v → Rep K F' H' d v
  | .non, _, h => h
  | .bl _, _, h => h
  | .int _, _, h => h
  | .str _, _, h => h
  | .tup xs, v, h => by
    simp only [Rep] at h ⊢
    obtain ⟨a, vs, e, s, r⟩ := h
    exact ⟨a, vs, e, l.tup _ _ s, Reps.mono l r⟩
  | .lst xs, v, h => by
    simp only [Rep] at h ⊢
    obtain ⟨a, vs, e, f, s, r⟩ := h
    exact ⟨a, vs, e, l.sub _ f, (l.frz a f).trans s, Reps.mono l r⟩
  | .dic ks xs, v, h => by
    simp only [Rep] at h ⊢
    obtain ⟨a, vs, e, f, s, n, r⟩ := h
    exact ⟨a, vs, e, l.sub _ f, (l.frz a f).trans s, n, Reps.mono l r⟩
  | .ref _, _, h => h
  | .scr ns, v, h => by
    simp only [Rep] at h ⊢
    obtain ⟨a, e, s⟩ := h
    exact ⟨a, e, l.scr _ _ s⟩
  | .ty _, _, h => h
theorem Reps.mono (l : Le K F H F' H') : ∀ {ds : List D} {vs : List V}, Reps K F H ds vs → Reps K F' H' ds vs
  | [], _, h => h
  | x :: xs, vs, h => by
    simp only [Reps] at h ⊢
    obtain ⟨v, r, e, h1, h2⟩ := h
    exact ⟨v, r, e, Rep.mono l h1, Reps.mono l h2⟩
end
theorem Reps.nil : Reps K F H [] [] := by simp only [Reps]
theorem Reps.cons {d : D} {v : V} {ds : List D} {vs : List V} (a : Rep K F H d v) (b : Reps K F H ds vs) : Reps K F H (d :: ds) (v :: vs) := by
  simp only [Reps]
  exact ⟨v, vs, rfl, a, b⟩
theorem Reps.length : ∀ {ds : List D} {vs : List V}, Reps K F H ds vs → ds.length = vs.length
  | [], _, h => by simp only [Reps] at h; subst h; rfl
  | x :: xs, vs, h => by
    simp only [Reps] at h
    obtain ⟨v, r, e, h1, h2⟩ := h
    subst e
    simp [Reps.length h2]
theorem Reps.get : ∀ {ds : List D} {vs : List V}, Reps K F H ds vs → ∀ {i : Nat} {d : D}, ds[i]? = some d → ∃ v, vs[i]? = some v ∧ Rep K F H d v
  | [], _, h, i, d, e => by simp at e
  | x :: xs, vs, h, i, d, e => by
    simp only [Reps] at h
    obtain ⟨v, r, e1, h1, h2⟩ := h
    subst e1
    cases i with
    | zero => simp at e; subst e; exact ⟨v, rfl, h1⟩
    | succ i => exact Reps.get h2 (by simpa using e)
theorem Reps.append : ∀ {ds es : List D} {vs ws : List V}, Reps K F H ds vs → Reps K F H es ws → Reps K F H (ds ++ es) (vs ++ ws)
  | [], _, _, _, h, h' => by simp only [Reps] at h; subst h; exact h'
  | x :: xs, es, vs, ws, h, h' => by
    simp only [Reps] at h
    obtain ⟨v, r, e1, h1, h2⟩ := h
    subst e1
    exact Reps.cons h1 (Reps.append h2 h')
theorem Reps.take : ∀ {ds : List D} {vs : List V} (n : Nat), Reps K F H ds vs → Reps K F H (ds.take n) (vs.take n)
  | [], _, n, h => by simp only [Reps] at h; subst h; simp [Reps.nil]
  | x :: xs, vs, n, h => by
    simp only [Reps] at h
    obtain ⟨v, r, e1, h1, h2⟩ := h
    subst e1
    cases n with
    | zero => exact Reps.nil
    | succ n => exact Reps.cons h1 (Reps.take n h2)
theorem Reps.drop : ∀ {ds : List D} {vs : List V} (n : Nat), Reps K F H ds vs → Reps K F H (ds.drop n) (vs.drop n)
  | [], _, n, h => by simp only [Reps] at h; subst h; simp [Reps.nil]
  | x :: xs, vs, n, h => by
    cases n with
    | zero => exact h
    | succ n =>
      simp only [Reps] at h
      obtain ⟨v, r, e1, h1, h2⟩ := h
      subst e1
      exact Reps.drop n h2
theorem Reps.reverse {ds : List D} {vs : List V} (h : Reps K F H ds vs) : Reps K F H ds.reverse vs.reverse := by
  induction ds generalizing vs with
  | nil => simp only [Reps] at h; subst h; exact Reps.nil
  | cons x xs ih =>
    simp only [Reps] at h
    obtain ⟨v, r, e1, h1, h2⟩ := h
    subst e1
    simp only [List.reverse_cons]
    exact (ih h2).append (Reps.cons h1 Reps.nil)
theorem Reps.set {d : D} {v : V} (hd : Rep K F H d v) : ∀ {ds : List D} {vs : List V} (i : Nat), Reps K F H ds vs → Reps K F H (ds.set i d) (vs.set i v)
  | [], _, i, h => by simp only [Reps] at h; subst h; simp [Reps.nil]
  | x :: xs, vs, i, h => by
    simp only [Reps] at h
    obtain ⟨w, r, e1, h1, h2⟩ := h
    subst e1
    cases i with
    | zero => exact Reps.cons hd h2
    | succ i => exact Reps.cons h1 (Reps.set hd i h2)
theorem Reps.rep {ds : List D} {vs : List V} (h : Reps K F H ds vs) : ∀ k : Nat, Reps K F H (List.replicate k ds).flatten (List.replicate k vs).flatten
  | 0 => by simp [Reps.nil]
  | k + 1 => by
    simp only [List.replicate_succ, List.flatten_cons]
    exact h.append (Reps.rep h k)
theorem Reps.ints : ∀ ns : List Int, Reps K F H (ns.map D.int) (ns.map V.int)
  | [] => Reps.nil
  | n :: ns => Reps.cons rfl (Reps.ints ns)
theorem reps_ints : ∀ {ns : List Int} {vs : List V}, Reps K F H (ns.map D.int) vs → vs = ns.map V.int
  | [], vs, h => by simpa [Reps] using h
  | n :: ns, vs, h => by
    simp only [List.map_cons, Reps, Rep] at h
    obtain ⟨v, r, e, rfl, h2⟩ := h
    rw [e, reps_ints h2]
    rfl
end

/-! ### what may change -/
inductive MO where
  | lst (ds : List D)
  | ins (C : Addr) (fs : List (Str × D))
  | deck (c : Addr)
  | cells
structure MS where
  map : Addr → Option MO
  bud : Nat
def MS.put (M : MS) (a : Addr) (o : MO) : MS := { M with map := fun b => if b = a then some o else M.map b }
theorem MS.put_same {M : MS} {a : Addr} {o : MO} : (M.put a o).map a = some o := by simp [MS.put]
theorem MS.put_ne {M : MS} {a b : Addr} {o : MO} (h : b ≠ a) : (M.put a o).map b = M.map b := by simp [MS.put, h]
theorem MS.put_bud {M : MS} {a : Addr} {o : MO} : (M.put a o).bud = M.bud := rfl

def ORep (K : PySem.W.Frag) (F : Addr → Prop) (H : Hp) (M : MS) (a : Addr) : MO → Prop
  | .lst ds => ∃ vs, H a = some (.lst vs) ∧ Reps K F H ds vs
  | .ins C fs => ∃ dx fs', H a = some (.ins C dx fs') ∧ fs.map (·.1) = fs'.map (·.1) ∧ Reps K F H (fs.map (·.2)) (fs'.map (·.2))
  | .deck c => M.map c = some .cells ∧ ∃ (cells : List Int) (n : Int), H a = some (.lst [.ref c, .int n]) ∧ H c = some (.lst (cells.map V.int)) ∧ (∀ x ∈ cells, 0 ≤ x) ∧ cells.length ≤ 63 ∧ 0 ≤ n ∧ n + M.bud ≤ 2 ^ 40
  | .cells => ∃ vs, H a = some (.lst vs)
structure AbsM (K : PySem.W.Frag) (F : Addr → Prop) (H : Hp) (M : MS) : Prop where
  fh : ∀ a, F a → H a ≠ none
  mp : ∀ a o, M.map a = some o → ¬ F a ∧ ORep K F H M a o
abbrev DEnv := List (Option D)
structure RepEnv (K : PySem.W.Frag) (F : Addr → Prop) (H : Hp) (σ : L2.St) (ρ : DEnv) : Prop where
  len : ρ.length = σ.length
  get : ∀ (i : Nat) (d : D), ρ[i]? = some (some d) → ∃ v, σ[i]? = some (some v) ∧ Rep K F H d v
structure Abs (K : PySem.W.Frag) (F : Addr → Prop) (H : Hp) (M : MS) (σ : L2.St) (ρ : DEnv) : Prop where
  am : AbsM K F H M
  env : RepEnv K F H σ ρ

section
variable {K : PySem.W.Frag} {F F' F1 F2 : Addr → Prop} {H H' H1 H2 : Hp} {M M' : MS} {σ : L2.St} {ρ : DEnv} {a p : Addr}
theorem ORep.there {o : MO} (h : ORep K F H M a o) : H a ≠ none := by
  cases o with
  | lst ds => obtain ⟨vs, e, _⟩ := h; rw [e]; simp
  | ins C fs => obtain ⟨_, _, e, _⟩ := h; rw [e]; simp
  | deck c => obtain ⟨_, _, _, e, _⟩ := h; rw [e]; simp
  | cells => obtain ⟨_, e⟩ := h; rw [e]; simp
theorem AbsM.fresh (x : AbsM K F H M) (h : H p = none) : ¬ F p ∧ M.map p = none := by
  refine ⟨fun f => x.fh p f h, ?_⟩
  cases e : M.map p with
  | none => rfl
  | some o => exact absurd h (x.mp p o e).2.there
theorem Le.upd {o : HO} (hF : ¬ F p) (ht : ∀ vs, ¬ Rd H p (.tup vs)) (hs : ∀ ob u, H p ≠ some (.frz ob u)) : Le K F H F (upd H p o) := by
  refine ⟨fun b vs h => ?_, fun _ h => h, fun b f => upd_ne (fun e => hF (e ▸ f)), fun b vs h => ?_⟩
  · rcases h with h | h
    · refine .inl ?_
      have hb : b ≠ p := fun e => ht vs (e ▸ h)
      unfold Rd at *
      rw [upd_ne hb]
      exact h
    · exact .inr h
  · rcases h with ⟨ob, h⟩ | h
    · refine .inl ⟨ob, ?_⟩
      rw [upd_ne (fun e => hs _ _ (e ▸ h))]
      exact h
    · exact .inr h
theorem Le.grow {F' : Addr → Prop} (l : Le K F H F H') (h : ∀ a, F a → F' a) : Le K F H F' H' := ⟨l.tup, h, l.frz, l.scr⟩
theorem nord_none {o : HO} (h : H p = none) : ¬ Rd H p o := by
  rintro (e | ⟨_, e⟩) <;> rw [h] at e <;> cases e
theorem nofrz_none (h : H p = none) : ∀ ob u, H p ≠ some (.frz ob u) := fun _ _ e => by rw [h] at e; cases e
theorem nofrz_lst {vs : List V} (h : H p = some (.lst vs)) : ∀ ob u, H p ≠ some (.frz ob u) := fun _ _ e => by rw [h] at e; cases e
theorem nofrz_ins {C dx : Addr} {fs : List (Str × V)} (h : H p = some (.ins C dx fs)) : ∀ ob u, H p ≠ some (.frz ob u) := fun _ _ e => by rw [h] at e; cases e
theorem nord_lst {vs ws : List V} (h : H p = some (.lst vs)) : ¬ Rd H p (.tup ws) := by
  rintro (e | ⟨_, e⟩) <;> rw [h] at e <;> cases e
theorem nord_ins {C dx : Addr} {fs : List (Str × V)} {ws : List V} (h : H p = some (.ins C dx fs)) : ¬ Rd H p (.tup ws) := by
  rintro (e | ⟨_, e⟩) <;> rw [h] at e <;> cases e
/-- an entry where nothing of its own changed -/
theorem ORep.keep {o : MO} (h : ORep K F H M a o) (l : Le K F H F' H') (ha : H' a = H a) (hc : ∀ c, M.map c = some .cells → H' c = H c ∧ M'.map c = some .cells) (hb : M'.bud ≤ M.bud) : ORep K F' H' M' a o := by
  cases o with
  | lst ds => obtain ⟨vs, e, r⟩ := h; exact ⟨vs, ha.trans e, r.mono l⟩
  | ins C fs => obtain ⟨dx, fs', e, k, r⟩ := h; exact ⟨dx, fs', ha.trans e, k, r.mono l⟩
  | deck c =>
    obtain ⟨m, cells, n, e, ec, h1, h2, h3, h4⟩ := h
    refine ⟨(hc c m).2, cells, n, ha.trans e, (hc c m).1.trans ec, h1, h2, h3, ?_⟩
    omega
  | cells => obtain ⟨vs, e⟩ := h; exact ⟨vs, ha.trans e⟩
/-- a new object, of no account -/
theorem AbsM.laid {o : HO} (x : AbsM K F H M) (h : H p = none) : AbsM K F (L2.upd H p o) M := by
  have l : Le K F H F (L2.upd H p o) := Le.upd (x.fresh h).1 (fun vs => nord_none h) (nofrz_none h)
  have keep : ∀ b, H b ≠ none → L2.upd H p o b = H b := fun b hb => upd_ne fun e => hb (e ▸ h)
  refine ⟨fun a f e => ?_, fun a o' e => ?_⟩
  · rw [keep a (x.fh a f)] at e; exact x.fh a f e
  · obtain ⟨nf, r⟩ := x.mp a o' e
    exact ⟨nf, r.keep l (keep a r.there) (fun c hc => ⟨keep c (x.mp c _ hc).2.there, hc⟩) (Nat.le_refl _)⟩
/-- .. that nobody will change -/
theorem AbsM.frozen {o : HO} (x : AbsM K F H M) (h : H p = none) : AbsM K (fun b => F b ∨ b = p) (L2.upd H p o) M ∧ Le K F H (fun b => F b ∨ b = p) (L2.upd H p o) := by
  have l : Le K F H F (L2.upd H p o) := Le.upd (x.fresh h).1 (fun vs => nord_none h) (nofrz_none h)
  have l2 : Le K F H (fun b => F b ∨ b = p) (L2.upd H p o) := l.grow fun _ f => .inl f
  have y : AbsM K F (L2.upd H p o) M := x.laid h
  have l3 : Le K F (L2.upd H p o) (fun b => F b ∨ b = p) (L2.upd H p o) := Le.refl.grow fun _ f => .inl f
  refine ⟨⟨fun a f e => ?_, fun a o' e => ?_⟩, l2⟩
  · rcases f with f | f
    · exact y.fh a f e
    · subst f; rw [upd_same] at e; cases e
  · obtain ⟨nf, r⟩ := y.mp a o' e
    refine ⟨fun f => ?_, r.keep l3 rfl (fun c hc => ⟨rfl, hc⟩) (Nat.le_refl _)⟩
    rcases f with f | f
    · exact nf f
    · subst f; rw [(x.fresh h).2] at e; cases e
/-- .. that may change -/
theorem AbsM.newM {vs : List V} {ds : List D} (x : AbsM K F H M) (h : H p = none) (r : Reps K F H ds vs) : AbsM K F (L2.upd H p (.lst vs)) (M.put p (.lst ds)) := by
  have l : Le K F H F (L2.upd H p (.lst vs)) := Le.upd (x.fresh h).1 (fun vs => nord_none h) (nofrz_none h)
  have y : AbsM K F (L2.upd H p (.lst vs)) M := x.laid h
  refine ⟨y.fh, fun a o' e => ?_⟩
  by_cases ha : a = p
  · subst ha
    rw [MS.put_same] at e; cases e
    exact ⟨(x.fresh h).1, vs, upd_same, r.mono l⟩
  · rw [MS.put_ne ha] at e
    obtain ⟨nf, r⟩ := y.mp a o' e
    refine ⟨nf, r.keep Le.refl rfl (fun c hc => ⟨rfl, ?_⟩) (Nat.le_refl _)⟩
    rw [MS.put_ne (fun z => by subst z; rw [(x.fresh h).2] at hc; cases hc)]
    exact hc
/-- a list written -/
theorem AbsM.wrote {vs : List V} {ds es : List D} (x : AbsM K F H M) (h : M.map p = some (.lst es)) (r : Reps K F H ds vs) :
    AbsM K F (L2.upd H p (.lst vs)) (M.put p (.lst ds)) ∧ Le K F H F (L2.upd H p (.lst vs)) := by
  obtain ⟨nf, ws, e, r0⟩ := x.mp p _ h
  have l : Le K F H F (L2.upd H p (.lst vs)) := Le.upd nf (fun vs => nord_lst e) (nofrz_lst e)
  refine ⟨⟨fun a f z => ?_, fun a o' e' => ?_⟩, l⟩
  · by_cases ha : a = p
    · subst ha; exact nf f
    · rw [upd_ne ha] at z; exact x.fh a f z
  · by_cases ha : a = p
    · subst ha
      rw [MS.put_same] at e'; cases e'
      exact ⟨nf, vs, upd_same, r.mono l⟩
    · rw [MS.put_ne ha] at e'
      obtain ⟨nf', r'⟩ := x.mp a o' e'
      refine ⟨nf', r'.keep l (upd_ne ha) (fun c hc => ?_) (Nat.le_refl _)⟩
      have hcp : c ≠ p := fun z => by subst z; rw [h] at hc; cases hc
      exact ⟨upd_ne hcp, by rw [MS.put_ne hcp]; exact hc⟩
theorem RepEnv.mono (e : RepEnv K F H σ ρ) (l : Le K F H F' H') : RepEnv K F' H' σ ρ :=
  ⟨e.len, fun i d h => let ⟨v, a, b⟩ := e.get i d h; ⟨v, a, b.mono l⟩⟩
theorem RepEnv.set {d : D} {v : V} (e : RepEnv K F H σ ρ) (r : Rep K F H d v) (i : Nat) : RepEnv K F H (σ.set i (some v)) (ρ.set i (some d)) := by
  refine ⟨by simp [e.len], fun j d' h => ?_⟩
  by_cases hj : i = j
  · subst hj
    have hi : i < ρ.length := by
      by_cases hi : i < ρ.length
      · exact hi
      · rw [List.getElem?_eq_none (by simpa using hi)] at h; cases h
    rw [List.getElem?_set_self hi] at h
    cases h
    exact ⟨v, by rw [List.getElem?_set_self (by rw [← e.len]; exact hi)], r⟩
  · rw [List.getElem?_set_ne hj] at h
    obtain ⟨w, a, b⟩ := e.get j d' h
    exact ⟨w, by rw [List.getElem?_set_ne hj]; exact a, b⟩
end

/-! ### what stands beside -/
/-- from F, H, M to F', H', M': trees stand as they stood, what is hidden stays hidden and as it is -/
structure Lm (K : PySem.W.Frag) (F : Addr → Prop) (H : Hp) (M : MS) (F' : Addr → Prop) (H' : Hp) (M' : MS) : Prop where
  le : Le K F H F' H'
  hid : ∀ a, H a ≠ none → ¬ F a → M.map a = none → ¬ F' a ∧ M'.map a = none ∧ H' a = H a
section
variable {K : PySem.W.Frag} {F F' F1 F2 : Addr → Prop} {H H' H1 H2 : Hp} {M M' M1 M2 : MS} {p : Addr}
theorem Lm.refl : Lm K F H M F H M := ⟨Le.refl, fun _ _ f m => ⟨f, m, rfl⟩⟩
theorem Lm.trans (a : Lm K F H M F1 H1 M1) (b : Lm K F1 H1 M1 F2 H2 M2) : Lm K F H M F2 H2 M2 :=
  ⟨a.le.trans b.le, fun x h f m => by
    obtain ⟨f1, m1, e1⟩ := a.hid x h f m
    obtain ⟨f2, m2, e2⟩ := b.hid x (by rw [e1]; exact h) f1 m1
    exact ⟨f2, m2, e2.trans e1⟩⟩
/-- a new object, of no account | frozen | in the map -/
theorem Lm.laid {o : HO} (x : AbsM K F H M) (h : H p = none) : Lm K F H M F (upd H p o) M :=
  ⟨Le.upd (x.fresh h).1 (fun _ => nord_none h) (nofrz_none h), fun a ha f m => ⟨f, m, upd_ne fun e => ha (e ▸ h)⟩⟩
theorem Lm.frozen {o : HO} (x : AbsM K F H M) (h : H p = none) : Lm K F H M (fun b => F b ∨ b = p) (upd H p o) M :=
  ⟨(x.frozen h).2, fun a ha f m => ⟨fun z => z.elim f fun e => ha (e ▸ h), m, upd_ne fun e => ha (e ▸ h)⟩⟩
theorem Lm.newM {o : HO} {mo : MO} (x : AbsM K F H M) (h : H p = none) : Lm K F H M F (upd H p o) (M.put p mo) :=
  ⟨Le.upd (x.fresh h).1 (fun _ => nord_none h) (nofrz_none h), fun a ha f m => by
    have hp : a ≠ p := fun e => ha (e ▸ h)
    exact ⟨f, by rw [MS.put_ne hp]; exact m, upd_ne hp⟩⟩
theorem Lm.wrote {vs : List V} {ds es : List D} (x : AbsM K F H M) (h : M.map p = some (.lst es)) (r : Reps K F H ds vs) : Lm K F H M F (upd H p (.lst vs)) (M.put p (.lst ds)) :=
  ⟨(x.wrote h r).2, fun a ha f m => by
    have hp : a ≠ p := fun e => by subst e; rw [h] at m; cases m
    exact ⟨f, by rw [MS.put_ne hp]; exact m, upd_ne hp⟩⟩
end
end DL

namespace DL
open PySem PySem.Spec PyProof.Rows L2

/-! ### a def's promise where no repr runs around -/
structure FnG (P : Program) (w : World) (K : PySem.W.Frag) (mg : Str → Option Value) (base : Heap) (CX : CXT) (k : Nat) (f : Addr) (fd : FuncData) (ps : List Str) (sp : Sp) : Prop where
  len : ∀ vs H Q E, sp vs H Q E → vs.length = ps.length
  run : ∀ (A : Around) (outer : List Env) (s : Shared) (H : Hp) (args : Args) (us : List Value) (vs : List V) (Q : VK) (E : XK), Room k A → A.guards = some [] → Env0 P w K mg base A outer s H →
    BindsTo s fd args (ps.zip us) → Vals vs us → sp vs H Q E → codeAny (model P w) A (.call (.ref f) args) (CR CX outer P w H s Q E) s
section
variable {P : Program} {w : World} {K : PySem.W.Frag} {mg : Str → Option Value} {base : Heap} {CX : CXT} {j k : Nat} {f : Addr} {fd : FuncData} {ps : List Str} {sp sp' : Sp}
theorem FnG.mono (F : FnG P w K mg base CX j f fd ps sp) (h : j ≤ k) : FnG P w K mg base CX k f fd ps sp :=
  ⟨F.len, fun A outer s H args us vs Q E hr hg => F.run A outer s H args us vs Q E (hr.mono h) hg⟩
theorem FnG.imp (F : FnG P w K mg base CX k f fd ps sp) (h : ∀ vs H Q E, sp' vs H Q E → sp vs H Q E) : FnG P w K mg base CX k f fd ps sp' :=
  ⟨fun vs H Q E q => F.len vs H Q E (h _ _ _ _ q), fun A outer s H args us vs Q E hr hg e0 hb hv q => F.run A outer s H args us vs Q E hr hg e0 hb hv (h _ _ _ _ q)⟩
theorem FnG.of (F : FnOk P w K mg base CX k f fd ps sp) : FnG P w K mg base CX k f fd ps sp :=
  ⟨F.len, fun A outer s H args us vs Q E hr _ => F.run A outer s H args us vs Q E hr⟩
/-- a def of the text, by its body -/
theorem fnG_of {name qual : Str} {params : Arguments} {body : List Stmt} {scope : Scope} {dV kV doc pm cdv ct oc : Value} {an od : Option Addr} {osl : Array (Option Value)} {N : List Str}
    (lk : K.lookup f = some ⟨oc, od, .func (PySem.W.fnOf name qual params body scope dV kV doc pm an cdv ct), osl⟩) (hcd : PySem.W.codeIn K cdv qual = true) (S : FnScope N ps scope)
    (len : ∀ vs H Q E, sp vs H Q E → vs.length = ps.length)
    (hbody : ∀ (A : Around) (outer : List Env) (s : Shared) (H : Hp) (vs : List V) (Q : VK) (E : XK), Room k (A.deeper (envOfC qual scope s.heap.objs.size f cdv)) → (A.deeper (envOfC qual scope s.heap.objs.size f cdv)).guards = some [] → sp vs H Q E →
      ∃ t, PSs (cxOf CX P w K mg base N qual scope f cdv A outer s H E) body t ∧ t { nx := fun _ H' => Q .non H', rt := Q } (start N vs) H) :
    FnG P w K mg base CX (k + 1) f (PySem.W.fnOf name qual params body scope dV kV doc pm an cdv ct) ps sp := by
  refine ⟨len, fun A outer s H args us vs Q E hr hgd e0 hb rv hsp => ?_⟩
  have hlen := len _ _ _ _ hsp
  have inK : K.In s.heap := e0.mod.kin.keeps fun b o e => (e0.bs b o e).1
  have noLim : s.heap.NoLimit := e0.mod.nolimit.keeps fun b o e => (e0.bs b o e).1
  have kinds : ∀ y ∈ ps.zip us, scope.names.lookup y.1 = some .local ∨ (scope.names.lookup y.1 = some .cell ∧ ((cellsFrom (s.heap.objs.size + 1) scope.names []).lookup y.1).isSome = true) := by
    rintro ⟨n, v⟩ hy
    rcases S.par n (List.of_mem_zip hy).1 with h | h
    · exact .inl h
    · exact .inr ⟨h, PySem.W.cellsFrom_some _ _ _ (.inl h)⟩
  refine codeAny_call_function hr.depth (inK _ _ lk) rfl S.co S.gen rfl
    (PySem.W.codeRec_of inK hcd) (hb _ _ _ _ ?_)
  refine wpAny_newFunctionEnv_cells S.kind kinds
    fun env henv s1 inC => ?_
  subst henv
  refine ⟨noLim.keeps inC.toInCall.keep, codeAny_func ?_⟩
  obtain ⟨t, ht, hq⟩ := hbody A outer s H vs Q E (hr.deeper _) hgd hsp
  have I0 := inv_start (CX := CX) (E := E) (cd := cdv) S hr.hd e0 hlen rv inC
  refine wpAny_mono (ht.run [] s1 (start N vs) H _ I0 hq) (fun fl s' hs => ?_) fun e s' hs => hs
  cases fl with
  | ret u =>
    obtain ⟨v, σ', H', J, r, q⟩ := hs
    exact ⟨v, H', J.os, J.bare, J.base, J.hok, r, q⟩
  | next =>
    obtain ⟨σ', H', J, q⟩ := hs
    exact ⟨V.non, H', J.os, J.bare, J.base, J.hok, rfl, q⟩
  | brk => obtain ⟨_, _, _, q⟩ := hs; exact q.elim
  | cont => obtain ⟨_, _, _, q⟩ := hs; exact q.elim
theorem FunD.okG {x qual : Str} {params : Arguments} {body : List Stmt} {scope : Scope} {dvs : List V} {kws : List (Str × V)} {N : List Str} (F : FunD K x qual params body scope dvs kws f fd) (S : FnScope N ps scope)
    (len : ∀ vs H Q E, sp vs H Q E → vs.length = ps.length)
    (hbody : ∀ (cdv : Value) (A : Around) (outer : List Env) (s : Shared) (H : Hp) (vs : List V) (Q : VK) (E : XK), Room k (A.deeper (envOfC qual scope s.heap.objs.size f cdv)) → (A.deeper (envOfC qual scope s.heap.objs.size f cdv)).guards = some [] → sp vs H Q E →
      ∃ t, PSs (cxOf CX P w K mg base N qual scope f cdv A outer s H E) body t ∧ t { nx := fun _ H' => Q .non H', rt := Q } (start N vs) H) : FnG P w K mg base CX (k + 1) f fd ps sp := by
  obtain ⟨oc, od, dV, kV, doc, pm, an, cdv, ct, osl, e, lk, hcd, _, _⟩ := F.ex
  subst e
  exact fnG_of lk hcd S len fun A outer s H vs Q E hr hg hsp => hbody cdv A outer s H vs Q E hr hg hsp
end
section
variable {X : Cx} {CX : CXT} {k : Nat} {f C : Addr} {fd : FuncData} {ps : List Str} {sp : Sp} {dvs : List V} {ds : List Value} {E : XK} {x m : Str} {p pos apos : Pos} {e o : Expr} {es : List Expr} {ta : TE} {t : TA}
theorem runG {pins : List (Addr × Obj)} {σ : L2.St} {H : Hp} {s : Shared} {Q : VK} {us : List Value} {vs : List V} (F : FnG X.prog X.w X.K X.mg X.base CX k f fd ps sp) (hr : Room k X.A) (hg : X.A.guards = some []) (hb : Binds X.K fd ps ds) (hd : Vals dvs ds) (hx : Passes CX X E)
    (I : Inv X pins σ H s) (r : Vals vs us) (h : sp (vs ++ dvs) H Q E) : wpAny (model X.prog X.w) X.A (call (.ref f) us) (EP X pins σ Q) X.xe s := by
  have rr : Vals (vs ++ dvs) (us ++ ds) := r.append hd
  have hlen : (us ++ ds).length = ps.length := by
    rw [← rr.length]
    exact F.len _ _ _ _ h
  refine wpAny_call (codeAny_mono (F.run X.A X.stack s H ⟨us, []⟩ (us ++ ds) (vs ++ dvs) Q E hr hg I.env0 (hb s us I.kIn hlen) rr h)
    fun res s' hq => ?_)
  cases res with
  | error e => exact hx pins σ H s e s' I hq
  | ok fl =>
    cases fl with
    | ret u => exact I.after hq
    | next => exact hq.elim
    | brk => exact hq.elim
    | cont => exact hq.elim
theorem pe_callG (F : FnG X.prog X.w X.K X.mg X.base CX k f fd ps sp) (hr : Room k X.A) (hgd : X.A.guards = some []) (hg : Gl X x) (hm : X.mg x = some (.ref f)) (hk : PySem.W.keepIn X.K (.ref f) = true) (hb : Binds X.K fd ps ds) (hd : Vals dvs ds) (hx : Passes CX X E)
    (ha : PA X (e :: es) t) (hdb : (x == ("__debug__" : Str)) = false) (he : starEach (e :: es) X.env = (false, eval e X.env) :: starEach es X.env)
    (hpl : (backTo pos (starEach es X.env)).any (·.1) = false) : PE X (.Call (.Name x p) (e :: es) [] pos) (tCall sp dvs E t) := by
  refine ⟨fun pins s σ H Q I h => ?_⟩
  refine wpAny_Call_Name_kw (ld_glob I hg hm ?_ hdb)
  refine PySem.W.callWith_K (h₀ := X.base) I.ok.mod.kin hk
    (thn (ha.run pos pins s σ H _ I h) fun us s1 ⟨vs, H1, I1, r, q⟩ => ⟨I1.kIn, ?_⟩) he hpl
  exact runG F hr hgd hb hd hx I1 r q
theorem pe_callG0 (F : FnG X.prog X.w X.K X.mg X.base CX k f fd ps sp) (hr : Room k X.A) (hgd : X.A.guards = some []) (hg : Gl X x) (hm : X.mg x = some (.ref f)) (hk : PySem.W.keepIn X.K (.ref f) = true) (hb : Binds X.K fd ps ds) (hd : Vals dvs ds) (hx : Passes CX X E)
    (hdb : (x == ("__debug__" : Str)) = false) : PE X (.Call (.Name x p) [] [] pos) (tCall sp dvs E tNil) := by
  refine ⟨fun pins s σ H Q I h => ?_⟩
  refine wpAny_Call_Name_kw (ld_glob I hg hm ?_ hdb)
  exact PySem.W.callWith_K0 I.kIn hk
    (runG (us := []) F hr hgd hb hd hx I .nil h)
end

/-! ### readings over trees -/
abbrev DQ := D → MS → Prop
abbrev DE := DEnv → MS → DQ → Prop
abbrev DT := DEnv → MS → (Bool → MS → Prop) → Prop
abbrev DAs := DEnv → MS → (List D → MS → Prop) → Prop
structure DEnds where
  nx : DEnv → MS → Prop
  rt : DQ
  bk : DEnv → MS → Prop := fun _ _ => False
  ct : DEnv → MS → Prop := fun _ _ => False
abbrev DS := DEnds → DEnv → MS → Prop

def loQ (K : PySem.W.Frag) (F : Addr → Prop) (H : Hp) (M : MS) (Φ : DQ) : VK := fun v H' => ∃ F' M' d, Lm K F H M F' H' M' ∧ AbsM K F' H' M' ∧ Rep K F' H' d v ∧ Φ d M'
def lo (K : PySem.W.Frag) (t : DE) : TE := fun σ H Q => ∃ F M ρ Φ, Abs K F H M σ ρ ∧ t ρ M Φ ∧ ∀ v H', loQ K F H M Φ v H' → Q v H'
def loT (K : PySem.W.Frag) (t : DT) : TT := fun σ H Q => ∃ F M ρ Φ, Abs K F H M σ ρ ∧ t ρ M Φ ∧ ∀ b H' F' M', Lm K F H M F' H' M' → AbsM K F' H' M' → Φ b M' → Q b H'
def loA (K : PySem.W.Frag) (t : DAs) : TA := fun σ H Q => ∃ F M ρ Φ, Abs K F H M σ ρ ∧ t ρ M Φ ∧ ∀ vs H' F' M' ds, Lm K F H M F' H' M' → AbsM K F' H' M' → Reps K F' H' ds vs → Φ ds M' → Q vs H'
def loR (K : PySem.W.Frag) (R : D → D → MS → DQ → Prop) : R2 := fun vx vy H Q => ∃ F M x y Φ, AbsM K F H M ∧ Rep K F H x vx ∧ Rep K F H y vy ∧ R x y M Φ ∧ ∀ v H', loQ K F H M Φ v H' → Q v H'
def loU (K : PySem.W.Frag) (R : D → MS → DQ → Prop) : V → Hp → VK → Prop := fun vx H Q => ∃ F M x Φ, AbsM K F H M ∧ Rep K F H x vx ∧ R x M Φ ∧ ∀ v H', loQ K F H M Φ v H' → Q v H'
def loC (K : PySem.W.Frag) (R : List D → MS → DQ → Prop) : List V → Hp → VK → Prop := fun vs H Q => ∃ F M ds Φ, AbsM K F H M ∧ Reps K F H ds vs ∧ R ds M Φ ∧ ∀ v H', loQ K F H M Φ v H' → Q v H'
structure LoEnds (K : PySem.W.Frag) (F : Addr → Prop) (H : Hp) (M : MS) (Δ : DEnds) (Y : Ends) : Prop where
  nx : ∀ σ' H' F' M' ρ', Lm K F H M F' H' M' → Abs K F' H' M' σ' ρ' → Δ.nx ρ' M' → Y.nx σ' H'
  rt : ∀ v H', loQ K F H M Δ.rt v H' → Y.rt v H'
  bk : ∀ σ' H' F' M' ρ', Lm K F H M F' H' M' → Abs K F' H' M' σ' ρ' → Δ.bk ρ' M' → Y.bk σ' H'
  ct : ∀ σ' H' F' M' ρ', Lm K F H M F' H' M' → Abs K F' H' M' σ' ρ' → Δ.ct ρ' M' → Y.ct σ' H'
def loS (K : PySem.W.Frag) (t : DS) : TS := fun Y σ H => ∃ F M ρ Δ, Abs K F H M σ ρ ∧ t Δ ρ M ∧ LoEnds K F H M Δ Y

section
variable {K : PySem.W.Frag} {F F' F1 F2 : Addr → Prop} {H H' H1 H2 : Hp} {M M' M1 : MS} {Φ : DQ}
theorem loQ.le (l : Lm K F H M F1 H1 M1) {v : V} (h : loQ K F1 H1 M1 Φ v H') : loQ K F H M Φ v H' := by
  obtain ⟨F', M', d, l', a, r, q⟩ := h
  exact ⟨F', M', d, l.trans l', a, r, q⟩
theorem loQ.here {d : D} {v : V} (a : AbsM K F H M) (r : Rep K F H d v) (q : Φ d M) : loQ K F H M Φ v H := ⟨F, M, d, Lm.refl, a, r, q⟩
theorem LoEnds.le {Δ : DEnds} {Y : Ends} (e : LoEnds K F H M Δ Y) (l : Lm K F H M F1 H1 M1) : LoEnds K F1 H1 M1 Δ Y :=
  ⟨fun σ' H' F' M' ρ' z => e.nx σ' H' F' M' ρ' (l.trans z), fun v H' z => e.rt v H' (z.le l), fun σ' H' F' M' ρ' z => e.bk σ' H' F' M' ρ' (l.trans z), fun σ' H' F' M' ρ' z => e.ct σ' H' F' M' ρ' (l.trans z)⟩
end
theorem PE.imp {X : Cx} {e : Expr} {t t' : TE} (h : PE X e t) (hi : ∀ σ H Q, t' σ H Q → t σ H Q) : PE X e t' := ⟨fun pins s σ H Q I q => h.run pins s σ H Q I (hi _ _ _ q)⟩
theorem PT.imp {X : Cx} {e : Expr} {t t' : TT} (h : PT X e t) (hi : ∀ σ H Q, t' σ H Q → t σ H Q) : PT X e t' := ⟨fun pins s σ H Q I q => h.run pins s σ H Q I (hi _ _ _ q)⟩
theorem PA.imp {X : Cx} {e : List Expr} {t t' : TA} (h : PA X e t) (hi : ∀ σ H Q, t' σ H Q → t σ H Q) : PA X e t' := ⟨fun pos pins s σ H Q I q => h.run pos pins s σ H Q I (hi _ _ _ q)⟩
theorem PS.imp {X : Cx} {e : Stmt} {t t' : TS} (h : PS X e t) (hi : ∀ D σ H, t' D σ H → t D σ H) : PS X e t' := ⟨fun pins s σ H D I q => h.run pins s σ H D I (hi _ _ _ q)⟩
theorem PSs.imp {X : Cx} {e : List Stmt} {t t' : TS} (h : PSs X e t) (hi : ∀ D σ H, t' D σ H → t D σ H) : PSs X e t' := ⟨fun pins s σ H D I q => h.run pins s σ H D I (hi _ _ _ q)⟩

/-! ### the combinators -/
def dF : DE := fun _ _ _ => False
def dC (d : D) : DE := fun _ M Φ => Φ d M
def dVar (i : Nat) : DE := fun ρ M Φ => match ρ[i]? with
  | some (some d) => Φ d M
  | _ => False
def dOp (R : D → D → MS → DQ → Prop) (ta tb : DE) : DE := fun ρ M Φ => ta ρ M fun x M1 => tb ρ M1 fun y M2 => R x y M2 Φ
def dUn (R : D → MS → DQ → Prop) (ta : DE) : DE := fun ρ M Φ => ta ρ M fun x M1 => R x M1 Φ
def dNil : DAs := fun _ M Φ => Φ [] M
def dCons (ta : DE) (tr : DAs) : DAs := fun ρ M Φ => ta ρ M fun x M1 => tr ρ M1 fun xs M2 => Φ (x :: xs) M2
def dFn (R : List D → MS → DQ → Prop) (ta : DAs) : DE := fun ρ M Φ => ta ρ M fun xs M1 => R xs M1 Φ
def dTup (ta : DAs) : DE := fun ρ M Φ => ta ρ M fun xs M1 => xs.length ≤ 100000 ∧ Φ (.tup xs) M1
def dLst (ta : DAs) : DE := fun ρ M Φ => ta ρ M fun xs M1 => xs.length ≤ 100000 ∧ Φ (.lst xs) M1
def dLstM (ta : DAs) : DE := fun ρ M Φ => ta ρ M fun xs M1 => xs.length ≤ 100000 ∧ ∀ p, M1.map p = none → Φ (.ref p) (M1.put p (.lst xs))
def dIf (t : DT) (ta tb : DE) : DE := fun ρ M Φ => t ρ M fun b M1 => if b = true then ta ρ M1 Φ else tb ρ M1 Φ
def dTest (te : DE) : DT := fun ρ M Φ => te ρ M fun x M1 => match x with
  | .bl b => Φ b M1
  | _ => False
def dAnd (t u : DT) : DT := fun ρ M Φ => t ρ M fun b M1 => if b = true then u ρ M1 Φ else Φ false M1
def dOr (t u : DT) : DT := fun ρ M Φ => t ρ M fun b M1 => if b = true then Φ true M1 else u ρ M1 Φ
def dNot (t : DT) : DT := fun ρ M Φ => t ρ M fun b M1 => Φ (!b) M1
def dAndV (t : DE) (u : DE) : DE := fun ρ M Φ => t ρ M fun x M1 => match x with
  | .bl b => if b = true then u ρ M1 Φ else Φ (.bl false) M1
  | _ => False
def dOrV (t : DE) (u : DE) : DE := fun ρ M Φ => t ρ M fun x M1 => match x with
  | .bl b => if b = true then Φ (.bl true) M1 else u ρ M1 Φ
  | _ => False
def dNotV (t : DT) : DE := fun ρ M Φ => t ρ M fun b M1 => Φ (.bl (!b)) M1

section
variable {X : Cx} {a b : Expr} {ta tb te : DE} {pos : Pos}
theorem q_var {i : Nat} {x : Str} (hN : X.N[i]? = some x) (hv : Vis X.env.scope x) (hd : (x == ("__debug__" : Str)) = false) (hcd : (x == ("__classdict__" : Str)) = false) : PE X (.Name x pos) (lo X.K (dVar i)) :=
  PE.imp (pe_var hN hv hd hcd) fun σ H Q h => by
    obtain ⟨F, M, ρ, Φ, A, h, k⟩ := h
    unfold dVar at h
    split at h
    · rename_i d e
      obtain ⟨v, e1, r⟩ := A.env.get i d e
      exact ⟨v, e1, k v H (loQ.here A.am r h)⟩
    · exact h.elim
theorem q_c {d : D} {v : V} (he : PE X a (tC v)) (r : ∀ F H, Rep X.K F H d v) : PE X a (lo X.K (dC d)) :=
  PE.imp he fun σ H Q h => by
    obtain ⟨F, M, ρ, Φ, A, h, k⟩ := h
    exact k v H (loQ.here A.am (r F H) h)
theorem q_op {op : Operator} {R : D → D → MS → DQ → Prop} (ho : OpR X (binaryOp op) (loR X.K R)) (ha : PE X a (lo X.K ta)) (hb : PE X b (lo X.K tb)) : PE X (.BinOp a op b pos) (lo X.K (dOp R ta tb)) :=
  PE.imp (pe_op ho ha hb) fun σ H Q h => by
    obtain ⟨F, M, ρ, Φ, A, h, k⟩ := h
    exact ⟨F, M, ρ, _, A, h, fun vx H1 ⟨F1, M1, x, l1, a1, r1, h1⟩ => ⟨F1, M1, ρ, _, ⟨a1, A.env.mono l1.le⟩, h1, fun vy H2 ⟨F2, M2, y, l2, a2, r2, h2⟩ =>
      ⟨F2, M2, x, y, Φ, a2, r1.mono l2.le, r2, h2, fun v H' q => k v H' ((q.le l2).le l1)⟩⟩⟩
theorem q_cmp {op : CmpOp} {R : D → D → MS → DQ → Prop} (ho : OpR X (compareOp op) (loR X.K R)) (ha : PE X a (lo X.K ta)) (hb : PE X b (lo X.K tb)) (hm : behindInMarks op b = false) : PE X (.Compare a [op] [b] pos) (lo X.K (dOp R ta tb)) :=
  PE.imp (pe_cmpR ho ha hb hm) fun σ H Q h => by
    obtain ⟨F, M, ρ, Φ, A, h, k⟩ := h
    exact ⟨F, M, ρ, _, A, h, fun vx H1 ⟨F1, M1, x, l1, a1, r1, h1⟩ => ⟨F1, M1, ρ, _, ⟨a1, A.env.mono l1.le⟩, h1, fun vy H2 ⟨F2, M2, y, l2, a2, r2, h2⟩ =>
      ⟨F2, M2, x, y, Φ, a2, r1.mono l2.le, r2, h2, fun v H' q => k v H' ((q.le l2).le l1)⟩⟩⟩
theorem q_cmpT {op : CmpOp} {R : D → D → MS → DQ → Prop} (ho : OpR X (compareOp op) (loR X.K R)) (ha : PE X a (lo X.K ta)) (hb : PE X b (lo X.K tb)) (hm : behindInMarks op b = false) : PT X (.Compare a [op] [b] pos) (loT X.K (dTest (dOp R ta tb))) :=
  PT.imp (pt_cmpR ho ha hb hm) fun σ H Q h => by
    obtain ⟨F, M, ρ, Φ, A, h, k⟩ := h
    refine ⟨F, M, ρ, _, A, h, fun vx H1 ⟨F1, M1, x, l1, a1, r1, h1⟩ => ⟨F1, M1, ρ, _, ⟨a1, A.env.mono l1.le⟩, h1, fun vy H2 ⟨F2, M2, y, l2, a2, r2, h2⟩ =>
      ⟨F2, M2, x, y, _, a2, r1.mono l2.le, r2, h2, fun v H' q => ?_⟩⟩⟩
    obtain ⟨F', M', d, l3, a3, r3, q3⟩ := q
    cases d with
    | bl c => exact ⟨c, r3, k c H' F' M' ((l1.trans l2).trans l3) a3 q3⟩
    | _ => exact q3.elim
theorem q_un {op : UnaryOp} {R : D → MS → DQ → Prop} (ho : UnR X (unaryOp op) (loU X.K R)) (ha : PE X a (lo X.K ta)) : PE X (.UnaryOp op a pos) (lo X.K (dUn R ta)) :=
  PE.imp (pe_un ho ha) fun σ H Q h => by
    obtain ⟨F, M, ρ, Φ, A, h, k⟩ := h
    exact ⟨F, M, ρ, _, A, h, fun vx H1 ⟨F1, M1, x, l1, a1, r1, h1⟩ => ⟨F1, M1, x, Φ, a1, r1, h1, fun v H' q => k v H' (q.le l1)⟩⟩
theorem q_nil : PA X [] (loA X.K dNil) :=
  PA.imp pa_nil fun σ H Q h => by
    obtain ⟨F, M, ρ, Φ, A, h, k⟩ := h
    exact k [] H F M [] Lm.refl A.am Reps.nil h
theorem q_cons {es : List Expr} {tr : DAs} (ha : PE X a (lo X.K ta)) (hr : PA X es (loA X.K tr)) (hs : starEach (a :: es) X.env = (false, eval a X.env) :: starEach es X.env) : PA X (a :: es) (loA X.K (dCons ta tr)) :=
  PA.imp (pa_cons ha hr hs) fun σ H Q h => by
    obtain ⟨F, M, ρ, Φ, A, h, k⟩ := h
    exact ⟨F, M, ρ, _, A, h, fun vx H1 ⟨F1, M1, x, l1, a1, r1, h1⟩ => ⟨F1, M1, ρ, _, ⟨a1, A.env.mono l1.le⟩, h1, fun vs H2 F2 M2 ds l2 a2 r2 h2 =>
      k (vx :: vs) H2 F2 M2 (x :: ds) (l1.trans l2) a2 (Reps.cons (r1.mono l2.le) r2) h2⟩⟩
theorem sz5 {n : Nat} (h : n ≤ 100000) : n ≤ sizeLine := Nat.le_trans h (by decide)
theorem q_tup {es : List Expr} {tr : DAs} {x1} (h : PA X es (loA X.K tr)) : PE X (.Tuple es x1 pos) (lo X.K (dTup tr)) :=
  PE.imp (pe_tup h) fun σ H Q h => by
    obtain ⟨F, M, ρ, Φ, A, h, k⟩ := h
    refine ⟨F, M, ρ, _, A, h, fun vs H1 F1 M1 ds l1 a1 r1 ⟨z, q⟩ => ⟨by rw [← r1.length]; exact sz5 z, fun p hp => ?_⟩⟩
    have l2 := Lm.laid (o := .tup vs) a1 hp
    refine k _ _ ⟨F1, M1, .tup ds, l1.trans l2, a1.laid hp, ?_, q⟩
    simp only [Rep]
    exact ⟨p, vs, rfl, .inl (.inl upd_same), r1.mono l2.le⟩
theorem q_lst {es : List Expr} {tr : DAs} (h : PA X es (loA X.K tr)) : PE X (.List es pos) (lo X.K (dLst tr)) :=
  PE.imp (pe_lst h) fun σ H Q h => by
    obtain ⟨F, M, ρ, Φ, A, h, k⟩ := h
    refine ⟨F, M, ρ, _, A, h, fun vs H1 F1 M1 ds l1 a1 r1 ⟨z, q⟩ => ⟨by rw [← r1.length]; exact sz5 z, fun p hp => ?_⟩⟩
    have l2 := Lm.frozen (o := .lst vs) a1 hp
    refine k _ _ ⟨_, M1, .lst ds, l1.trans l2, (a1.frozen hp).1, ?_, q⟩
    simp only [Rep]
    exact ⟨p, vs, rfl, .inr rfl, upd_same, r1.mono l2.le⟩
theorem q_lstM {es : List Expr} {tr : DAs} (h : PA X es (loA X.K tr)) : PE X (.List es pos) (lo X.K (dLstM tr)) :=
  PE.imp (pe_lst h) fun σ H Q h => by
    obtain ⟨F, M, ρ, Φ, A, h, k⟩ := h
    refine ⟨F, M, ρ, _, A, h, fun vs H1 F1 M1 ds l1 a1 r1 ⟨z, q⟩ => ⟨by rw [← r1.length]; exact sz5 z, fun p hp => ?_⟩⟩
    exact k _ _ ⟨F1, _, .ref p, l1.trans (Lm.newM a1 hp), a1.newM hp r1, rfl, q p (a1.fresh hp).2⟩
theorem q_if {c : Expr} {tc : DT} (hc : PT X c (loT X.K tc)) (ha : PE X a (lo X.K ta)) (hb : PE X b (lo X.K tb)) : PE X (.IfExp c a b pos) (lo X.K (dIf tc ta tb)) :=
  PE.imp (pe_ifExp hc ha hb) fun σ H Q h => by
    obtain ⟨F, M, ρ, Φ, A, h, k⟩ := h
    refine ⟨F, M, ρ, _, A, h, fun c H1 F1 M1 l1 a1 h1 => ?_⟩
    cases c with
    | true => exact ⟨F1, M1, ρ, Φ, ⟨a1, A.env.mono l1.le⟩, h1, fun v H' q => k v H' (q.le l1)⟩
    | false => exact ⟨F1, M1, ρ, Φ, ⟨a1, A.env.mono l1.le⟩, h1, fun v H' q => k v H' (q.le l1)⟩
theorem q_test (ha : PE X a (lo X.K ta)) (he : ∀ whole, isTrue a X.env whole = (do let v ← whole; standAt a.pos; holding [v] (truthy v))) : PT X a (loT X.K (dTest ta)) :=
  PT.imp (pt_val ha he) fun σ H Q h => by
    obtain ⟨F, M, ρ, Φ, A, h, k⟩ := h
    refine ⟨F, M, ρ, _, A, h, fun v H1 ⟨F1, M1, x, l1, a1, r1, h1⟩ => ?_⟩
    cases x with
    | bl c => exact ⟨c, r1, k c H1 F1 M1 l1 a1 h1⟩
    | _ => exact h1.elim
theorem q_not {tc : DT} (ha : PT X a (loT X.K tc)) : PT X (.UnaryOp .Not a pos) (loT X.K (dNot tc)) :=
  PT.imp (pt_not ha) fun σ H Q h => by
    obtain ⟨F, M, ρ, Φ, A, h, k⟩ := h
    exact ⟨F, M, ρ, _, A, h, fun c H1 F1 M1 l1 a1 h1 => k (!c) H1 F1 M1 l1 a1 h1⟩
end
end DL

namespace DL
open PySem PySem.Spec PyProof.Rows L2

/-! ### lists and tuples by their items -/
def seqL (M : MS) : D → Option (List D)
  | .lst xs => some xs
  | .ref a => match M.map a with
    | some (.lst xs) => some xs
    | _ => none
  | _ => none
/-- .. the script, tuples too -/
def seqA (M : MS) : D → Option (List D)
  | .lst xs => some xs
  | .tup xs => some xs
  | .scr ns => some (ns.map D.int)
  | .ref a => match M.map a with
    | some (.lst xs) => some xs
    | _ => none
  | _ => none
section
variable {K : PySem.W.Frag} {F F' : Addr → Prop} {H H' : Hp} {M M' : MS} {x y d : D} {v vx vy : V} {xs ds : List D} {vs : List V} {Φ : DQ} {p : Addr}
theorem seqL_rep (am : AbsM K F H M) (r : Rep K F H x v) (h : seqL M x = some xs) : ∃ a vs, v = .ref a ∧ H a = some (.lst vs) ∧ Reps K F H xs vs := by
  cases x with
  | lst ys =>
    simp only [seqL, Option.some.injEq] at h
    subst h
    simp only [Rep] at r
    obtain ⟨a, vs, e, _, h1, h2⟩ := r
    exact ⟨a, vs, e, h1, h2⟩
  | ref a =>
    simp only [seqL] at h
    split at h
    · rename_i zs e
      cases h
      obtain ⟨_, vs, h1, h2⟩ := am.mp a _ e
      exact ⟨a, vs, r, h1, h2⟩
    · cases h
  | _ => simp [seqL] at h
theorem seqA_rep (am : AbsM K F H M) (r : Rep K F H x v) (h : seqA M x = some xs) : ∃ a vs, v = .ref a ∧ (SqL K H a vs ∨ SqT K H a vs) ∧ Reps K F H xs vs := by
  cases x with
  | lst ys =>
    simp only [seqA, Option.some.injEq] at h
    subst h
    simp only [Rep] at r
    obtain ⟨a, vs, e, _, h1, h2⟩ := r
    exact ⟨a, vs, e, .inl (SqL.of h1), h2⟩
  | tup ys =>
    simp only [seqA, Option.some.injEq] at h
    subst h
    simp only [Rep] at r
    obtain ⟨a, vs, e, h1, h2⟩ := r
    exact ⟨a, vs, e, .inr h1, h2⟩
  | scr ns =>
    simp only [seqA, Option.some.injEq] at h
    subst h
    simp only [Rep] at r
    obtain ⟨a, e, h1⟩ := r
    exact ⟨a, _, e, .inl h1.sq, Reps.ints ns⟩
  | ref a =>
    simp only [seqA] at h
    split at h
    · rename_i zs e
      cases h
      obtain ⟨_, vs, h1, h2⟩ := am.mp a _ e
      exact ⟨a, vs, r, .inl (SqL.of h1), h2⟩
    · cases h
  | _ => simp [seqA] at h
theorem new_lst (am : AbsM K F H M) (r : Reps K F H ds vs) (q : Φ (.lst ds) M) (hp : H p = none) : loQ K F H M Φ (.ref p) (upd H p (.lst vs)) := by
  have l := Lm.frozen (o := .lst vs) am hp
  refine ⟨_, M, .lst ds, l, (am.frozen hp).1, ?_, q⟩
  simp only [Rep]
  exact ⟨p, vs, rfl, .inr rfl, upd_same, r.mono l.le⟩
theorem new_lstM (am : AbsM K F H M) (r : Reps K F H ds vs) (q : ∀ p, M.map p = none → Φ (.ref p) (M.put p (.lst ds))) (hp : H p = none) : loQ K F H M Φ (.ref p) (upd H p (.lst vs)) :=
  ⟨F, _, .ref p, Lm.newM am hp, am.newM hp r, rfl, q p (am.fresh hp).2⟩
theorem new_tup (am : AbsM K F H M) (r : Reps K F H ds vs) (q : Φ (.tup ds) M) (hp : H p = none) : loQ K F H M Φ (.ref p) (upd H p (.tup vs)) := by
  have l := Lm.laid (o := .tup vs) am hp
  refine ⟨F, M, .tup ds, l, am.laid hp, ?_, q⟩
  simp only [Rep]
  exact ⟨p, vs, rfl, .inl (.inl upd_same), r.mono l.le⟩
theorem hI {i : Int} (a : AbsM K F H M) (q : Φ (.int i) M) : loQ K F H M Φ (.int i) H := ⟨F, M, .int i, Lm.refl, a, by simp only [Rep], q⟩
theorem hB {b : Bool} (a : AbsM K F H M) (q : Φ (.bl b) M) : loQ K F H M Φ (.bl b) H := ⟨F, M, .bl b, Lm.refl, a, by simp only [Rep], q⟩
theorem hS {z : Str} (a : AbsM K F H M) (q : Φ (.str z) M) : loQ K F H M Φ (.str z) H := ⟨F, M, .str z, Lm.refl, a, by simp only [Rep], q⟩
theorem hN (a : AbsM K F H M) (q : Φ .non M) : loQ K F H M Φ .non H := ⟨F, M, .non, Lm.refl, a, by simp only [Rep], q⟩
theorem rep_tup (h : Rep K F H (.tup xs) v) : ∃ a vs, v = .ref a ∧ SqT K H a vs ∧ Reps K F H xs vs := by simpa only [Rep] using h
theorem rep_int {i : Int} (h : Rep K F H (.int i) v) : v = .int i := h
theorem rep_bl {b : Bool} (h : Rep K F H (.bl b) v) : v = .bl b := h
theorem rep_str {z : Str} (h : Rep K F H (.str z) v) : v = .str z := h
end

/-! tuple * int where nothing is repeated -/
theorem flat_nil {α : Type} : ∀ n : Nat, (List.replicate n ([] : List α)).flatten = []
  | 0 => rfl
  | n + 1 => by rw [List.replicate_succ, List.flatten_cons, flat_nil n]; rfl
theorem mul_same (l : Addr) (items : Array Value) (n : Nat) (dd : Option Addr) (sl : Array (Option Value)) (x : Int) (u : Tok) (c0 : (decide (x < -(2 ^ 63)) || decide (x ≥ 2 ^ 63)) = false) (c1 : (items.isEmpty || x == 1) = true) :
    Meets (Builtin.«tuple.__mul__» ⟨[.ref l, .int x u], []⟩) (fun _ R s => s.heap.get? l = some { cls := .type "tuple", dict := dd, data := .seq items n, slots := sl } ∧ R (.ok (.ret (.ref l))) s) :=
  .of_wp fun prog w A R s h => by
    rcases s with ⟨hp, g, d, tk, os⟩
    rcases h with ⟨hl, h⟩
    have f1 := AutoSeq1.idx_int
    wp_walk using AutoSeq1.wpAny_loadPart' hl
    repeat (first
      | (refine wpAny_ite_false (decide_eq_false (by rw [c0]; exact Bool.false_ne_true)) ?_; wp_walk using AutoSeq1.wpAny_loadPart' hl)
      | (refine wpAny_ite_true (decide_eq_true c1) ?_; wp_walk using AutoSeq1.wpAny_loadPart' hl))
    exact ⟨_, rfl, h⟩
theorem mul_zero' (l : Addr) (items : Array Value) (n : Nat) (dd : Option Addr) (sl : Array (Option Value)) (x : Int) (u : Tok) (c0 : (decide (x < -(2 ^ 63)) || decide (x ≥ 2 ^ 63)) = false) (c1 : (items.isEmpty || x == 1) = false) (c2 : (decide (x ≤ 0) || items.isEmpty) = true) :
    Meets (Builtin.«tuple.__mul__» ⟨[.ref l, .int x u], []⟩) (fun _ R s => s.heap.get? l = some { cls := .type "tuple", dict := dd, data := .seq items n, slots := sl } ∧
      R (.ok (.ret (Value.ref s.heap.objs.size))) { s with heap := s.heap.push { cls := Value.type "tuple", data := Data.seq #[] }, toks := s.toks }) :=
  .of_wp fun prog w A R s h => by
    rcases s with ⟨hp, g, d, tk, os⟩
    rcases h with ⟨hl, h⟩
    have f1 := AutoSeq1.idx_int
    have z0 : (#[] : Array Value).size ≤ sizeLine := Nat.zero_le _
    wp_walk using AutoSeq1.wpAny_loadPart' hl
    repeat (first
      | (refine wpAny_ite_false (decide_eq_false (by rw [c0]; exact Bool.false_ne_true)) ?_; wp_walk using AutoSeq1.wpAny_loadPart' hl)
      | (refine wpAny_ite_false (decide_eq_false (by rw [c1]; exact Bool.false_ne_true)) ?_; wp_walk using AutoSeq1.wpAny_loadPart' hl)
      | (refine wpAny_ite_true (decide_eq_true c2) ?_; wp_walk using AutoSeq1.wpAny_loadPart' hl)
      | (refine wpAny_ite_false (decide_eq_false (Nat.not_lt.mpr z0)) ?_; wp_walk using AutoSeq1.wpAny_loadPart' hl))
    exact ⟨_, rfl, h⟩
section
variable {X : Cx} {pins : List (Addr × Obj)} {σ : L2.St} {H : Hp} {s : Shared} {v u : Value} {a : Addr} {vs : List V} {n : Int} {Q : VK}
theorem mul_road (I : Inv X pins σ H s) (r1 : RelV (.ref a) v) (r2 : RelV (.int n) u) (ht : SqT X.K H a vs)
    (k : ∀ (its : List Value) (m : Nat) (dd : Option Addr) (sl : Array (Option Value)) (t : Tok), its.length = vs.length → s.heap.get? a = some { cls := .type "tuple", dict := dd, data := .seq its.toArray m, slots := sl } →
      ∃ S : PySem.Spec, Meets (Builtin.«tuple.__mul__» ⟨[.ref a, .int n t], []⟩) S ∧ S X.A (wants (EP X pins σ Q) X.xe) s) : wpAny (model X.prog X.w) X.A (binaryOp .Mult v u) (EP X pins σ Q) X.xe s := by
  cases r1
  obtain ⟨t, rfl⟩ := r2
  obtain ⟨its, r, ⟨⟨cls, dd, data, sl⟩, ho, hc, m, hd⟩, hs⟩ := I.tuple ht
  simp only at hc hd
  subst hc hd
  obtain ⟨S, g, hS⟩ := k its m dd sl t r.length.symm ho
  exact wpAny_binaryOp_repeat_ref (T := "tuple") (U := "int") (by decide) ⟨_, ho, rfl⟩ (fun s' => typeIs_int s' n t) noFill_tuple_mul F.fills_int_mul F.slot_int_rmul repeat_tuple F.slot_int_index.lookup
    (call_meets F.slot_int_rmul (typeIs_int s n t) F.entry_int_rmul (F.args_int_rmul_2 _ _) (int_rmul_tuple n t a its.toArray m dd sl) ⟨ho, rfl, ⟨_, ho, rfl⟩, call_meets F.slot_tuple_mul ⟨_, ho, rfl⟩ F.entry_tuple_mul (F.args_tuple_mul_2 _ _) g hS⟩)
theorem fits63 (h1 : -(2 ^ 63) ≤ n) (h2 : n < 2 ^ 63) : (decide (n < -(2 ^ 63)) || decide (n ≥ 2 ^ 63)) = false := by
  rw [decide_eq_false (by omega), decide_eq_false (by omega)]
  rfl
theorem rep_same (I : Inv X pins σ H s) (r1 : RelV (.ref a) v) (r2 : RelV (.int n) u) (ht : SqT X.K H a vs) (hs : vs = [] ∨ n = 1) (h1 : -(2 ^ 63) ≤ n) (h2 : n < 2 ^ 63) (q : Q (.ref a) H) : wpAny (model X.prog X.w) X.A (binaryOp .Mult v u) (EP X pins σ Q) X.xe s :=
  mul_road I r1 r2 ht fun its m dd sl t hl ho => ⟨_, mul_same a its.toArray m dd sl n t (fits63 h1 h2) (by
    rcases hs with z | z
    · subst z
      have : its = [] := List.eq_nil_of_length_eq_zero hl
      subst this
      rfl
    · subst z; simp), ho, .ref a, H, I, rfl, q⟩
theorem rep_zero (I : Inv X pins σ H s) (r1 : RelV (.ref a) v) (r2 : RelV (.int n) u) (ht : SqT X.K H a vs) (hne : vs ≠ []) (h1 : -(2 ^ 63) ≤ n) (h2 : n ≤ 0) (q : ∀ p, H p = none → Q (.ref p) (upd H p (.tup []))) :
    wpAny (model X.prog X.w) X.A (binaryOp .Mult v u) (EP X pins σ Q) X.xe s :=
  mul_road I r1 r2 ht fun its m dd sl t hl ho => by
    have hi : its.toArray.isEmpty = false := by
      cases its with
      | nil => exact absurd (List.eq_nil_of_length_eq_zero hl.symm) hne
      | cons _ _ => rfl
    refine ⟨_, mul_zero' a its.toArray m dd sl n t (fits63 h1 (by omega)) (by rw [hi, Bool.false_or]; exact beq_eq_false_iff_ne.mpr (by omega)) (by rw [decide_eq_true h2]; rfl), ho, ?_⟩
    exact ⟨.ref s.heap.objs.size, _, I.laid (t' := s.toks) (o := .tup []) (fun b ob q => Heap.get?_push_of_some _ q) (Nat.le_refl _) ⟨Nat.zero_le _, [], .nil, IsTup.new _ _⟩, rfl, q _ (I.hok.fresh (Nat.le_refl _))⟩
end
/-! ### + - * // % ** -/
def rAdd (x y : D) (M : MS) (Φ : DQ) : Prop := match x with
  | .int i => (match y with
    | .int j => Φ (.int (i + j)) M
    | _ => False)
  | .tup xs => (match y with
    | .tup ys => xs.length + ys.length ≤ 100000 ∧ Φ (.tup (xs ++ ys)) M
    | _ => False)
  | .str a => (match y with
    | .str b => a.length + b.length ≤ 100000 ∧ Φ (.str (a ++ b)) M
    | _ => False)
  | x => (match seqL M x, seqL M y with
    | some xs, some ys => xs.length + ys.length ≤ 100000 ∧ Φ (.lst (xs ++ ys)) M
    | _, _ => False)
def rSub (x y : D) (M : MS) (Φ : DQ) : Prop := match x, y with
  | .int i, .int j => Φ (.int (i - j)) M
  | _, _ => False
def rMul (x y : D) (M : MS) (Φ : DQ) : Prop := match x with
  | .int i => (match y with
    | .int j => CMul i j ∧ Φ (.int (i * j)) M
    | _ => False)
  | .tup xs => (match y with
    | .int k => -(2 ^ 63) ≤ k ∧ k ≤ 1000 ∧ xs.length ≤ 1000 ∧ Φ (.tup (List.replicate k.toNat xs).flatten) M
    | _ => False)
  | x => (match seqL M x with
    | some xs => (match y with
      | .int k => -(2 ^ 63) ≤ k ∧ k < 2 ^ 63 ∧ xs.length * k.toNat ≤ 100000 ∧ Φ (.lst (List.replicate k.toNat xs).flatten) M
      | _ => False)
    | none => False)
def rDiv (x y : D) (M : MS) (Φ : DQ) : Prop := match x, y with
  | .int i, .int j => 0 < j ∧ j < 1073741824 ∧ Φ (.int (i / j)) M
  | _, _ => False
def rMod (x y : D) (M : MS) (Φ : DQ) : Prop := match x, y with
  | .int i, .int j => 0 < j ∧ Φ (.int (i % j)) M
  | _, _ => False
def rPow (x y : D) (M : MS) (Φ : DQ) : Prop := match x, y with
  | .int i, .int j => CPow i j ∧ Φ (.int (i ^ j.toNat)) M
  | _, _ => False
def rNeg (x : D) (M : MS) (Φ : DQ) : Prop := match x with
  | .int i => Φ (.int (-i)) M
  | _ => False
section
variable {X : Cx}
theorem o_add : OpR X (binaryOp .Add) (loR X.K rAdd) := by
  rintro pins s σ H vx vy v u Q I r1 r2 ⟨F, M, x, y, Φ, am, rx, ry, h, k⟩
  have lists : ∀ {xs ys : List D}, seqL M x = some xs → seqL M y = some ys → xs.length + ys.length ≤ 100000 → Φ (.lst (xs ++ ys)) M → wpAny (model X.prog X.w) X.A (binaryOp .Add v u) (EP X pins σ Q) X.xe s := by
    intro xs ys ex ey hz q
    obtain ⟨a, vs, e1, h1, p1⟩ := seqL_rep am rx ex
    obtain ⟨b, ws, e2, h2, p2⟩ := seqL_rep am ry ey
    refine op_cat pins s σ H vx vy v u Q I r1 r2 ⟨a, b, vs, ws, e1, e2, h1, h2, by rw [← p1.length, ← p2.length]; exact sz5 hz, fun p hp => k _ _ (new_lst am (p1.append p2) q hp)⟩
  cases x with
  | int i =>
    cases y with
    | int j => exact op_add pins s σ H vx vy v u Q I r1 r2 ⟨i, j, rx, ry, k _ _ (hI am h)⟩
    | _ => exact (show False from h).elim
  | tup xs =>
    cases y with
    | tup ys =>
      obtain ⟨hz, q⟩ := h
      obtain ⟨a, vs, e1, h1, p1⟩ := rep_tup rx
      obtain ⟨b, ws, e2, h2, p2⟩ := rep_tup ry
      subst e1 e2
      have n1 := p1.length
      have n2 := p2.length
      refine op_catA pins s σ H _ _ v u Q I r1 r2 ⟨a, b, vs, ws, rfl, rfl, h1, h2, by rw [← n1, ← n2]; exact sz5 hz, fun z => ?_, fun _ z => ?_, fun _ _ p hp => k _ _ (new_tup am (p1.append p2) q hp)⟩
      · subst z
        cases xs with
        | nil => exact k _ _ (loQ.here am ry q)
        | cons _ _ => simp at n1
      · subst z
        cases ys with
        | nil => rw [List.append_nil] at q; exact k _ _ (loQ.here am rx q)
        | cons _ _ => simp at n2
    | _ => exact (show False from h).elim
  | str a =>
    cases y with
    | str b => exact op_add_str pins s σ H vx vy v u Q I r1 r2 ⟨a, b, rx, ry, sz5 h.1, k _ _ (hS am h.2)⟩
    | _ => exact (show False from h).elim
  | _ =>
    simp only [rAdd] at h
    split at h
    · rename_i xs ys e1 e2
      exact lists e1 e2 h.1 h.2
    · exact h.elim
theorem o_sub : OpR X (binaryOp .Sub) (loR X.K rSub) := by
  rintro pins s σ H vx vy v u Q I r1 r2 ⟨F, M, x, y, Φ, am, rx, ry, h, k⟩
  unfold rSub at h
  split at h
  · rename_i i j
    exact op_sub pins s σ H vx vy v u Q I r1 r2 ⟨i, j, rx, ry, k _ _ (hI am h)⟩
  · exact h.elim
theorem o_mul : OpR X (binaryOp .Mult) (loR X.K rMul) := by
  rintro pins s σ H vx vy v u Q I r1 r2 ⟨F, M, x, y, Φ, am, rx, ry, h, k⟩
  have lists : ∀ {xs : List D} {n : Int}, seqL M x = some xs → y = .int n → -(2 ^ 63) ≤ n → n < 2 ^ 63 → xs.length * n.toNat ≤ 100000 → Φ (.lst (List.replicate n.toNat xs).flatten) M → wpAny (model X.prog X.w) X.A (binaryOp .Mult v u) (EP X pins σ Q) X.xe s := by
    intro xs n ex ey b1 b2 hz q
    subst ey
    obtain ⟨a, vs, e1, h1, p1⟩ := seqL_rep am rx ex
    refine op_rep pins s σ H vx vy v u Q I r1 r2 ⟨a, n, vs, e1, ry, h1, b1, b2, by rw [← p1.length]; exact sz5 hz, fun p hp => k _ _ (new_lst am (p1.rep _) q hp)⟩
  cases x with
  | int i =>
    cases y with
    | int j => exact op_mul pins s σ H vx vy v u Q I r1 r2 ⟨i, j, rx, ry, h.1, k _ _ (hI am h.2)⟩
    | _ => exact (show False from h).elim
  | tup xs =>
    cases y with
    | int n =>
      obtain ⟨h1, h2, h3, q⟩ := h
      obtain ⟨a, vs, e1, ht, p1⟩ := rep_tup rx
      subst e1
      have hl := p1.length
      by_cases hs : vs = [] ∨ n = 1
      · refine rep_same I r1 (show RelV (.int n) u from ry ▸ r2) ht hs h1 (by omega) (k _ _ (loQ.here am rx ?_))
        have e : (List.replicate n.toNat xs).flatten = xs := by
          rcases hs with z | z
          · subst z
            have : xs = [] := List.eq_nil_of_length_eq_zero hl
            subst this
            exact flat_nil _
          · subst z
            show [xs].flatten = xs
            simp
        rw [← e]
        exact q
      · by_cases hz : n ≤ 0
        · refine rep_zero I r1 (show RelV (.int n) u from ry ▸ r2) ht (fun z => hs (.inl z)) h1 hz fun p hp => k _ _ ?_
          have e : (List.replicate n.toNat xs).flatten = [] := by
            rw [show n.toNat = 0 by omega]; rfl
          rw [e] at q
          exact new_tup am Reps.nil q hp
        · refine op_repT pins s σ H _ _ v u Q I r1 r2 ⟨a, n, vs, rfl, ry, ht, fun z => hs (.inl z), by omega, h2, by rw [← p1.length]; exact h3, fun p hp => k _ _ (new_tup am (p1.rep _) q hp)⟩
    | _ => exact (show False from h).elim
  | _ =>
    simp only [rMul] at h
    split at h
    · rename_i xs e1
      split at h
      · rename_i n
        exact lists e1 rfl h.1 h.2.1 h.2.2.1 h.2.2.2
      · exact h.elim
    · exact h.elim
theorem o_div : OpR X (binaryOp .FloorDiv) (loR X.K rDiv) := by
  rintro pins s σ H vx vy v u Q I r1 r2 ⟨F, M, x, y, Φ, am, rx, ry, h, k⟩
  unfold rDiv at h
  split at h
  · rename_i i j
    exact op_fdiv pins s σ H vx vy v u Q I r1 r2 ⟨i, j, rx, ry, ⟨h.1, h.2.1⟩, k _ _ (hI am h.2.2)⟩
  · exact h.elim
theorem o_mod : OpR X (binaryOp .Mod) (loR X.K rMod) := by
  rintro pins s σ H vx vy v u Q I r1 r2 ⟨F, M, x, y, Φ, am, rx, ry, h, k⟩
  unfold rMod at h
  split at h
  · rename_i i j
    exact op_mod pins s σ H vx vy v u Q I r1 r2 ⟨i, j, rx, ry, h.1, k _ _ (hI am h.2)⟩
  · exact h.elim
theorem o_pow : OpR X (binaryOp .Pow) (loR X.K rPow) := by
  rintro pins s σ H vx vy v u Q I r1 r2 ⟨F, M, x, y, Φ, am, rx, ry, h, k⟩
  unfold rPow at h
  split at h
  · rename_i i j
    exact op_pow pins s σ H vx vy v u Q I r1 r2 ⟨i, j, rx, ry, h.1, k _ _ (hI am h.2)⟩
  · exact h.elim
theorem o_neg : UnR X (unaryOp .USub) (loU X.K rNeg) := by
  rintro pins s σ H vx v Q I r1 ⟨F, M, x, Φ, am, rx, h, k⟩
  unfold rNeg at h
  split at h
  · rename_i i
    exact un_neg pins s σ H vx v Q I r1 ⟨i, rx, k _ _ (hI am h)⟩
  · exact h.elim
end

/-! ### order of numbers -/
def rCmp (f : Int → Int → Bool) (x y : D) (M : MS) (Φ : DQ) : Prop := match x, y with
  | .int i, .int j => Φ (.bl (f i j)) M
  | _, _ => False
abbrev rLt := rCmp fun i j => decide (i < j)
abbrev rLe := rCmp fun i j => decide (i ≤ j)
abbrev rGt := rCmp fun i j => decide (j < i)
abbrev rGe := rCmp fun i j => decide (j ≤ i)
section
variable {X : Cx}
theorem o_cmp {op : CmpOp} {f : Int → Int → Bool} (ho : OpR X (compareOp op) (rI0 fun i j => .bl (f i j))) : OpR X (compareOp op) (loR X.K (rCmp f)) := by
  rintro pins s σ H vx vy v u Q I r1 r2 ⟨F, M, x, y, Φ, am, rx, ry, h, k⟩
  unfold rCmp at h
  split at h
  · rename_i i j
    exact ho pins s σ H vx vy v u Q I r1 r2 ⟨i, j, rx, ry, k _ _ (hB am h)⟩
  · exact h.elim
end

/-! ### data: ==, repr -/
mutual
def snap (M : MS) : D → D
  | .tup xs => .tup (snaps M xs)
  | .lst xs => .lst (snaps M xs)
  | .dic ks xs => .dic ks (snaps M xs)
  | .ref a => match M.map a with
    | some (.lst ds) => .lst ds
    | _ => .ref a
  | d => d
def snaps (M : MS) : List D → List D
  | [] => []
  | x :: xs => snap M x :: snaps M xs
end
def keyPy : Key → PyData
  | .inl i => .int i
  | .inr x => .str x
mutual
def toPy : D → PyData
  | .non => .none
  | .bl b => .bool b
  | .int i => .int i
  | .str s => .str s
  | .tup xs => .tuple (toPys xs)
  | .lst xs => .list (toPys xs)
  | .dic ks xs => .dict ((ks.map keyPy).zip (toPys xs))
  | .scr ns => .list (ns.map .int)
  | .ref _ => .none
  | .ty _ => .none
def toPys : List D → List PyData
  | [] => []
  | x :: xs => toPy x :: toPys xs
end
/-! nothing in it may change; (plain: no dict either) -/
mutual
def still : D → Bool
  | .tup xs => stills xs
  | .lst xs => stills xs
  | .dic ks xs => stills xs && (ks.length == xs.length)
  | .ref _ => false
  | .scr _ => false
  | .ty _ => false
  | _ => true
def stills : List D → Bool
  | [] => true
  | x :: xs => still x && stills xs
end
mutual
def plain : D → Bool
  | .tup xs => plains xs
  | .lst xs => plains xs
  | .dic _ _ => false
  | .ref _ => false
  | .scr _ => false
  | .ty _ => false
  | .str z => PyData.strOk z
  | _ => true
def plains : List D → Bool
  | [] => true
  | x :: xs => plain x && plains xs
end
mutual
def dep : D → Nat
  | .tup xs => deps xs + 1
  | .lst xs => deps xs + 1
  | .dic _ xs => deps xs + 1
  | _ => 0
def deps : List D → Nat
  | [] => 0
  | x :: xs => max (dep x) (deps xs)
end
mutual
def eqd : D → D → Bool
  | .non, .non => true
  | .bl a, .bl b => a == b
  | .bl a, .int j => (if a then 1 else 0) == j
  | .int i, .bl b => i == (if b then 1 else 0)
  | .int i, .int j => i == j
  | .str x, .str y => x == y
  | .lst xs, .lst ys => eqds xs ys
  | .tup xs, .tup ys => eqds xs ys
  | _, _ => false
def eqds : List D → List D → Bool
  | [], [] => true
  | x :: xs, y :: ys => eqd x y && eqds xs ys
  | _, _ => false
end
theorem toPys_map : ∀ xs : List D, toPys xs = xs.map toPy
  | [] => rfl
  | x :: xs => by simp only [toPys, List.map_cons, toPys_map xs]
mutual
theorem eqv_toPy : ∀ (x y : D), plain x = true → plain y = true → PyData.eqv (toPy x) (toPy y) = eqd x y
  | x, y, hx, hy => by
    cases x <;> cases y <;> (first
      | rfl
      | (exact absurd (show false = true from hx) Bool.false_ne_true)
      | (exact absurd (show false = true from hy) Bool.false_ne_true)
      | (simp only [toPy, PyData.eqv, eqd]; try exact eqvAll_toPys _ _ (by simpa [plain] using hx) (by simpa [plain] using hy)))
theorem eqvAll_toPys : ∀ (xs ys : List D), plains xs = true → plains ys = true → PyData.eqvAll (toPys xs) (toPys ys) = eqds xs ys
  | [], [], _, _ => rfl
  | [], _ :: _, _, _ => rfl
  | _ :: _, [], _, _ => rfl
  | x :: xs, y :: ys, hx, hy => by
    simp only [plains, Bool.and_eq_true] at hx hy
    simp only [toPys, PyData.eqvAll, eqds, eqv_toPy x y hx.1 hy.1, eqvAll_toPys xs ys hx.2 hy.2]
end
mutual
theorem canLay_toPy : ∀ x : D, plain x = true → (toPy x).canLay0 = true
  | .non, _ => rfl
  | .bl _, _ => rfl
  | .int _, _ => rfl
  | .str z, h => by simpa only [toPy, PyData.canLay0, plain] using h
  | .tup xs, h => by simp only [toPy, PyData.canLay0]; exact canLay_toPys xs (by simpa only [plain] using h)
  | .lst xs, h => by simp only [toPy, PyData.canLay0]; exact canLay_toPys xs (by simpa only [plain] using h)
  | .dic _ _, h => absurd (show false = true from h) Bool.false_ne_true
  | .ref _, h => absurd (show false = true from h) Bool.false_ne_true
  | .ty _, h => absurd (show false = true from h) Bool.false_ne_true
  | .scr _, h => absurd (show false = true from h) Bool.false_ne_true
theorem canLay_toPys : ∀ xs : List D, plains xs = true → PyData.canLayAll0 (toPys xs) = true
  | [], _ => rfl
  | x :: xs, h => by
    simp only [plains, Bool.and_eq_true] at h
    simp only [toPys, PyData.canLayAll0, canLay_toPy x h.1, canLay_toPys xs h.2, Bool.and_self]
end
mutual
theorem depth_toPy : ∀ x : D, plain x = true → (toPy x).depth = dep x
  | .non, _ => rfl
  | .bl _, _ => rfl
  | .int _, _ => rfl
  | .str z, h => rfl
  | .tup xs, h => by simp only [toPy, PyData.depth, dep]; rw [depth_toPys xs (by simpa only [plain] using h)]
  | .lst xs, h => by simp only [toPy, PyData.depth, dep]; rw [depth_toPys xs (by simpa only [plain] using h)]
  | .dic _ _, h => absurd (show false = true from h) Bool.false_ne_true
  | .ref _, h => absurd (show false = true from h) Bool.false_ne_true
  | .ty _, h => absurd (show false = true from h) Bool.false_ne_true
  | .scr _, h => absurd (show false = true from h) Bool.false_ne_true
theorem depth_toPys : ∀ xs : List D, plains xs = true → PyData.depthAll (toPys xs) = deps xs
  | [], _ => rfl
  | x :: xs, h => by
    simp only [plains, Bool.and_eq_true] at h
    simp only [toPys, PyData.depthAll, deps, depth_toPy x h.1, depth_toPys xs h.2]
end
theorem shaped_toPy {x : D} (h : plain x = true) (hd : dep x ≤ 64) : SeqAt.shaped (toPy x) = true := by
  unfold SeqAt.shaped
  rw [canLay_toPy x h, depth_toPy x h]
  simp [hd]
end DL

namespace DL
open PySem PySem.Spec PyProof.Rows L2

/-! ### data read off the heap -/
mutual
def hasDic : D → Bool
  | .tup xs => hasDics xs
  | .lst xs => hasDics xs
  | .dic _ _ => true
  | _ => false
def hasDics : List D → Bool
  | [] => false
  | x :: xs => hasDic x || hasDics xs
end
mutual
def noLst : D → Bool
  | .tup xs => noLsts xs
  | .lst _ => false
  | .dic _ xs => noLsts xs
  | _ => true
def noLsts : List D → Bool
  | [] => true
  | x :: xs => noLst x && noLsts xs
end
mutual
theorem hasDict_toPy : ∀ d : D, still d = true → (toPy d).hasDict = hasDic d
  | .non, _ => rfl
  | .bl _, _ => rfl
  | .int _, _ => rfl
  | .str _, _ => rfl
  | .tup xs, h => by simp only [toPy, PyData.hasDict, hasDic]; exact hasDict_toPys xs (by simpa only [still] using h)
  | .lst xs, h => by simp only [toPy, PyData.hasDict, hasDic]; exact hasDict_toPys xs (by simpa only [still] using h)
  | .dic _ _, _ => rfl
  | .ref _, h => absurd (show false = true from h) Bool.false_ne_true
  | .scr _, h => absurd (show false = true from h) Bool.false_ne_true
  | .ty _, h => absurd (show false = true from h) Bool.false_ne_true
theorem hasDict_toPys : ∀ xs : List D, stills xs = true → PyData.hasDictAll (toPys xs) = hasDics xs
  | [], _ => rfl
  | x :: xs, h => by
    simp only [stills, Bool.and_eq_true] at h
    simp only [toPys, PyData.hasDictAll, hasDics, hasDict_toPy x h.1, hasDict_toPys xs h.2]
end
theorem depthKv_zip : ∀ (ks : List Key) (ps : List PyData), PyData.depthKv ((ks.map keyPy).zip ps) ≤ PyData.depthAll ps
  | [], _ => by simp [PyData.depthKv]
  | k :: ks, [] => by simp [PyData.depthKv]
  | k :: ks, p :: ps => by
    have h := depthKv_zip ks ps
    have e : (keyPy k).depth = 0 := by cases k <;> rfl
    simp only [List.map_cons, List.zip_cons_cons, PyData.depthKv, PyData.depthAll, e]
    omega
mutual
theorem depth_le : ∀ d : D, still d = true → (toPy d).depth ≤ dep d
  | .non, _ => Nat.le_refl _
  | .bl _, _ => Nat.le_refl _
  | .int _, _ => Nat.le_refl _
  | .str _, _ => Nat.le_refl _
  | .tup xs, h => by simp only [toPy, PyData.depth, dep]; exact Nat.succ_le_succ (depths_le xs (by simpa only [still] using h))
  | .lst xs, h => by simp only [toPy, PyData.depth, dep]; exact Nat.succ_le_succ (depths_le xs (by simpa only [still] using h))
  | .dic ks xs, h => by
    simp only [still, Bool.and_eq_true] at h
    simp only [toPy, PyData.depth, dep]
    exact Nat.succ_le_succ (Nat.le_trans (depthKv_zip ks _) (depths_le xs h.1))
  | .ref _, h => absurd (show false = true from h) Bool.false_ne_true
  | .scr _, h => absurd (show false = true from h) Bool.false_ne_true
  | .ty _, h => absurd (show false = true from h) Bool.false_ne_true
theorem depths_le : ∀ xs : List D, stills xs = true → PyData.depthAll (toPys xs) ≤ deps xs
  | [], _ => Nat.le_refl _
  | x :: xs, h => by
    simp only [stills, Bool.and_eq_true] at h
    simp only [toPys, PyData.depthAll, deps]
    have h1 := depth_le x h.1
    have h2 := depths_le xs h.2
    omega
end
theorem toPys_length : ∀ xs : List D, (toPys xs).length = xs.length
  | [] => rfl
  | x :: xs => by simp [toPys, toPys_length xs]
theorem readsAll_of {h : Heap} : ∀ {us : List Value} {ks : List Key}, Paired (fun k u => keyIs k u = true) ks us → ReadsAll h us (ks.map keyPy) []
  | _, _, .nil => .nil
  | _, k :: ks, .cons (b := u) r t => by
    have := readsAll_of (h := h) t
    have hr : Reads h u (keyPy k) [] := by
      rcases keyIs_shape r with ⟨i, t, rfl, rfl⟩ | ⟨x, t, rfl, rfl⟩
      · exact .int i t
      · exact .str x t
    exact .cons hr this
theorem kv_split {kvs : List (Key × V)} {vs : List (Key × Value)} : KV kvs vs → kvs.map (·.1) = vs.map (·.1) ∧ Vals (kvs.map (·.2)) (vs.map (·.2))
  | .nil => ⟨rfl, .nil⟩
  | .cons r t => by
    obtain ⟨a, b⟩ := kv_split t
    exact ⟨by simp only [List.map_cons, a, r.1], .cons r.2 b⟩
theorem pairs_split {P : Program} {w : World} : ∀ {es : List DictEntry} {kvs : List (Key × Value)}, Pairs (mixKind P w) es kvs → Paired (fun k u => keyIs k u = true) (kvs.map (·.1)) (es.map (·.key)) ∧ es.map (·.val) = kvs.map (·.2)
  | _, _, .nil => ⟨.nil, rfl⟩
  | _, _, .cons r e t => by
    obtain ⟨a, b⟩ := pairs_split t
    exact ⟨.cons r a, by simp only [List.map_cons, b, e]⟩
section
variable {X : Cx} {pins : List (Addr × Obj)} {σ : L2.St} {H : Hp} {s : Shared} {F : Addr → Prop} {M : MS}
mutual
theorem Rep.reads (I : Inv X pins σ H s) : ∀ (d : D) (v : V) (u : Value), Rep X.K F H d v → RelV v u → still d = true → ∃ as, Reads s.heap u (toPy d) as ∧ (H sysModules = none → sysModules ∉ as)
  | .non, v, u, h, r, _ => by
    have : v = .non := h
    subst this; cases r
    exact ⟨_, .none, by simp⟩
  | .bl b, v, u, h, r, _ => by
    have : v = .bl b := h
    subst this; cases r
    exact ⟨_, .bool b, by simp⟩
  | .int i, v, u, h, r, _ => by
    have : v = .int i := h
    subst this
    obtain ⟨t, rfl⟩ := r
    exact ⟨_, .int i t, by simp⟩
  | .str z, v, u, h, r, _ => by
    have : v = .str z := h
    subst this
    obtain ⟨t, rfl⟩ := r
    exact ⟨_, .str z t, by simp⟩
  | .tup xs, v, u, h, r, hs => by
    simp only [Rep] at h
    obtain ⟨a, vs, e, hq, hr⟩ := h
    subst e; cases r
    obtain ⟨its, rv, ⟨o, ho, hc, n, hd⟩, _⟩ := I.tuple hq
    obtain ⟨as, q, hn⟩ := Reps.reads I xs vs its hr rv (by simpa only [still] using hs)
    exact ⟨_, .tuple ho hc hd q, hn⟩
  | .lst xs, v, u, h, r, hs => by
    simp only [Rep] at h
    obtain ⟨a, vs, e, _, hq, hr⟩ := h
    subst e; cases r
    obtain ⟨its, rv, ⟨o, n, ho, hc, _, hd⟩, _⟩ := I.list (SqL.of hq)
    obtain ⟨as, q, hn⟩ := Reps.reads I xs vs its hr rv (by simpa only [still] using hs)
    exact ⟨_, .list ho hc hd q, fun hz => by
      simp only [List.mem_cons, not_or]
      exact ⟨fun w => by (rw [← w, hz] at hq; cases hq), hn hz⟩⟩
  | .dic ks xs, v, u, h, r, hs => by
    simp only [still, Bool.and_eq_true, beq_iff_eq] at hs
    simp only [Rep] at h
    obtain ⟨a, vs, e, _, hq, hl, hr⟩ := h
    subst e; cases r
    obtain ⟨_, hne, kvs, hkv, o, es, n, ho, hc, hd, _, hp, _⟩ := I.hok a _ hq
    obtain ⟨e1, rv⟩ := kv_split hkv
    have hkl : (ks.zip vs).map (·.1) = ks := by rw [List.map_fst_zip]; rw [← hr.length, hl]; exact Nat.le_refl _
    have hvl : (ks.zip vs).map (·.2) = vs := by rw [List.map_snd_zip]; rw [← hr.length, hl]; exact Nat.le_refl _
    rw [hkl] at e1
    rw [hvl] at rv
    obtain ⟨pk, pv⟩ := pairs_split hp
    rw [← e1] at pk
    rw [← pv] at rv
    obtain ⟨as, q, hn⟩ := Reps.reads I xs vs _ hr rv hs.1
    have hpl : (toPys xs).length = ks.length := by rw [toPys_length, ← hs.2]
    refine ⟨_, .dict (kvs := (ks.map keyPy).zip (toPys xs)) ho hc.1 hd (as := []) (bs := as) ?_ ?_, fun hz => ?_⟩
    · rw [List.map_fst_zip (by simp [hpl])]
      exact readsAll_of pk
    · rw [List.map_snd_zip (by simp [hpl])]
      exact q
    · simp only [List.append_nil, List.singleton_append, List.mem_cons, not_or]
      exact ⟨fun w => by (subst w; simp at hne), hn hz⟩
  | .ref _, _, _, _, _, hs => absurd (show false = true from hs) Bool.false_ne_true
  | .scr _, _, _, _, _, hs => absurd (show false = true from hs) Bool.false_ne_true
  | .ty _, _, _, _, _, hs => absurd (show false = true from hs) Bool.false_ne_true
theorem Reps.reads (I : Inv X pins σ H s) : ∀ (ds : List D) (vs : List V) (us : List Value), Reps X.K F H ds vs → Vals vs us → stills ds = true → ∃ as, ReadsAll s.heap us (toPys ds) as ∧ (H sysModules = none → sysModules ∉ as)
  | [], vs, us, h, r, _ => by
    simp only [Reps] at h
    subst h; cases r
    exact ⟨_, .nil, by simp⟩
  | d :: ds, vs, us, h, r, hs => by
    simp only [stills, Bool.and_eq_true] at hs
    simp only [Reps] at h
    obtain ⟨v, vr, e, h1, h2⟩ := h
    subst e
    cases r with
    | cons r1 r2 =>
      obtain ⟨as, q1, n1⟩ := Rep.reads I d v _ h1 r1 hs.1
      obtain ⟨bs, q2, n2⟩ := Reps.reads I ds vr _ h2 r2 hs.2
      refine ⟨_, .cons q1 q2, fun hz => ?_⟩
      simp only [List.mem_append, not_or]
      exact ⟨n1 hz, n2 hz⟩
end
end

theorem snaps_length {M : MS} : ∀ xs : List D, (snaps M xs).length = xs.length
  | [] => rfl
  | x :: xs => by simp [snaps, snaps_length xs]
section
variable {K : PySem.W.Frag} {H : Hp} {F : Addr → Prop} {M : MS}
mutual
theorem Rep.snap (am : AbsM K F H M) : ∀ {d : D} {v : V}, Rep K F H d v → Rep K (fun _ => True) H (snap M d) v
  | .non, _, h => h
  | .bl _, _, h => h
  | .int _, _, h => h
  | .str _, _, h => h
  | .ty _, _, h => h
  | .scr _, _, h => by simpa only [DL.snap, Rep] using h
  | .tup xs, v, h => by
    simp only [DL.snap, Rep] at h ⊢
    obtain ⟨a, vs, e, s, r⟩ := h
    exact ⟨a, vs, e, s, Reps.snap am r⟩
  | .lst xs, v, h => by
    simp only [DL.snap, Rep] at h ⊢
    obtain ⟨a, vs, e, f, s, r⟩ := h
    exact ⟨a, vs, e, trivial, s, Reps.snap am r⟩
  | .dic ks xs, v, h => by
    simp only [DL.snap, Rep] at h ⊢
    obtain ⟨a, vs, e, f, s, n, r⟩ := h
    exact ⟨a, vs, e, trivial, s, by rw [n]; exact (snaps_length _).symm, Reps.snap am r⟩
  | .ref a, v, h => by
    simp only [DL.snap]
    split
    · rename_i ds e
      obtain ⟨_, vs, h1, h2⟩ := am.mp a _ e
      simp only [Rep] at h ⊢
      exact ⟨a, vs, h, trivial, h1, h2.mono (Le.refl.grow fun _ _ => trivial)⟩
    · exact h
theorem Reps.snap (am : AbsM K F H M) : ∀ {ds : List D} {vs : List V}, Reps K F H ds vs → Reps K (fun _ => True) H (snaps M ds) vs
  | [], _, h => h
  | x :: xs, vs, h => by
    simp only [snaps, Reps] at h ⊢
    obtain ⟨v, r, e, h1, h2⟩ := h
    exact ⟨v, r, e, Rep.snap am h1, Reps.snap am h2⟩
end
end

/-! ### == != on data -/
structure EqOk (x : D) : Prop where
  pl : plain x = true
  dp : dep x ≤ 60
def rEq (x y : D) (M : MS) (Φ : DQ) : Prop := (∃ a b : Str, x = .str a ∧ y = .str b ∧ Φ (.bl (a == b)) M) ∨ (EqOk (snap M x) ∧ EqOk (snap M y) ∧ Φ (.bl (eqd (snap M x) (snap M y))) M) ∨ (∃ xs ys, seqL M x = some xs ∧ seqL M y = some ys ∧ xs.length ≠ ys.length ∧ Φ (.bl false) M)
def rNe (x y : D) (M : MS) (Φ : DQ) : Prop := (∃ a b : Str, x = .str a ∧ y = .str b ∧ Φ (.bl (!(a == b))) M) ∨ (EqOk (snap M x) ∧ EqOk (snap M y) ∧ Φ (.bl (!eqd (snap M x) (snap M y))) M) ∨ (∃ xs ys, seqL M x = some xs ∧ seqL M y = some ys ∧ xs.length ≠ ys.length ∧ Φ (.bl true) M)
mutual
theorem still_of_plain : ∀ x : D, plain x = true → still x = true
  | .non, _ => rfl
  | .bl _, _ => rfl
  | .int _, _ => rfl
  | .str _, _ => rfl
  | .tup xs, h => by simp only [still]; exact stills_of_plains xs (by simpa only [plain] using h)
  | .lst xs, h => by simp only [still]; exact stills_of_plains xs (by simpa only [plain] using h)
  | .dic _ _, h => absurd (show false = true from h) Bool.false_ne_true
  | .ref _, h => absurd (show false = true from h) Bool.false_ne_true
  | .scr _, h => absurd (show false = true from h) Bool.false_ne_true
  | .ty _, h => absurd (show false = true from h) Bool.false_ne_true
theorem stills_of_plains : ∀ xs : List D, plains xs = true → stills xs = true
  | [], _ => rfl
  | x :: xs, h => by
    simp only [plains, Bool.and_eq_true] at h
    simp only [stills, still_of_plain x h.1, stills_of_plains xs h.2, Bool.and_self]
end
section
variable {X : Cx}
theorem o_eq (hu : X.A.units + 64 < cLine) : OpR X (compareOp .Eq) (loR X.K rEq) := by
  rintro pins s σ H vx vy v u Q I r1 r2 ⟨F, M, x, y, Φ, am, rx, ry, ⟨a, b, rfl, rfl, h⟩ | ⟨ex, ey, h⟩ | ⟨xs, ys, ex, ey, ne, h⟩, k⟩
  · have e1 := rep_str rx
    have e2 := rep_str ry
    subst e1 e2
    refine op_eq pins s σ H _ _ v u Q I r1 r2 ⟨rfl, k _ _ (hB am ?_)⟩
    rw [show decide (V.str a = V.str b) = (a == b) by rw [Bool.eq_iff_iff]; simp]
    exact h
  · obtain ⟨as, q1, _⟩ := Rep.reads I _ _ _ (rx.snap am) r1 (still_of_plain _ ex.pl)
    obtain ⟨bs, q2, _⟩ := Rep.reads I _ _ _ (ry.snap am) r2 (still_of_plain _ ey.pl)
    refine SeqAt.compareEq_shaped q1 q2 (shaped_toPy ex.pl (by have := ex.dp; omega)) (shaped_toPy ey.pl (by have := ey.dp; omega)) hu ?_
    rw [eqv_toPy _ _ ex.pl ey.pl]
    exact ⟨.bl _, H, I, rfl, k _ _ (hB am h)⟩
  · obtain ⟨a, vs, e1, g1, p1⟩ := seqL_rep am rx ex
    obtain ⟨b, ws, e2, g2, p2⟩ := seqL_rep am ry ey
    subst e1 e2
    obtain rfl : v = Value.ref a := r1
    obtain rfl : u = Value.ref b := r2
    obtain ⟨us1, rv1, l1, _⟩ := I.list (SqL.of g1)
    obtain ⟨us2, rv2, l2, _⟩ := I.list (SqL.of g2)
    refine SeqAt.RcAt.lists_lengths l1.isList l2.isList ?_ (by omega) _ _ _ _ ⟨.bl _, H, I, rfl, k _ _ (hB am h)⟩
    have n1 := p1.length
    have n2 := p2.length
    have n3 := rv1.length
    have n4 := rv2.length
    simp only [List.size_toArray, bne_iff_ne, ne_eq]
    omega
theorem o_ne (hu : X.A.units + 64 < cLine) : OpR X (compareOp .NotEq) (loR X.K rNe) := by
  rintro pins s σ H vx vy v u Q I r1 r2 ⟨F, M, x, y, Φ, am, rx, ry, ⟨a, b, rfl, rfl, h⟩ | ⟨ex, ey, h⟩ | ⟨xs, ys, ex, ey, ne, h⟩, k⟩
  · have e1 := rep_str rx
    have e2 := rep_str ry
    subst e1 e2
    refine op_ne pins s σ H _ _ v u Q I r1 r2 ⟨rfl, k _ _ (hB am ?_)⟩
    rw [show decide (V.str a = V.str b) = (a == b) by rw [Bool.eq_iff_iff]; simp]
    exact h
  · obtain ⟨as, q1, _⟩ := Rep.reads I _ _ _ (rx.snap am) r1 (still_of_plain _ ex.pl)
    obtain ⟨bs, q2, _⟩ := Rep.reads I _ _ _ (ry.snap am) r2 (still_of_plain _ ey.pl)
    refine SeqAt.compareNe_shaped q1 q2 (shaped_toPy ex.pl (by have := ex.dp; omega)) (shaped_toPy ey.pl (by have := ey.dp; omega)) hu ?_
    rw [eqv_toPy _ _ ex.pl ey.pl]
    exact ⟨.bl _, H, I, rfl, k _ _ (hB am h)⟩
  · obtain ⟨a, vs, e1, g1, p1⟩ := seqL_rep am rx ex
    obtain ⟨b, ws, e2, g2, p2⟩ := seqL_rep am ry ey
    subst e1 e2
    obtain rfl : v = Value.ref a := r1
    obtain rfl : u = Value.ref b := r2
    obtain ⟨us1, rv1, l1, _⟩ := I.list (SqL.of g1)
    obtain ⟨us2, rv2, l2, _⟩ := I.list (SqL.of g2)
    refine SeqAt.RcNeAt.lists_lengths l1.isList l2.isList ?_ (by omega) _ _ _ _ ⟨.bl _, H, I, rfl, k _ _ (hB am h)⟩
    have n1 := p1.length
    have n2 := p2.length
    have n3 := rv1.length
    have n4 := rv2.length
    simp only [List.size_toArray, bne_iff_ne, ne_eq]
    omega
end
/-! ### repr -/
structure ShowOk (x : D) : Prop where
  st : still x = true
  dp : dep x ≤ 60
  sh : (toPy x).showable = true
  ln : (toPy x).shown.length ≤ sizeLine
def rRepr (args : List D) (M : MS) (Φ : DQ) : Prop := match args with
  | [x] => ShowOk (snap M x) ∧ Φ (.str (toPy (snap M x)).shown) M
  | _ => False
theorem reads_ref {h : Heap} {a : Addr} {d : PyData} {as : List Addr} (r : Reads h (.ref a) d as) : True := trivial
section
variable {X : Cx}
theorem c_repr (hg : X.A.guards = some []) (hu : X.A.units + 64 < cLine) (hsn : (X.K.lookup sysModules).isSome = true) : CallR X (.builtin "repr") (loC X.K rRepr) := by
  rintro pins s σ H vs us Q I r ⟨F, M, ds, Φ, am, rs, h, k⟩
  unfold rRepr at h
  split at h
  · rename_i x
    obtain ⟨ok, q⟩ := h
    simp only [Reps] at rs
    obtain ⟨v, vr, e, rx, rfl⟩ := rs
    subst e
    obtain ⟨u, rfl, ru⟩ := vals1 r
    have fin : ∀ (h' : Heap) (t tk : Nat), (∀ b o, s.heap.get? b = some o → h'.get? b = some o) → EP X pins σ Q (.str (toPy (snap M x)).shown t) { s with heap := h', toks := tk } :=
      fun h' t tk hk => ⟨.str _, H, I.kept hk, ⟨t, rfl⟩, k _ _ (hS am q)⟩
    have rsn := rx.snap am
    have hz : H sysModules = none := by
      obtain ⟨o, ho⟩ := Option.isSome_iff_exists.mp hsn
      exact (I.bs _ _ (I.mod.kin _ _ ho)).2
    obtain ⟨as, rd, hn⟩ := Rep.reads I _ _ _ rsn ru ok.st
    have hsm : (toPy (snap M x)).hasDict = true → sysModules ∉ as := fun _ => hn hz
    have hdp := depth_le _ ok.st
    have h60 := ok.dp
    have viaRef : ∀ a, u = .ref a → wpAny (model X.prog X.w) X.A (call (.builtin "repr") [u]) (EP X pins σ Q) X.xe s := by
      intro a e
      subst e
      exact repr_of_reads' rd ok.sh hsm hg (by omega) (fun _ _ z => z) (fun h' t tk hk => fin h' t tk hk) ok.ln
    generalize hy : snap M x = y at *
    cases y with
    | non =>
      have : v = .non := rsn
      subst this; cases ru
      exact P.repr_of_none (fin s.heap _ _ fun _ _ z => z)
    | bl b =>
      have : v = .bl b := rsn
      subst this; cases ru
      exact P.repr_of_bool (fin s.heap _ _ fun _ _ z => z)
    | int i =>
      have : v = .int i := rsn
      subst this
      obtain ⟨t, rfl⟩ := ru
      exact P.repr_of_int (by simpa [toPy, PyData.showable] using ok.sh) (fin s.heap _ _ fun _ _ z => z)
    | str z =>
      have : v = .str z := rsn
      subst this
      obtain ⟨t, rfl⟩ := ru
      exact P.repr_of_str (fin s.heap _ _ fun _ _ z => z) (by simpa only [toPy, PyData.shown] using ok.ln)
    | tup xs =>
      simp only [Rep] at rsn
      obtain ⟨a, _, e, _⟩ := rsn
      subst e; cases ru
      exact viaRef a rfl
    | lst xs =>
      simp only [Rep] at rsn
      obtain ⟨a, _, e, _⟩ := rsn
      subst e; cases ru
      exact viaRef a rfl
    | dic ks xs =>
      simp only [Rep] at rsn
      obtain ⟨a, _, e, _⟩ := rsn
      subst e; cases ru
      exact viaRef a rfl
    | ref a => exact absurd (show false = true from ok.st) Bool.false_ne_true
    | scr ns => exact absurd (show false = true from ok.st) Bool.false_ne_true
    | ty t => exact absurd (show false = true from ok.st) Bool.false_ne_true
  · exact h.elim
end
end DL

namespace DL
open PySem PySem.Spec PyProof.Rows L2

/-! ### in, is -/
def flatD : D → Bool
  | .non => true
  | .bl _ => true
  | .int _ => true
  | .str _ => true
  | _ => false
def inD (x : D) (xs : List D) : Bool := xs.any fun y => eqd y x
def rIn (neg : Bool) (x y : D) (M : MS) (Φ : DQ) : Prop := match seqA M y with
  | some xs => flatD x = true ∧ xs.all flatD = true ∧ Φ (.bl (if neg then !inD x xs else inD x xs)) M
  | none => match x, y with
    | .str a, .str b => Φ (.bl (if neg then !(!(Builtin.Str.occurrences b a 0 b.length 1).isEmpty) else !(Builtin.Str.occurrences b a 0 b.length 1).isEmpty)) M
    | _, _ => False
def isN : D → Bool
  | .non => true
  | _ => false
/-- is: None on the right, or two truth values -/
def rIs (neg : Bool) (x y : D) (M : MS) (Φ : DQ) : Prop := match y with
  | .non => Φ (.bl (if neg then !isN x else isN x)) M
  | .bl b => (match x with
    | .bl a => Φ (.bl (if neg then !(a == b) else (a == b))) M
    | _ => False)
  | _ => False
section
variable {K : PySem.W.Frag} {F : Addr → Prop} {H : Hp} {x : D} {v : V}
theorem flat_rep (h : flatD x = true) (r : Rep K F H x v) : flatV v = true := by
  cases x <;> first
    | exact absurd (show false = true from h) Bool.false_ne_true
    | (simp only [Rep] at r; subst r; rfl)
theorem eq_rep {y : D} {w : V} (h : flatD x = true) (h' : flatD y = true) (r : Rep K F H x v) (r' : Rep K F H y w) : eqV v w = eqd x y := by
  cases x <;> cases y <;> first
    | exact absurd (show false = true from h) Bool.false_ne_true
    | exact absurd (show false = true from h') Bool.false_ne_true
    | (simp only [Rep] at r r'; subst r r'; simp only [eqV, eqd])
theorem flats_rep : ∀ {xs : List D} {vs : List V}, xs.all flatD = true → Reps K F H xs vs → vs.all flatV = true
  | [], _, _, r => by simp only [Reps] at r; subst r; rfl
  | x :: xs, _, h, r => by
    simp only [List.all_cons, Bool.and_eq_true] at h
    simp only [Reps] at r
    obtain ⟨v, vr, e, h1, h2⟩ := r
    subst e
    simp only [List.all_cons, flat_rep h.1 h1, flats_rep h.2 h2, Bool.and_self]
theorem in_rep (hx : flatD x = true) (r : Rep K F H x v) : ∀ {xs : List D} {vs : List V}, xs.all flatD = true → Reps K F H xs vs → inV v vs = inD x xs
  | [], _, _, r' => by simp only [Reps] at r'; subst r'; rfl
  | y :: xs, _, h, r' => by
    simp only [List.all_cons, Bool.and_eq_true] at h
    simp only [Reps] at r'
    obtain ⟨w, vr, e, h1, h2⟩ := r'
    subst e
    have ih := in_rep hx r h.2 h2
    unfold inV inD at *
    simp only [List.any_cons, eq_rep h.1 hx h1 r, ih]
theorem isN_rep (r : Rep K F H x v) : decide (v = .non) = isN x := by
  cases x with
  | non => simp only [Rep] at r; subst r; rfl
  | bl b => simp only [Rep] at r; subst r; rfl
  | int b => simp only [Rep] at r; subst r; rfl
  | str b => simp only [Rep] at r; subst r; rfl
  | ref b => simp only [Rep] at r; subst r; rfl
  | ty b => simp only [Rep] at r; subst r; rfl
  | tup _ => simp only [Rep] at r; obtain ⟨a, _, e, _⟩ := r; subst e; rfl
  | lst _ => simp only [Rep] at r; obtain ⟨a, _, e, _⟩ := r; subst e; rfl
  | dic _ _ => simp only [Rep] at r; obtain ⟨a, _, e, _⟩ := r; subst e; rfl
  | scr _ => simp only [Rep] at r; obtain ⟨a, e, _⟩ := r; subst e; rfl
end
section
variable {X : Cx}
theorem o_in : OpR X (compareOp .In) (loR X.K (rIn false)) := by
  rintro pins s σ H vx vy v u Q I r1 r2 ⟨F, M, x, y, Φ, am, rx, ry, h, k⟩
  unfold rIn at h
  split at h
  · rename_i xs e
    obtain ⟨fx, fs, q⟩ := h
    obtain ⟨a, vs, e1, hq, p1⟩ := seqA_rep am ry e
    refine op_in_seq pins s σ H vx vy v u Q I r1 r2 ⟨a, vs, e1, hq, flat_rep fx rx, flats_rep fs p1, ?_⟩
    rw [in_rep fx rx fs p1]
    exact k _ _ (hB am q)
  · split at h
    · rename_i a b _
      exact op_in_str pins s σ H vx vy v u Q I r1 r2 ⟨a, b, rx, ry, k _ _ (hB am h)⟩
    · exact h.elim
theorem o_notin : OpR X (compareOp .NotIn) (loR X.K (rIn true)) := by
  rintro pins s σ H vx vy v u Q I r1 r2 ⟨F, M, x, y, Φ, am, rx, ry, h, k⟩
  unfold rIn at h
  split at h
  · rename_i xs e
    obtain ⟨fx, fs, q⟩ := h
    obtain ⟨a, vs, e1, hq, p1⟩ := seqA_rep am ry e
    refine op_notIn_seq pins s σ H vx vy v u Q I r1 r2 ⟨a, vs, e1, hq, flat_rep fx rx, flats_rep fs p1, ?_⟩
    rw [in_rep fx rx fs p1]
    exact k _ _ (hB am q)
  · split at h
    · rename_i a b _
      exact op_notin_str pins s σ H vx vy v u Q I r1 r2 ⟨a, b, rx, ry, k _ _ (hB am h)⟩
    · exact h.elim
theorem o_is : OpR X (compareOp .Is) (loR X.K (rIs false)) := by
  rintro pins s σ H vx vy v u Q I r1 r2 ⟨F, M, x, y, Φ, am, rx, ry, h, k⟩
  cases y with
  | non =>
    refine op_isN pins s σ H vx vy v u Q I r1 r2 ⟨ry, ?_⟩
    rw [isN_rep rx]
    exact k _ _ (hB am h)
  | bl b =>
    cases x with
    | bl a =>
      refine op_is_bl pins s σ H vx vy v u Q I r1 r2 ⟨a, b, rx, ry, ?_⟩
      rw [show decide (a = b) = (a == b) by cases a <;> cases b <;> rfl]
      exact k _ _ (hB am h)
    | _ => exact (show False from h).elim
  | _ => exact (show False from h).elim
theorem o_isnot : OpR X (compareOp .IsNot) (loR X.K (rIs true)) := by
  rintro pins s σ H vx vy v u Q I r1 r2 ⟨F, M, x, y, Φ, am, rx, ry, h, k⟩
  cases y with
  | non =>
    refine op_notN pins s σ H vx vy v u Q I r1 r2 ⟨ry, ?_⟩
    rw [isN_rep rx]
    exact k _ _ (hB am h)
  | bl b =>
    cases x with
    | bl a =>
      refine op_isnot_bl pins s σ H vx vy v u Q I r1 r2 ⟨a, b, rx, ry, ?_⟩
      rw [show decide (a = b) = (a == b) by cases a <;> cases b <;> rfl]
      exact k _ _ (hB am h)
    | _ => exact (show False from h).elim
  | _ => exact (show False from h).elim
end

/-! ### isinstance -/
def tyD (M : MS) : D → Option Ty
  | .non => some .none
  | .bl _ => some .bool
  | .int _ => some .int
  | .str _ => some .str
  | .tup _ => some .tuple
  | .lst _ => some .list
  | .dic _ _ => some .dict
  | .scr _ => some .list
  | .ref a => match M.map a with
    | some (.lst _) => some .list
    | _ => none
  | .ty _ => none
def isaT : Ty → Ty → Bool
  | .bool, .int => true
  | a, b => decide (a = b)
theorem kit_isa : ∀ (a b : Ty), b ≠ .none → kitB a.name b.name = some (isaT a b) := by
  intro a b h
  cases b <;> first
    | exact absurd rfl h
    | (cases a <;> decide +kernel)
section
variable {X : Cx} {H : Hp} {F : Addr → Prop} {M : MS}
theorem ty_rep {K : PySem.W.Frag} {x : D} {v : V} {t : Ty} (am : AbsM K F H M) (r : Rep K F H x v) (h : tyD M x = some t) : TyX K H v (.type t.name) := by
  cases x with
  | non => simp only [Rep] at r; simp only [tyD, Option.some.injEq] at h; subst r h; exact .base .non
  | bl b => simp only [Rep] at r; simp only [tyD, Option.some.injEq] at h; subst r h; exact .base (.bl b)
  | int b => simp only [Rep] at r; simp only [tyD, Option.some.injEq] at h; subst r h; exact .base (.int b)
  | str b => simp only [Rep] at r; simp only [tyD, Option.some.injEq] at h; subst r h; exact .base (.str b)
  | ty b => simp [tyD] at h
  | tup _ =>
    simp only [Rep] at r; simp only [tyD, Option.some.injEq] at h; subst h
    obtain ⟨a, _, e, hq, _⟩ := r
    subst e
    rcases hq with (hq | ⟨o, hq⟩) | ⟨o, its, n, hk, hc, _⟩
    · exact .base (.tup hq)
    · exact .fTuple hq
    · exact .kTuple hk hc
  | lst _ =>
    simp only [Rep] at r; simp only [tyD, Option.some.injEq] at h; subst h
    obtain ⟨a, _, e, _, hq, _⟩ := r
    subst e
    exact .base (.lst hq)
  | dic _ _ =>
    simp only [Rep] at r; simp only [tyD, Option.some.injEq] at h; subst h
    obtain ⟨a, _, e, _, hq, _⟩ := r
    subst e
    exact .base (.dK hq)
  | scr _ =>
    simp only [Rep] at r; simp only [tyD, Option.some.injEq] at h; subst h
    obtain ⟨a, e, hq⟩ := r
    subst e
    rcases hq.sq with (hq | ⟨o, hq⟩) | ⟨o, its, n, hk, hc, _⟩
    · exact .base (.lst hq)
    · exact .base (.frz hq)
    · exact .kList hk hc
  | ref a =>
    simp only [tyD] at h
    split at h
    · rename_i ds e
      cases h
      simp only [Rep] at r
      subst r
      obtain ⟨_, vs, h1, _⟩ := am.mp a _ e
      exact .base (.lst h1)
    · cases h
def tysOf : List D → Option (List Ty)
  | [] => some []
  | .ty t :: r => (tysOf r).map (t :: ·)
  | _ => none
def rIsi (args : List D) (M : MS) (Φ : DQ) : Prop := match args with
  | [x, .ty c] => (match tyD M x with
    | some t => c ≠ .none ∧ Φ (.bl (isaT t c)) M
    | none => False)
  | [x, .tup cs] => (match tyD M x, tysOf cs with
    | some t, some ts => (∀ c ∈ ts, c ≠ .none) ∧ Φ (.bl (ts.any (isaT t))) M
    | _, _ => False)
  | _ => False
theorem tys_rep {K : PySem.W.Frag} : ∀ {cs : List D} {vs : List V} {ts : List Ty}, Reps K F H cs vs → tysOf cs = some ts → Paired ClsV vs (ts.map fun t => Value.type t.name)
  | [], _, _, r, h => by
    simp only [Reps] at r; simp only [tysOf, Option.some.injEq] at h
    subst r h
    exact .nil
  | c :: cs, _, ts, r, h => by
    cases c with
    | ty t =>
      simp only [tysOf, Option.map_eq_some_iff] at h
      obtain ⟨us, h1, h2⟩ := h
      subst h2
      simp only [Reps, Rep] at r
      obtain ⟨v, vr, e, rfl, h3⟩ := r
      subst e
      exact .cons (.ty _) (tys_rep h3 h1)
    | _ => simp [tysOf] at h
theorem kit_any {K : PySem.W.Frag} {t : Ty} : ∀ {ts : List Ty}, (∀ c ∈ ts, c ≠ .none) → PySem.W.kitAny K (.type t.name) (ts.map fun t => Value.type t.name) = some (ts.any (isaT t))
  | [], _ => kitAny_nil
  | c :: cs, h => by
    have ih := kit_any (K := K) (t := t) (ts := cs) fun c hc => h c (List.mem_cons_of_mem _ hc)
    refine kitAny_cons (b := isaT t c) (kit_ty (kit_isa t c (h c (List.mem_cons_self ..)))) (fun z => ?_) (fun z => ?_)
    · rw [ih]; simp [z]
    · simp [z]
theorem c_isi : CallR X (.builtin "isinstance") (loC X.K rIsi) := by
  rintro pins s σ H vs us Q I r ⟨F, M, ds, Φ, am, rs, h, k⟩
  unfold rIsi at h
  split at h
  · rename_i x c
    simp only [Reps, Rep] at rs
    obtain ⟨v, _, e, rx, w, _, rfl, rfl, rfl⟩ := rs
    subst e
    split at h
    · rename_i t et
      exact call_isi pins s σ H _ us Q I r ⟨v, _, _, _, _, rfl, .ty _, ty_rep am rx et, kit_ty (kit_isa t c h.1), k _ _ (hB am h.2)⟩
    · exact h.elim
  · rename_i x cs
    simp only [Reps] at rs
    obtain ⟨v, _, e, rx, w, _, rfl, rc, rfl⟩ := rs
    subst e
    obtain ⟨tp, ws, rfl, hq, rw⟩ := rep_tup rc
    split at h
    · rename_i t ts et ets
      have hc := tys_rep rw ets
      have ka := kit_any (K := X.K) (t := t) h.1
      obtain ⟨u1, u2, rfl, r1, r2⟩ := vals2 r
      cases r2
      obtain ⟨its, rv, ⟨⟨oc, od, dt, sl⟩, ho, hcl, n, hd⟩, _⟩ := I.tuple hq
      have e2 := ClsV.all hc rv
      subst e2
      simp only at hcl hd
      subst hcl hd
      obtain ⟨P, Z, p, hx⟩ := kit_of I r1 (ty_rep am rx et)
      exact PySem.W.kia_tup Z I.kIn p ho ka hx fun tk => ⟨.bl _, H, I.tok tk, rfl, k _ _ (hB am h.2)⟩
    · exact h.elim
  · exact h.elim
end

/-! ### len, int, abs, bool, str of numbers -/
def rLen (args : List D) (M : MS) (Φ : DQ) : Prop := match args with
  | [.str z] => z.length ≤ 1000000 ∧ Φ (.int z.length) M
  | [x] => (match seqA M x with
    | some xs => Φ (.int xs.length) M
    | none => False)
  | _ => False
def b2 : Bool → Int
  | true => 1
  | false => 0
def rInt (args : List D) (M : MS) (Φ : DQ) : Prop := match args with
  | [.int i] => Φ (.int i) M
  | [.bl b] => Φ (.int (b2 b)) M
  | _ => False
def rAbs (args : List D) (M : MS) (Φ : DQ) : Prop := match args with
  | [.int i] => Φ (.int (if i < 0 then -i else i)) M
  | _ => False
def rStr (args : List D) (M : MS) (Φ : DQ) : Prop := match args with
  | [.int i] => i.natAbs.log2 < 1920 ∧ Φ (.str (toString i)) M
  | _ => False
section
variable {X : Cx}
theorem sz6 {n : Nat} (h : n ≤ 1000000) : n ≤ sizeLine := Nat.le_trans h (by decide)
theorem c_len : CallR X (.builtin "len") (loC X.K rLen) := by
  rintro pins s σ H vs us Q I r ⟨F, M, ds, Φ, am, rs, h, k⟩
  unfold rLen at h
  split at h
  · rename_i z
    simp only [Reps, Rep] at rs
    obtain ⟨v, _, e, rfl, rfl⟩ := rs
    subst e
    exact call_len_str pins s σ H _ us Q I r ⟨z, rfl, sz6 h.1, k _ _ (hI am h.2)⟩
  · rename_i x _
    simp only [Reps] at rs
    obtain ⟨v, _, e, rx, rfl⟩ := rs
    subst e
    split at h
    · rename_i xs ex
      obtain ⟨a, ws, rfl, hq, p⟩ := seqA_rep am rx ex
      refine call_len_seq pins s σ H _ us Q I r ⟨a, ws, rfl, hq, ?_⟩
      rw [← p.length]
      exact k _ _ (hI am h)
    · exact h.elim
  · exact h.elim
theorem c_int : CallR X (.type "int") (loC X.K rInt) := by
  rintro pins s σ H vs us Q I r ⟨F, M, ds, Φ, am, rs, h, k⟩
  unfold rInt at h
  split at h
  · simp only [Reps, Rep] at rs
    obtain ⟨v, _, e, rfl, rfl⟩ := rs
    subst e
    exact call_int1 pins s σ H _ us Q I r (.inl ⟨_, rfl, k _ _ (hI am h)⟩)
  · rename_i b
    simp only [Reps, Rep] at rs
    obtain ⟨v, _, e, rfl, rfl⟩ := rs
    subst e
    refine call_int1 pins s σ H _ us Q I r (.inr ⟨b, rfl, ?_⟩)
    have e : (if b = true then (1 : Int) else 0) = b2 b := by cases b <;> rfl
    rw [e]
    exact k _ _ (hI am h)
  · exact h.elim
theorem c_abs : CallR X (.builtin "abs") (loC X.K rAbs) := by
  rintro pins s σ H vs us Q I r ⟨F, M, ds, Φ, am, rs, h, k⟩
  unfold rAbs at h
  split at h
  · simp only [Reps, Rep] at rs
    obtain ⟨v, _, e, rfl, rfl⟩ := rs
    subst e
    exact call_abs pins s σ H _ us Q I r ⟨_, rfl, k _ _ (hI am h)⟩
  · exact h.elim
theorem c_str : CallR X (.type "str") (loC X.K rStr) := by
  rintro pins s σ H vs us Q I r ⟨F, M, ds, Φ, am, rs, h, k⟩
  unfold rStr at h
  split at h
  · simp only [Reps, Rep] at rs
    obtain ⟨v, _, e, rfl, rfl⟩ := rs
    subst e
    exact call_str_int pins s σ H _ us Q I r ⟨_, rfl, h.1, k _ _ (hS am h.2)⟩
  · exact h.elim
end

/-! ### tuple(..), list(..) -/
def rTuple (args : List D) (M : MS) (Φ : DQ) : Prop := match args with
  | [x] => (match seqA M x with
    | some xs => Φ (.tup xs) M
    | none => False)
  | _ => False
def rList (args : List D) (M : MS) (Φ : DQ) : Prop := match args with
  | [x] => (match seqA M x with
    | some xs => Φ (.lst xs) M
    | none => False)
  | _ => False
def rListM (args : List D) (M : MS) (Φ : DQ) : Prop := match args with
  | [x] => (match seqA M x with
    | some xs => ∀ p, M.map p = none → Φ (.ref p) (M.put p (.lst xs))
    | none => False)
  | _ => False
section
variable {X : Cx}
theorem c_tuple : CallR X (.type "tuple") (loC X.K rTuple) := by
  rintro pins s σ H vs us Q I r ⟨F, M, ds, Φ, am, rs, h, k⟩
  unfold rTuple at h
  split at h
  · rename_i x
    simp only [Reps] at rs
    obtain ⟨v, _, e, rx, rfl⟩ := rs
    subst e
    split at h
    · rename_i xs ex
      obtain ⟨a, ws, rfl, hq, p⟩ := seqA_rep am rx ex
      refine call_tuple_of pins s σ H _ us Q I r ⟨a, ws, rfl, ?_⟩
      rcases hq with hq | hq
      · exact .inl ⟨hq, fun l hl => k _ _ (new_tup am p h hl)⟩
      · refine .inr ⟨hq, k _ _ (loQ.here am ?_ h)⟩
        simp only [Rep]
        exact ⟨a, ws, rfl, hq, p⟩
    · exact h.elim
  · exact h.elim
theorem c_list : CallR X (.type "list") (loC X.K rList) := by
  rintro pins s σ H vs us Q I r ⟨F, M, ds, Φ, am, rs, h, k⟩
  unfold rList at h
  split at h
  · rename_i x
    simp only [Reps] at rs
    obtain ⟨v, _, e, rx, rfl⟩ := rs
    subst e
    split at h
    · rename_i xs ex
      obtain ⟨a, ws, rfl, hq, p⟩ := seqA_rep am rx ex
      exact call_list_of pins s σ H _ us Q I r ⟨a, ws, rfl, hq, fun l hl => k _ _ (new_lst am p h hl)⟩
    · exact h.elim
  · exact h.elim
theorem c_listM : CallR X (.type "list") (loC X.K rListM) := by
  rintro pins s σ H vs us Q I r ⟨F, M, ds, Φ, am, rs, h, k⟩
  unfold rListM at h
  split at h
  · rename_i x
    simp only [Reps] at rs
    obtain ⟨v, _, e, rx, rfl⟩ := rs
    subst e
    split at h
    · rename_i xs ex
      obtain ⟨a, ws, rfl, hq, p⟩ := seqA_rep am rx ex
      exact call_list_of pins s σ H _ us Q I r ⟨a, ws, rfl, hq, fun l hl => k _ _ (new_lstM am p h hl)⟩
    · exact h.elim
  · exact h.elim
end

/-! ### sum, all, any, max, min -/
def asInts : List D → Option (List Int)
  | [] => some []
  | .int i :: r => (asInts r).map (i :: ·)
  | _ => none
def asBls : List D → Option (List Bool)
  | [] => some []
  | .bl i :: r => (asBls r).map (i :: ·)
  | _ => none
theorem asInts_eq : ∀ {xs : List D} {ns : List Int}, asInts xs = some ns → xs = ns.map D.int
  | [], ns, h => by simp only [asInts, Option.some.injEq] at h; subst h; rfl
  | x :: xs, ns, h => by
    cases x with
    | int i =>
      simp only [asInts, Option.map_eq_some_iff] at h
      obtain ⟨ms, h1, h2⟩ := h
      subst h2
      rw [asInts_eq h1]; rfl
    | _ => simp [asInts] at h
theorem asInts_map : ∀ ns : List Int, asInts (ns.map D.int) = some ns
  | [] => rfl
  | n :: ns => by simp only [List.map_cons, asInts, asInts_map ns, Option.map_some]
theorem asBls_eq : ∀ {xs : List D} {ns : List Bool}, asBls xs = some ns → xs = ns.map D.bl
  | [], ns, h => by simp only [asBls, Option.some.injEq] at h; subst h; rfl
  | x :: xs, ns, h => by
    cases x with
    | bl i =>
      simp only [asBls, Option.map_eq_some_iff] at h
      obtain ⟨ms, h1, h2⟩ := h
      subst h2
      rw [asBls_eq h1]; rfl
    | _ => simp [asBls] at h
theorem asBls_map : ∀ ns : List Bool, asBls (ns.map D.bl) = some ns
  | [] => rfl
  | n :: ns => by simp only [List.map_cons, asBls, asBls_map ns, Option.map_some]
theorem reps_bls {K : PySem.W.Frag} {F : Addr → Prop} {H : Hp} : ∀ {ns : List Bool} {vs : List V}, Reps K F H (ns.map D.bl) vs → vs = ns.map V.bl
  | [], vs, h => by simpa [Reps] using h
  | n :: ns, vs, h => by
    simp only [List.map_cons, Reps, Rep] at h
    obtain ⟨v, r, e, rfl, h2⟩ := h
    rw [e, reps_bls h2]
    rfl
def mxI : List Int → Int
  | [] => 0
  | x :: r => r.foldl max x
def mnI : List Int → Int
  | [] => 0
  | x :: r => r.foldl min x
def rSum (args : List D) (M : MS) (Φ : DQ) : Prop := match args with
  | [x] => (match (seqA M x).bind asInts with
    | some ns => Φ (.int ns.sum) M
    | none => False)
  | _ => False
def rAll (args : List D) (M : MS) (Φ : DQ) : Prop := match args with
  | [x] => (match (seqL M x).bind asBls with
    | some bs => Φ (.bl (bs.all id)) M
    | none => False)
  | _ => False
def rAny (args : List D) (M : MS) (Φ : DQ) : Prop := match args with
  | [x] => (match (seqL M x).bind asBls with
    | some bs => Φ (.bl (bs.any id)) M
    | none => False)
  | _ => False
def rMax (args : List D) (M : MS) (Φ : DQ) : Prop := match args with
  | [.int i, .int j] => Φ (.int (max i j)) M
  | [x] => (match (seqL M x).bind asInts with
    | some ns => 0 < ns.length ∧ Φ (.int (mxI ns)) M
    | none => False)
  | _ => False
def rMin (args : List D) (M : MS) (Φ : DQ) : Prop := match args with
  | [.int i, .int j] => Φ (.int (min i j)) M
  | [x] => (match (seqL M x).bind asInts with
    | some ns => 0 < ns.length ∧ Φ (.int (mnI ns)) M
    | none => False)
  | _ => False
theorem foldl_max : ∀ (r : List Int) (x : Int), (r.foldl max x = x ∨ r.foldl max x ∈ r) ∧ x ≤ r.foldl max x ∧ ∀ y ∈ r, y ≤ r.foldl max x
  | [], x => ⟨.inl rfl, Int.le_refl _, by simp⟩
  | z :: r, x => by
    obtain ⟨h1, h2, h3⟩ := foldl_max r (max x z)
    simp only [List.foldl_cons]
    refine ⟨?_, by omega, fun y hy => ?_⟩
    · rcases h1 with h | h
      · rw [h]
        by_cases hxz : z ≤ x
        · left; omega
        · right; rw [show max x z = z by omega]; exact List.mem_cons_self ..
      · exact .inr (List.mem_cons_of_mem _ h)
    · rcases List.mem_cons.mp hy with rfl | hy
      · omega
      · exact h3 y hy
theorem foldl_min : ∀ (r : List Int) (x : Int), (r.foldl min x = x ∨ r.foldl min x ∈ r) ∧ r.foldl min x ≤ x ∧ ∀ y ∈ r, r.foldl min x ≤ y
  | [], x => ⟨.inl rfl, Int.le_refl _, by simp⟩
  | z :: r, x => by
    obtain ⟨h1, h2, h3⟩ := foldl_min r (min x z)
    simp only [List.foldl_cons]
    refine ⟨?_, by omega, fun y hy => ?_⟩
    · rcases h1 with h | h
      · rw [h]
        by_cases hxz : x ≤ z
        · left; omega
        · right; rw [show min x z = z by omega]; exact List.mem_cons_self ..
      · exact .inr (List.mem_cons_of_mem _ h)
    · rcases List.mem_cons.mp hy with rfl | hy
      · omega
      · exact h3 y hy
theorem mxI_mem {ns : List Int} (h : 0 < ns.length) : mxI ns ∈ ns ∧ ∀ y ∈ ns, y ≤ mxI ns := by
  cases ns with
  | nil => simp at h
  | cons x r =>
    obtain ⟨h1, h2, h3⟩ := foldl_max r x
    refine ⟨?_, fun y hy => ?_⟩
    · rcases h1 with e | e
      · show r.foldl max x ∈ _; rw [e]; exact List.mem_cons_self ..
      · exact List.mem_cons_of_mem _ e
    · rcases List.mem_cons.mp hy with rfl | hy
      · exact h2
      · exact h3 y hy
theorem mnI_mem {ns : List Int} (h : 0 < ns.length) : mnI ns ∈ ns ∧ ∀ y ∈ ns, mnI ns ≤ y := by
  cases ns with
  | nil => simp at h
  | cons x r =>
    obtain ⟨h1, h2, h3⟩ := foldl_min r x
    refine ⟨?_, fun y hy => ?_⟩
    · rcases h1 with e | e
      · show r.foldl min x ∈ _; rw [e]; exact List.mem_cons_self ..
      · exact List.mem_cons_of_mem _ e
    · rcases List.mem_cons.mp hy with rfl | hy
      · exact h2
      · exact h3 y hy
section
variable {K : PySem.W.Frag} {F : Addr → Prop} {H : Hp} {M : MS} {x : D} {v : V}
theorem ints_rep (am : AbsM K F H M) (r : Rep K F H x v) {ns : List Int} (h : (seqL M x).bind asInts = some ns) : ∃ a, v = .ref a ∧ H a = some (.lst (ns.map V.int)) := by
  obtain ⟨xs, h1, h2⟩ := Option.bind_eq_some_iff.mp h
  obtain ⟨a, vs, e, hq, p⟩ := seqL_rep am r h1
  rw [asInts_eq h2] at p
  rw [reps_ints p] at hq
  exact ⟨a, e, hq⟩
theorem bls_rep (am : AbsM K F H M) (r : Rep K F H x v) {ns : List Bool} (h : (seqL M x).bind asBls = some ns) : ∃ a, v = .ref a ∧ H a = some (.lst (ns.map V.bl)) := by
  obtain ⟨xs, h1, h2⟩ := Option.bind_eq_some_iff.mp h
  obtain ⟨a, vs, e, hq, p⟩ := seqL_rep am r h1
  rw [asBls_eq h2] at p
  rw [reps_bls p] at hq
  exact ⟨a, e, hq⟩
end
section
variable {X : Cx}
theorem c_all (hc : X.calm = true) : CallR X (.builtin "all") (loC X.K rAll) := by
  rintro pins s σ H vs us Q I r ⟨F, M, ds, Φ, am, rs, h, k⟩
  unfold rAll at h
  split at h
  · simp only [Reps] at rs
    obtain ⟨v, _, e, rx, rfl⟩ := rs
    subst e
    split at h
    · rename_i bs ex
      obtain ⟨a, rfl, hq⟩ := bls_rep am rx ex
      exact cr_all hc pins s σ H _ us Q I r ⟨a, bs, rfl, SqL.of hq, k _ _ (hB am h)⟩
    · exact h.elim
  · exact h.elim
theorem c_any (hc : X.calm = true) : CallR X (.builtin "any") (loC X.K rAny) := by
  rintro pins s σ H vs us Q I r ⟨F, M, ds, Φ, am, rs, h, k⟩
  unfold rAny at h
  split at h
  · simp only [Reps] at rs
    obtain ⟨v, _, e, rx, rfl⟩ := rs
    subst e
    split at h
    · rename_i bs ex
      obtain ⟨a, rfl, hq⟩ := bls_rep am rx ex
      exact cr_any hc pins s σ H _ us Q I r ⟨a, bs, rfl, SqL.of hq, k _ _ (hB am h)⟩
    · exact h.elim
  · exact h.elim
theorem c_max (hc : X.calm = true) : CallR X (.builtin "max") (loC X.K rMax) := by
  rintro pins s σ H vs us Q I r ⟨F, M, ds, Φ, am, rs, h, k⟩
  unfold rMax at h
  split at h
  · rename_i i j
    simp only [Reps, Rep] at rs
    obtain ⟨_, _, e, rfl, _, _, rfl, rfl, rfl⟩ := rs
    subst e
    refine call_max2 hc pins s σ H _ us Q I r ⟨i, j, rfl, ?_⟩
    rw [show (if j > i then j else i) = max i j by split <;> omega]
    exact k _ _ (hI am h)
  · simp only [Reps] at rs
    obtain ⟨v, _, e, rx, rfl⟩ := rs
    subst e
    split at h
    · rename_i ns ex
      obtain ⟨a, rfl, hq⟩ := ints_rep am rx ex
      refine cr_max hc pins s σ H _ us Q I r ⟨a, ns, rfl, SqL.of hq, h.1, fun m hm hle => ?_⟩
      obtain ⟨h1, h2⟩ := mxI_mem h.1
      have e : m = mxI ns := Int.le_antisymm (h2 m hm) (hle _ h1)
      rw [e]
      exact k _ _ (hI am h.2)
    · exact h.elim
  · exact h.elim
theorem c_min (hc : X.calm = true) : CallR X (.builtin "min") (loC X.K rMin) := by
  rintro pins s σ H vs us Q I r ⟨F, M, ds, Φ, am, rs, h, k⟩
  unfold rMin at h
  split at h
  · rename_i i j
    simp only [Reps, Rep] at rs
    obtain ⟨_, _, e, rfl, _, _, rfl, rfl, rfl⟩ := rs
    subst e
    refine call_min2 hc pins s σ H _ us Q I r ⟨i, j, rfl, ?_⟩
    rw [show (if j < i then j else i) = min i j by split <;> omega]
    exact k _ _ (hI am h)
  · simp only [Reps] at rs
    obtain ⟨v, _, e, rx, rfl⟩ := rs
    subst e
    split at h
    · rename_i ns ex
      obtain ⟨a, rfl, hq⟩ := ints_rep am rx ex
      refine cr_min hc pins s σ H _ us Q I r ⟨a, ns, rfl, SqL.of hq, h.1, fun m hm hle => ?_⟩
      obtain ⟨h1, h2⟩ := mnI_mem h.1
      have e : m = mnI ns := Int.le_antisymm (hle _ h1) (h2 m hm)
      rw [e]
      exact k _ _ (hI am h.2)
    · exact h.elim
  · exact h.elim
end
end DL

namespace DL
open PySem PySem.Spec PyProof.Rows L2

/-! ### x[i], x[lo:hi] -/
def rIx (x y : D) (M : MS) (Φ : DQ) : Prop := match y with
  | .int i => (match seqA M x with
    | some xs => (match atI xs i with
      | some d => Φ d M
      | none => False)
    | none => (match x with
      | .str z => (match atI z.cps.toList i with
        | some c => z.length ≤ 100000 ∧ Φ (.str ⟨#[c]⟩) M
        | none => False)
      | _ => False))
  | _ => False
theorem atI_rep {K : PySem.W.Frag} {F : Addr → Prop} {H : Hp} {xs : List D} {vs : List V} {i : Int} {d : D} (r : Reps K F H xs vs) (h : atI xs i = some d) : ∃ v, atI vs i = some v ∧ Rep K F H d v := by
  unfold atI at *
  obtain ⟨j, h1, h2⟩ := Option.bind_eq_some_iff.mp h
  obtain ⟨v, h3, h4⟩ := r.get h2
  exact ⟨v, by rw [← r.length, h1]; exact h3, h4⟩
section
variable {X : Cx}
theorem x_ix : IxR X (loR X.K rIx) := by
  rintro value slice pins s σ H vx vy v u Q I r1 r2 ⟨F, M, x, y, Φ, am, rx, ry, h, k⟩ hs
  unfold rIx at h
  split at h
  · rename_i i
    split at h
    · rename_i xs ex
      obtain ⟨a, vs, rfl, hq, p⟩ := seqA_rep am rx ex
      split at h
      · rename_i d ed
        obtain ⟨w, e1, rw⟩ := atI_rep p ed
        rcases hq with hq | hq
        · exact ix_list value slice pins s σ H _ vy v u Q I r1 r2 ⟨a, vs, i, w, rfl, ry, hq, e1, k _ _ (loQ.here am rw h)⟩ hs
        · exact ix_tup value slice pins s σ H _ vy v u Q I r1 r2 ⟨a, vs, i, w, rfl, ry, hq, e1, k _ _ (loQ.here am rw h)⟩ hs
      · exact h.elim
    · split at h
      · rename_i z _
        split at h
        · rename_i c ec
          exact ix_str value slice pins s σ H _ vy v u Q I r1 r2 ⟨z, i, c, rx, ry, sz5 h.1, ec, k _ _ (hS am h.2)⟩ hs
        · exact h.elim
      · exact h.elim
  · exact h.elim
theorem q_ix {a b : Expr} {ta tb : DE} {pos : Pos} (ha : PE X a (lo X.K ta)) (hb : PE X b (lo X.K tb)) (hs : PlainIx b) : PE X (.Subscript a b pos) (lo X.K (dOp rIx ta tb)) :=
  PE.imp (pe_ix x_ix ha hb hs) fun σ H Q h => by
    obtain ⟨F, M, ρ, Φ, A, h, k⟩ := h
    exact ⟨F, M, ρ, _, A, h, fun vx H1 ⟨F1, M1, x, l1, a1, r1, h1⟩ => ⟨F1, M1, ρ, _, ⟨a1, A.env.mono l1.le⟩, h1, fun vy H2 ⟨F2, M2, y, l2, a2, r2, h2⟩ =>
      ⟨F2, M2, x, y, Φ, a2, r1.mono l2.le, r2, h2, fun v H' q => k v H' ((q.le l2).le l1)⟩⟩⟩
end
def cutD (xs : List D) (lo hi : Option Int) : List D := (xs.drop (HT.sIx xs.length 0 lo)).take (HT.sIx xs.length xs.length hi - HT.sIx xs.length 0 lo)
abbrev DO := DEnv → MS → (Option Int → MS → Prop) → Prop
def dNoPart : DO := fun _ M Φ => Φ none M
def dPart (t : DE) : DO := fun ρ M Φ => t ρ M fun x M1 => match x with
  | .int i => Φ (some i) M1
  | _ => False
def loO (K : PySem.W.Frag) (t : DO) : TO := fun σ H Q => ∃ F M ρ Φ, Abs K F H M σ ρ ∧ t ρ M Φ ∧ ∀ b H' F' M', Lm K F H M F' H' M' → AbsM K F' H' M' → Φ b M' → Q b H'
def rSl (x : D) (lo hi : Option Int) (M : MS) (Φ : DQ) : Prop := match x with
  | .tup xs => Φ (.tup (cutD xs lo hi)) M
  | .scr ns => Φ (.lst (cutD (ns.map D.int) lo hi)) M
  | x => (match seqL M x with
    | some xs => Φ (.lst (cutD xs lo hi)) M
    | none => False)
def dSl (t : DE) (l h : DO) : DE := fun ρ M Φ => t ρ M fun x M1 => l ρ M1 fun a M2 => h ρ M2 fun b M3 => rSl x a b M3 Φ
theorem PO.imp {X : Cx} {e : Option Expr} {t t' : TO} (h : PO X e t) (hi : ∀ σ H Q, t' σ H Q → t σ H Q) : PO X e t' := ⟨fun pins s σ H Q I q => h.run pins s σ H Q I (hi _ _ _ q)⟩
theorem cut_rep {K : PySem.W.Frag} {F : Addr → Prop} {H : Hp} {xs : List D} {vs : List V} (r : Reps K F H xs vs) (l h : Option Int) : Reps K F H (cutD xs l h) (cutV vs l h) := by
  unfold cutD cutV
  rw [r.length]
  exact (r.drop _).take _
section
variable {X : Cx}
theorem q_nopart : PO X none (loO X.K dNoPart) :=
  PO.imp po_none fun σ H Q h => by
    obtain ⟨F, M, ρ, Φ, A, h, k⟩ := h
    exact k none H F M Lm.refl A.am h
theorem q_part {e : Expr} {t : DE} (he : PE X e (lo X.K t)) : PO X (some e) (loO X.K (dPart t)) :=
  PO.imp (po_some he) fun σ H Q h => by
    obtain ⟨F, M, ρ, Φ, A, h, k⟩ := h
    refine ⟨F, M, ρ, _, A, h, fun v H1 ⟨F1, M1, x, l1, a1, r1, h1⟩ => ?_⟩
    cases x with
    | int i => exact ⟨i, r1, k _ _ _ _ l1 a1 h1⟩
    | _ => exact h1.elim
theorem x_sl : SlR X (fun vx lo' hi Hh Q => ∃ F M x Φ, AbsM X.K F Hh M ∧ Rep X.K F Hh x vx ∧ rSl x lo' hi M Φ ∧ ∀ v H', loQ X.K F Hh M Φ v H' → Q v H') := by
  rintro pins s σ H vx v vl vu lo hi sl Q I rv hs pl pu ⟨F, M, x, Φ, am, rx, h, k⟩
  have lists : ∀ {xs : List D}, seqL M x = some xs → Φ (.lst (cutD xs lo hi)) M → ∃ T id, typeLookup (.type T) "__getitem__" = pure (some (.builtin id)) ∧ s.TypeIs v T ∧ wpAny (model X.prog X.w) X.A (getItem v (.ref sl)) (EP X pins σ Q) X.xe s := by
    intro xs ex q
    obtain ⟨a, vs, rfl, hq, p⟩ := seqL_rep am rx ex
    exact sl_list pins s σ H _ v vl vu lo hi sl Q I rv hs pl pu ⟨a, vs, rfl, SqL.of hq, fun p' hp => k _ _ (new_lst am (cut_rep p lo hi) q hp)⟩
  cases x with
  | tup xs =>
    obtain ⟨a, vs, rfl, hq, p⟩ := rep_tup rx
    refine sl_tupA pins s σ H _ v vl vu lo hi sl Q I rv hs pl pu ⟨a, vs, rfl, hq, fun w => ?_, fun _ p' hp => k _ _ (new_tup am (cut_rep p lo hi) h hp)⟩
    refine k _ _ (loQ.here am rx ?_)
    have hh : Φ (.tup (cutD xs lo hi)) M := h
    have e : cutD xs lo hi = xs := by
      unfold cutD
      rw [p.length, w.1, w.2, Nat.sub_zero, List.drop_zero, ← p.length, List.take_length]
    rw [e] at hh
    exact hh
  | scr ns =>
    simp only [Rep] at rx
    obtain ⟨a, rfl, hq⟩ := rx
    exact sl_list pins s σ H _ v vl vu lo hi sl Q I rv hs pl pu ⟨a, _, rfl, hq.sq, fun p' hp => k _ _ (new_lst am (cut_rep (Reps.ints ns) lo hi) h hp)⟩
  | _ =>
    simp only [rSl] at h
    split at h
    · rename_i xs ex
      exact lists ex h
    · exact h.elim
theorem q_sl {e : Expr} {l hi : Option Expr} {te : DE} {tl th : DO} {pos p2 : Pos} (he : PE X e (lo X.K te)) (hl : PO X l (loO X.K tl)) (hh : PO X hi (loO X.K th)) : PE X (.Subscript e (.Slice l hi none p2) pos) (lo X.K (dSl te tl th)) :=
  PE.imp (pe_slice x_sl he hl hh) fun σ H Q h => by
    obtain ⟨F, M, ρ, Φ, A, h, k⟩ := h
    exact ⟨F, M, ρ, _, A, h, fun vx H1 ⟨F1, M1, x, l1, a1, r1, h1⟩ => ⟨F1, M1, ρ, _, ⟨a1, A.env.mono l1.le⟩, h1, fun a H2 F2 M2 l2 a2 h2 =>
      ⟨F2, M2, ρ, _, ⟨a2, A.env.mono (l1.trans l2).le⟩, h2, fun b H3 F3 M3 l3 a3 h3 => ⟨F3, M3, x, Φ, a3, r1.mono (l2.trans l3).le, h3, fun v H' q => k v H' (((q.le l3).le l2).le l1)⟩⟩⟩⟩
end

/-! ### calls of built-ins -/
section
variable {X : Cx} {x : Str} {p pos : Pos} {e : Expr} {es : List Expr} {ta : DAs} {id T : String} {R : List D → MS → DQ → Prop}
theorem lo_fn (h : PE X e (tCB (loC X.K R) (loA X.K ta))) : PE X e (lo X.K (dFn R ta)) :=
  PE.imp h fun σ H Q h => by
    obtain ⟨F, M, ρ, Φ, A, h, k⟩ := h
    exact ⟨F, M, ρ, _, A, h, fun vs H1 F1 M1 ds l1 a1 r1 h1 => ⟨F1, M1, ds, Φ, a1, r1, h1, fun v H' q => k v H' (q.le l1)⟩⟩
theorem q_callB (hc : CallR X (.builtin id) (loC X.K R)) (hg : Gl X x) (hm : X.mg x = none) (hv : bootBuiltins x = some (.builtin id)) (ha : PA X (e :: es) (loA X.K ta)) (hn : x ≠ "__name__") (hdb : (x == ("__debug__" : Str)) = false)
    (he : starEach (e :: es) X.env = (false, eval e X.env) :: starEach es X.env) (hpl : (backTo pos (starEach es X.env)).any (·.1) = false) : PE X (.Call (.Name x p) (e :: es) [] pos) (lo X.K (dFn R ta)) :=
  lo_fn (pe_callB hc hg hm hv ha hn hdb he hpl)
theorem q_callT (hc : CallR X (.type T) (loC X.K R)) (hg : Gl X x) (hm : X.mg x = none) (hv : bootBuiltins x = some (.type T)) (ha : PA X (e :: es) (loA X.K ta)) (hn : x ≠ "__name__") (hdb : (x == ("__debug__" : Str)) = false)
    (he : starEach (e :: es) X.env = (false, eval e X.env) :: starEach es X.env) (hpl : (backTo pos (starEach es X.env)).any (·.1) = false) : PE X (.Call (.Name x p) (e :: es) [] pos) (lo X.K (dFn R ta)) :=
  lo_fn (pe_callTy hc hg hm hv ha hn hdb he hpl)
end

/-! ### calls of own defs: a promise over trees -/
abbrev DX := Str → List (Str × D) → MS → Prop
abbrev DSp := List D → MS → DQ → DX → Prop
/-- no exception is wished for -/
def noX : DX := fun _ _ _ => False
def loSp (K : PySem.W.Frag) (sp : DSp) (n : Nat) : Sp := fun vs H Q E => ∃ F M ds Φ, ds.length = n ∧ AbsM K F H M ∧ Reps K F H ds vs ∧ sp ds M Φ noX ∧ ∀ v H', loQ K F H M Φ v H' → Q v H'
def dCall (n : Nat) (sp : DSp) (ta : DAs) : DE := fun ρ M Φ => ta ρ M fun ds M1 => ds.length = n ∧ sp ds M1 Φ noX
section
variable {X : Cx} {n : Nat} {sp : DSp} {e : Expr} {ta : DAs}
theorem lo_call {E : XK} (h : PE X e (tCall (loSp X.K sp n) [] E (loA X.K ta))) : PE X e (lo X.K (dCall n sp ta)) :=
  PE.imp h fun σ H Q h => by
    obtain ⟨F, M, ρ, Φ, A, h, k⟩ := h
    exact ⟨F, M, ρ, _, A, h, fun vs H1 F1 M1 ds l1 a1 r1 ⟨hn, h1⟩ => ⟨F1, M1, ds, Φ, hn, a1, by rw [List.append_nil]; exact r1, h1, fun v H' q => k v H' (q.le l1)⟩⟩
end
end DL

namespace DL
open PySem PySem.Spec PyProof.Rows L2

/-! ### patterns: a name's place, a tuple of patterns -/
inductive Pat where
  | nm (i : Nat)
  | tp (ps : List Pat)
mutual
def Pat.put : Pat → D → DEnv → Option DEnv
  | .nm i, d, ρ => some (ρ.set i (some d))
  | .tp ps, .tup xs, ρ => Pat.puts ps xs ρ
  | .tp _, _, _ => none
def Pat.puts : List Pat → List D → DEnv → Option DEnv
  | [], [], ρ => some ρ
  | p :: ps, x :: xs, ρ => (match p.put x ρ with
    | some ρ' => Pat.puts ps xs ρ'
    | none => none)
  | _, _, _ => none
end
mutual
def Pat.slots : Pat → List Nat
  | .nm i => [i]
  | .tp ps => Pat.slotss ps
def Pat.slotss : List Pat → List Nat
  | [] => []
  | p :: ps => p.slots ++ Pat.slotss ps
end
mutual
def Pat.tg (K : PySem.W.Frag) : Pat → TG
  | .nm i => gName i
  | .tp ps => gTup K ps.length (Pat.tgs K ps)
def Pat.tgs (K : PySem.W.Frag) : List Pat → TGs
  | [] => gNil
  | p :: ps => gCons (p.tg K) (Pat.tgs K ps)
end
theorem wipe_get : ∀ (vs : List Nat) (σ : L2.St) (j : Nat), (wipe σ vs)[j]? = if j ∈ vs ∧ j < σ.length then some none else σ[j]?
  | [], σ, j => by simp [wipe]
  | v :: vs, σ, j => by
    unfold wipe
    by_cases hj : v = j
    · subst hj
      by_cases hl : v < σ.length
      · rw [List.getElem?_set_self (by rw [wipe_length]; exact hl)]
        simp [hl]
      · have e1 : ((wipe σ vs).set v none)[v]? = none := List.getElem?_eq_none (by rw [List.length_set, wipe_length]; omega)
        rw [e1, if_neg (by omega), List.getElem?_eq_none (by omega)]
    · rw [List.getElem?_set_ne hj, wipe_get vs σ j]
      have : (j ∈ v :: vs) ↔ j ∈ vs := by
        simp only [List.mem_cons]
        exact ⟨fun h => h.resolve_left fun e => hj e.symm, .inr⟩
      simp only [this]
theorem wipe_set {σ : L2.St} {i : Nat} {v : Option V} {vs : List Nat} (h : i ∈ vs) : wipe (σ.set i v) vs = wipe σ vs := by
  refine List.ext_getElem? fun j => ?_
  rw [wipe_get, wipe_get, List.length_set]
  by_cases hj : j ∈ vs ∧ j < σ.length
  · rw [if_pos hj, if_pos hj]
  · rw [if_neg hj, if_neg hj]
    by_cases e : i = j
    · subst e
      have : ¬ i < σ.length := fun z => hj ⟨h, z⟩
      rw [List.getElem?_eq_none (by rw [List.length_set]; omega), List.getElem?_eq_none (by omega)]
    · rw [List.getElem?_set_ne e]
def wipeD (ρ : DEnv) : List Nat → DEnv
  | [] => ρ
  | v :: vs => (wipeD ρ vs).set v none
theorem wipeD_length (ρ : DEnv) : ∀ vs : List Nat, (wipeD ρ vs).length = ρ.length
  | [] => rfl
  | v :: vs => by unfold wipeD; rw [List.length_set, wipeD_length ρ vs]
theorem RepEnv.wipe {K : PySem.W.Frag} {F : Addr → Prop} {H : Hp} {σ : L2.St} {ρ : DEnv} (e : RepEnv K F H σ ρ) : ∀ vs : List Nat, RepEnv K F H (L2.wipe σ vs) (wipeD ρ vs)
  | [] => e
  | v :: vs => by
    have ih := RepEnv.wipe e vs
    refine ⟨by rw [wipeD_length, wipe_length]; exact e.len, fun j d h => ?_⟩
    unfold wipeD at h
    by_cases hj : v = j
    · subst hj
      by_cases hl : v < (wipeD ρ vs).length
      · rw [List.getElem?_set_self hl] at h; cases h
      · rw [List.getElem?_eq_none (by rw [List.length_set]; omega)] at h; cases h
    · rw [List.getElem?_set_ne hj] at h
      obtain ⟨w, h1, h2⟩ := ih.get j d h
      refine ⟨w, ?_, h2⟩
      unfold L2.wipe
      rw [List.getElem?_set_ne hj]
      exact h1
section
variable {K : PySem.W.Frag} {F : Addr → Prop} {H : Hp}
mutual
/-- a pattern stores -/
theorem Pat.runs : ∀ (p : Pat) {d : D} {v : V} {σ : L2.St} {ρ ρ' : DEnv}, p.put d ρ = some ρ' → Rep K F H d v → RepEnv K F H σ ρ →
    ∃ σ', RepEnv K F H σ' ρ' ∧ (∀ vs : List Nat, (∀ i ∈ p.slots, i ∈ vs) → wipe σ' vs = wipe σ vs) ∧ ∀ Q : L2.St → Hp → Prop, Q σ' H → p.tg K v σ H Q
  | .nm i, d, v, σ, ρ, ρ', h, r, e => by
    simp only [Pat.put, Option.some.injEq] at h
    subst h
    refine ⟨_, e.set r i, fun vs hv => wipe_set (hv i (by simp [Pat.slots])), fun Q q => ?_⟩
    simp only [Pat.tg, gName]
    exact q
  | .tp ps, d, v, σ, ρ, ρ', h, r, e => by
    cases d with
    | tup xs =>
      simp only [Pat.put] at h
      obtain ⟨a, vs, ev, hq, rs⟩ := rep_tup r
      obtain ⟨σ', e', w, q⟩ := Pat.runss ps h rs e
      refine ⟨σ', e', fun vs hv => w vs (by simpa only [Pat.slots] using hv), fun Q hQ => ?_⟩
      simp only [Pat.tg, gTup]
      exact ⟨a, vs, ev, hq, by rw [← rs.length]; exact (Pat.puts_length ps h).symm, q Q hQ⟩
    | _ => simp [Pat.put] at h
theorem Pat.runss : ∀ (ps : List Pat) {xs : List D} {vs : List V} {σ : L2.St} {ρ ρ' : DEnv}, Pat.puts ps xs ρ = some ρ' → Reps K F H xs vs → RepEnv K F H σ ρ →
    ∃ σ', RepEnv K F H σ' ρ' ∧ (∀ ws : List Nat, (∀ i ∈ Pat.slotss ps, i ∈ ws) → wipe σ' ws = wipe σ ws) ∧ ∀ Q : L2.St → Hp → Prop, Q σ' H → Pat.tgs K ps vs σ H Q
  | [], xs, vs, σ, ρ, ρ', h, r, e => by
    cases xs with
    | nil =>
      simp only [Pat.puts, Option.some.injEq] at h
      subst h
      simp only [Reps] at r
      subst r
      refine ⟨σ, e, fun _ _ => rfl, fun Q q => ?_⟩
      show gNil [] σ H Q
      exact ⟨rfl, q⟩
    | cons _ _ => simp [Pat.puts] at h
  | p :: ps, xs, vs, σ, ρ, ρ', h, r, e => by
    cases xs with
    | nil => simp [Pat.puts] at h
    | cons x xs =>
      simp only [Pat.puts] at h
      split at h
      · rename_i ρ1 h1
        simp only [Reps] at r
        obtain ⟨v, vr, ev, r1, r2⟩ := r
        subst ev
        obtain ⟨σ1, e1, w1, q1⟩ := Pat.runs p h1 r1 e
        obtain ⟨σ2, e2, w2, q2⟩ := Pat.runss ps h r2 e1
        refine ⟨σ2, e2, fun ws hw => ?_, fun Q hQ => ?_⟩
        · simp only [Pat.slotss, List.mem_append] at hw
          rw [w2 ws fun i hi => hw i (.inr hi), w1 ws fun i hi => hw i (.inl hi)]
        · simp only [Pat.tgs, gCons]
          exact ⟨v, vr, rfl, q1 _ (q2 Q hQ)⟩
      · cases h
theorem Pat.puts_length : ∀ (ps : List Pat) {xs : List D} {ρ ρ' : DEnv}, Pat.puts ps xs ρ = some ρ' → ps.length = xs.length
  | [], [], _, _, _ => rfl
  | [], _ :: _, _, _, h => by simp [Pat.puts] at h
  | _ :: _, [], _, _, h => by simp [Pat.puts] at h
  | p :: ps, x :: xs, ρ, ρ', h => by
    simp only [Pat.puts] at h
    split at h
    · simp [Pat.puts_length ps h]
    · cases h
end
end

/-! ### statements -/
def sNext : DS := fun Δ ρ M => Δ.nx ρ M
def sSeq (t u : DS) : DS := fun Δ ρ M => t { Δ with nx := u Δ } ρ M
def sBreak : DS := fun Δ ρ M => Δ.bk ρ M
def sCont : DS := fun Δ ρ M => Δ.ct ρ M
def sDrop (t : DE) : DS := fun Δ ρ M => t ρ M fun _ M1 => Δ.nx ρ M1
def sRet (t : DE) : DS := fun Δ ρ M => t ρ M Δ.rt
def sRetN : DS := fun Δ _ M => Δ.rt .non M
def sIf (c : DT) (t u : DS) : DS := fun Δ ρ M => c ρ M fun b M1 => if b = true then t Δ ρ M1 else u Δ ρ M1
def sAsg (t : DE) (p : Pat) : DS := fun Δ ρ M => t ρ M fun x M1 => match p.put x ρ with
  | some ρ' => Δ.nx ρ' M1
  | none => False
def sNever : DS := fun _ _ _ => False
section
variable {X : Cx} {st : Stmt} {rest : List Stmt} {t u : DS} {e : Expr} {te : DE} {pos : Pos}
theorem z_nil : PSs X [] (loS X.K sNext) := PSs.imp pss_nil fun Y σ H h => by
  obtain ⟨F, M, ρ, Δ, A, h, k⟩ := h
  exact k.nx σ H F M ρ Lm.refl A h
theorem z_pass : PS X (.Pass pos) (loS X.K sNext) := PS.imp ps_pass fun Y σ H h => by
  obtain ⟨F, M, ρ, Δ, A, h, k⟩ := h
  exact k.nx σ H F M ρ Lm.refl A h
theorem z_break : PS X (.Break pos) (loS X.K sBreak) := PS.imp ps_break fun Y σ H h => by
  obtain ⟨F, M, ρ, Δ, A, h, k⟩ := h
  exact k.bk σ H F M ρ Lm.refl A h
theorem z_cont : PS X (.Continue pos) (loS X.K sCont) := PS.imp ps_continue fun Y σ H h => by
  obtain ⟨F, M, ρ, Δ, A, h, k⟩ := h
  exact k.ct σ H F M ρ Lm.refl A h
theorem z_cons (h1 : PS X st (loS X.K t)) (h2 : PSs X rest (loS X.K u)) : PSs X (st :: rest) (loS X.K (sSeq t u)) := PSs.imp (pss_cons h1 h2) fun Y σ H h => by
  obtain ⟨F, M, ρ, Δ, A, h, k⟩ := h
  exact ⟨F, M, ρ, { Δ with nx := u Δ }, A, h, ⟨fun σ' H' F' M' ρ' l A' q => ⟨F', M', ρ', Δ, A', q, k.le l⟩, k.rt, k.bk, k.ct⟩⟩
theorem z_never : PS X st (loS X.K sNever) := PS.imp ps_never fun Y σ H h => by
  obtain ⟨F, M, ρ, Δ, A, h, k⟩ := h
  exact h.elim
theorem z_nevers {sts : List Stmt} : PSs X sts (loS X.K sNever) := PSs.imp pss_never fun Y σ H h => by
  obtain ⟨F, M, ρ, Δ, A, h, k⟩ := h
  exact h.elim
theorem z_expr (he : PE X e (lo X.K te)) (hs : swapsWith e none pos.line X.env = pure false) : PS X (.Expr e pos) (loS X.K (sDrop te)) := PS.imp (ps_expr he hs) fun Y σ H h => by
  obtain ⟨F, M, ρ, Δ, A, h, k⟩ := h
  exact ⟨F, M, ρ, _, A, h, fun v H1 ⟨F1, M1, x, l1, a1, r1, h1⟩ => k.nx σ H1 F1 M1 ρ l1 ⟨a1, A.env.mono l1.le⟩ h1⟩
theorem z_doc {x : Str} {j : Nat} {p1 p2 : Pos} : PS X (.Expr (.Constant (.str x) j p1) p2) (loS X.K sNext) := PS.imp ps_doc fun Y σ H h => by
  obtain ⟨F, M, ρ, Δ, A, h, k⟩ := h
  exact k.nx σ H F M ρ Lm.refl A h
theorem z_ret (he : PE X e (lo X.K te)) : PS X (.Return (some e) pos) (loS X.K (sRet te)) := PS.imp (ps_ret he) fun Y σ H h => by
  obtain ⟨F, M, ρ, Δ, A, h, k⟩ := h
  exact ⟨F, M, ρ, _, A, h, fun v H1 q => k.rt v H1 q⟩
theorem z_retN : PS X (.Return none pos) (loS X.K sRetN) := PS.imp ps_retN fun Y σ H h => by
  obtain ⟨F, M, ρ, Δ, A, h, k⟩ := h
  exact k.rt _ _ (hN A.am h)
theorem z_if {c : Expr} {a b : List Stmt} {tc : DT} (hc : PT X c (loT X.K tc)) (ha : PSs X a (loS X.K t)) (hb : PSs X b (loS X.K u)) : PS X (.If c a b pos) (loS X.K (sIf tc t u)) := PS.imp (ps_if hc ha hb) fun Y σ H h => by
  obtain ⟨F, M, ρ, Δ, A, h, k⟩ := h
  refine ⟨F, M, ρ, _, A, h, fun c H1 F1 M1 l1 a1 h1 => ?_⟩
  cases c with
  | true => exact ⟨F1, M1, ρ, Δ, ⟨a1, A.env.mono l1.le⟩, h1, k.le l1⟩
  | false => exact ⟨F1, M1, ρ, Δ, ⟨a1, A.env.mono l1.le⟩, h1, k.le l1⟩
/-- target = value, the target a pattern -/
theorem z_asg {tg : Expr} {p : Pat} (he : PE X e (lo X.K te)) (hg : PG X tg (p.tg X.K)) (hs : swapsWithSole [tg] e pos.line X.env = pure false) (hw : swappedStores [tg] e X.env = pure none)
    (h1 : (assignEach [tg] X.env).map (·.2) = [assign tg X.env]) : PS X (.Assign [tg] e pos) (loS X.K (sAsg te p)) := PS.imp (ps_asg he hg hs hw h1) fun Y σ H h => by
  obtain ⟨F, M, ρ, Δ, A, h, k⟩ := h
  refine ⟨F, M, ρ, _, A, h, fun v H1 ⟨F1, M1, x, l1, a1, r1, h1⟩ => ?_⟩
  dsimp only at h1 ⊢
  split at h1
  · rename_i ρ' hp
    obtain ⟨σ', e', _, q⟩ := p.runs hp r1 (A.env.mono l1.le)
    exact q _ (k.nx σ' H1 F1 M1 ρ' l1 ⟨a1, e'⟩ h1)
  · exact h1.elim
/-- name = value -/
theorem z_set {i : Nat} {x : Str} {pos' : Pos} (hN : X.N.Nodup) (hi : X.N[i]? = some x) (hx : Loc X.env.scope x) (he : PE X e (lo X.K te)) (hs : swapsWith e (some (.Name x pos')) pos.line X.env = pure false) (hf : X.fn x = true ∨ X.env.scope.names.lookup x = some .local) :
    PS X (.Assign [.Name x pos'] e pos) (loS X.K (sAsg te (.nm i))) := PS.imp (ps_set hN hi hx he hs hf) fun Y σ H h => by
  obtain ⟨F, M, ρ, Δ, A, h, k⟩ := h
  refine ⟨F, M, ρ, _, A, h, fun v H1 ⟨F1, M1, x, l1, a1, r1, h1⟩ => ?_⟩
  exact k.nx _ H1 F1 M1 _ l1 ⟨a1, (A.env.mono l1.le).set r1 i⟩ h1
end

/-! ### for -/
/-- at turn i an iterator of this kind yields the i-th item, as long as G holds -/
structure Src (K : PySem.W.Frag) (F : Addr → Prop) (H : Hp) (M : MS) (J : It) (items : List D) (G : MS → Prop) : Prop where
  go : ∀ i F' H' M', Lm K F H M F' H' M' → AbsM K F' H' M' → G M' → i < items.length → J.go i H'
  stop : ∀ F' H' M', Lm K F H M F' H' M' → AbsM K F' H' M' → G M' → J.stop items.length H'
  yld : ∀ i F' H' M' x H'', Lm K F H M F' H' M' → AbsM K F' H' M' → G M' → i < items.length → J.yld i H' x H'' → ∃ F'' d, Lm K F' H' M' F'' H'' M' ∧ AbsM K F'' H'' M' ∧ items[i]? = some d ∧ Rep K F'' H'' d x
abbrev DI := DEnv → MS → (List D → (MS → Prop) → MS → Prop) → Prop
def loI (K : PySem.W.Frag) (t : DI) : TI := fun σ H R => ∃ F M ρ Ψ, Abs K F H M σ ρ ∧ t ρ M Ψ ∧ ∀ J H' F' M' items G, Lm K F H M F' H' M' → AbsM K F' H' M' → Src K F' H' M' J items G → Ψ items G M' → R J H'
def forW (G : MS → Prop) (p : Pat) (body : DS) (Δ : DEnds) : List D → DEnv → MS → Prop
  | [], ρ, M => G M ∧ Δ.nx ρ M
  | d :: ds, ρ, M => G M ∧ (match p.put d ρ with
    | some ρ1 => body { nx := fun ρ' M' => forW G p body Δ ds ρ' M', rt := Δ.rt, bk := Δ.nx, ct := fun ρ' M' => forW G p body Δ ds ρ' M' } ρ1 M
    | none => False)
def sFor (ti : DI) (p : Pat) (body : DS) : DS := fun Δ ρ M => ti ρ M fun items G M1 => forW G p body Δ items ρ M1
section
variable {X : Cx} {pos : Pos}
theorem drop_get {α : Type} {l : List α} {i : Nat} {d : α} {ds : List α} (h : l.drop i = d :: ds) : l[i]? = some d ∧ l.drop (i + 1) = ds ∧ i < l.length := by
  have h1 : i < l.length := by
    by_cases hi : i < l.length
    · exact hi
    · rw [List.drop_eq_nil_of_le (by omega)] at h; cases h
  have h2 : l.drop i = l[i] :: l.drop (i + 1) := List.drop_eq_getElem_cons h1
  rw [h2] at h
  injection h with e1 e2
  exact ⟨by rw [List.getElem?_eq_getElem h1, e1], e2, h1⟩
theorem z_for {tg iter : Expr} {body : List Stmt} {ti : DI} {p : Pat} {tb : DS} (hp : PassesOwn (model X.prog X.w) X.A X.env X.xe) (hc : X.calm = true) (hi : PI X tg iter (loI X.K ti)) (hg : PG X tg (p.tg X.K)) (hb : PSs X body (loS X.K tb)) (hfs : ∀ x, foldedSetIterable iter X.env x = pure x) :
    PS X (.For tg iter body [] pos) (loS X.K (sFor ti p tb)) := PS.imp (ps_for hp hc hi hg hb hfs) fun Y σ H h => by
  obtain ⟨F, M, ρ, Δ, A, h, k⟩ := h
  refine ⟨F, M, ρ, _, A, h, fun J H1 F1 M1 items G l1 a1 src h1 => ?_⟩
  refine ⟨fun i m σ' H' => m = items.length - i ∧ i ≤ items.length ∧ ∃ F' M' ρ', Lm X.K F1 H1 M1 F' H' M' ∧ Abs X.K F' H' M' σ' ρ' ∧ forW G p tb Δ (items.drop i) ρ' M', ⟨items.length, by simp, Nat.zero_le _, F1, M1, ρ, Lm.refl, ⟨a1, A.env.mono l1.le⟩, h1⟩, ?_⟩
  rintro i m σ' H' ⟨rfl, hil, F', M', ρ', l2, A', hw⟩
  cases hd : items.drop i with
  | nil =>
    rw [hd] at hw
    have hle : items.length ≤ i := by
      have := congrArg List.length hd
      simp at this; omega
    obtain rfl : i = items.length := Nat.le_antisymm hil hle
    exact .inl ⟨src.stop F' H' M' l2 A'.am hw.1, k.nx σ' H' F' M' ρ' (l1.trans l2) A' hw.2⟩
  | cons d ds =>
    rw [hd] at hw
    obtain ⟨g1, g2, g3⟩ := drop_get hd
    obtain ⟨hG, hw⟩ := hw
    refine .inr ⟨src.go i F' H' M' l2 A'.am hG g3, fun σ3 H3 => ∃ F3 M3 ρ3, Lm X.K F1 H1 M1 F3 H3 M3 ∧ Abs X.K F3 H3 M3 σ3 ρ3 ∧ forW G p tb Δ ds ρ3 M3, ?_, ?_⟩
    · rintro σ3 H3 ⟨F3, M3, ρ3, l3, A3, h3⟩
      exact ⟨items.length - (i + 1), by omega, rfl, by omega, F3, M3, ρ3, l3, A3, by rw [g2]; exact h3⟩
    · intro x H'' hy
      obtain ⟨F'', d', l3, a3, e3, r3⟩ := src.yld i F' H' M' x H'' l2 A'.am hG g3 hy
      rw [g1] at e3; cases e3
      split at hw
      · rename_i ρ1 hput
        obtain ⟨σ2, e2, _, q⟩ := p.runs hput r3 (A'.env.mono l3.le)
        refine q _ ⟨F'', M', ρ1, _, ⟨a3, e2⟩, hw, ⟨fun σ4 H4 F4 M4 ρ4 l4 A4 q4 => ⟨F4, M4, ρ4, (l2.trans l3).trans l4, A4, q4⟩, fun v H4 q4 => k.rt v H4 (((q4.le l3).le l2).le l1), fun σ4 H4 F4 M4 ρ4 l4 A4 q4 => k.nx σ4 H4 F4 M4 ρ4 (((l1.trans l2).trans l3).trans l4) A4 q4, fun σ4 H4 F4 M4 ρ4 l4 A4 q4 => ⟨F4, M4, ρ4, (l2.trans l3).trans l4, A4, q4⟩⟩⟩
      · exact hw.elim
end

/-! ### comprehensions -/
def MS.del (M : MS) (a : Addr) : MS := { M with map := fun b => if b = a then none else M.map b }
def lcW (G : MS → Prop) (p : Pat) (tt : DT) (te : DE) (ρ : DEnv) : List D → List D → MS → (List D → MS → Prop) → Prop
  | [], acc, M, Φ => G M ∧ Φ acc M
  | d :: ds, acc, M, Φ => G M ∧ (match p.put d ρ with
    | some ρ1 => tt ρ1 M fun b M1 => if b = true then te ρ1 M1 fun y M2 => acc.length < 100000 ∧ lcW G p tt te ρ ds (acc ++ [y]) M2 Φ else lcW G p tt te ρ ds acc M1 Φ
    | none => False)
def dLc (ti : DI) (p : Pat) (vs : List Nat) (tt : DT) (te : DE) : DE := fun ρ M Φ => ti ρ M fun items G M1 => lcW G p tt te (wipeD ρ vs) items [] M1 fun ds M2 => Φ (.lst ds) M2
def dLcM (ti : DI) (p : Pat) (vs : List Nat) (tt : DT) (te : DE) : DE := fun ρ M Φ => ti ρ M fun items G M1 => lcW G p tt te (wipeD ρ vs) items [] M1 fun ds M2 => ∀ a, M2.map a = none → Φ (.ref a) (M2.put a (.lst ds))
def loTs (K : PySem.W.Frag) (t : DT) : TT := loT K t
theorem PTs.imp {X : Cx} {e : List Expr} {t t' : TT} (h : PTs X e t) (hi : ∀ σ H Q, t' σ H Q → t σ H Q) : PTs X e t' := ⟨fun pins s σ H Q I q => h.run pins s σ H Q I (hi _ _ _ q)⟩
def dYes : DT := fun _ M Φ => Φ true M
section
variable {X : Cx} {K : PySem.W.Frag}
theorem q_yes : PTs X [] (loT X.K dYes) := PTs.imp pts_nil fun σ H Q h => by
  obtain ⟨F, M, ρ, Φ, A, h, k⟩ := h
  exact k true H F M Lm.refl A.am h
/-- the turns of a comprehension over the hand layer's reading -/
theorem lc_turns {J : It} {items : List D} {G : MS → Prop} {p : Pat} {tt : DT} {te : DE} {vs : List Nat} {σ : L2.St} {ρ : DEnv} {F1 : Addr → Prop} {H1 : Hp} {M1 : MS} {Ψ : List D → MS → Prop} {L : Addr} {Q : VK}
    (src : Src K F1 H1 M1 J items G) (a1 : AbsM K F1 H1 M1) (en : RepEnv K F1 H1 σ ρ) (hs : ∀ i ∈ p.slots, i ∈ vs) (hL : H1 L = none) (hw : lcW G p tt te (wipeD ρ vs) items [] M1 Ψ)
    (fin : ∀ F' H' M' ds ws, Lm K F1 H1 M1 F' H' M' → AbsM K F' H' M' → H' L = some (.lst ws) → ¬ F' L → M'.map L = none → Reps K F' H' ds ws → Ψ ds M' → Q (.ref L) H') :
    ∃ W : Nat → Nat → Hp → Prop, (∃ m, W 0 m (upd H1 L (.lst []))) ∧ ∀ i m H, W i m H → (J.stop i H ∧ Q (.ref L) H) ∨ (J.go i H ∧ ∃ Nx : Hp → Prop, (∀ H', Nx H' → ∃ m', m' < m ∧ W (i + 1) m' H') ∧
      ∀ x H', J.yld i H x H' → p.tg K x (wipe σ vs) H' fun σ2 H2 => wipe σ2 vs = wipe σ vs ∧ loT K tt σ2 H2 fun b H3 =>
        if b = true then lo K te σ2 H3 fun y H4 => ∃ acc, H4 L = some (.lst acc) ∧ acc.length < sizeLine ∧ Nx (upd H4 L (.lst (acc ++ [y]))) else Nx H3) := by
  have neL : ∀ a, H1 a ≠ none → a ≠ L := fun a ha e => ha (e ▸ hL)
  have hLm : ∀ {F' : Addr → Prop} {H' : Hp} {M' : MS} {ws ws' : List V}, Lm K F1 H1 M1 F' H' M' → AbsM K F' H' M' → (H' L = some (.lst ws) ∨ H' L = none) → ¬ F' L → M'.map L = none →
      Lm K F1 H1 M1 F' (upd H' L (.lst ws')) M' ∧ AbsM K F' (upd H' L (.lst ws')) M' ∧ Le K F' H' F' (upd H' L (.lst ws')) := by
    intro F' H' M' ws ws' l a e nf nm
    have l2 : Le K F' H' F' (upd H' L (.lst ws')) := by
      rcases e with e | e
      · exact Le.upd nf (fun _ => nord_lst e) (nofrz_lst e)
      · exact Le.upd nf (fun _ => nord_none e) (nofrz_none e)
    refine ⟨⟨l.le.trans l2, fun b hb f m => ?_⟩, ⟨fun b f => ?_, fun b o hb => ?_⟩, l2⟩
    · obtain ⟨x1, x2, x3⟩ := l.hid b hb f m
      exact ⟨x1, x2, (upd_ne (neL b hb)).trans x3⟩
    · have nb : b ≠ L := fun e => by subst e; exact nf f
      rw [upd_ne nb]
      exact a.fh b f
    · obtain ⟨n1, o1⟩ := a.mp b o hb
      have ne : ∀ c o', M'.map c = some o' → c ≠ L := fun c o' hc e => by rw [e, nm] at hc; cases hc
      exact ⟨n1, o1.keep l2 (upd_ne (ne b o hb)) (fun c hc => ⟨upd_ne (ne c _ hc), hc⟩) (Nat.le_refl _)⟩
  have hF1 : ¬ F1 L := fun f => a1.fh L f hL
  have hM1 : M1.map L = none := (a1.fresh hL).2
  let P : Nat → Hp → Prop := fun i H' => ∃ F' M' acc ws, Lm K F1 H1 M1 F' H' M' ∧ AbsM K F' H' M' ∧ H' L = some (.lst ws) ∧ ¬ F' L ∧ M'.map L = none ∧ Reps K F' H' acc ws ∧ lcW G p tt te (wipeD ρ vs) (items.drop i) acc M' Ψ
  refine ⟨fun i m H' => m = items.length - i ∧ i ≤ items.length ∧ P i H', ⟨items.length, by simp, Nat.zero_le _, ?_⟩, ?_⟩
  · obtain ⟨l0, a0, _⟩ := hLm (ws := []) (ws' := []) Lm.refl a1 (.inr hL) hF1 hM1
    exact ⟨F1, M1, [], [], l0, a0, upd_same, hF1, hM1, Reps.nil, hw⟩
  rintro i m H' ⟨rfl, hil, F', M', acc, ws, l2, a2, hl, nf, nm, rs, hw'⟩
  cases hd : items.drop i with
  | nil =>
    rw [hd] at hw'
    have hle : items.length ≤ i := by
      have := congrArg List.length hd
      simp at this; omega
    obtain rfl : i = items.length := Nat.le_antisymm hil hle
    exact .inl ⟨src.stop F' H' M' l2 a2 hw'.1, fin F' H' M' acc ws l2 a2 hl nf nm rs hw'.2⟩
  | cons d ds =>
    rw [hd] at hw'
    obtain ⟨g1, g2, g3⟩ := drop_get hd
    obtain ⟨hG, hw'⟩ := hw'
    refine .inr ⟨src.go i F' H' M' l2 a2 hG g3, P (i + 1), fun H3 p3 => ⟨items.length - (i + 1), by omega, rfl, by omega, p3⟩, fun x H'' hy => ?_⟩
    obtain ⟨F3, d', l3, a3, e3, r3⟩ := src.yld i F' H' M' x H'' l2 a2 hG g3 hy
    rw [g1] at e3; cases e3
    split at hw'
    · rename_i ρ1 hput
      obtain ⟨σ2, e2, w2, q⟩ := p.runs hput r3 ((en.wipe vs).mono (l2.trans l3).le)
      refine q _ ⟨?_, ?_⟩
      · rw [w2 vs hs]
        refine List.ext_getElem? fun j => ?_
        simp only [wipe_get, wipe_length]
        split <;> rfl
      · obtain ⟨h3a, h3b, h3c⟩ := l3.hid L (by rw [hl]; simp) nf nm
        refine ⟨F3, M', ρ1, _, ⟨a3, e2⟩, hw', fun b H4 F4 M4 l4 a4 h4 => ?_⟩
        obtain ⟨h4a, h4b, h4c⟩ := l4.hid L (by rw [h3c, hl]; simp) h3a h3b
        have hl4 : H4 L = some (.lst ws) := by rw [h4c, h3c, hl]
        cases b with
        | true =>
          rw [if_pos rfl] at h4 ⊢
          refine ⟨F4, M4, ρ1, _, ⟨a4, e2.mono l4.le⟩, h4, fun y H5 ⟨F5, M5, dy, l5, a5, r5, h5, h6⟩ => ?_⟩
          obtain ⟨h5a, h5b, h5c⟩ := l5.hid L (by rw [hl4]; simp) h4a h4b
          have hl5 : H5 L = some (.lst ws) := by rw [h5c, hl4]
          obtain ⟨l6, a6, m6⟩ := hLm (ws := ws) (ws' := ws ++ [y]) (((l2.trans l3).trans l4).trans l5) a5 (.inl hl5) h5a h5b
          have rall := (((rs.mono l3.le).mono l4.le).mono l5.le).append (Reps.cons r5 Reps.nil)
          refine ⟨ws, hl5, by rw [← rs.length]; exact Nat.lt_of_lt_of_le h5 (by decide), F5, M5, acc ++ [dy], ws ++ [y], l6, a6, upd_same, h5a, h5b, rall.mono m6, ?_⟩
          rw [g2]
          exact h6
        | false =>
          rw [if_neg Bool.false_ne_true] at h4 ⊢
          refine ⟨F4, M4, acc, ws, (l2.trans l3).trans l4, a4, hl4, h4a, h4b, (rs.mono l3.le).mono l4.le, ?_⟩
          rw [g2]
          exact h4
    · exact hw'.elim
end
section
variable {X : Cx} {elt tg iter : Expr} {ifs : List Expr} {scope : Scope} {own : List (Str × Nat)} {pos spos : Pos} {ti : DI} {p : Pat} {tt : DT} {te : DE}
theorem q_lc (hc : X.calm = true) (hN : X.N.Nodup) (hi : PI X tg iter (loI X.K ti)) (ok : BlkOk X.N X.env.scope scope own)
    (hg : ∀ (s : Shared) (H : Hp) (C : Addr) (cl : List (Str × Addr)) (fp : List Addr), PG (X.blk s H scope (compEnvC scope cl C X.env) fp) tg (p.tg X.K))
    (ht : ∀ (s : Shared) (H : Hp) (C : Addr) (cl : List (Str × Addr)) (fp : List Addr), PTs (X.blk s H scope (compEnvC scope cl C X.env) fp) ifs (loT X.K tt))
    (he : ∀ (s : Shared) (H : Hp) (C : Addr) (cl : List (Str × Addr)) (fp : List Addr), PE (X.blk s H scope (compEnvC scope cl C X.env) fp) elt (lo X.K te)) (hfs : ∀ x, foldedSetIterable iter X.env x = pure x)
    (hs : ∀ i ∈ p.slots, i ∈ own.map (·.2)) : PE X (.ListComp elt [⟨tg, iter, ifs, 0⟩] scope pos) (lo X.K (dLc ti p (own.map (·.2)) tt te)) :=
  PE.imp (pe_lc hc hN hi ok hg ht he hfs) fun σ H Q h => by
    obtain ⟨F, M, ρ, Φ, A, h, k⟩ := h
    refine ⟨F, M, ρ, _, A, h, fun J H1 F1 M1 items G l1 a1 src h1 L hL => lc_turns src a1 (A.env.mono l1.le) hs hL h1 fun F' H' M' ds ws l2 a2 hl nf nm rs q => ?_⟩
    have y : Le X.K F' H' (fun b => F' b ∨ b = L) H' := Le.refl.grow fun _ f => .inl f
    refine k _ _ ⟨fun b => F' b ∨ b = L, M', .lst ds, (l1.trans ⟨l2.le.trans y, fun a ha f m => ?_⟩), ⟨fun b f => ?_, fun b o hb => ?_⟩, ?_, q⟩
    · obtain ⟨x1, x2, x3⟩ := l2.hid a ha f m
      exact ⟨fun z => z.elim x1 fun e => ha (e ▸ hL), x2, x3⟩
    · rcases f with f | f
      · exact a2.fh b f
      · subst f; rw [hl]; simp
    · obtain ⟨n1, o1⟩ := a2.mp b o hb
      refine ⟨fun z => z.elim n1 fun e => ?_, o1.keep y rfl (fun c hc => ⟨rfl, hc⟩) (Nat.le_refl _)⟩
      subst e; rw [nm] at hb; cases hb
    · simp only [Rep]
      exact ⟨L, ws, rfl, .inr rfl, hl, rs.mono y⟩
theorem dLcM_fin {K : PySem.W.Frag} {F1 F' : Addr → Prop} {H1 H' : Hp} {M1 M' : MS} {L : Addr} {ds : List D} {ws : List V} (hL : H1 L = none) (l2 : Lm K F1 H1 M1 F' H' M') (a2 : AbsM K F' H' M') (hl : H' L = some (.lst ws)) (nf : ¬ F' L) (nm : M'.map L = none) (rs : Reps K F' H' ds ws) :
    Lm K F1 H1 M1 F' H' (M'.put L (.lst ds)) ∧ AbsM K F' H' (M'.put L (.lst ds)) := by
  refine ⟨⟨l2.le, fun a ha f m => ?_⟩, ⟨a2.fh, fun b o hb => ?_⟩⟩
  · obtain ⟨x1, x2, x3⟩ := l2.hid a ha f m
    have ne : a ≠ L := fun e => ha (e ▸ hL)
    exact ⟨x1, by rw [MS.put_ne ne]; exact x2, x3⟩
  · by_cases e : b = L
    · subst e
      rw [MS.put_same] at hb; cases hb
      exact ⟨nf, ws, hl, rs⟩
    · rw [MS.put_ne e] at hb
      obtain ⟨n1, o1⟩ := a2.mp b o hb
      refine ⟨n1, o1.keep Le.refl rfl (fun c hc => ⟨rfl, ?_⟩) (Nat.le_refl _)⟩
      rw [MS.put_ne (fun e => by subst e; rw [nm] at hc; cases hc)]
      exact hc
theorem q_lcM (hc : X.calm = true) (hN : X.N.Nodup) (hi : PI X tg iter (loI X.K ti)) (ok : BlkOk X.N X.env.scope scope own)
    (hg : ∀ (s : Shared) (H : Hp) (C : Addr) (cl : List (Str × Addr)) (fp : List Addr), PG (X.blk s H scope (compEnvC scope cl C X.env) fp) tg (p.tg X.K))
    (ht : ∀ (s : Shared) (H : Hp) (C : Addr) (cl : List (Str × Addr)) (fp : List Addr), PTs (X.blk s H scope (compEnvC scope cl C X.env) fp) ifs (loT X.K tt))
    (he : ∀ (s : Shared) (H : Hp) (C : Addr) (cl : List (Str × Addr)) (fp : List Addr), PE (X.blk s H scope (compEnvC scope cl C X.env) fp) elt (lo X.K te)) (hfs : ∀ x, foldedSetIterable iter X.env x = pure x)
    (hs : ∀ i ∈ p.slots, i ∈ own.map (·.2)) : PE X (.ListComp elt [⟨tg, iter, ifs, 0⟩] scope pos) (lo X.K (dLcM ti p (own.map (·.2)) tt te)) :=
  PE.imp (pe_lc hc hN hi ok hg ht he hfs) fun σ H Q h => by
    obtain ⟨F, M, ρ, Φ, A, h, k⟩ := h
    refine ⟨F, M, ρ, _, A, h, fun J H1 F1 M1 items G l1 a1 src h1 L hL => lc_turns src a1 (A.env.mono l1.le) hs hL h1 fun F' H' M' ds ws l2 a2 hl nf nm rs q => ?_⟩
    obtain ⟨l3, a3⟩ := dLcM_fin hL l2 a2 hl nf nm rs
    exact k _ _ ⟨F', _, .ref L, l1.trans l3, a3, rfl, q L nm⟩
/-- name = [..] on one line -/
theorem z_setLc {i : Nat} {y : Str} {py : Pos} (hc : X.calm = true) (hN : X.N.Nodup) (hy : X.N[i]? = some y) (hyl : X.env.scope.names.lookup y = some .local) (hsw : swapsWith (.ListComp elt [⟨tg, iter, ifs, 0⟩] scope pos) (some (.Name y py)) spos.line X.env = pure true)
    (hi : PI X tg iter (loI X.K ti)) (ok : BlkOk X.N X.env.scope scope own)
    (hg : ∀ (s : Shared) (H : Hp) (C : Addr) (cl : List (Str × Addr)) (fp : List Addr), PG (X.blk s H scope (compEnvC scope cl C X.env) fp) tg (p.tg X.K))
    (ht : ∀ (s : Shared) (H : Hp) (C : Addr) (cl : List (Str × Addr)) (fp : List Addr), PTs (X.blk s H scope (compEnvC scope cl C X.env) fp) ifs (loT X.K tt))
    (he : ∀ (s : Shared) (H : Hp) (C : Addr) (cl : List (Str × Addr)) (fp : List Addr), PE (X.blk s H scope (compEnvC scope cl C X.env) fp) elt (lo X.K te)) (hfs : ∀ x, foldedSetIterable iter X.env x = pure x)
    (hs : ∀ i ∈ p.slots, i ∈ own.map (·.2)) (mu : Bool) : PS X (.Assign [.Name y py] (.ListComp elt [⟨tg, iter, ifs, 0⟩] scope pos) spos) (loS X.K (sAsg (if mu = true then dLcM ti p (own.map (·.2)) tt te else dLc ti p (own.map (·.2)) tt te) (.nm i))) :=
  PS.imp (ps_setLc hc hN hy hyl hsw hi ok hg ht he hfs) fun Y σ H h => by
    obtain ⟨F, M, ρ, Δ, A, h, k⟩ := h
    cases mu with
    | true =>
      refine ⟨F, M, ρ, _, A, h, fun J H1 F1 M1 items G l1 a1 src h1 L hL => lc_turns (Q := fun x H1 => gName i x σ H1 Y.nx) src a1 (A.env.mono l1.le) hs hL h1 fun F' H' M' ds ws l2 a2 hl nf nm rs q => ?_⟩
      obtain ⟨l3, a3⟩ := dLcM_fin hL l2 a2 hl nf nm rs
      exact k.nx _ _ _ _ _ (l1.trans l3) ⟨a3, (A.env.mono (l1.trans l3).le).set (d := .ref L) rfl i⟩ (q L nm)
    | false =>
      refine ⟨F, M, ρ, _, A, h, fun J H1 F1 M1 items G l1 a1 src h1 L hL => lc_turns (Q := fun x H1 => gName i x σ H1 Y.nx) src a1 (A.env.mono l1.le) hs hL h1 fun F' H' M' ds ws l2 a2 hl nf nm rs q => ?_⟩
      have y : Le X.K F' H' (fun b => F' b ∨ b = L) H' := Le.refl.grow fun _ f => .inl f
      have lm : Lm X.K F1 H1 M1 (fun b => F' b ∨ b = L) H' M' := ⟨l2.le.trans y, fun a ha f m => by
        obtain ⟨x1, x2, x3⟩ := l2.hid a ha f m
        exact ⟨fun z => z.elim x1 fun e => ha (e ▸ hL), x2, x3⟩⟩
      have am : AbsM X.K (fun b => F' b ∨ b = L) H' M' := ⟨fun b f => by
        rcases f with f | f
        · exact a2.fh b f
        · subst f; rw [hl]; simp, fun b o hb => by
        obtain ⟨n1, o1⟩ := a2.mp b o hb
        refine ⟨fun z => z.elim n1 fun e => ?_, o1.keep y rfl (fun c hc => ⟨rfl, hc⟩) (Nat.le_refl _)⟩
        subst e; rw [nm] at hb; cases hb⟩
      refine k.nx _ _ _ _ _ (l1.trans lm) ⟨am, (A.env.mono (l1.trans lm).le).set (d := .lst ds) ?_ i⟩ q
      simp only [Rep]
      exact ⟨L, ws, rfl, .inr rfl, hl, rs.mono y⟩
end
end DL

namespace DL
open PySem PySem.Spec PyProof.Rows L2

/-! ### a list (true) or a tuple (false), its iterator -/
def SqK (k : Bool) (K : PySem.W.Frag) (H : Hp) (a : Addr) (xs : List V) : Prop := match k with
  | true => SqL K H a xs
  | false => SqT K H a xs
def IsIt (k : Bool) (h : Heap) (it a : Addr) (i : Nat) : Prop := match k with
  | true => h.IsListIter it a i
  | false => h.IsTupleIter it a i
def IsSq (k : Bool) (h : Heap) (a : Addr) (its : Array Value) : Prop := match k with
  | true => h.IsList a its
  | false => h.IsTuple a its
section
variable {X : Cx} {pins : List (Addr × Obj)} {σ : L2.St} {H : Hp} {s : Shared} {a it : Addr} {xs ys : List V} {k : Bool}
theorem sqk_at (I : Inv X pins σ H s) (h : SqK k X.K H a xs) : ∃ its : List Value, Vals xs its ∧ IsSq k s.heap a its.toArray := by
  cases k with
  | true =>
    obtain ⟨its, r, p, _⟩ := I.list h
    exact ⟨its, r, p.isList⟩
  | false =>
    obtain ⟨its, r, p, _⟩ := I.tuple h
    exact ⟨its, r, p⟩
theorem sqk_inj (I : Inv X pins σ H s) (h : SqK k X.K H a xs) (h' : SqK k X.K H a ys) : xs = ys := by
  cases k with
  | true => exact I.list_inj h h'
  | false => exact I.tuple_inj h h'
theorem draws_k {P : Program} {w : World} {A : Around} (hh : A.handled = none) (hne : a ≠ it) (its : Array Value) :
    Draws P w A it [it, a] its.size (fun i v => its[i]? = some v) (fun i h => IsIt k h it a i ∧ IsSq k h a its) := by
  cases k with
  | true => exact Draws.list hh it a hne its
  | false => exact Draws.tuple hh it a hne its
theorem isIt_obj {h : Heap} {i : Nat} (x : IsIt k h it a i) : ∃ o, h.get? it = some o ∧ ∀ v, o.data ≠ .cell v := by
  cases k with
  | true => obtain ⟨o, e, c, d⟩ := x; exact ⟨o, e, fun v z => by rw [d] at z; cases z⟩
  | false => obtain ⟨o, e, c, d⟩ := x; exact ⟨o, e, fun v z => by rw [d] at z; cases z⟩
theorem isIt_keep {h h' : Heap} {i : Nat} (x : IsIt k h it a i) (hk : ∀ o, h.get? it = some o → h'.get? it = some o) : IsIt k h' it a i := by
  cases k with
  | true => exact Heap.IsListIter.at x hk
  | false => exact Heap.IsTupleIter.at x hk
end

/-! ### a turn by the library's walks of pairs -/
/-- what a walk of new pairs yields: at turn i the pair of f i and g i, where go -/
def ItP (go : Nat → Hp → Prop) (f : Nat → Hp → V → V → Prop) (stop : Nat → Hp → Prop) : It :=
  ⟨go, fun i H v H' => ∃ T x y, v = .ref T ∧ H T = none ∧ H' = upd H T (.tup [x, y]) ∧ f i H x y, stop⟩
theorem turn_pairs {P : Program} {w : World} {K : PySem.W.Frag} {elts : List Expr} {kk : Nat} {tpos : Pos} {go : Nat → Hp → Prop} {f : Nat → Hp → V → V → Prop} {stop : Nat → Hp → Prop} {it : Addr} {fp wr : List Addr} {tn : Nat → Heap → Prop}
    (mem : it ∈ fp) (hwr : ∀ b ∈ wr, b ∈ fp) (obj : ∀ i h, tn i h → ∀ b ∈ fp, ∃ o, h.get? b = some o ∧ ∀ v, o.data ≠ .cell v)
    (keep : ∀ i h h', tn i h → (∀ b ∈ fp, ∀ o, h.get? b = some o → h'.get? b = some o) → tn i h')
    (walk : ∀ (X : Cx), X.prog = P → X.w = w → X.K = K → X.calm = true → ∀ (i : Nat) (pins : List (Addr × Obj)) (s : Shared) (σ : L2.St) (H : Hp), Inv X pins σ H s → tn i s.heap → (go i H ∨ stop i H) →
      ∃ (fp' : List Addr) (n : Nat) (Pt : Nat → Array Value → Prop) (St : Nat → Heap → Prop) (Mid : Nat → Addr → Heap → Prop), WalksT P w X.A it fp' wr n Pt St Mid ∧ St i s.heap ∧ (∀ j h, St j h → tn j h) ∧
        (go i H → i < n ∧ ∀ vals, Pt i vals → ∃ x y u v, vals = #[u, v] ∧ RelV x u ∧ RelV y v ∧ f i H x y) ∧ (stop i H → i = n))
    (self : ∀ (A : Around) (i : Nat) (s : Shared) (Q : Value → Shared → Prop) (E : Value → Shared → Prop), tn i s.heap → Q (.ref it) s → wpAny (model P w) A (pyIter (.ref it)) Q E s) :
    Turn P w K (.Tuple elts kk tpos) (ItP go f stop) fp it tn where
  mem := mem
  obj := obj
  keep := keep
  item := by
    intro X hP hw hK hc i pins s σ H E I hf st hg
    obtain ⟨fp', n, Pt, St, Mid, W, hst, hall, hgo, _⟩ := walk X hP hw hK hc i pins s σ H I st (.inl hg)
    obtain ⟨hi, hvals⟩ := hgo hg
    subst hP hw hK
    refine W.item i s _ _ hi hst fun T vals h' tk hPt hsz hT hmid hk => ?_
    refine ⟨_, rfl, W.go elts kk tpos i T _ _ _ hmid fun h'' hst' hk' => ?_⟩
    obtain ⟨x, y, u, v, rfl, rx, ry, hfy⟩ := hvals vals hPt
    have hTw := W.apart i T h' hmid
    have hT2 : h''.IsTuple T #[u, v] := hT.at fun o e => hk' T o hTw e
    obtain ⟨o, ho, hcl, m, hd⟩ := hT2
    have fT : H T = none := I.hok.fresh hsz
    have new : ObjOk X.prog X.w (upd H T (.tup [x, y])) h'' T (.tup [x, y]) :=
      ⟨by show 2 ≤ sizeLine; decide, [u, v], .cons rx (.cons ry .nil), ⟨o, ho, hcl, m, hd⟩⟩
    have I1 : Inv X pins σ (upd H T (.tup [x, y])) { s with heap := h'', toks := tk } :=
      I.turnedNew (ch := wr) (fun b ob hb q => hk' b ob hb (hk b ob hb q)) (fun b hb => hf b (hwr b hb)) hsz new
    refine ⟨.ref T, _, I1, rfl, ⟨T, x, y, rfl, fT, rfl, hfy⟩, hall _ _ hst', fun b hb => ?_⟩
    obtain ⟨ob, hob, _⟩ := obj i s.heap st b hb
    rw [upd_ne (Nat.ne_of_lt (Nat.lt_of_lt_of_le (Heap.lt_size hob) hsz))]
    exact (hf b hb).1
  done := by
    intro X hP hw hK hc i pins s σ H E I hf st hg
    obtain ⟨fp', n, Pt, St, Mid, W, hst, hall, _, hstop⟩ := walk X hP hw hK hc i pins s σ H I st (.inr hg)
    have hn := hstop hg
    subst hP hw hK hn
    refine W.done s _ _ hst fun h' tk hk => ⟨rfl, ?_⟩
    exact I.turnedL (ch := wr) hk (fun b hb => hf b (hwr b hb))
  self := self
/-- enumerate over a list, a tuple -/
def goE (k : Bool) (K : PySem.W.Frag) (a : Addr) : Nat → Hp → Prop := fun i H => ∃ (xs : List V) (x : V), SqK k K H a xs ∧ xs[i]? = some x
def fE (k : Bool) (K : PySem.W.Frag) (a : Addr) (c : Int) : Nat → Hp → V → V → Prop := fun i H x y => x = .int (c + (i : Int)) ∧ ∀ xs, SqK k K H a xs → xs[i]? = some y
def stopE (k : Bool) (K : PySem.W.Frag) (a : Addr) : Nat → Hp → Prop := fun i H => ∃ xs : List V, SqK k K H a xs ∧ xs.length = i
abbrev ItE (k : Bool) (K : PySem.W.Frag) (a : Addr) (c : Int) : It := ItP (goE k K a) (fE k K a c) (stopE k K a)
theorem turn_enumK {P : Program} {w : World} {K : PySem.W.Frag} {elts : List Expr} {kk : Nat} {tpos : Pos} (k : Bool) (c : Int) (a e it : Addr) (hei : e ≠ it) (hae : a ≠ e) (hai : a ≠ it) :
    Turn P w K (.Tuple elts kk tpos) (ItE k K a c) [e, it] e (fun i h => (∃ old, IsEnum h e it (c + (i : Int)) old) ∧ IsIt k h it a i) :=
  turn_pairs (wr := [e, it]) (by simp) (fun _ h => h)
    (fun i h st b hb => by
      obtain ⟨⟨old, he⟩, hi⟩ := st
      rcases (show b = e ∨ b = it by simpa using hb) with z | z
      · rw [z]; exact ⟨_, he, fun v q => nomatch q⟩
      · rw [z]; exact isIt_obj hi)
    (fun i h h' st hk => ⟨by obtain ⟨⟨old, he⟩, _⟩ := st; exact ⟨old, hk e (by simp) _ he⟩, isIt_keep st.2 fun o q => hk it (by simp) o q⟩)
    (by
      intro X hP hw hK hc i pins s σ H I st hgs
      subst hP hw hK
      obtain ⟨xs, hq⟩ : ∃ xs, SqK k X.K H a xs := by
        rcases hgs with ⟨xs, _, h, _⟩ | ⟨xs, h, _⟩ <;> exact ⟨xs, h⟩
      obtain ⟨its, rv, hsq⟩ := sqk_at I hq
      have D := draws_k (k := k) (P := X.prog) (w := X.w) (A := X.A.in1) (it := it) (I.ok.hd hc) hai its.toArray
      have hl := rv.length
      refine ⟨_, _, _, _, _, WalksT.enumFrom c D e hei (by simp [hei, Ne.symm hae]) (by simp), ⟨st.1, st.2, hsq⟩, fun j h q => ⟨q.1, q.2.1⟩, ?_, ?_⟩
      · rintro ⟨ys, y, h1, h2⟩
        have e := sqk_inj I h1 hq
        subst e
        have hi := (List.getElem?_eq_some_iff.mp h2).1
        refine ⟨by rw [List.size_toArray]; omega, ?_⟩
        rintro vals ⟨t, u, hu, rfl⟩
        obtain ⟨u', hu', ru⟩ := rv.get h2
        have : u' = u := by simpa [hu'] using hu
        subst this
        exact ⟨.int (c + (i : Int)), y, _, _, rfl, ⟨t, rfl⟩, ru, rfl, fun zs hz => by rw [sqk_inj I hz hq]; exact h2⟩
      · rintro ⟨ys, h1, h2⟩
        rw [List.size_toArray, ← hl, ← h2, sqk_inj I h1 hq])
    (fun A i s Q E st h => by obtain ⟨⟨_, he⟩, _⟩ := st; exact wpAny_pyIter_enum he h)
/-- zip over lists, tuples in any mix -/
def goZ (k1 k2 : Bool) (K : PySem.W.Frag) (a b : Addr) : Nat → Hp → Prop := fun i H => ∃ (xs ys : List V) (x y : V), SqK k1 K H a xs ∧ SqK k2 K H b ys ∧ xs[i]? = some x ∧ ys[i]? = some y
def fZ (k1 k2 : Bool) (K : PySem.W.Frag) (a b : Addr) : Nat → Hp → V → V → Prop := fun i H x y => (∀ xs, SqK k1 K H a xs → xs[i]? = some x) ∧ ∀ ys, SqK k2 K H b ys → ys[i]? = some y
def stopZ (k1 k2 : Bool) (K : PySem.W.Frag) (a b : Addr) : Nat → Hp → Prop := fun i H => ∃ xs ys : List V, SqK k1 K H a xs ∧ SqK k2 K H b ys ∧ i = min xs.length ys.length
abbrev ItZ (k1 k2 : Bool) (K : PySem.W.Frag) (a b : Addr) : It := ItP (goZ k1 k2 K a b) (fZ k1 k2 K a b) (stopZ k1 k2 K a b)
theorem turn_zipK {P : Program} {w : World} {K : PySem.W.Frag} {elts : List Expr} {kk : Nat} {tpos : Pos} (k1 k2 : Bool) (a b z TI TO i1 i2 : Addr) (S : ZipSep2 z TI TO i1 i2 [i1, a] [i2, b]) (ha1 : a ≠ i1) (hb2 : b ≠ i2) :
    Turn P w K (.Tuple elts kk tpos) (ItZ k1 k2 K a b) [z, TI, TO, i1, i2] z
      (fun i h => IsZip h z TI TO .none ∧ IsTupOf2 h TI (.ref i1) (.ref i2) ∧ (∃ a1 a2, IsTupOf2 h TO a1 a2) ∧ IsIt k1 h i1 a i ∧ IsIt k2 h i2 b i) :=
  turn_pairs (wr := [z, TO, i1, i2]) (by simp) (fun _ h => by simp at h ⊢; rcases h with h | h | h | h <;> simp [h])
    (fun i h st c hc => by
      obtain ⟨hz, hTI, ⟨a1, a2, hTO⟩, h1, h2⟩ := st
      rcases (show c = z ∨ c = TI ∨ c = TO ∨ c = i1 ∨ c = i2 by simpa using hc) with e | e | e | e | e
      · rw [e]; exact ⟨_, hz, fun v q => nomatch q⟩
      · rw [e]; exact ⟨_, hTI, fun v q => nomatch q⟩
      · rw [e]; exact ⟨_, hTO, fun v q => nomatch q⟩
      · rw [e]; exact isIt_obj h1
      · rw [e]; exact isIt_obj h2)
    (fun i h h' st hk => by
      obtain ⟨hz, hTI, ⟨a1, a2, hTO⟩, h1, h2⟩ := st
      exact ⟨hk z (by simp) _ hz, hk TI (by simp) _ hTI, ⟨a1, a2, hk TO (by simp) _ hTO⟩, isIt_keep h1 fun o q => hk i1 (by simp) o q, isIt_keep h2 fun o q => hk i2 (by simp) o q⟩)
    (by
      intro X hP hw hK hc i pins s σ H I st hgs
      subst hP hw hK
      obtain ⟨xs, ys, hq1, hq2⟩ : ∃ xs ys, SqK k1 X.K H a xs ∧ SqK k2 X.K H b ys := by
        rcases hgs with ⟨xs, ys, _, _, h, h', _⟩ | ⟨xs, ys, h, h', _⟩ <;> exact ⟨xs, ys, h, h'⟩
      obtain ⟨its1, rv1, hsq1⟩ := sqk_at I hq1
      obtain ⟨its2, rv2, hsq2⟩ := sqk_at I hq2
      have D1 := draws_k (k := k1) (P := X.prog) (w := X.w) (A := X.A.in1) (it := i1) (I.ok.hd hc) ha1 its1.toArray
      have D2 := draws_k (k := k2) (P := X.prog) (w := X.w) (A := X.A.in1) (it := i2) (I.ok.hd hc) hb2 its2.toArray
      have hl1 := rv1.length
      have hl2 := rv2.length
      obtain ⟨hz, hTI, hTO, h1, h2⟩ := st
      refine ⟨_, _, _, _, _, WalksT.zipD2 S D1 D2, ⟨hz, hTI, hTO, ⟨h1, hsq1⟩, ⟨h2, hsq2⟩⟩, fun j h q => ⟨q.1, q.2.1, q.2.2.1, q.2.2.2.1.1, q.2.2.2.2.1⟩, ?_, ?_⟩
      · rintro ⟨us, ws, x, y, g1, g2, g3, g4⟩
        have e1 := sqk_inj I g1 hq1
        have e2 := sqk_inj I g2 hq2
        subst e1 e2
        have hi1 := (List.getElem?_eq_some_iff.mp g3).1
        have hi2 := (List.getElem?_eq_some_iff.mp g4).1
        refine ⟨by simp only [List.size_toArray]; omega, ?_⟩
        rintro vals ⟨u, v, hu, hv, rfl⟩
        obtain ⟨u', hu', ru⟩ := rv1.get g3
        obtain ⟨v', hv', rv⟩ := rv2.get g4
        have : u' = u := by simpa [hu'] using hu
        subst this
        have : v' = v := by simpa [hv'] using hv
        subst this
        exact ⟨x, y, _, _, rfl, ru, rv, fun zs hz => by rw [sqk_inj I hz hq1]; exact g3, fun zs hz => by rw [sqk_inj I hz hq2]; exact g4⟩
      · rintro ⟨us, ws, g1, g2, g3⟩
        rw [g3, sqk_inj I g1 hq1, sqk_inj I g2 hq2]
        simp only [List.size_toArray, ← hl1, ← hl2])
    (fun A i s Q E st h => wpAny_pyIter_zip st.1 h)

/-! ### what is walked, over trees -/
def rangeD (lo : Int) (n : Nat) : List D := (List.range n).map fun (i : Nat) => D.int (lo + (i : Int))
def enumD : Int → List D → List D
  | _, [] => []
  | c, x :: xs => .tup [.int c, x] :: enumD (c + 1) xs
def zipD : List D → List D → List D
  | x :: xs, y :: ys => .tup [x, y] :: zipD xs ys
  | _, _ => []
def dSeq (te : DE) : DI := fun ρ M Ψ => te ρ M fun x M1 => match seqA M1 x with
  | some xs => Ψ xs (fun M2 => seqA M2 x = some xs) M1
  | none => False
def dRng1 (ta : DE) : DI := fun ρ M Ψ => ta ρ M fun x M1 => match x with
  | .int j => -(2 ^ 62) ≤ j ∧ j < 2 ^ 62 ∧ Ψ (rangeD 0 j.toNat) (fun _ => True) M1
  | _ => False
def dRng2 (ta tb : DE) : DI := fun ρ M Ψ => ta ρ M fun x M1 => tb ρ M1 fun y M2 => match x with
  | .int i => (match y with
    | .int j => (-(2 ^ 62) ≤ i ∧ i < 2 ^ 62 ∧ -(2 ^ 62) ≤ j ∧ j < 2 ^ 62) ∧ Ψ (rangeD i (j - i).toNat) (fun _ => True) M2
    | _ => False)
  | _ => False
def dEnum (c : Int) (te : DE) : DI := fun ρ M Ψ => te ρ M fun x M1 => match seqA M1 x with
  | some xs => Ψ (enumD c xs) (fun M2 => seqA M2 x = some xs) M1
  | none => False
def dZip (ta tb : DE) : DI := fun ρ M Ψ => ta ρ M fun x M1 => tb ρ M1 fun y M2 => match seqA M2 x, seqA M2 y with
  | some xs, some ys => Ψ (zipD xs ys) (fun M3 => seqA M3 x = some xs ∧ seqA M3 y = some ys) M2
  | _, _ => False
theorem enumD_length : ∀ (xs : List D) (c : Int), (enumD c xs).length = xs.length
  | [], _ => rfl
  | x :: xs, c => by simp [enumD, enumD_length xs]
theorem enumD_get : ∀ (xs : List D) (c : Int) (i : Nat), (enumD c xs)[i]? = (xs[i]?).map fun x => .tup [.int (c + (i : Int)), x]
  | [], _, i => by simp [enumD]
  | x :: xs, c, 0 => by simp [enumD]
  | x :: xs, c, i + 1 => by
    simp only [enumD, List.getElem?_cons_succ, enumD_get xs (c + 1) i]
    rw [show c + 1 + (i : Int) = c + ((i + 1 : Nat) : Int) by omega]
theorem zipD_length : ∀ (xs ys : List D), (zipD xs ys).length = min xs.length ys.length
  | [], _ => by simp [zipD]
  | _ :: _, [] => by simp [zipD]
  | x :: xs, y :: ys => by simp only [zipD, List.length_cons, zipD_length xs ys]; omega
theorem zipD_get : ∀ (xs ys : List D) (i : Nat) (x y : D), xs[i]? = some x → ys[i]? = some y → (zipD xs ys)[i]? = some (.tup [x, y])
  | [], _, i, _, _, h, _ => by simp at h
  | _ :: _, [], i, _, _, _, h => by simp at h
  | x :: xs, y :: ys, 0, _, _, h, h' => by simp at h h'; subst h h'; rfl
  | x :: xs, y :: ys, i + 1, a, b, h, h' => by
    simp only [zipD, List.getElem?_cons_succ]
    exact zipD_get xs ys i a b (by simpa using h) (by simpa using h')
section
variable {K : PySem.W.Frag} {F F' : Addr → Prop} {H H' : Hp} {M M' : MS} {x y : D} {v : V} {xs : List D} {a : Addr}
/-- false: a tuple -/
def kindD : D → Bool
  | .tup _ => false
  | _ => true
/-- as seqA_rep, by the kind -/
theorem seqK_rep (am : AbsM K F H M) (r : Rep K F H x v) (h : seqA M x = some xs) : ∃ a vs, v = .ref a ∧ SqK (kindD x) K H a vs ∧ Reps K F H xs vs := by
  cases x with
  | tup ys =>
    simp only [seqA, Option.some.injEq] at h
    subst h
    obtain ⟨a, vs, e, h1, h2⟩ := rep_tup r
    exact ⟨a, vs, e, h1, h2⟩
  | lst ys =>
    simp only [seqA, Option.some.injEq] at h
    subst h
    simp only [Rep] at r
    obtain ⟨a, vs, e, _, h1, h2⟩ := r
    exact ⟨a, vs, e, SqL.of h1, h2⟩
  | scr ns =>
    simp only [seqA, Option.some.injEq] at h
    subst h
    simp only [Rep] at r
    obtain ⟨a, e, h1⟩ := r
    exact ⟨a, _, e, h1.sq, Reps.ints ns⟩
  | ref a =>
    simp only [seqA] at h
    split at h
    · rename_i zs e
      cases h
      obtain ⟨_, vs, h1, h2⟩ := am.mp a _ e
      exact ⟨a, vs, r, SqL.of h1, h2⟩
    · cases h
  | _ => simp [seqA] at h
/-- two readings of one place -/
theorem seqK_at (am : AbsM K F H M) (r : Rep K F H x (.ref a)) (h : seqA M x = some xs) : ∃ vs, SqK (kindD x) K H a vs ∧ Reps K F H xs vs := by
  obtain ⟨b, vs, e, h1, h2⟩ := seqK_rep am r h
  cases e
  exact ⟨vs, h1, h2⟩
end
/-- what a sequence's items give to a walk -/
theorem src_seq {K : PySem.W.Frag} {F : Addr → Prop} {H : Hp} {M : MS} {x : D} {a : Addr} {xs : List D} (r : Rep K F H x (.ref a))
    {J : It} (hgo : ∀ i H, J.go i H ↔ ∃ (vs : List V) (y : V), SqK (kindD x) K H a vs ∧ vs[i]? = some y) (hst : ∀ i H (vs : List V), SqK (kindD x) K H a vs → vs.length = i → J.stop i H)
    (hy : ∀ i H y H', J.yld i H y H' → H' = H ∧ ∀ vs : List V, SqK (kindD x) K H a vs → vs[i]? = some y) : Src K F H M J xs (fun M' => seqA M' x = some xs) where
  go := fun i F' H' M' l am g hi => by
    obtain ⟨vs, h1, h2⟩ := seqK_at am (r.mono l.le) g
    obtain ⟨y, e, _⟩ := h2.get (List.getElem?_eq_getElem hi)
    exact (hgo i H').2 ⟨vs, y, h1, e⟩
  stop := fun F' H' M' l am g => by
    obtain ⟨vs, h1, h2⟩ := seqK_at am (r.mono l.le) g
    exact hst _ _ vs h1 h2.length.symm
  yld := fun i F' H' M' y H'' l am g hi q => by
    obtain ⟨rfl, e⟩ := hy _ _ _ _ q
    obtain ⟨vs, h1, h2⟩ := seqK_at am (r.mono l.le) g
    obtain ⟨y', e', ry⟩ := h2.get (List.getElem?_eq_getElem hi)
    rw [e vs h1] at e'
    cases e'
    exact ⟨F', _, Lm.refl, am, List.getElem?_eq_getElem hi, ry⟩
section
variable {X : Cx} {tg : Expr}
theorem pi_seq {e : Expr} {te : DE} (he : PE X e (lo X.K te)) : PI X tg e (loI X.K (dSeq te)) := by
  refine ⟨fun pins s σ H R I h => ?_⟩
  obtain ⟨F, M, ρ, Ψ, A, h, k⟩ := h
  refine thn (he.run pins s σ H (fun v H' => loQ X.K F H M _ v H') I ⟨F, M, ρ, _, A, h, fun v H' q => q⟩) fun v s1 ⟨x, H1, I1, r1, q1⟩ => ?_
  obtain ⟨F1, M1, d, l1, a1, rd, h1⟩ := q1
  split at h1
  · rename_i xs ex
    obtain ⟨a, vs, e, hq, rs⟩ := seqK_rep a1 rd ex
    subst e
    cases r1
    have nf : ∀ o, Inv X pins σ H1 { s1 with heap := s1.heap.push o } := fun o => I1.kept (t' := s1.toks) fun b o' e => Heap.get?_push_of_some _ e
    have fp : ∀ b ∈ [s1.heap.objs.size], FpOk X pins H1 b := fun b hb => by
      have e : b = s1.heap.objs.size := by simpa using hb
      subst e
      exact I1.fpOk (Nat.le_refl _) (I1.hok.fresh (Nat.le_refl _))
    cases hk : kindD d with
    | true =>
      rw [hk] at hq
      obtain ⟨its, rv, p, hz⟩ := I1.list hq
      refine wpAny_pyIter_list p.isList ⟨s1.heap.objs.size, [s1.heap.objs.size], _, _, H1, rfl, nf _, turn_list a _, ⟨_, Heap.get?_push_size _ rfl, rfl, rfl⟩, fp, ?_⟩
      refine k _ _ _ _ _ _ l1 a1 (src_seq rd (fun i H => ?_) (fun i H vs hv hl => ?_) (fun i H y H' hy => ?_)) h1
      · rw [hk]; exact Iff.rfl
      · rw [hk] at hv; exact ⟨vs, hv, Nat.le_of_eq hl⟩
      · rw [hk]; exact hy
    | false =>
      rw [hk] at hq
      obtain ⟨its, rv, p, hz⟩ := I1.tuple hq
      refine wpAny_pyIter_tuple (show s1.heap.IsTuple a its.toArray from p) ⟨s1.heap.objs.size, [s1.heap.objs.size], _, _, H1, rfl, nf _, turn_tuple a _, ⟨_, Heap.get?_push_size _ rfl, rfl, rfl⟩, fp, ?_⟩
      refine k _ _ _ _ _ _ l1 a1 (src_seq rd (fun i H => ?_) (fun i H vs hv hl => ?_) (fun i H y H' hy => ?_)) h1
      · rw [hk]; exact Iff.rfl
      · rw [hk] at hv; exact ⟨vs, hv, Nat.le_of_eq hl⟩
      · rw [hk]; exact hy
  · exact h1.elim
theorem PI.imp {e : Expr} {t t' : TI} (h : PI X tg e t) (hi : ∀ σ H R, t' σ H R → t σ H R) : PI X tg e t' := ⟨fun pins s σ H R I q => h.run pins s σ H R I (hi _ _ _ q)⟩
theorem src_rng {K : PySem.W.Frag} {F : Addr → Prop} {H : Hp} {M : MS} (lo : Int) (n : Nat) : Src K F H M (Itr lo n) (rangeD lo n) (fun _ => True) where
  go := fun i F' H' M' l am g hi => by
    show i < n
    simpa [rangeD] using hi
  stop := fun F' H' M' l am g => by
    show n ≤ (rangeD lo n).length
    simp [rangeD]
  yld := fun i F' H' M' y H'' l am g hi q => by
    obtain ⟨rfl, rfl⟩ := q
    refine ⟨F', .int (lo + i), Lm.refl, am, ?_, rfl⟩
    have hi' : i < n := by simpa [rangeD] using hi
    simp [rangeD, List.getElem?_map, List.getElem?_range hi']
theorem pi_rng1 {a : Expr} {ta : DE} {p pos : Pos} (hg : Gl X "range") (hm : X.mg "range" = none) (ha : PE X a (lo X.K ta)) (hs : starEach [a] X.env = (false, eval a X.env) :: starEach [] X.env) (hs0 : starEach [a] X.env = [(false, eval a X.env)]) : PI X tg (.Call (.Name "range" p) [a] [] pos) (loI X.K (dRng1 ta)) :=
  PI.imp (pi_range1 hg hm (pa_cons ha pa_nil hs) hs0) fun σ H R h => by
    obtain ⟨F, M, ρ, Ψ, A, h, k⟩ := h
    refine ⟨F, M, ρ, _, A, h, fun v H1 q => ?_⟩
    obtain ⟨F1, M1, d, l1, a1, rd, h1⟩ := q
    split at h1
    · rename_i j
      obtain ⟨g1, g2, h1⟩ := h1
      exact ⟨j, by rw [rep_int rd], g1, g2, k _ _ _ _ _ _ l1 a1 (src_rng 0 _) h1⟩
    · exact h1.elim
theorem pi_rng2 {a b : Expr} {ta tb : DE} {p pos : Pos} (hg : Gl X "range") (hm : X.mg "range" = none) (ha : PE X a (lo X.K ta)) (hb : PE X b (lo X.K tb)) (hs1 : starEach (a :: [b]) X.env = (false, eval a X.env) :: starEach [b] X.env) (hs3 : starEach [b] X.env = (false, eval b X.env) :: starEach [] X.env)
    (hs : starEach [a, b] X.env = [(false, eval a X.env), (false, eval b X.env)]) (hs2 : starEach [b] X.env = [(false, eval b X.env)]) :
    PI X tg (.Call (.Name "range" p) [a, b] [] pos) (loI X.K (dRng2 ta tb)) :=
  PI.imp (pi_range2 hg hm (pa_cons ha (pa_cons hb pa_nil hs3) hs1) hs hs2) fun σ H R h => by
    obtain ⟨F, M, ρ, Ψ, A, h, k⟩ := h
    refine ⟨F, M, ρ, _, A, h, fun v H1 ⟨F1, M1, d, l1, a1, rd, h1⟩ => ⟨F1, M1, ρ, _, ⟨a1, A.env.mono l1.le⟩, h1, fun w H2 ⟨F2, M2, e, l2, a2, re, h2⟩ => ?_⟩⟩
    cases d with
    | int i =>
      cases e with
      | int j =>
        dsimp only at h2
        exact ⟨i, j, by rw [rep_int rd, rep_int re], h2.1, k _ _ _ _ _ _ (l1.trans l2) a2 (src_rng i _) h2.2⟩
      | _ => exact h2.elim
    | _ => cases e <;> exact h2.elim
end
/-! ### enumerate(v) -/
theorem meetsEnum1 {v : Value} {o : Obj} {H : Heap → Prop} (B : Begins v o H) :
    Meets (Builtin.«enumerate.__new__» ⟨[.type "enumerate", v], []⟩) (fun _ R s => H s.heap ∧ R (.ok (.ret (.ref (s.heap.push o).objs.size)))
      { s with heap := (s.heap.push o).push { cls := .type "enumerate", data := .fields #[.none, .bool false, .ref s.heap.objs.size, rawInt 0, .none, .none] } }) :=
  .of_wp fun prog w A R s h => by
    rcases s with ⟨hp, g, d, tk, os⟩
    rcases h with ⟨h1, h⟩
    have hse := sub_enumerate
    have qi : ∀ {A' : Around} {E' : Value → Shared → Prop} {Q' : Value → Shared → Prop}, Q' (.ref hp.objs.size) ⟨hp.push o, g, d, tk, os⟩ → wpAny (model prog w) A' (pyIter v) Q' E' ⟨hp, g, d, tk, os⟩ := fun q => B.iter prog w _ _ ⟨hp, g, d, tk, os⟩ _ h1 q
    wp_walk using qi
    refine wpAny_stack_any fun _ => wpAny_pure ?_
    split
    · rename_i c _ _ _ _ _
      cases (c == Value.type "enumerate") <;> (wp_walk using qi; exact ⟨_, rfl, h⟩)
    · wp_walk using qi
      exact ⟨_, rfl, h⟩
theorem begin_enum1 {prog : Program} {w : World} {A : Around} {E : Value → Shared → Prop} {s : Shared} {v : Value} {o : Obj} {H : Heap → Prop} {Q : Value → Shared → Prop} (B : Begins v o H) (h1 : H s.heap)
    (h : ∀ h', IsEnum h' (s.heap.objs.size + 1) s.heap.objs.size 0 .none → h'.get? s.heap.objs.size = some o → (∀ b o, s.heap.get? b = some o → h'.get? b = some o) → Q (.ref (s.heap.objs.size + 1)) { s with heap := h' }) :
    wpAny (model prog w) A (call (.type "enumerate") [v]) Q E s := by
  refine callType_new F.called_enumerate (by decide) (F.typeCall_enumerate_1 _) (F.newCall_enumerate_1 _) (fun obj => F.args_object_init_2 obj _) F.entry_enumerate_new (meetsEnum1 B) ⟨h1, ?_⟩
  have hz : (s.heap.push o).objs.size = s.heap.objs.size + 1 := Heap.size_push ..
  have he := Heap.get?_push_size (s.heap.push o) (o := { cls := .type "enumerate", data := .fields #[.none, .bool false, .ref s.heap.objs.size, rawInt 0, .none, .none] }) rfl
  show _ ∧ _
  rw [hz] at he ⊢
  refine ⟨⟨_, he, rfl⟩, ?_⟩
  exact h _ he (Heap.get?_push_of_some _ (Heap.get?_push_size _ B.free)) fun b o x => Heap.get?_push_of_some _ (Heap.get?_push_of_some _ x)
def objK (k : Bool) (a : Addr) : Obj := match k with
  | true => { cls := .type "list_iterator", data := .fields #[.ref a, .int 0 0] }
  | false => { cls := .type "tuple_iterator", data := .fields #[.ref a, .int 0 0] }
theorem beginsK (k : Bool) (a : Addr) (its : Array Value) : Begins (.ref a) (objK k a) (fun h => IsSq k h a its) := by
  cases k with
  | true => exact begins_list a its
  | false => exact begins_tuple a its
theorem isItK {k : Bool} {h : Heap} {it a : Addr} (e : h.get? it = some (objK k a)) : IsIt k h it a 0 := by
  cases k with
  | true => exact ⟨_, e, rfl, rfl⟩
  | false => exact ⟨_, e, rfl, rfl⟩
theorem isSq_lt {k : Bool} {h : Heap} {a : Addr} {its : Array Value} (e : IsSq k h a its) : a < h.objs.size := by
  cases k with
  | true => obtain ⟨o, e, _⟩ := e; exact Heap.lt_size e
  | false => obtain ⟨o, e, _⟩ := e; exact Heap.lt_size e
/-- a walk of pairs, over trees -/
theorem src_pairs {K : PySem.W.Frag} {F : Addr → Prop} {H : Hp} {M : MS} {go : Nat → Hp → Prop} {f : Nat → Hp → V → V → Prop} {stop : Nat → Hp → Prop} {items : List D} {G : MS → Prop}
    (hgo : ∀ i F' H' M', Lm K F H M F' H' M' → AbsM K F' H' M' → G M' → i < items.length → go i H')
    (hst : ∀ F' H' M', Lm K F H M F' H' M' → AbsM K F' H' M' → G M' → stop items.length H')
    (hf : ∀ i F' H' M' u v, Lm K F H M F' H' M' → AbsM K F' H' M' → G M' → i < items.length → f i H' u v → ∃ x y, items[i]? = some (.tup [x, y]) ∧ Rep K F' H' x u ∧ Rep K F' H' y v) : Src K F H M (ItP go f stop) items G where
  go := hgo
  stop := hst
  yld := fun i F' H' M' x H'' l am g hi q => by
    obtain ⟨T, u, v, rfl, hT, rfl, h1⟩ := q
    obtain ⟨a, b, e, ra, rb⟩ := hf i F' H' M' u v l am g hi h1
    have l2 := Lm.laid (o := .tup [u, v]) am hT
    refine ⟨F', .tup [a, b], l2, am.laid hT, e, ?_⟩
    simp only [Rep]
    exact ⟨T, [u, v], rfl, .inl (.inl upd_same), Reps.cons (ra.mono l2.le) (Reps.cons (rb.mono l2.le) Reps.nil)⟩
section
variable {X : Cx} {elts : List Expr} {kk : Nat} {tpos : Pos}
theorem pi_enumK {e : Expr} {te : DE} {p pos : Pos} (hg : Gl X "enumerate") (hm : X.mg "enumerate" = none) (he : PE X e (lo X.K te)) (hs0 : starEach [e] X.env = (false, eval e X.env) :: starEach [] X.env) (hs : starEach [e] X.env = [(false, eval e X.env)]) :
    PI X (.Tuple elts kk tpos) (.Call (.Name "enumerate" p) [e] [] pos) (loI X.K (dEnum 0 te)) := by
  refine ⟨fun pins s σ H R I h => ?_⟩
  obtain ⟨F, M, ρ, Ψ, A, h, k⟩ := h
  refine Call_ (ld_blt I hg hm boot_enumerate (PyProof.Rows.callWith_type1 (thn ((pa_cons he pa_nil hs0).run pos pins s σ H (fun vs H' => ∃ v, vs = [v] ∧ loQ X.K F H M _ v H') I ⟨F, M, ρ, _, A, h, fun v H' q => ⟨v, rfl, q⟩⟩) fun us s1 ⟨vs, H1, I1, r1, q1⟩ => ?_) hs rfl))
  obtain ⟨v, rfl, F1, M1, d, l1, a1, rd, h1⟩ := q1
  cases r1 with
  | cons r rr =>
  cases rr
  split at h1
  · rename_i xs ex
    obtain ⟨a, vs, e, hq, rs⟩ := seqK_rep a1 rd ex
    subst e
    cases r
    obtain ⟨its, rv, hsq⟩ := sqk_at I1 hq
    refine begin_enum1 (beginsK (kindD d) a its.toArray) hsq fun h' he hit hk => wpAny_pyIter_enum he ?_
    have I2 : Inv X pins σ H1 { s1 with heap := h' } := I1.kept (t' := s1.toks) hk
    have hal := isSq_lt hsq
    refine ⟨s1.heap.objs.size + 1, [s1.heap.objs.size + 1, s1.heap.objs.size], _, _, H1, rfl, I2, turn_enumK (kindD d) 0 a (s1.heap.objs.size + 1) s1.heap.objs.size (Nat.succ_ne_self _) (Nat.ne_of_lt (Nat.lt_succ_of_lt hal)) (Nat.ne_of_lt hal), ⟨⟨.none, he⟩, isItK hit⟩, fun b hb => ?_, ?_⟩
    · have e' : b = s1.heap.objs.size + 1 ∨ b = s1.heap.objs.size := by simpa using hb
      have hle : s1.heap.objs.size ≤ b := by
        rcases e' with z | z
        · rw [z]; exact Nat.le_add_right _ _
        · rw [z]; exact Nat.le_refl _
      exact I1.fpOk hle (I1.hok.fresh hle)
    · refine k _ _ _ _ _ _ l1 a1 (src_pairs (fun i F' H' M' l am g hi => ?_) (fun F' H' M' l am g => ?_) fun i F' H' M' u v l am g hi q => ?_) h1
      · obtain ⟨vs, z1, z2⟩ := seqK_at am (rd.mono l.le) g
        rw [enumD_length] at hi
        obtain ⟨y, ey, _⟩ := z2.get (List.getElem?_eq_getElem hi)
        exact ⟨vs, y, z1, ey⟩
      · obtain ⟨vs, z1, z2⟩ := seqK_at am (rd.mono l.le) g
        exact ⟨vs, z1, by rw [enumD_length]; exact z2.length.symm⟩
      · obtain ⟨vs, z1, z2⟩ := seqK_at am (rd.mono l.le) g
        rw [enumD_length] at hi
        obtain ⟨q1, q2⟩ := q
        obtain ⟨y, ey, ry⟩ := z2.get (List.getElem?_eq_getElem hi)
        rw [q2 vs z1] at ey
        cases ey
        exact ⟨.int (0 + (i : Int)), _, by rw [enumD_get, List.getElem?_eq_getElem hi]; rfl, q1, ry⟩
  · exact h1.elim
theorem pi_zipK {e e2 : Expr} {te te2 : DE} {p pos : Pos} (hg : Gl X "zip") (hm : X.mg "zip" = none) (he : PE X e (lo X.K te)) (he2 : PE X e2 (lo X.K te2)) (hs2 : starEach [e2] X.env = (false, eval e2 X.env) :: starEach [] X.env)
    (hs : starEach [e, e2] X.env = (false, eval e X.env) :: starEach [e2] X.env) (hpl : (backTo pos (starEach [e2] X.env)).any (·.1) = false) :
    PI X (.Tuple elts kk tpos) (.Call (.Name "zip" p) [e, e2] [] pos) (loI X.K (dZip te te2)) := by
  refine ⟨fun pins s σ H R I h => ?_⟩
  obtain ⟨F, M, ρ, Ψ, A, h, k⟩ := h
  refine Call_ (ld_blt I hg hm PyProof.Rows.boot_zip (PyProof.Rows.callWith_type1 (thn ((pa_cons he (pa_cons he2 pa_nil hs2) hs).run pos pins s σ H
    (fun vs H' => ∃ v w F1 M1 d1 d2, vs = [v, w] ∧ Lm X.K F H M F1 H' M1 ∧ AbsM X.K F1 H' M1 ∧ Rep X.K F1 H' d1 v ∧ Rep X.K F1 H' d2 w ∧ (match seqA M1 d1, seqA M1 d2 with
      | some xs, some ys => Ψ (zipD xs ys) (fun M3 => seqA M3 d1 = some xs ∧ seqA M3 d2 = some ys) M1
      | _, _ => False)) I
    ⟨F, M, ρ, _, A, h, fun v H1 ⟨F1, M1, d1, l1, a1, rd1, h1⟩ => ⟨F1, M1, ρ, _, ⟨a1, A.env.mono l1.le⟩, h1, fun w H2 ⟨F2, M2, d2, l2, a2, rd2, h2⟩ => ⟨v, w, F2, M2, d1, d2, rfl, l1.trans l2, a2, rd1.mono l2.le, rd2, h2⟩⟩⟩) fun us s1 ⟨vs, H1, I1, r1, q1⟩ => ?_) hs hpl))
  obtain ⟨v, w, F1, M1, d1, d2, rfl, l1, a1, rd1, rd2, h1⟩ := q1
  cases r1 with
  | cons r rr =>
  cases rr with
  | cons r' rr =>
  cases rr
  split at h1
  · rename_i xs ys ex ey
    obtain ⟨a, vs, e1, hq1, rs1⟩ := seqK_rep a1 rd1 ex
    obtain ⟨b, ws, e2, hq2, rs2⟩ := seqK_rep a1 rd2 ey
    subst e1
    subst e2
    cases r
    cases r'
    obtain ⟨its1, rv1, hsq1⟩ := sqk_at I1 hq1
    obtain ⟨its2, rv2, hsq2⟩ := sqk_at I1 hq2
    have ha := isSq_lt hsq1
    have hb := isSq_lt hsq2
    refine zip_begins2 (beginsK (kindD d1) a its1.toArray) (beginsK (kindD d2) b its2.toArray) hsq1 hsq2 fun h' hz hTI hTO hi1 hi2 hsz hk => wpAny_pyIter_zip hz ?_
    have I2 : Inv X pins σ H1 { s1 with heap := h' } := I1.kept (t' := s1.toks) hk
    have S : ZipSep2 (s1.heap.objs.size + 4) (s1.heap.objs.size + 2) (s1.heap.objs.size + 3) s1.heap.objs.size (s1.heap.objs.size + 1) [s1.heap.objs.size, a] [s1.heap.objs.size + 1, b] :=
      zip_sep2 (fun c hc => by rw [List.mem_singleton.mp hc]; exact ha) (fun c hc => by rw [List.mem_singleton.mp hc]; exact hb)
    refine ⟨s1.heap.objs.size + 4, [s1.heap.objs.size + 4, s1.heap.objs.size + 2, s1.heap.objs.size + 3, s1.heap.objs.size, s1.heap.objs.size + 1], _, _, H1, rfl, I2, turn_zipK (kindD d1) (kindD d2) a b _ _ _ _ _ S (Nat.ne_of_lt ha) (Nat.ne_of_lt (Nat.lt_succ_of_lt hb)), ⟨hz, hTI, ⟨_, _, hTO⟩, isItK hi1, isItK hi2⟩, fun c hc => ?_, ?_⟩
    · have e' : c = s1.heap.objs.size + 4 ∨ c = s1.heap.objs.size + 2 ∨ c = s1.heap.objs.size + 3 ∨ c = s1.heap.objs.size ∨ c = s1.heap.objs.size + 1 := by simpa using hc
      have hle : s1.heap.objs.size ≤ c := by
        rcases e' with z | z | z | z | z <;> rw [z]
        · exact Nat.le_add_right _ _
        · exact Nat.le_add_right _ _
        · exact Nat.le_add_right _ _
        · exact Nat.le_refl _
        · exact Nat.le_add_right _ _
      exact I1.fpOk hle (I1.hok.fresh hle)
    · refine k _ _ _ _ _ _ l1 a1 (src_pairs (fun i F' H' M' l am g hi => ?_) (fun F' H' M' l am g => ?_) fun i F' H' M' u v l am g hi q => ?_) h1
      · obtain ⟨vs, z1, z2⟩ := seqK_at am (rd1.mono l.le) g.1
        obtain ⟨ws, z3, z4⟩ := seqK_at am (rd2.mono l.le) g.2
        rw [zipD_length] at hi
        obtain ⟨y, ey, _⟩ := z2.get (List.getElem?_eq_getElem (show i < xs.length by omega))
        obtain ⟨y2, ey2, _⟩ := z4.get (List.getElem?_eq_getElem (show i < ys.length by omega))
        exact ⟨vs, ws, y, y2, z1, z3, ey, ey2⟩
      · obtain ⟨vs, z1, z2⟩ := seqK_at am (rd1.mono l.le) g.1
        obtain ⟨ws, z3, z4⟩ := seqK_at am (rd2.mono l.le) g.2
        exact ⟨vs, ws, z1, z3, by rw [zipD_length, z2.length, z4.length]⟩
      · obtain ⟨vs, z1, z2⟩ := seqK_at am (rd1.mono l.le) g.1
        obtain ⟨ws, z3, z4⟩ := seqK_at am (rd2.mono l.le) g.2
        rw [zipD_length] at hi
        obtain ⟨q1, q2⟩ := q
        obtain ⟨y, ey, ry⟩ := z2.get (List.getElem?_eq_getElem (show i < xs.length by omega))
        obtain ⟨y2, ey2, ry2⟩ := z4.get (List.getElem?_eq_getElem (show i < ys.length by omega))
        rw [q1 vs z1] at ey
        rw [q2 ws z3] at ey2
        cases ey
        cases ey2
        exact ⟨_, _, zipD_get _ _ _ _ _ (List.getElem?_eq_getElem (by omega)) (List.getElem?_eq_getElem (by omega)), ry, ry2⟩
  · exact h1.elim
end
end DL

namespace DL
open PySem PySem.Spec PyProof.Rows L2

/-! ### and, or, not; chains -/
section
variable {X : Cx} {a b c : Expr} {rest : List Expr} {ta tb tc : DE} {ua ub : DT} {pos : Pos}
theorem PW.imp {e : Expr} {t t' : TT} (h : PW X e t) (hi : ∀ σ H Q, t' σ H Q → t σ H Q) : PW X e t' := ⟨fun wh pins s σ H Q I q => h.run wh pins s σ H Q I (hi _ _ _ q)⟩
theorem q_and1 (ha : PT X a (loT X.K ua)) : PW X (.BoolOp .And [a] pos) (loT X.K ua) := pw_and1 ha
theorem q_or1 (ha : PT X a (loT X.K ua)) : PW X (.BoolOp .Or [a] pos) (loT X.K ua) := pw_or1 ha
theorem q_and (ha : PT X a (loT X.K ua)) (hb : PW X (.BoolOp .And (b :: rest) pos) (loT X.K ub)) : PW X (.BoolOp .And (a :: b :: rest) pos) (loT X.K (dAnd ua ub)) :=
  PW.imp (pw_and ha hb) fun σ H Q h => by
    obtain ⟨F, M, ρ, Φ, A, h, k⟩ := h
    refine ⟨F, M, ρ, _, A, h, fun c H1 F1 M1 l1 a1 h1 => ?_⟩
    cases c with
    | true => exact ⟨F1, M1, ρ, Φ, ⟨a1, A.env.mono l1.le⟩, h1, fun d H2 F2 M2 l2 a2 h2 => k d H2 F2 M2 (l1.trans l2) a2 h2⟩
    | false => exact k false H1 F1 M1 l1 a1 h1
theorem q_or (ha : PT X a (loT X.K ua)) (hb : PW X (.BoolOp .Or (b :: rest) pos) (loT X.K ub)) : PW X (.BoolOp .Or (a :: b :: rest) pos) (loT X.K (dOr ua ub)) :=
  PW.imp (pw_or ha hb) fun σ H Q h => by
    obtain ⟨F, M, ρ, Φ, A, h, k⟩ := h
    refine ⟨F, M, ρ, _, A, h, fun c H1 F1 M1 l1 a1 h1 => ?_⟩
    cases c with
    | false => exact ⟨F1, M1, ρ, Φ, ⟨a1, A.env.mono l1.le⟩, h1, fun d H2 F2 M2 l2 a2 h2 => k d H2 F2 M2 (l1.trans l2) a2 h2⟩
    | true => exact k true H1 F1 M1 l1 a1 h1
theorem q_one {op : BoolOp} (ha : PE X a (lo X.K ta)) : PE X (.BoolOp op [a] pos) (lo X.K ta) := pe_one ha
theorem q_andV (ha : PE X a (lo X.K ta)) (hb : PE X (.BoolOp .And (b :: rest) pos) (lo X.K tb)) : PE X (.BoolOp .And (a :: b :: rest) pos) (lo X.K (dAndV ta tb)) :=
  PE.imp (pe_and ha hb) fun σ H Q h => by
    obtain ⟨F, M, ρ, Φ, A, h, k⟩ := h
    refine ⟨F, M, ρ, _, A, h, fun v H1 ⟨F1, M1, x, l1, a1, r1, h1⟩ => ?_⟩
    cases x with
    | bl c =>
      refine ⟨c, r1, ?_⟩
      cases c with
      | true => exact ⟨F1, M1, ρ, Φ, ⟨a1, A.env.mono l1.le⟩, h1, fun d H2 q => k d H2 (q.le l1)⟩
      | false => exact k _ _ ((hB a1 h1).le l1)
    | _ => exact h1.elim
theorem q_orV (ha : PE X a (lo X.K ta)) (hb : PE X (.BoolOp .Or (b :: rest) pos) (lo X.K tb)) : PE X (.BoolOp .Or (a :: b :: rest) pos) (lo X.K (dOrV ta tb)) :=
  PE.imp (pe_or ha hb) fun σ H Q h => by
    obtain ⟨F, M, ρ, Φ, A, h, k⟩ := h
    refine ⟨F, M, ρ, _, A, h, fun v H1 ⟨F1, M1, x, l1, a1, r1, h1⟩ => ?_⟩
    cases x with
    | bl c =>
      refine ⟨c, r1, ?_⟩
      cases c with
      | false => exact ⟨F1, M1, ρ, Φ, ⟨a1, A.env.mono l1.le⟩, h1, fun d H2 q => k d H2 (q.le l1)⟩
      | true => exact k _ _ ((hB a1 h1).le l1)
    | _ => exact h1.elim
/-- not e as a value, e a bool -/
def dNotE (ta : DE) : DE := fun ρ M Φ => ta ρ M fun x M1 => match x with
  | .bl b => Φ (.bl (!b)) M1
  | _ => False
theorem q_notE (ha : PE X a (lo X.K ta)) : PE X (.UnaryOp .Not a pos) (lo X.K (dNotE ta)) :=
  PE.imp (pe_not ha) fun σ H Q h => by
    obtain ⟨F, M, ρ, Φ, A, h, k⟩ := h
    refine ⟨F, M, ρ, _, A, h, fun v H1 ⟨F1, M1, x, l1, a1, r1, h1⟩ => ?_⟩
    cases x with
    | bl c => exact ⟨c, r1, k _ _ ((hB a1 h1).le l1)⟩
    | _ => exact h1.elim
def dChain (R R' : D → D → MS → DQ → Prop) (ta tb tc : DE) : DE := fun ρ M Φ => ta ρ M fun x M1 => tb ρ M1 fun y M2 => R x y M2 fun z M3 => match z with
  | .bl k => if k = true then tc ρ M3 fun w M4 => R' y w M4 Φ else Φ (.bl false) M3
  | _ => False
theorem lo_chain {K : PySem.W.Frag} {R R' : D → D → MS → DQ → Prop} : ∀ σ H Q, lo K (dChain R R' ta tb tc) σ H Q → tChain (loR K R) (loR K R') (lo K ta) (lo K tb) (lo K tc) σ H Q := by
  rintro σ H Q ⟨F, M, ρ, Φ, A, h, k⟩
  refine ⟨F, M, ρ, _, A, h, fun vx H1 ⟨F1, M1, x, l1, a1, r1, h1⟩ => ⟨F1, M1, ρ, _, ⟨a1, A.env.mono l1.le⟩, h1, fun vy H2 ⟨F2, M2, y, l2, a2, r2, h2⟩ => ⟨F2, M2, x, y, _, a2, r1.mono l2.le, r2, h2, fun v H3 ⟨F3, M3, z, l3, a3, r3, h3⟩ => ?_⟩⟩⟩
  cases z with
  | bl c =>
    refine ⟨c, r3, ?_⟩
    cases c with
    | true =>
      rw [if_pos rfl]
      exact ⟨F3, M3, ρ, _, ⟨a3, A.env.mono ((l1.trans l2).trans l3).le⟩, h3, fun vw H4 ⟨F4, M4, w, l4, a4, r4, h4⟩ => ⟨F4, M4, y, w, Φ, a4, r2.mono (l3.trans l4).le, r4, h4, fun u H5 q => k u H5 ((((q.le l4).le l3).le l2).le l1)⟩⟩
    | false =>
      rw [if_neg Bool.false_ne_true]
      exact k _ _ ((((hB a3 h3).le l3).le l2).le l1)
  | _ => exact h3.elim
theorem q_chain {op op' : CmpOp} {R R' : D → D → MS → DQ → Prop} (ho : OpR X (compareOp op) (loR X.K R)) (ho' : OpR X (compareOp op') (loR X.K R')) (ha : PE X a (lo X.K ta)) (hb : PE X b (lo X.K tb)) (hc : PE X c (lo X.K tc))
    (hm : lastMarks [op, op'] [b, c] = false) : PE X (.Compare a [op, op'] [b, c] pos) (lo X.K (dChain R R' ta tb tc)) := PE.imp (pe_chain ho ho' ha hb hc hm) lo_chain
theorem q_chainT {op op' : CmpOp} {R R' : D → D → MS → DQ → Prop} (ho : OpR X (compareOp op) (loR X.K R)) (ho' : OpR X (compareOp op') (loR X.K R')) (ha : PE X a (lo X.K ta)) (hb : PE X b (lo X.K tb)) (hc : PE X c (lo X.K tc))
    (hm : lastMarks [op, op'] [b, c] = false) : PT X (.Compare a [op, op'] [b, c] pos) (loT X.K (dTest (dChain R R' ta tb tc))) :=
  PT.imp (pt_chain ho ho' ha hb hc hm) fun σ H Q h => by
    obtain ⟨F, M, ρ, Φ, A, h, k⟩ := h
    refine lo_chain σ H _ ⟨F, M, ρ, _, A, h, fun v H1 q => ?_⟩
    obtain ⟨F1, M1, x, l1, a1, r1, h1⟩ := q
    cases x with
    | bl c => exact ⟨c, r1, k c H1 F1 M1 l1 a1 h1⟩
    | _ => exact h1.elim
end

/-! ### truth of any value -/
def truD (M : MS) : D → Option Bool
  | .non => some false
  | .bl b => some b
  | .int i => some (i != 0)
  | .str z => if z.length ≤ 100000 then some ((z.length : Int) != 0) else none
  | .tup xs => some (!xs.isEmpty)
  | .lst xs => some (!xs.isEmpty)
  | .scr ns => some (!ns.isEmpty)
  | .ref a => (match M.map a with
    | some (.lst xs) => some (!xs.isEmpty)
    | _ => none)
  | .dic ks _ => some (!ks.isEmpty)
  | .ty _ => none
theorem reps_empty {K : PySem.W.Frag} {F : Addr → Prop} {H : Hp} {xs : List D} {vs : List V} (r : Reps K F H xs vs) : xs.isEmpty = vs.isEmpty := by
  have := r.length
  cases xs <;> cases vs <;> simp_all
theorem truD_ok {K : PySem.W.Frag} {F : Addr → Prop} {H : Hp} {M : MS} {x : D} {v : V} {b : Bool} (am : AbsM K F H M) (r : Rep K F H x v) (h : truD M x = some b) : TruV K v H b := by
  cases x with
  | non => simp only [truD, Option.some.injEq] at h; subst h; rw [show v = .non from r]; rfl
  | bl c => simp only [truD, Option.some.injEq] at h; subst h; rw [show v = .bl c from r]; rfl
  | int i => simp only [truD, Option.some.injEq] at h; subst h; rw [show v = .int i from r]; rfl
  | str z =>
    simp only [truD] at h
    split at h
    · rename_i hz
      cases h
      rw [show v = .str z from r]
      exact ⟨sz5 hz, rfl⟩
    · cases h
  | tup xs =>
    simp only [truD, Option.some.injEq] at h
    subst h
    obtain ⟨a, vs, e, h1, h2⟩ := rep_tup r
    subst e
    exact .inr (.inl ⟨vs, h1, by rw [reps_empty h2]⟩)
  | lst xs =>
    simp only [truD, Option.some.injEq] at h
    subst h
    simp only [Rep] at r
    obtain ⟨a, vs, e, _, h1, h2⟩ := r
    subst e
    exact .inl ⟨vs, SqL.of h1, by rw [reps_empty h2]⟩
  | scr ns =>
    simp only [truD, Option.some.injEq] at h
    subst h
    simp only [Rep] at r
    obtain ⟨a, e, h1⟩ := r
    subst e
    exact .inl ⟨_, h1.sq, by cases ns <;> rfl⟩
  | ref a =>
    simp only [truD] at h
    split at h
    · rename_i xs e
      cases h
      obtain ⟨_, vs, h1, h2⟩ := am.mp a _ e
      rw [show v = .ref a from r]
      exact .inl ⟨vs, SqL.of h1, by rw [reps_empty h2]⟩
    · cases h
  | dic ks xs =>
    simp only [truD, Option.some.injEq] at h
    subst h
    simp only [Rep] at r
    obtain ⟨a, vs, e, _, h1, h2, h3⟩ := r
    subst e
    refine .inr (.inr ⟨_, h1, ?_⟩)
    have := h3.length
    cases ks <;> cases vs <;> simp_all
  | ty t => simp [truD] at h
def dTru (te : DE) : DT := fun ρ M Φ => te ρ M fun x M1 => match truD M1 x with
  | some b => Φ b M1
  | none => False
section
variable {X : Cx} {a : Expr} {ta : DE}
theorem q_tru (ha : PE X a (lo X.K ta)) (he : ∀ whole, isTrue a X.env whole = (do let v ← whole; standAt a.pos; holding [v] (truthy v))) : PT X a (loT X.K (dTru ta)) :=
  PT.imp (pt_truth ha he) fun σ H Q h => by
    obtain ⟨F, M, ρ, Φ, A, h, k⟩ := h
    refine ⟨F, M, ρ, _, A, h, fun v H1 ⟨F1, M1, x, l1, a1, r1, h1⟩ => ?_⟩
    dsimp only at h1
    split at h1
    · rename_i b e
      exact ⟨b, truD_ok a1 r1 e, k b H1 F1 M1 l1 a1 h1⟩
    · exact h1.elim
end

/-! ### x[i] = v, x op= v, x[i] op= v; append, extend -/
def ixD (n : Nat) (i : Int) : Option Nat := ixN n i
def rSet (x i y : D) (M : MS) (Φ : MS → Prop) : Prop := match x with
  | .ref a => (match i with
    | .int k => (match M.map a with
      | some (.lst ds) => (match ixN ds.length k with
        | some j => Φ (M.put a (.lst (ds.set j y)))
        | none => False)
      | _ => False)
    | _ => False)
  | _ => False
def sSetI (te to ti : DE) : DS := fun Δ ρ M => te ρ M fun y M1 => to ρ M1 fun x M2 => ti ρ M2 fun i M3 => rSet x i y M3 fun M4 => Δ.nx ρ M4
theorem set_rep {K : PySem.W.Frag} {F : Addr → Prop} {H : Hp} {M : MS} {x i y : D} {vx vi vy : V} {Φ : MS → Prop} {Q : Hp → Prop} (am : AbsM K F H M) (rx : Rep K F H x vx) (ri : Rep K F H i vi) (ry : Rep K F H y vy) (h : rSet x i y M Φ)
    (k : ∀ H' M', Lm K F H M F H' M' → AbsM K F H' M' → Φ M' → Q H') : rSetL vx vi vy H Q := by
  unfold rSet at h
  split at h
  · rename_i a
    split at h
    · rename_i j
      split at h
      · rename_i ds e
        split at h
        · rename_i n en
          obtain ⟨_, vs, h1, h2⟩ := am.mp a _ e
          refine ⟨a, vs, j, n, rx, ri, h1, by rw [← h2.length]; exact en, ?_⟩
          have r := h2.set ry n
          exact k _ _ (Lm.wrote am e r) (am.wrote e r).1 h
        · exact h.elim
      · exact h.elim
    · exact h.elim
  · exact h.elim
section
variable {X : Cx} {o i e : Expr} {to ti te : DE} {pos tpos : Pos}
theorem z_setI (he : PE X e (lo X.K te)) (ho : PE X o (lo X.K to)) (hi : PE X i (lo X.K ti)) (ha : ∀ v, assign (.Subscript o i tpos) X.env v = (do
      let ov ← holding [v] (eval o X.env)
      let iv ← holding [v, ov] (eval i X.env)
      standAt tpos
      holding [v, ov, iv] (setItem ov iv v)
      release [v, ov, iv] [])) (hs : swapsWithSole [.Subscript o i tpos] e pos.line X.env = pure false) (hw : swappedStores [.Subscript o i tpos] e X.env = pure none)
    (h1 : (assignEach [.Subscript o i tpos] X.env).map (·.2) = [assign (.Subscript o i tpos) X.env]) : PS X (.Assign [.Subscript o i tpos] e pos) (loS X.K (sSetI te to ti)) :=
  PS.imp (ps_asg he (pg_sub ho hi set_list ha) hs hw h1) fun Y σ H h => by
    obtain ⟨F, M, ρ, Δ, A, h, k⟩ := h
    exact ⟨F, M, ρ, _, A, h, fun vy H1 ⟨F1, M1, y, l1, a1, r1, h1⟩ => ⟨F1, M1, ρ, _, ⟨a1, A.env.mono l1.le⟩, h1, fun vx H2 ⟨F2, M2, x, l2, a2, r2, h2⟩ => ⟨F2, M2, ρ, _, ⟨a2, A.env.mono (l1.trans l2).le⟩, h2, fun vi H3 ⟨F3, M3, z, l3, a3, r3, h3⟩ =>
      set_rep a3 (r2.mono l3.le) r3 (r1.mono (l2.trans l3).le) h3 fun H4 M4 l4 a4 q => k.nx σ H4 F3 M4 ρ (((l1.trans l2).trans l3).trans l4) ⟨a4, A.env.mono (((l1.trans l2).trans l3).trans l4).le⟩ q⟩⟩⟩
/-- i op= j -/
def rIp (f : Int → Int → Int) (x y : D) (M : MS) (Φ : DQ) : Prop := match x, y with
  | .int i, .int j => Φ (.int (f i j)) M
  | _, _ => False
theorem rIp_int {f : Int → Int → Int} {x y : D} {M : MS} {Φ : DQ} (h : rIp f x y M Φ) : ∃ i j, x = .int i ∧ y = .int j ∧ Φ (.int (f i j)) M := by
  unfold rIp at h
  split at h
  · exact ⟨_, _, rfl, rfl, h⟩
  · exact h.elim
def sAug (i : Nat) (te : DE) (f : Int → Int → Int) : DS := fun Δ ρ M => match ρ[i]? with
  | some (some x) => te ρ M fun y M1 => rIp f x y M1 fun z M2 => Δ.nx (ρ.set i (some z)) M2
  | _ => False
theorem z_aug {i : Nat} {x : Str} {op : Operator} {f : Int → Int → Int} {pos' : Pos} (hN : X.N.Nodup) (hi : X.N[i]? = some x) (hx : Loc X.env.scope x) (he : PE X e (lo X.K te)) (ho : PIp X op (ipI f)) (hf : X.fn x = true ∨ X.env.scope.names.lookup x = some .local) :
    PS X (.AugAssign (.Name x pos') op e pos) (loS X.K (sAug i te f)) := PS.imp (ps_aug hN hi hx he ho hf) fun Y σ H h => by
  obtain ⟨F, M, ρ, Δ, A, h, k⟩ := h
  unfold sAug at h
  split at h
  · rename_i d ed
    obtain ⟨v, ev, r0⟩ := A.env.get i d ed
    refine ⟨v, ev, F, M, ρ, _, A, h, fun w H1 ⟨F1, M1, y, l1, a1, r1, h1⟩ => ?_⟩
    obtain ⟨p, q, rfl, rfl, h2⟩ := rIp_int h1
    exact ⟨p, q, rep_int r0, rep_int r1, k.nx _ H1 F1 M1 _ l1 ⟨a1, (A.env.mono l1.le).set (d := .int (f p q)) rfl i⟩ h2⟩
  · exact h.elim
def getL (K : PySem.W.Frag) : V → V → Hp → VK → Prop := fun o i H Q => ∃ a xs k x, o = .ref a ∧ i = .int k ∧ SqL K H a xs ∧ atI xs k = some x ∧ Q x H
theorem getL_ok : PGet X (getL X.K) := by
  intro pins s σ H o i ov iv Q I ro ri h
  obtain ⟨a, xs, k, z, rfl, rfl, hq, he, q⟩ := h
  cases ro
  obtain ⟨t, rfl⟩ := ri
  obtain ⟨its, r, pl, hz⟩ := I.list hq
  obtain ⟨j, h1, h2, h3, h4, h5⟩ := atI_get he
  obtain ⟨w, ew, rw'⟩ := r.get h2
  have hl := r.length
  have hn := line63
  have fin : EP X pins σ Q w s := ⟨z, H, I, rw', q⟩
  by_cases h0 : 0 ≤ k
  · have hj : k.toNat = j := by
      rw [seqIndex_of h0 h5] at h1
      exact Option.some.inj h1
    exact wpAny_getItem_list pl.isList h0 (by omega) (by rw [hj]; simpa using ew) fin
  · have hj : (k + (its.toArray.size : Int)).toNat = j := by
      rw [seqIndex_neg (by omega) h4] at h1
      rw [List.size_toArray, ← hl]
      exact Option.some.inj h1
    exact wpAny_getItem_list_neg pl.isList (by omega) (by rw [List.size_toArray] <;> omega) (by omega) (by rw [hj]; simpa using ew) fin
def rGet (x y : D) (M : MS) (Φ : DQ) : Prop := match y with
  | .int i => (match seqL M x with
    | some xs => (match atI xs i with
      | some d => Φ d M
      | none => False)
    | none => False)
  | _ => False
theorem get_rep {K : PySem.W.Frag} {F : Addr → Prop} {H : Hp} {M : MS} {x y : D} {vx vy : V} {Φ : DQ} {Q : VK} (am : AbsM K F H M) (rx : Rep K F H x vx) (ry : Rep K F H y vy) (h : rGet x y M Φ) (k : ∀ v d, Rep K F H d v → Φ d M → Q v H) : getL K vx vy H Q := by
  unfold rGet at h
  split at h
  · rename_i i
    split at h
    · rename_i xs ex
      split at h
      · rename_i d ed
        obtain ⟨a, vs, rfl, hq, p⟩ := seqL_rep am rx ex
        obtain ⟨w, e1, rw⟩ := atI_rep p ed
        exact ⟨a, vs, i, w, rfl, ry, SqL.of hq, e1, k w d rw h⟩
      · exact h.elim
    · exact h.elim
  · exact h.elim
def sAugI (to ti te : DE) (f : Int → Int → Int) : DS := fun Δ ρ M => to ρ M fun x M1 => ti ρ M1 fun i M2 => rGet x i M2 fun y M3 => te ρ M3 fun z M4 => rIp f y z M4 fun w M5 => rSet x i w M5 fun M6 => Δ.nx ρ M6
theorem z_augI {op : Operator} {f : Int → Int → Int} (ho : PE X o (lo X.K to)) (hi : PE X i (lo X.K ti)) (he : PE X e (lo X.K te)) (hp : PIp X op (ipI f))
    (ha : ∀ ov iv new, augStore i ov iv new = (do holding [new, ov, iv] (setItem ov iv new); release [new, ov, iv] []; pure .next)) : PS X (.AugAssign (.Subscript o i tpos) op e pos) (loS X.K (sAugI to ti te f)) :=
  PS.imp (ps_augS ho hi getL_ok he hp set_list ha) fun Y σ H h => by
    obtain ⟨F, M, ρ, Δ, A, h, k⟩ := h
    refine ⟨F, M, ρ, _, A, h, fun vx H1 ⟨F1, M1, x, l1, a1, r1, h1⟩ => ⟨F1, M1, ρ, _, ⟨a1, A.env.mono l1.le⟩, h1, fun vi H2 ⟨F2, M2, i, l2, a2, r2, h2⟩ => get_rep a2 (r1.mono l2.le) r2 h2 fun vy y ry h3 =>
      ⟨F2, M2, ρ, _, ⟨a2, A.env.mono (l1.trans l2).le⟩, h3, fun vz H3 ⟨F3, M3, z, l3, a3, r3, h4⟩ => ?_⟩⟩⟩
    obtain ⟨p, q, rfl, rfl, h5⟩ := rIp_int h4
    refine ⟨p, q, rep_int ry, rep_int r3, set_rep a3 (r1.mono (l2.trans l3).le) (r2.mono l3.le) (show Rep X.K F3 H3 (.int (f p q)) (.int (f p q)) from rfl) h5 fun H4 M4 l4 a4 q => k.nx σ H4 F3 M4 ρ (((l1.trans l2).trans l3).trans l4) ⟨a4, A.env.mono (((l1.trans l2).trans l3).trans l4).le⟩ q⟩
end

/-! ### append, extend -/
def rApp (x : D) (ys : List D) (M : MS) (Φ : DQ) : Prop := match x with
  | .ref a => (match ys with
    | [y] => (match M.map a with
      | some (.lst ds) => ds.length < 100000 ∧ Φ .non (M.put a (.lst (ds ++ [y])))
      | _ => False)
    | _ => False)
  | _ => False
def rExtd (x : D) (ys : List D) (M : MS) (Φ : DQ) : Prop := match x with
  | .ref a => (match ys with
    | [y] => (match M.map a, seqL M y with
      | some (.lst ds), some es => ds.length + es.length ≤ 100000 ∧ Φ .non (M.put a (.lst (ds ++ es)))
      | _, _ => False)
    | _ => False)
  | _ => False
/-- o.m(..), o a list that may change -/
def isL (M : MS) : D → Prop
  | .ref a => (match M.map a with
    | some (.lst _) => True
    | _ => False)
  | _ => False
def dMt (R : D → List D → MS → DQ → Prop) (to : DE) (ta : DAs) : DE := fun ρ M Φ => to ρ M fun x M1 => isL M1 x ∧ ta ρ M1 fun ys M2 => R x ys M2 Φ
theorem dMt_ok {K : PySem.W.Frag} {F : Addr → Prop} {H : Hp} {M : MS} {x : D} {v : V} (am : AbsM K F H M) (r : Rep K F H x v) (h : isL M x) : tyV K "list" v H := by
  cases x with
  | ref a =>
    simp only [isL] at h
    split at h
    · rename_i ds e
      obtain ⟨_, vs, h1, h2⟩ := am.mp a _ e
      rw [show v = .ref a from r]
      exact .inl ⟨rfl, vs, SqL.of h1⟩
    · exact h.elim
  | _ => exact h.elim
theorem app_rep {K : PySem.W.Frag} {F : Addr → Prop} {H : Hp} {M : MS} {x : D} {ys : List D} {v : V} {us : List V} {Φ : DQ} {Q : VK} (am : AbsM K F H M) (r : Rep K F H x v) (rs : Reps K F H ys us) (h : rApp x ys M Φ) (k : ∀ v H', loQ K F H M Φ v H' → Q v H') : rAppend v us H Q := by
  unfold rApp at h
  split at h
  · rename_i a
    split at h
    · rename_i y
      split at h
      · rename_i ds e
        obtain ⟨_, vs, h1, h2⟩ := am.mp a _ e
        simp only [Reps] at rs
        obtain ⟨w, t, rfl, rw', rfl⟩ := rs
        have r2 := h2.append (Reps.cons rw' Reps.nil)
        exact ⟨a, vs, w, r, rfl, h1, by rw [← h2.length]; exact Nat.lt_of_lt_of_le h.1 (sz5 (Nat.le_refl _)), k _ _ ⟨F, _, .non, Lm.wrote am e r2, (am.wrote e r2).1, rfl, h.2⟩⟩
      · exact h.elim
    · exact h.elim
  · exact h.elim
theorem extd_rep {K : PySem.W.Frag} {F : Addr → Prop} {H : Hp} {M : MS} {x : D} {ys : List D} {v : V} {us : List V} {Φ : DQ} {Q : VK} (am : AbsM K F H M) (r : Rep K F H x v) (rs : Reps K F H ys us) (h : rExtd x ys M Φ) (k : ∀ v H', loQ K F H M Φ v H' → Q v H') : rExtend v us H Q := by
  unfold rExtd at h
  split at h
  · rename_i a
    split at h
    · rename_i y
      split at h
      · rename_i ds es e ee
        obtain ⟨_, vs, h1, h2⟩ := am.mp a _ e
        simp only [Reps] at rs
        obtain ⟨w, t, rfl, rw', rfl⟩ := rs
        obtain ⟨b, zs, rfl, g1, g2⟩ := seqL_rep am rw' ee
        have r2 := h2.append g2
        exact ⟨a, b, vs, zs, r, rfl, h1, g1, by rw [← h2.length, ← g2.length]; exact sz5 h.1, k _ _ ⟨F, _, .non, Lm.wrote am e r2, (am.wrote e r2).1, rfl, h.2⟩⟩
      · exact h.elim
    · exact h.elim
  · exact h.elim
section
variable {X : Cx} {o e : Expr} {to te : DE} {apos cpos : Pos}
theorem q_append (ho : PE X o (lo X.K to)) (ha : PE X e (lo X.K te)) (hbase : attributeBase o "append" X.env (eval o X.env) = eval o X.env)
    (hfew : ((backTo cpos (starEach [e] X.env)).all (fun x => !x.1) && (backToKw cpos (keywordEach [] X.env)).all (fun x => x.1.isSome)
      && decide ([e].length + ([] : List Keyword).length + (if ([] : List Keyword).isEmpty then 0 else 1) < 30)) = true)
    (hline : (apos.endLine == cpos.line) = true) (hs : starEach [e] X.env = (false, eval e X.env) :: starEach [] X.env) (hplain : (backTo cpos (starEach [] X.env)).any (·.1) = false) :
    PE X (.Call (.Attribute o "append" apos) [e] [] cpos) (lo X.K (dMt rApp to (dCons te dNil))) :=
  PE.imp (pe_bm PySem.F.plainAttrs_list PySem.F.slot_list_append PySem.F.type_list_append mt_append ho (q_cons ha q_nil hs) hbase hfew hline hs hplain) fun σ H Q h => by
    obtain ⟨F, M, ρ, Φ, A, h, k⟩ := h
    exact ⟨F, M, ρ, _, A, h, fun v H1 ⟨F1, M1, x, l1, a1, r1, h0, h1⟩ => ⟨dMt_ok a1 r1 h0, F1, M1, ρ, _, ⟨a1, A.env.mono l1.le⟩, h1, fun vs H2 F2 M2 ds l2 a2 r2 h2 => app_rep a2 (r1.mono l2.le) r2 h2 fun v H' q => k v H' ((q.le l2).le l1)⟩⟩
theorem q_extend (ho : PE X o (lo X.K to)) (ha : PE X e (lo X.K te)) (hbase : attributeBase o "extend" X.env (eval o X.env) = eval o X.env)
    (hfew : ((backTo cpos (starEach [e] X.env)).all (fun x => !x.1) && (backToKw cpos (keywordEach [] X.env)).all (fun x => x.1.isSome)
      && decide ([e].length + ([] : List Keyword).length + (if ([] : List Keyword).isEmpty then 0 else 1) < 30)) = true)
    (hline : (apos.endLine == cpos.line) = true) (hs : starEach [e] X.env = (false, eval e X.env) :: starEach [] X.env) (hplain : (backTo cpos (starEach [] X.env)).any (·.1) = false) :
    PE X (.Call (.Attribute o "extend" apos) [e] [] cpos) (lo X.K (dMt rExtd to (dCons te dNil))) :=
  PE.imp (pe_bm PySem.F.plainAttrs_list PySem.F.slot_list_extend PySem.F.type_list_extend mt_extend ho (q_cons ha q_nil hs) hbase hfew hline hs hplain) fun σ H Q h => by
    obtain ⟨F, M, ρ, Φ, A, h, k⟩ := h
    exact ⟨F, M, ρ, _, A, h, fun v H1 ⟨F1, M1, x, l1, a1, r1, h0, h1⟩ => ⟨dMt_ok a1 r1 h0, F1, M1, ρ, _, ⟨a1, A.env.mono l1.le⟩, h1, fun vs H2 F2 M2 ds l2 a2 r2 h2 => extd_rep a2 (r1.mono l2.le) r2 h2 fun v H' q => k v H' ((q.le l2).le l1)⟩⟩
end

/-! ### a, b = x, y; a, b, c = x, y, z -/
def sPar (i j : Nat) (ta : DAs) : DS := fun Δ ρ M => ta ρ M fun ds M1 => match ds with
  | [v, w] => Δ.nx ((ρ.set i (some v)).set j (some w)) M1
  | _ => False
def sPar3 (i j l : Nat) (ta : DAs) : DS := fun Δ ρ M => ta ρ M fun ds M1 => match ds with
  | [u, v, w] => Δ.nx (((ρ.set i (some u)).set j (some v)).set l (some w)) M1
  | _ => False
section
variable {X : Cx} {pos : Pos}
theorem z_par {i j : Nat} {x y : Str} {a b : Expr} {ta : DAs} {px py pt : Pos} {kt k2 pt2} (hc : X.calm = true) (hN : X.N.Nodup) (hi : X.N[i]? = some x) (hj : X.N[j]? = some y) (hij : i ≠ j)
    (hx : X.env.scope.names.lookup x = some .local) (hy : X.env.scope.names.lookup y = some .local) (ha : PA X [a, b] (loA X.K ta))
    (hw : swappedStores [.Tuple [.Name x px, .Name y py] kt pt] (.Tuple [a, b] k2 pt2) X.env = pure (some [x, y]))
    (hs : swapsWithSole [.Tuple [.Name x px, .Name y py] kt pt] (.Tuple [a, b] k2 pt2) pos.line X.env = pure false) :
    PS X (.Assign [.Tuple [.Name x px, .Name y py] kt pt] (.Tuple [a, b] k2 pt2) pos) (loS X.K (sPar i j ta)) :=
  PS.imp (ps_par hc hN hi hj hij hx hy ha hw hs) fun Y σ H h => by
    obtain ⟨F, M, ρ, Δ, A, h, k⟩ := h
    refine ⟨F, M, ρ, _, A, h, fun vs H1 F1 M1 ds l1 a1 r1 h1 => ?_⟩
    split at h1
    · rename_i d e
      simp only [Reps] at r1
      obtain ⟨v, t, rfl, rv, w, u, rfl, rw', rfl⟩ := r1
      exact ⟨v, w, rfl, k.nx _ H1 F1 M1 _ l1 ⟨a1, ((A.env.mono l1.le).set rv i).set rw' j⟩ h1⟩
    · exact h1.elim
theorem z_par3 {i j l : Nat} {x y z : Str} {a b c : Expr} {ta : DAs} {px py pz pt : Pos} {kt k2 pt2} (hc : X.calm = true) (hN : X.N.Nodup) (hi : X.N[i]? = some x) (hj : X.N[j]? = some y) (hl : X.N[l]? = some z) (hij : i ≠ j) (hil : i ≠ l) (hjl : j ≠ l)
    (hx : X.env.scope.names.lookup x = some .local) (hy : X.env.scope.names.lookup y = some .local) (hz : X.env.scope.names.lookup z = some .local) (ha : PA X [a, b, c] (loA X.K ta))
    (hw : swappedStores [.Tuple [.Name x px, .Name y py, .Name z pz] kt pt] (.Tuple [a, b, c] k2 pt2) X.env = pure (some [x, y, z]))
    (hs : swapsWithSole [.Tuple [.Name x px, .Name y py, .Name z pz] kt pt] (.Tuple [a, b, c] k2 pt2) pos.line X.env = pure false) :
    PS X (.Assign [.Tuple [.Name x px, .Name y py, .Name z pz] kt pt] (.Tuple [a, b, c] k2 pt2) pos) (loS X.K (sPar3 i j l ta)) :=
  PS.imp (ps_par3 hc hN hi hj hl hij hil hjl hx hy hz ha hw hs) fun Y σ H h => by
    obtain ⟨F, M, ρ, Δ, A, h, k⟩ := h
    refine ⟨F, M, ρ, _, A, h, fun vs H1 F1 M1 ds l1 a1 r1 h1 => ?_⟩
    split at h1
    · simp only [Reps] at r1
      obtain ⟨u, t, rfl, ru, v, t2, rfl, rv, w, t3, rfl, rw', rfl⟩ := r1
      exact ⟨u, v, w, rfl, k.nx _ H1 F1 M1 _ l1 ⟨a1, (((A.env.mono l1.le).set ru i).set rv j).set rw' l⟩ h1⟩
    · exact h1.elim
end

/-! ### {}, {k: v}; xs[::-1] of a list -/
/-- a hidden object is written and stands from now on -/
theorem AbsM.fix {K : PySem.W.Frag} {F F1 : Addr → Prop} {H H1 : Hp} {M M1 : MS} {p : Addr} {o : HO} (h0 : H p = none) (l : Lm K F H M F1 H1 M1) (a : AbsM K F1 H1 M1) (nf : ¬ F1 p) (nm : M1.map p = none) (ht : ∀ vs, ¬ Rd H1 p (.tup vs)) (hs : ∀ ob u, H1 p ≠ some (.frz ob u)) :
    Lm K F H M (fun b => F1 b ∨ b = p) (upd H1 p o) M1 ∧ AbsM K (fun b => F1 b ∨ b = p) (upd H1 p o) M1 := by
  have l2 : Le K F1 H1 F1 (upd H1 p o) := Le.upd nf ht hs
  have l3 : Le K F1 H1 (fun b => F1 b ∨ b = p) (upd H1 p o) := l2.grow fun _ f => .inl f
  have ne : ∀ c o', M1.map c = some o' → c ≠ p := fun c o' hc e => by rw [e, nm] at hc; cases hc
  refine ⟨⟨l.le.trans l3, fun b hb f m => ?_⟩, ⟨fun b f => ?_, fun b o' hb => ?_⟩⟩
  · obtain ⟨x1, x2, x3⟩ := l.hid b hb f m
    have nb : b ≠ p := fun e => hb (e ▸ h0)
    exact ⟨fun z => z.elim x1 nb, x2, (upd_ne nb).trans x3⟩
  · by_cases e : b = p
    · subst e; rw [upd_same]; simp
    · rw [upd_ne e]
      exact a.fh b (f.resolve_right e)
  · obtain ⟨n1, o1⟩ := a.mp b o' hb
    exact ⟨fun z => z.elim n1 (ne b o' hb), o1.keep l3 (upd_ne (ne b o' hb)) (fun c hc => ⟨upd_ne (ne c _ hc), hc⟩) (Nat.le_refl _)⟩
def dDic0 : DE := fun _ M Φ => Φ (.dic [] []) M
def keyD : D → Option Key
  | .int i => some (.inl i)
  | .str z => some (.inr z)
  | _ => none
def dDic1 (tk tv : DE) : DE := fun ρ M Φ => tk ρ M fun x M1 => tv ρ M1 fun y M2 => match keyD x with
  | some k => Φ (.dic [k] [y]) M2
  | none => False
section
variable {X : Cx} {pos : Pos}
theorem q_dic0 : PE X (.Dict [] [] pos) (lo X.K dDic0) :=
  PE.imp pe_dnewK fun σ H Q h => by
    obtain ⟨F, M, ρ, Φ, A, h, k⟩ := h
    intro p hp
    refine k _ _ ⟨_, M, .dic [] [], Lm.frozen A.am hp, (A.am.frozen hp).1, ?_, h⟩
    simp only [Rep]
    exact ⟨p, [], rfl, .inr rfl, upd_same, rfl, Reps.nil⟩
theorem q_dic1 {a b : Expr} {tk tv : DE} (ha : PE X a (lo X.K tk)) (hb : PE X b (lo X.K tv)) : PE X (.Dict [some a] [b] pos) (lo X.K (dDic1 tk tv)) :=
  PE.imp (pe_disp (pps_cons ha hb pps_nil) rfl rfl (by simp) (Nat.le_of_ble_eq_true rfl)) fun σ H Q h => by
    obtain ⟨F, M, ρ, Φ, A, h, k⟩ := h
    intro p hp
    have l0 := Lm.laid (o := .dK []) A.am hp
    refine ⟨F, M, ρ, _, ⟨A.am.laid hp, A.env.mono l0.le⟩, h, fun vx H1 ⟨F1, M1, x, l1, a1, r1, h1⟩ => ⟨F1, M1, ρ, _, ⟨a1, A.env.mono (l0.trans l1).le⟩, h1, fun vy H2 ⟨F2, M2, y, l2, a2, r2, h2⟩ => ?_⟩⟩
    have fr := A.am.fresh hp
    obtain ⟨n1, n2, n3⟩ := l1.hid p (by rw [upd_same]; simp) fr.1 fr.2
    obtain ⟨m1, m2, m3⟩ := l2.hid p (by rw [n3, upd_same]; simp) n1 n2
    have e2 : H2 p = some (.dK []) := by rw [m3, n3, upd_same]
    refine ⟨e2, ?_⟩
    split at h2
    · rename_i kk ek
      have ex : vx = kV kk := by
        cases x with
        | int i => simp only [keyD, Option.some.injEq] at ek; subst ek; exact r1
        | str z => simp only [keyD, Option.some.injEq] at ek; subst ek; exact r1
        | _ => simp [keyD] at ek
      refine ⟨[(kk, vy)], by rw [ex]; rfl, Nat.le_of_ble_eq_true rfl, ?_⟩
      obtain ⟨lf, af⟩ := AbsM.fix (o := .dK [(kk, vy)]) hp ((l0.trans l1).trans l2) a2 m1 m2 (fun vs => by rintro (z | ⟨_, z⟩) <;> rw [e2] at z <;> cases z) (fun ob u z => by rw [e2] at z; cases z)
      refine k _ _ ⟨_, M2, .dic [kk] [y], lf, af, ?_, h2⟩
      have lz : Le X.K F2 H2 (fun b => F2 b ∨ b = p) (upd H2 p (.dK [(kk, vy)])) := (Le.upd m1 (fun vs => by rintro (z | ⟨_, z⟩) <;> rw [e2] at z <;> cases z) (fun ob u z => by rw [e2] at z; cases z)).grow fun _ f => .inl f
      simp only [Rep]
      exact ⟨p, [vy], rfl, .inr rfl, upd_same, rfl, Reps.cons (r2.mono lz) Reps.nil⟩
    · exact h2.elim
def dRevL (te : DE) : DE := fun ρ M Φ => te ρ M fun x M1 => match seqL M1 x with
  | some xs => Φ (.lst xs.reverse) M1
  | none => False
theorem q_revL {e : Expr} {te : DE} {k : Nat} {p1 p2 p3 : Pos} (he : PE X e (lo X.K te)) : PE X (.Subscript e (.Slice none none (some (.UnaryOp .USub (.Constant (.int 1) k p1) p2)) p3) pos) (lo X.K (dRevL te)) :=
  PE.imp (pe_revL he) fun σ H Q h => by
    obtain ⟨F, M, ρ, Φ, A, h, k⟩ := h
    refine ⟨F, M, ρ, _, A, h, fun v H1 ⟨F1, M1, x, l1, a1, r1, h1⟩ => ?_⟩
    dsimp only at h1
    split at h1
    · rename_i xs ex
      obtain ⟨a, vs, rfl, hq, p⟩ := seqL_rep a1 r1 ex
      exact ⟨a, vs, rfl, SqL.of hq, fun q hp => k _ _ ((new_lst a1 p.reverse h1 hp).le l1)⟩
    · exact h1.elim
end
end DL

namespace DL
open PySem PySem.Spec PyProof.Rows L2

/-! ### constants, names -/
section
variable {X : Cx} {pos p : Pos} {j : Nat} {x : Str}
theorem q_int {i : Int} : PE X (.Constant (.int i) j pos) (lo X.K (dC (.int i))) := q_c pe_int fun _ _ => rfl
theorem q_bl {b : Bool} : PE X (.Constant (.bool b) j pos) (lo X.K (dC (.bl b))) := q_c pe_bl fun _ _ => rfl
theorem q_non : PE X (.Constant .none j pos) (lo X.K (dC .non)) := q_c pe_non fun _ _ => rfl
theorem q_str {z : Str} : PE X (.Constant (.str z) j pos) (lo X.K (dC (.str z))) := q_c pe_str fun _ _ => rfl
theorem q_gint {i : Int} (hg : Gl X x) (hm : ∃ t, X.mg x = some (.int i t)) (hd : (x == ("__debug__" : Str)) = false) : PE X (.Name x p) (lo X.K (dC (.int i))) := by
  obtain ⟨t, hm⟩ := hm
  exact q_c (v := .int i) ⟨fun pins s σ H Q I h => ld_glob I hg hm ⟨.int i, H, I, ⟨t, rfl⟩, h⟩ hd⟩ fun _ _ => rfl
theorem q_ty (t : Ty) (hg : Gl X x) (hm : X.mg x = none) (hv : bootBuiltins x = some (.type t.name)) (hn : x ≠ "__name__") (hd : (x == ("__debug__" : Str)) = false) : PE X (.Name x p) (lo X.K (dC (.ty t))) :=
  q_c (v := .ty t.name) ⟨fun pins s σ H Q I h => ld_blt I hg hm hv ⟨.ty t.name, H, I, rfl, h⟩ hn hd⟩ fun _ _ => rfl
end
theorem bt_int : bootBuiltins "int" = some (.type "int") := by decide +kernel
theorem bt_str : bootBuiltins "str" = some (.type "str") := by decide +kernel
theorem bt_bool : bootBuiltins "bool" = some (.type "bool") := by decide +kernel
theorem bt_list : bootBuiltins "list" = some (.type "list") := by decide +kernel
theorem bt_tuple : bootBuiltins "tuple" = some (.type "tuple") := by decide +kernel
theorem bt_dict : bootBuiltins "dict" = some (.type "dict") := by decide +kernel
theorem bt_len : bootBuiltins "len" = some (.builtin "len") := by decide +kernel
theorem bt_abs : bootBuiltins "abs" = some (.builtin "abs") := by decide +kernel
theorem bt_isinstance : bootBuiltins "isinstance" = some (.builtin "isinstance") := by decide +kernel
theorem bt_repr : bootBuiltins "repr" = some (.builtin "repr") := by decide +kernel
theorem bt_max : bootBuiltins "max" = some (.builtin "max") := by decide +kernel
theorem bt_min : bootBuiltins "min" = some (.builtin "min") := by decide +kernel
theorem bt_sum : bootBuiltins "sum" = some (.builtin "sum") := by decide +kernel
theorem bt_all : bootBuiltins "all" = some (.builtin "all") := by decide +kernel
theorem bt_any : bootBuiltins "any" = some (.builtin "any") := by decide +kernel

/-! ### patterns stand for targets -/
section
variable {X : Cx} {pos : Pos}
theorem g_nm {i : Nat} {x : Str} (hN : X.N.Nodup) (hi : X.N[i]? = some x) (hx : Loc X.env.scope x) (hf : X.fn x = true ∨ X.env.scope.names.lookup x = some .local) : PG X (.Name x pos) ((Pat.nm i).tg X.K) := pg_name hN hi hx hf
theorem gs_nil : PGs X [] (Pat.tgs X.K []) := pgs_nil
theorem gs_cons {e : Expr} {es : List Expr} {p : Pat} {ps : List Pat} (h1 : PG X e (p.tg X.K)) (h2 : PGs X es (Pat.tgs X.K ps)) (hs : (assignEach (e :: es) X.env).map (·.2) = assign e X.env :: (assignEach es X.env).map (·.2)) : PGs X (e :: es) (Pat.tgs X.K (p :: ps)) := by
  simp only [Pat.tgs]
  exact pgs_cons h1 h2 hs
theorem g_tp {es : List Expr} {k : Nat} {ps : List Pat} (hc : X.calm = true) (h : PGs X es (Pat.tgs X.K ps)) (hn : (assignEach es X.env).length = ps.length) (hst : (assignEach es X.env).findIdx? (·.1) = none) : PG X (.Tuple es k pos) ((Pat.tp ps).tg X.K) := by
  simp only [Pat.tg]
  exact pg_tup hc h hn hst
end

/-! ### own defs -/
/-- the def at x keeps the promise sp, n parameters -/
structure Callee (P : Program) (w : World) (K : PySem.W.Frag) (mg : Str → Option Value) (base : Heap) (k : Nat) (x : Str) (n : Nat) (sp : DSp) : Prop where
  ex : ∃ (f : Addr) (fd : FuncData) (ps : List Str), ps.length = n ∧ mg x = some (.ref f) ∧ PySem.W.keepIn K (.ref f) = true ∧ Binds K fd ps [] ∧ FnG P w K mg base CX0 k f fd ps (loSp K sp n)
theorem _root_.L2.Room.u64 {k : Nat} {A : Around} (r : Room k A) : A.units + 64 < cLine := by have := r.un; omega
section
variable {X : Cx} {k j n : Nat} {x : Str} {p pos : Pos} {e : Expr} {es : List Expr} {ta : DAs} {sp : DSp}
theorem q_call (C : Callee X.prog X.w X.K X.mg X.base j x n sp) (hr : Room k X.A) (hjk : j ≤ k) (hgd : X.A.guards = some []) (hg : Gl X x) (ha : PA X (e :: es) (loA X.K ta)) (hdb : (x == ("__debug__" : Str)) = false) (he : starEach (e :: es) X.env = (false, eval e X.env) :: starEach es X.env)
    (hpl : (backTo pos (starEach es X.env)).any (·.1) = false) : PE X (.Call (.Name x p) (e :: es) [] pos) (lo X.K (dCall n sp ta)) := by
  obtain ⟨f, fd, ps, hl, hm, hk, hb, F⟩ := C.ex
  exact lo_call (pe_callG (E := fun _ _ _ => False) F (hr.mono hjk) hgd hg hm hk hb .nil (fun _ _ _ _ _ _ _ h => h.elim) ha hdb he hpl)
theorem q_call0 (C : Callee X.prog X.w X.K X.mg X.base j x 0 sp) (hr : Room k X.A) (hjk : j ≤ k) (hgd : X.A.guards = some []) (hg : Gl X x) (hdb : (x == ("__debug__" : Str)) = false) : PE X (.Call (.Name x p) [] [] pos) (lo X.K (dCall 0 sp dNil)) := by
  obtain ⟨f, fd, ps, hl, hm, hk, hb, F⟩ := C.ex
  refine PE.imp (pe_callG0 (E := fun _ _ _ => False) F (hr.mono hjk) hgd hg hm hk hb .nil (fun _ _ _ _ _ _ _ h => h.elim) hdb) fun σ H Q h => ?_
  obtain ⟨F', M, ρ, Φ, A, h, k⟩ := h
  exact ⟨F', M, [], Φ, rfl, A.am, Reps.nil, h.2, k⟩
end
def startD (m : Nat) (ds : List D) : DEnv := ds.map some ++ List.replicate (m - ds.length) none
theorem repEnv_start {K : PySem.W.Frag} {F : Addr → Prop} {H : Hp} {ds : List D} {vs : List V} {N : List Str} (r : Reps K F H ds vs) : RepEnv K F H (L2.start N vs) (startD N.length ds) := by
  unfold L2.start startD
  refine ⟨by simp [r.length], fun i d h => ?_⟩
  by_cases hi : i < ds.length
  · rw [List.getElem?_append_left (by simpa using hi), List.getElem?_map, List.getElem?_eq_getElem hi] at h
    simp only [Option.map_some, Option.some.injEq] at h
    subst h
    obtain ⟨v, e, rv⟩ := r.get (List.getElem?_eq_getElem hi)
    refine ⟨v, ?_, rv⟩
    rw [List.getElem?_append_left (by simpa [← r.length] using hi), List.getElem?_map, e]
    rfl
  · rw [List.getElem?_append_right (by simpa using hi)] at h
    have := List.getElem?_eq_some_iff.mp h
    obtain ⟨_, e⟩ := this
    simp at e
section
variable {P : Program} {w : World} {K : PySem.W.Frag} {mg : Str → Option Value} {base : Heap} {x qual : Str} {params : Arguments} {body : List Stmt} {scope : Scope} {f : Addr} {fd : FuncData} {N ps : List Str} {k n : Nat} {sp : DSp} {t : DS}
/-- a def by its reading -/
theorem fnR (F : FunD K x qual params body scope [] [] f fd) (S : FnScope N ps scope) (hn : ps.length = n)
    (hbody : ∀ (cdv : Value) (A : Around) (outer : List Env) (s : Shared) (H : Hp) (E : XK), Room k (A.deeper (envOfC qual scope s.heap.objs.size f cdv)) → (A.deeper (envOfC qual scope s.heap.objs.size f cdv)).guards = some [] →
      PSs (cxOf CX0 P w K mg base N qual scope f cdv A outer s H E).nox body (loS K t))
    (hsp : ∀ ds M Φ, ds.length = n → sp ds M Φ noX → t { nx := fun _ M' => Φ .non M', rt := Φ } (startD N.length ds) M) : FnG P w K mg base CX0 (k + 1) f fd ps (loSp K sp n) := by
  refine FunD.okG F S (fun vs H Q E h => ?_) fun cdv A outer s H vs Q E hr hg h => ⟨_, PSs.nox (hbody cdv A outer s H E hr hg), ?_⟩
  · obtain ⟨_, _, ds, _, hl, _, r, _⟩ := h
    rw [← r.length, hl, hn]
  · obtain ⟨F', M, ds, Φ, hl, am, r, h, k⟩ := h
    refine ⟨F', M, _, _, ⟨am, repEnv_start r⟩, hsp ds M Φ hl h, ⟨fun σ' H' F2 M' ρ' l A' q => k _ _ ⟨F2, M', .non, l, A'.am, rfl, q⟩, fun v H' q => k v H' q, fun _ _ _ _ _ _ _ q => q.elim, fun _ _ _ _ _ _ _ q => q.elim⟩⟩
theorem fnD (F : FunD K x qual params body scope [] [] f fd) (S : FnScope N ps scope) (hm : mg x = some (.ref f)) (hb : Binds K fd ps []) (hn : ps.length = n)
    (hbody : ∀ (cdv : Value) (A : Around) (outer : List Env) (s : Shared) (H : Hp) (E : XK), Room k (A.deeper (envOfC qual scope s.heap.objs.size f cdv)) → (A.deeper (envOfC qual scope s.heap.objs.size f cdv)).guards = some [] →
      PSs (cxOf CX0 P w K mg base N qual scope f cdv A outer s H E).nox body (loS K t))
    (hsp : ∀ ds M Φ, ds.length = n → sp ds M Φ noX → t { nx := fun _ M' => Φ .non M', rt := Φ } (startD N.length ds) M) : Callee P w K mg base (k + 1) x n sp :=
  ⟨f, fd, ps, hn, hm, F.kp, hb, fnR F S hn hbody hsp⟩
end

section
variable {X : Cx} {elt tg iter : Expr} {ifs : List Expr} {scope : Scope} {own : List (Str × Nat)} {pos spos : Pos} {ti : DI} {p : Pat} {tt : DT} {te : DE}
theorem z_setLc0 {i : Nat} {y : Str} {py : Pos} (hc : X.calm = true) (hN : X.N.Nodup) (hy : X.N[i]? = some y) (hyl : X.env.scope.names.lookup y = some .local) (hsw : swapsWith (.ListComp elt [⟨tg, iter, ifs, 0⟩] scope pos) (some (.Name y py)) spos.line X.env = pure true)
    (hi : PI X tg iter (loI X.K ti)) (ok : BlkOk X.N X.env.scope scope own)
    (hg : ∀ (s : Shared) (H : Hp) (C : Addr) (cl : List (Str × Addr)) (fp : List Addr), PG (X.blk s H scope (compEnvC scope cl C X.env) fp) tg (p.tg X.K))
    (ht : ∀ (s : Shared) (H : Hp) (C : Addr) (cl : List (Str × Addr)) (fp : List Addr), PTs (X.blk s H scope (compEnvC scope cl C X.env) fp) ifs (loT X.K tt))
    (he : ∀ (s : Shared) (H : Hp) (C : Addr) (cl : List (Str × Addr)) (fp : List Addr), PE (X.blk s H scope (compEnvC scope cl C X.env) fp) elt (lo X.K te)) (hfs : ∀ x, foldedSetIterable iter X.env x = pure x)
    (hs : ∀ i ∈ p.slots, i ∈ own.map (·.2)) : PS X (.Assign [.Name y py] (.ListComp elt [⟨tg, iter, ifs, 0⟩] scope pos) spos) (loS X.K (sAsg (dLc ti p (own.map (·.2)) tt te) (.nm i))) :=
  z_setLc hc hN hy hyl hsw hi ok hg ht he hfs hs false
theorem z_setLcM {i : Nat} {y : Str} {py : Pos} (hc : X.calm = true) (hN : X.N.Nodup) (hy : X.N[i]? = some y) (hyl : X.env.scope.names.lookup y = some .local) (hsw : swapsWith (.ListComp elt [⟨tg, iter, ifs, 0⟩] scope pos) (some (.Name y py)) spos.line X.env = pure true)
    (hi : PI X tg iter (loI X.K ti)) (ok : BlkOk X.N X.env.scope scope own)
    (hg : ∀ (s : Shared) (H : Hp) (C : Addr) (cl : List (Str × Addr)) (fp : List Addr), PG (X.blk s H scope (compEnvC scope cl C X.env) fp) tg (p.tg X.K))
    (ht : ∀ (s : Shared) (H : Hp) (C : Addr) (cl : List (Str × Addr)) (fp : List Addr), PTs (X.blk s H scope (compEnvC scope cl C X.env) fp) ifs (loT X.K tt))
    (he : ∀ (s : Shared) (H : Hp) (C : Addr) (cl : List (Str × Addr)) (fp : List Addr), PE (X.blk s H scope (compEnvC scope cl C X.env) fp) elt (lo X.K te)) (hfs : ∀ x, foldedSetIterable iter X.env x = pure x)
    (hs : ∀ i ∈ p.slots, i ∈ own.map (·.2)) : PS X (.Assign [.Name y py] (.ListComp elt [⟨tg, iter, ifs, 0⟩] scope pos) spos) (loS X.K (sAsg (dLcM ti p (own.map (·.2)) tt te) (.nm i))) :=
  z_setLc hc hN hy hyl hsw hi ok hg ht he hfs hs true
end
end DL

namespace DL
open PySem PySem.Spec PyProof.Rows L2

/-! ### what may be shown: a weight -/
def okKey : Key → Bool
  | .inl i => decide (i.natAbs.log2 < 1920)
  | .inr z => z.cps.all (· < 4294967296)
def keyWt : Key → Nat
  | .inl _ => 1921
  | .inr z => 10 * z.length + 2
mutual
def okl : D → Bool
  | .int i => decide (i.natAbs.log2 < 1920)
  | .str z => z.cps.all (· < 4294967296)
  | .tup xs => okls xs
  | .lst xs => okls xs
  | .dic ks xs => ks.all okKey && okls xs
  | .ref _ => false
  | .scr _ => false
  | .ty _ => false
  | .non => true
  | .bl _ => true
def okls : List D → Bool
  | [] => true
  | x :: xs => okl x && okls xs
end
mutual
def wt : D → Nat
  | .int _ => 1921
  | .str z => 10 * z.length + 2
  | .tup xs => wts xs + 3
  | .lst xs => wts xs + 3
  | .dic ks xs => (ks.map fun k => keyWt k + 2).sum + wts xs + 3
  | _ => 5
def wts : List D → Nat
  | [] => 0
  | x :: xs => wt x + 2 + wts xs
end
theorem str_wt {z : Str} (h : (z.cps.all (· < 4294967296)) = true) : (reprText z).length ≤ 10 * z.length + 2 := by
  refine StrLaws.reprText_len z fun c hc => ?_
  have := Array.all_eq_true_iff_forall_mem.mp h c (by simpa using hc)
  have h2 : c < 4294967296 := by simpa using this
  exact h2
theorem listText_len (ts : List Str) : (listText ts).length ≤ piled ts + 2 := by
  unfold listText
  rw [strLen_append]
  have e : (("]" : String) : Str).length = 1 := rfl
  rw [e]
  cases ts with
  | nil => exact Nat.le_refl 2
  | cons t r =>
    have e2 : textFrom 0 "[" (t :: r) = textFrom 1 ("[" ++ "" ++ t) r := rfl
    rw [e2, textFrom_length_pos r 1 _ (by decide), piled_cons, strLen_append, strLen_append]
    have e3 : (("[" : String) : Str).length = 1 := rfl
    have e4 : (("" : String) : Str).length = 0 := rfl
    rw [e3, e4]
    omega
theorem join_len (ts : List Str) : (Str.join ", " ts).length ≤ piled ts := by
  cases ts with
  | nil => exact Nat.le_refl 0
  | cons t r => have := join_length_add (t :: r) (by simp); omega
theorem tupleText_len (ts : List Str) : (tupleText ts).length ≤ piled ts + 3 := by
  unfold tupleText
  rw [strLen_append, strLen_append]
  have e : (("(" : String) : Str).length = 1 := rfl
  have h := join_len ts
  have e2 : ((if ts.length == 1 then ",)" else ")" : String) : Str).length ≤ 2 := by split <;> decide
  rw [e]
  omega
theorem dictText_len (ts : List Str) : (dictText ts).length ≤ piled ts + 2 := by
  unfold dictText
  rw [strLen_append, strLen_append]
  have e : (("{" : String) : Str).length = 1 := rfl
  have e2 : (("}" : String) : Str).length = 1 := rfl
  have h := join_len ts
  rw [e, e2]
  omega
theorem key_wt {k : Key} (h : okKey k = true) : (keyPy k).shown.length ≤ keyWt k ∧ (keyPy k).showable = true := by
  cases k with
  | inl i =>
    have h' : i.natAbs.log2 < 1920 := by simpa [okKey] using h
    exact ⟨int_text_len_1921 h', by simpa only [keyPy, PyData.showable, decide_eq_true_eq] using h'⟩
  | inr z => exact ⟨str_wt h, rfl⟩
mutual
theorem wt_ok : ∀ x : D, okl x = true → (toPy x).shown.length ≤ wt x ∧ (toPy x).showable = true
  | .non, _ => ⟨by decide, rfl⟩
  | .bl b, _ => ⟨by cases b <;> decide, rfl⟩
  | .int i, h => by
    have h' : i.natAbs.log2 < 1920 := by simpa [okl] using h
    exact ⟨int_text_len_1921 h', by simpa only [toPy, PyData.showable, decide_eq_true_eq] using h'⟩
  | .str z, h => ⟨str_wt (by simpa only [okl] using h), rfl⟩
  | .tup xs, h => by
    obtain ⟨h1, h2⟩ := wts_ok xs (by simpa only [okl] using h)
    simp only [toPy, PyData.shown, PyData.showable, wt]
    exact ⟨Nat.le_trans (tupleText_len _) (by omega), h2⟩
  | .lst xs, h => by
    obtain ⟨h1, h2⟩ := wts_ok xs (by simpa only [okl] using h)
    simp only [toPy, PyData.shown, PyData.showable, wt]
    exact ⟨Nat.le_trans (listText_len _) (by omega), h2⟩
  | .dic ks xs, h => by
    have h' : (ks.all okKey && okls xs) = true := by simpa only [okl] using h
    rw [Bool.and_eq_true] at h'
    obtain ⟨h1, h2⟩ := wkv_ok ks xs h'.1 h'.2
    simp only [toPy, PyData.shown, PyData.showable, wt]
    exact ⟨Nat.le_trans (dictText_len _) (by omega), h2⟩
  | .ref _, h => by simp [okl] at h
  | .scr _, h => by simp [okl] at h
  | .ty _, h => by simp [okl] at h
theorem wts_ok : ∀ xs : List D, okls xs = true → piled (PyData.shownAll (toPys xs)) ≤ wts xs ∧ PyData.showableAll (toPys xs) = true
  | [], _ => ⟨Nat.le_refl _, rfl⟩
  | x :: xs, h => by
    simp only [okls, Bool.and_eq_true] at h
    obtain ⟨a1, a2⟩ := wt_ok x h.1
    obtain ⟨b1, b2⟩ := wts_ok xs h.2
    simp only [toPys, PyData.shownAll, PyData.showableAll, wts, piled_cons, a2, b2, Bool.and_self, and_true]
    omega
theorem wkv_ok : ∀ (ks : List Key) (xs : List D), ks.all okKey = true → okls xs = true → piled (PyData.shownKv ((ks.map keyPy).zip (toPys xs))) ≤ (ks.map fun k => keyWt k + 2).sum + wts xs ∧ PyData.showableKv ((ks.map keyPy).zip (toPys xs)) = true
  | [], xs, _, _ => ⟨by simp [PyData.shownKv, piled], by simp [PyData.showableKv]⟩
  | k :: ks, [], _, _ => ⟨by simp [toPys, PyData.shownKv, piled], by simp [toPys, PyData.showableKv]⟩
  | k :: ks, x :: xs, h, h' => by
    simp only [List.all_cons, Bool.and_eq_true] at h
    simp only [okls, Bool.and_eq_true] at h'
    obtain ⟨k1, k2⟩ := key_wt h.1
    obtain ⟨a1, a2⟩ := wt_ok x h'.1
    obtain ⟨b1, b2⟩ := wkv_ok ks xs h.2 h'.2
    simp only [List.map_cons, toPys, List.zip_cons_cons, PyData.shownKv, PyData.showableKv, wts, piled_cons, a2, b2, k2, Bool.and_self, and_true, List.sum_cons]
    rw [strLen_append, strLen_append]
    have e : ((": " : String) : Str).length = 2 := rfl
    rw [e]
    omega
end
/-- may be shown and compared, with room -/
structure Fine (x : D) (w : Nat) : Prop where
  st : still x = true
  dp : dep x ≤ 30
  ok : okl x = true
  wt : wt x ≤ w
  dc : hasDic x = true → noLst x = true
theorem Fine.show {x : D} {w : Nat} (h : Fine x w) (hw : w ≤ 16000000) : ShowOk x :=
  ⟨h.st, by have := h.dp; omega, (wt_ok x h.ok).2, by have := (wt_ok x h.ok).1; have := h.wt; rw [sizeLine_eq]; omega⟩
theorem Fine.mono {x : D} {w w' : Nat} (h : Fine x w) (hw : w ≤ w') : Fine x w' := ⟨h.st, h.dp, h.ok, Nat.le_trans h.wt hw, h.dc⟩
/-! trees without a place are as they are -/
mutual
theorem snap_still {M : MS} : ∀ x : D, still x = true → snap M x = x
  | .non, _ => rfl
  | .bl _, _ => rfl
  | .int _, _ => rfl
  | .str _, _ => rfl
  | .tup xs, h => by simp only [snap]; rw [snaps_still xs (by simpa only [still] using h)]
  | .lst xs, h => by simp only [snap]; rw [snaps_still xs (by simpa only [still] using h)]
  | .dic ks xs, h => by
    have h' : (stills xs && (ks.length == xs.length)) = true := by simpa only [still] using h
    rw [Bool.and_eq_true] at h'
    simp only [snap]; rw [snaps_still xs h'.1]
  | .ref _, h => by simp [still] at h
  | .scr _, h => by simp [still] at h
  | .ty _, h => by simp [still] at h
theorem snaps_still {M : MS} : ∀ xs : List D, stills xs = true → snaps M xs = xs
  | [], _ => rfl
  | x :: xs, h => by
    simp only [stills, Bool.and_eq_true] at h
    simp only [snaps, snap_still x h.1, snaps_still xs h.2]
end
/-- the text of a tree -/
def rpr (x : D) : Str := (toPy x).shown
theorem repr_fine {x : D} {w : Nat} {M : MS} {Φ : DQ} (h : Fine x w) (hw : w ≤ 16000000) (q : Φ (.str (rpr x)) M) : rRepr [x] M Φ := by
  show ShowOk (snap M x) ∧ Φ (.str (toPy (snap M x)).shown) M
  rw [snap_still x h.st]
  exact ⟨h.show hw, q⟩
/-- as Fine, of lists with dicts within too -/
structure Fin2 (x : D) (w : Nat) : Prop where
  st : still x = true
  dp : dep x ≤ 30
  ok : okl x = true
  wt : wt x ≤ w
theorem Fine.two {x : D} {w : Nat} (h : Fine x w) : Fin2 x w := ⟨h.st, h.dp, h.ok, h.wt⟩
theorem repr_fin2 {x : D} {w : Nat} {M : MS} {Φ : DQ} (h : Fin2 x w) (hw : w ≤ 16000000) (q : Φ (.str (rpr x)) M) : rRepr [x] M Φ := by
  show ShowOk (snap M x) ∧ Φ (.str (toPy (snap M x)).shown) M
  rw [snap_still x h.st]
  exact ⟨⟨h.st, by have := h.dp; omega, (wt_ok x h.ok).2, by have := (wt_ok x h.ok).1; have := h.wt; rw [sizeLine_eq]; omega⟩, q⟩
/-- == of flat data -/
theorem eqd_refl_str (z : Str) : eqd (.str z) (.str z) = true := by simp [eqd]
theorem rEq_still {x y : D} {M : MS} {Φ : DQ} (hx : plain x = true) (dx : dep x ≤ 60) (hy : plain y = true) (dy : dep y ≤ 60) (q : Φ (.bl (eqd x y)) M) : rEq x y M Φ := by
  unfold rEq
  rw [snap_still x (still_of_plain x hx), snap_still y (still_of_plain y hy)]
  exact .inr (.inl ⟨⟨hx, dx⟩, ⟨hy, dy⟩, q⟩)
theorem rNe_still {x y : D} {M : MS} {Φ : DQ} (hx : plain x = true) (dx : dep x ≤ 60) (hy : plain y = true) (dy : dep y ≤ 60) (q : Φ (.bl (!eqd x y)) M) : rNe x y M Φ := by
  unfold rNe
  rw [snap_still x (still_of_plain x hx), snap_still y (still_of_plain y hy)]
  exact .inr (.inl ⟨⟨hx, dx⟩, ⟨hy, dy⟩, q⟩)

theorem rEq_len {x y : D} {xs ys : List D} {M : MS} {Φ : DQ} (hx : seqL M x = some xs) (hy : seqL M y = some ys) (hn : xs.length ≠ ys.length) (q : Φ (.bl false) M) : rEq x y M Φ := .inr (.inr ⟨xs, ys, hx, hy, hn, q⟩)
theorem rNe_len {x y : D} {xs ys : List D} {M : MS} {Φ : DQ} (hx : seqL M x = some xs) (hy : seqL M y = some ys) (hn : xs.length ≠ ys.length) (q : Φ (.bl true) M) : rNe x y M Φ := .inr (.inr ⟨xs, ys, hx, hy, hn, q⟩)
theorem rEq_i {i j : Int} {M : MS} {Φ : DQ} (q : Φ (.bl (i == j)) M) : rEq (.int i) (.int j) M Φ := rEq_still rfl (Nat.zero_le _) rfl (Nat.zero_le _) q
theorem rNe_i {i j : Int} {M : MS} {Φ : DQ} (q : Φ (.bl (!(i == j))) M) : rNe (.int i) (.int j) M Φ := rNe_still rfl (Nat.zero_le _) rfl (Nat.zero_le _) q
theorem rEq_s {a b : Str} {M : MS} {Φ : DQ} (q : Φ (.bl (a == b)) M) : rEq (.str a) (.str b) M Φ := .inl ⟨a, b, rfl, rfl, q⟩
theorem rNe_s {a b : Str} {M : MS} {Φ : DQ} (q : Φ (.bl (!(a == b))) M) : rNe (.str a) (.str b) M Φ := .inl ⟨a, b, rfl, rfl, q⟩

/-! ### loops by a word -/
theorem forW_inv {G : MS → Prop} {p : Pat} {body : DS} {Δ : DEnds} (I : List D → DEnv → MS → Prop) (hG : ∀ ds ρ M, I ds ρ M → G M) (h0 : ∀ ρ M, I [] ρ M → Δ.nx ρ M)
    (hs : ∀ d ds ρ M (Nx : DEnv → MS → Prop), I (d :: ds) ρ M → (∀ ρ' M', I ds ρ' M' → Nx ρ' M') → ∃ ρ1, p.put d ρ = some ρ1 ∧ body { nx := Nx, rt := Δ.rt, bk := Δ.nx, ct := Nx } ρ1 M) :
    ∀ (ds : List D) (ρ : DEnv) (M : MS), I ds ρ M → forW G p body Δ ds ρ M
  | [], ρ, M, h => ⟨hG _ _ _ h, h0 _ _ h⟩
  | d :: ds, ρ, M, h => by
    obtain ⟨ρ1, e, b⟩ := hs d ds ρ M (fun ρ' M' => forW G p body Δ ds ρ' M') h fun ρ' M' q => forW_inv I hG h0 hs ds ρ' M' q
    refine ⟨hG _ _ _ h, ?_⟩
    rw [e]
    exact b
theorem lcW_inv {G : MS → Prop} {p : Pat} {tt : DT} {te : DE} {ρ : DEnv} {Φ : List D → MS → Prop} (I : List D → List D → MS → Prop) (hG : ∀ ds acc M, I ds acc M → G M) (h0 : ∀ acc M, I [] acc M → Φ acc M)
    (hs : ∀ d ds acc M (Nx : List D → MS → Prop), I (d :: ds) acc M → (∀ acc' M', I ds acc' M' → Nx acc' M') → ∃ ρ1, p.put d ρ = some ρ1 ∧ tt ρ1 M fun b M1 => if b = true then te ρ1 M1 fun y M2 => acc.length < 100000 ∧ Nx (acc ++ [y]) M2 else Nx acc M1) :
    ∀ (ds acc : List D) (M : MS), I ds acc M → lcW G p tt te ρ ds acc M Φ
  | [], acc, M, h => ⟨hG _ _ _ h, h0 _ _ h⟩
  | d :: ds, acc, M, h => by
    obtain ⟨ρ1, e, b⟩ := hs d ds acc M (fun acc' M' => lcW G p tt te ρ ds acc' M' Φ) h fun acc' M' q => lcW_inv I hG h0 hs ds acc' M' q
    refine ⟨hG _ _ _ h, ?_⟩
    rw [e]
    exact b
/-- a comprehension that computes f of each item, nothing else -/
theorem lcW_map {G : MS → Prop} {p : Pat} {tt : DT} {te : DE} {ρ : DEnv} {Φ : List D → MS → Prop} {M : MS} (f : D → Option D) (items : List D) (hG : G M) (hl : items.length ≤ 100000)
    (hs : ∀ d ∈ items, ∃ ρ1, p.put d ρ = some ρ1 ∧ ∀ (acc : List D) (Nx : List D → MS → Prop), acc.length < 100000 → Nx (acc ++ (f d).toList) M → tt ρ1 M fun b M1 => if b = true then te ρ1 M1 fun y M2 => acc.length < 100000 ∧ Nx (acc ++ [y]) M2 else Nx acc M1)
    (h : Φ (items.filterMap f) M) : lcW G p tt te ρ items [] M Φ := by
  refine lcW_inv (fun ds acc M' => M' = M ∧ (∀ d ∈ ds, d ∈ items) ∧ acc.length + ds.length ≤ 100000 ∧ Φ (acc ++ ds.filterMap f) M) (fun _ _ _ h => h.1 ▸ hG) (fun acc M' q => ?_) (fun d ds acc M' Nx q k => ?_) items [] M ⟨rfl, fun _ h => h, by simpa using hl, h⟩
  · obtain ⟨rfl, _, _, q⟩ := q
    simpa using q
  · obtain ⟨rfl, hi, hl, q⟩ := q
    obtain ⟨ρ1, e, b⟩ := hs d (hi d (List.mem_cons_self ..))
    have hl' : acc.length + (ds.length + 1) ≤ 100000 := by simpa using hl
    refine ⟨ρ1, e, b acc Nx (by omega) (k _ _ ⟨rfl, fun x hx => hi x (List.mem_cons_of_mem _ hx), ?_, ?_⟩)⟩
    · cases hf : f d <;> simp <;> omega
    · rw [List.filterMap_cons] at q
      cases hf : f d with
      | none => rw [hf] at q; simpa using q
      | some y => rw [hf] at q; simpa using q
end DL

namespace DL
open PySem PySem.Spec PyProof.Rows L2

/-! ### words for runs -/
section
variable {M : MS} {Φ : DQ} {x y d : D} {xs ds : List D} {i j : Int} {a : Addr} {n : Nat}
theorem atI_n {α : Type} (xs : List α) (n : Nat) : atI xs (n : Int) = xs[n]? := by
  unfold atI
  by_cases h : n < xs.length
  · have e : ixN xs.length (n : Int) = some n := by
      unfold ixN
      rw [if_pos (by omega), if_pos (by omega)]; simp
    rw [e]; rfl
  · have e : ixN xs.length (n : Int) = none := by
      unfold ixN
      rw [if_pos (by omega), if_neg (by omega)]
    rw [e, List.getElem?_eq_none (by omega)]; rfl
theorem atI_t {α : Type} (xs : List α) (i : Int) (h : 0 ≤ i) : atI xs i = xs[i.toNat]? := by
  have := atI_n xs i.toNat
  rwa [show ((i.toNat : Nat) : Int) = i by omega] at this
theorem at0 {α : Type} (xs : List α) : atI xs 0 = xs[0]? := atI_n xs 0
theorem at1 {α : Type} (xs : List α) : atI xs 1 = xs[1]? := atI_n xs 1
theorem at2 {α : Type} (xs : List α) : atI xs 2 = xs[2]? := atI_n xs 2
theorem at3 {α : Type} (xs : List α) : atI xs 3 = xs[3]? := atI_n xs 3
theorem at4 {α : Type} (xs : List α) : atI xs 4 = xs[4]? := atI_n xs 4
theorem at5 {α : Type} (xs : List α) : atI xs 5 = xs[5]? := atI_n xs 5
theorem at6 {α : Type} (xs : List α) : atI xs 6 = xs[6]? := atI_n xs 6
theorem at7 {α : Type} (xs : List α) : atI xs 7 = xs[7]? := atI_n xs 7
theorem at8 {α : Type} (xs : List α) : atI xs 8 = xs[8]? := atI_n xs 8
theorem at9 {α : Type} (xs : List α) : atI xs 9 = xs[9]? := atI_n xs 9
theorem at10 {α : Type} (xs : List α) : atI xs 10 = xs[10]? := atI_n xs 10
theorem at11 {α : Type} (xs : List α) : atI xs 11 = xs[11]? := atI_n xs 11
theorem at12 {α : Type} (xs : List α) : atI xs 12 = xs[12]? := atI_n xs 12
theorem at13 {α : Type} (xs : List α) : atI xs 13 = xs[13]? := atI_n xs 13
theorem ixN_t (n : Nat) (i : Int) (h : 0 ≤ i) (h2 : i < n) : ixN n i = some i.toNat := by
  unfold ixN
  rw [if_pos h, if_pos h2]
theorem rIx_seq (h : seqA M x = some xs) (e : atI xs i = some d) (q : Φ d M) : rIx x (.int i) M Φ := by
  unfold rIx
  simp only [h, e]
  exact q
theorem rSet_ref {k : MS → Prop} (h : M.map a = some (.lst ds)) (e : ixN ds.length i = some n) (q : k (M.put a (.lst (ds.set n y)))) : rSet (.ref a) (.int i) y M k := by
  unfold rSet
  simp only [h, e]
  exact q
theorem seqA_ref (h : M.map a = some (.lst ds)) : seqA M (.ref a) = some ds := by simp only [seqA, h]
theorem rLen_seq (hx : ∀ z, x ≠ .str z) (h : seqA M x = some xs) (q : Φ (.int xs.length) M) : rLen [x] M Φ := by
  unfold rLen
  split
  · rename_i z e
    injection e with e
    exact absurd e (hx z)
  · rename_i y _ e
    injection e with e
    subst e
    simp only [h]
    exact q
  · rename_i h1 h2
    exact absurd rfl (h2 x)
theorem rAdd_i (q : Φ (.int (i + j)) M) : rAdd (.int i) (.int j) M Φ := q
theorem rAdd_t {ys : List D} (h : xs.length + ys.length ≤ 100000) (q : Φ (.tup (xs ++ ys)) M) : rAdd (.tup xs) (.tup ys) M Φ := ⟨h, q⟩
theorem rAdd_l {ys : List D} (h : xs.length + ys.length ≤ 100000) (q : Φ (.lst (xs ++ ys)) M) : rAdd (.lst xs) (.lst ys) M Φ := ⟨h, q⟩
theorem rAdd_r {p : Addr} {ys : List D} (hx : seqL M (.ref p) = some xs) (hy : seqL M y = some ys) (h : xs.length + ys.length ≤ 100000) (q : Φ (.lst (xs ++ ys)) M) : rAdd (.ref p) y M Φ := by
  unfold rAdd
  simp only [hx, hy]
  exact ⟨h, q⟩
theorem rMax2 (q : Φ (.int (max i j)) M) : rMax [.int i, .int j] M Φ := q
theorem rMin2 (q : Φ (.int (min i j)) M) : rMin [.int i, .int j] M Φ := q
theorem rSub_i (q : Φ (.int (i - j)) M) : rSub (.int i) (.int j) M Φ := q
theorem rNeg_i (q : Φ (.int (-i)) M) : rNeg (.int i) M Φ := q
theorem rCmp_i {f : Int → Int → Bool} (q : Φ (.bl (f i j)) M) : rCmp f (.int i) (.int j) M Φ := q
theorem rMod_i (h : 0 < j) (q : Φ (.int (i % j)) M) : rMod (.int i) (.int j) M Φ := ⟨h, q⟩
theorem rDiv_i (h : 0 < j) (h2 : j < 1073741824) (q : Φ (.int (i / j)) M) : rDiv (.int i) (.int j) M Φ := ⟨h, h2, q⟩
theorem rPow_i (h : CPow i j) (q : Φ (.int (i ^ j.toNat)) M) : rPow (.int i) (.int j) M Φ := ⟨h, q⟩
theorem rMul_i (h : CMul i j) (q : Φ (.int (i * j)) M) : rMul (.int i) (.int j) M Φ := ⟨h, q⟩
end
/-- the deck: at least k draws are left -/
structure Dk (M : MS) (a c : Addr) (k : Nat) : Prop where
  ne : a ≠ c
  ex : ∃ (n : Int) (cells : List Int), M.map a = some (.lst [.ref c, .int n]) ∧ M.map c = some (.lst (cells.map D.int)) ∧ 0 ≤ n ∧ n + k ≤ 2 ^ 40 ∧ cells.length ≤ 63 ∧ ∀ x ∈ cells, 0 ≤ x
def Kp (a c : Addr) (M M' : MS) : Prop := ∀ b, b ≠ a → b ≠ c → M.map b ≠ none → M'.map b = M.map b
theorem Dk.mono {M : MS} {a c : Addr} {k k' : Nat} (h : Dk M a c k) (hk : k' ≤ k) : Dk M a c k' := by
  obtain ⟨n, cells, h1, h2, h3, h4, h5, h6⟩ := h.ex
  exact ⟨h.ne, n, cells, h1, h2, h3, by omega, h5, h6⟩
theorem Kp.refl {a c : Addr} {M : MS} : Kp a c M M := fun _ _ _ _ => rfl
theorem Kp.trans {a c : Addr} {M M1 M2 : MS} (h : Kp a c M M1) (h' : Kp a c M1 M2) : Kp a c M M2 := fun b h1 h2 h3 => by
  rw [h' b h1 h2 (by rw [h b h1 h2 h3]; exact h3), h b h1 h2 h3]
theorem Dk.a_ne {M : MS} {a c p : Addr} {k : Nat} (h : Dk M a c k) (hp : M.map p = none) : p ≠ a := fun e => by
  obtain ⟨n, cells, h1, _⟩ := h.ex
  rw [← e, hp] at h1; cases h1
theorem Dk.c_ne {M : MS} {a c p : Addr} {k : Nat} (h : Dk M a c k) (hp : M.map p = none) : p ≠ c := fun e => by
  obtain ⟨n, cells, _, h1, _⟩ := h.ex
  rw [← e, hp] at h1; cases h1
/-- another place is written -/
theorem Dk.put {M : MS} {a c p : Addr} {k : Nat} {o : MO} (h : Dk M a c k) (ha : p ≠ a) (hc : p ≠ c) : Dk (M.put p o) a c k := by
  obtain ⟨n, cells, h1, h2, h3⟩ := h.ex
  exact ⟨h.ne, n, cells, by rw [MS.put_ne (Ne.symm ha)]; exact h1, by rw [MS.put_ne (Ne.symm hc)]; exact h2, h3⟩
theorem Kp.new {M : MS} {a c p : Addr} {o : MO} (hp : M.map p = none) : Kp a c M (M.put p o) := fun b _ _ h => MS.put_ne fun e => by subst e; exact h hp

/-! ### isinstance of a tree without a place -/
def isTup : D → Bool
  | .tup _ => true
  | _ => false
theorem rIsi_tup {M : MS} {Φ : DQ} {d : D} (h : still d = true) (q : Φ (.bl (isTup d)) M) : rIsi [d, .ty .tuple] M Φ := by
  unfold rIsi
  cases d <;> first
    | exact ⟨by decide, q⟩
    | simp [still] at h

/-- no promise at all (under a recursion) -/
def spNo : DSp := fun _ _ _ _ => False
theorem FnG.no {P : Program} {w : World} {K : PySem.W.Frag} {mg : Str → Option Value} {base : Heap} {CX : CXT} {k n : Nat} {f : Addr} {fd : FuncData} {ps : List Str} : FnG P w K mg base CX k f fd ps (loSp K spNo n) :=
  ⟨fun _ _ _ _ ⟨_, _, _, _, _, _, _, h, _⟩ => h.elim, fun _ _ _ _ _ _ _ _ _ _ _ _ _ _ ⟨_, _, _, _, _, _, _, h, _⟩ => h.elim⟩
end DL

namespace DL
open PySem PySem.Spec PyProof.Rows L2

/-! ### t[::-1] of a tuple; of either -/
section
variable {prog : Program} {w : World} {A : Around} {E : Value → Shared → Prop} {s : Shared}
theorem rev_places (n : Nat) : Builtin.Slice.slicePlaces ((n : Int) - 1) (-1) (-1) = n := by
  unfold Builtin.Slice.slicePlaces
  rw [if_neg (by decide)]
  by_cases h : n = 0
  · subst h; rfl
  · rw [if_pos (by omega), show (-(-1) : Int) = 1 by decide, Int.ediv_one]
    omega
theorem rev_applied {sl : Addr} {vl vu vs : Value} {n : Nat} {Q : Int × Int × Nat → Shared → Prop} (hs : s.heap.IsSliceOf sl vl vu vs) (pl : IsPart vl none) (pu : IsPart vu none) (ps : IsPart vs (some (-1))) (h : Q ((n : Int) - 1, -1, n) s) :
    wpAny (model prog w) A (Builtin.Slice.sliceApplied (.ref sl) (pure (n : Int))) Q E s := by
  obtain ⟨os, e1, e2, e3⟩ := id hs
  unfold Builtin.Slice.sliceApplied
  unfold Builtin.Slice.sliceFields
  refine wpAny_bind (wpAny_bind (wpAny_field e1 e3 (x := vl) rfl ?_))
  refine wpAny_bind (wpAny_field e1 e3 (x := vu) rfl ?_)
  refine wpAny_bind (wpAny_field e1 e3 (x := vs) rfl (wpAny_pure ?_))
  refine wpAny_bind (HT.slicePart_ ps ?_)
  show wpAny _ _ (if ((-1 : Int) == 0) = true then _ else _) _ _ s
  rw [if_neg (by decide)]
  refine wpAny_bind (HT.slicePart_ pl (wpAny_bind (HT.slicePart_ pu ?_)))
  refine wpAny_bind (wpAny_pure ?_)
  show wpAny _ _ (pure ((n : Int) - 1, (-1 : Int), Builtin.Slice.slicePlaces ((n : Int) - 1) (-1) (-1))) _ _ s
  rw [rev_places]
  exact wpAny_pure h
theorem rev_pick (xs : Array Value) : ((List.range xs.size).filterMap fun (k : Nat) => xs[(((xs.size : Nat) : Int) - 1 + (k : Int) * (-1)).toNat]?) = xs.toList.reverse := by
  have e : (List.range xs.size).filterMap (fun (k : Nat) => xs[(((xs.size : Nat) : Int) - 1 + (k : Int) * (-1)).toNat]?) = ((List.range xs.size).map fun k => xs.size - 1 - k).filterMap (xs[·]?) := by
    rw [List.filterMap_map]
    have c : ∀ (l : List Nat), (∀ k ∈ l, k < xs.size) → l.filterMap (fun (k : Nat) => xs[(((xs.size : Nat) : Int) - 1 + (k : Int) * (-1)).toNat]?) = l.filterMap ((xs[·]?) ∘ fun k => xs.size - 1 - k) := by
      intro l
      induction l with
      | nil => intro _; rfl
      | cons k l ih =>
        intro hl
        have hk := hl k (List.mem_cons_self ..)
        have e : (((xs.size : Nat) : Int) - 1 + (k : Int) * (-1)).toNat = xs.size - 1 - k := by omega
        rw [List.filterMap_cons, List.filterMap_cons, ih fun k' h' => hl k' (List.mem_cons_of_mem _ h'), e]
        rfl
    exact c _ fun k hk => List.mem_range.mp hk
  rw [e, PySem.W.krv_range, List.filterMap_reverse, PySem.W.krv_all]
theorem getItem_rev {t sl : Addr} {items : Array Value} {vl vu vs : Value} {Q : Value → Shared → Prop} (ht : IsTup s.heap t items) (hs : s.heap.IsSliceOf sl vl vu vs) (pl : IsPart vl none) (pu : IsPart vu none) (ps : IsPart vs (some (-1))) (hz : items.size ≤ sizeLine)
    (h : Q (.ref s.heap.objs.size) { s with heap := s.heap.push { cls := .type "tuple", data := .seq items.toList.reverse.toArray } }) : wpAny (model prog w) A (getItem (.ref t) (.ref sl)) Q E s := by
  have hk : sizeOk (.seq items.toList.reverse.toArray) := by
    show items.toList.reverse.toArray.size ≤ sizeLine
    simpa using hz
  obtain ⟨os, e1, e2, e3⟩ := id hs
  have hT : s.TypeIs (.ref sl) "slice" := ⟨os, e1, e2⟩
  unfold getItem
  try with_reducible refine wpAny_holding ?_
  first | refine wpAny_bind (wpAny_pure ?_) | skip
  refine wpAny_bind (wpAny_sequenceKey ht.typeIs (by decide) ?_)
  refine wpAny_bind ?_
  refine wpAny_callSpecial?_slot (name := Str.ofString "__getitem__") ht.typeIs PyProof.Rows.slot_tuple_getitem ?_
  refine wpAny_call_entry PyProof.Rows.slot_tuple_getitem ht.typeIs PyProof.Rows.entry_tuple_getitem ?_ (PyProof.Rows.args_tuple_getitem _ _)
  show wpAny _ _ (Builtin.Tuple.tupleItemsOf (.ref t) >>= fun xs => _) _ _ s
  refine wpAny_bind (PyProof.Rows.tupleItemsOf_ ht ?_)
  refine wpAny_bind (wpAny_typeOf hT ?_)
  rw [if_pos (by decide)]
  refine wpAny_bind (rev_applied hs pl pu ps ?_)
  have hno : ¬ (((((items.size : Nat) : Int) - 1 == 0) && ((-1 : Int) == 1) && (items.size == items.size)) = true) := by simp
  show wpAny _ _ (if ((((items.size : Nat) : Int) - 1 == 0) && ((-1 : Int) == 1) && (items.size == items.size)) = true then _ else _) _ _ s
  rw [if_neg hno, rev_pick]
  first
    | exact wpAny_bind (m := Builtin.Tuple.tupleExact _) (wpAny_newObj_type (wpAny_pure ⟨_, rfl, wpAny_pure h⟩) hk)
    | exact wpAny_bind (m := Builtin.Tuple.tupleExact _) (wpAny_newObj_type (wpAny_bind (wpAny_pure (wpAny_pure ⟨_, rfl, wpAny_pure h⟩))) hk)
    | exact wpAny_bind (wpAny_bind (m := Builtin.Tuple.tupleExact _) (wpAny_newObj_type (wpAny_pure (wpAny_pure ⟨_, rfl, wpAny_pure h⟩)) hk))
end
def dRev (te : DE) : DE := fun ρ M Φ => te ρ M fun x M1 => match x with
  | .tup xs => Φ (.tup xs.reverse) M1
  | x => (match seqA M1 x with
    | some xs => Φ (.lst xs.reverse) M1
    | none => False)
section
variable {X : Cx} {pos : Pos}
/-- the slice [::-1] is made, then taken -/
theorem rev_core {e : Expr} {te : TE} {R : V → Hp → VK → Prop} {k : Nat} {p1 p2 p3 : Pos} (he : PE X e te)
    (hr : ∀ (pins : List (Addr × Obj)) (s : Shared) (σ : L2.St) (H : Hp) (x : V) (v vl vu vs : Value) (sl : Addr) (Q : VK), Inv X pins σ H s → RelV x v → s.heap.IsSliceOf sl vl vu vs → IsPart vl none → IsPart vu none → IsPart vs (some (-1)) → R x H Q →
      ∃ T id, typeLookup (.type T) "__getitem__" = pure (some (.builtin id)) ∧ s.TypeIs v T ∧ wpAny (model X.prog X.w) X.A (getItem v (.ref sl)) (EP X pins σ Q) X.xe s) :
    PE X (.Subscript e (.Slice none none (some (.UnaryOp .USub (.Constant (.int 1) k p1) p2)) p3) pos) (fun σ H Q => te σ H fun x H1 => R x H1 Q) := by
  refine ⟨fun pins s σ H Q I h => ?_⟩
  refine Subscript_ (thn (he.run pins s σ H _ I h) fun v s1 ⟨x, H1, I1, r1, q1⟩ => ?_)
  have hst : PO X (some (.UnaryOp .USub (.Constant (.int 1) k p1) p2)) (tPart (tUn (rU fun i => .int (-i)) (tC (.int 1)))) := po_some (pe_un un_neg pe_int)
  refine wpAny_Slice (thn (po_none.run pins s1 σ H1 (fun o H2 => o = none ∧ H2 = H1) I1 ⟨rfl, rfl⟩) fun vl s2 q2 => ?_)
  obtain ⟨l, H2, I2, pl, el, e2⟩ := q2
  subst el e2
  refine thn (po_none.run pins s2 σ H2 (fun o H3 => o = none ∧ H3 = H2) I2 ⟨rfl, rfl⟩) fun vu s3 q3 => ?_
  obtain ⟨u, H3, I3, pu, eu, e3⟩ := q3
  subst eu e3
  refine thn (hst.run pins s3 σ H3 (fun o H4 => o = some (-1) ∧ H4 = H3) I3 ⟨1, rfl, -1, rfl, rfl, rfl⟩) fun vs s4 q4 => ?_
  obtain ⟨o, H4, I4, ps, eo, e4⟩ := q4
  subst eo e4
  have I5 : Inv X pins σ H4 { s4 with heap := s4.heap.push { cls := .type "slice", data := .fields #[vl, vu, vs] } } := I4.kept (t' := s4.toks) fun b ob q => Heap.get?_push_of_some _ q
  obtain ⟨T, id, hl, hT, run⟩ := hr pins _ σ H4 x v vl vu vs _ Q I5 r1 (Heap.IsSliceOf.new _ vl vu vs) pl pu ps q1
  exact tail_any (ops := [v, .ref s4.heap.objs.size]) hT hl run (by with_unfolding_all rfl)
theorem q_rev {e : Expr} {te : DE} {k : Nat} {p1 p2 p3 : Pos} (he : PE X e (lo X.K te)) : PE X (.Subscript e (.Slice none none (some (.UnaryOp .USub (.Constant (.int 1) k p1) p2)) p3) pos) (lo X.K (dRev te)) := by
  refine PE.imp (rev_core (R := fun vx H Q => ∃ F M x Φ, AbsM X.K F H M ∧ Rep X.K F H x vx ∧ (match x with
    | .tup xs => Φ (.tup xs.reverse) M
    | x => (match seqA M x with
      | some xs => Φ (.lst xs.reverse) M
      | none => False)) ∧ ∀ v H', loQ X.K F H M Φ v H' → Q v H') he ?_) ?_
  · rintro pins s σ H vx v vl vu vs sl Q I rv hs pl pu ps ⟨F, M, x, Φ, am, rx, h, k⟩
    have lists : ∀ {xs : List D} {a : Addr} {ws : List V}, vx = .ref a → SqL X.K H a ws → Reps X.K F H xs ws → Φ (.lst xs.reverse) M → ∃ T id, typeLookup (.type T) "__getitem__" = pure (some (.builtin id)) ∧ s.TypeIs v T ∧ wpAny (model X.prog X.w) X.A (getItem v (.ref sl)) (EP X pins σ Q) X.xe s := by
      intro xs a ws e hq p q
      subst e
      cases rv
      obtain ⟨its, r, ht, hz⟩ := I.list hq
      have hlen := r.length
      refine ⟨"list", _, PySem.slot_list_getitem.lookup, ht.isList.typeIs, wpAny_getItem_list_slice ht.isList hs pl pu ps (by decide) ?_ (by rw [List.size_toArray]; omega)⟩
      rw [PySem.W.krv_pick]
      refine ⟨.ref _, _, I.laid (t' := s.toks) (o := .lst ws.reverse) (fun b ob q => Heap.get?_push_of_some _ q) (Nat.le_refl _) ?_, rfl, k _ _ (new_lst am p.reverse q (I.hok.fresh (Nat.le_refl _)))⟩
      refine ⟨?_, _, 0, r.reverse, Heap.get?_push_size _ rfl⟩
      rw [List.length_reverse]
      exact hz
    cases x with
    | tup xs =>
      obtain ⟨a, ws, rfl, hq, p⟩ := rep_tup rx
      cases rv
      obtain ⟨its, r, ht, hz⟩ := I.tuple hq
      have hlen := r.length
      refine ⟨"tuple", _, PyProof.Rows.slot_tuple_getitem.lookup, ht.typeIs, getItem_rev ht hs pl pu ps (by rw [List.size_toArray]; omega) ?_⟩
      refine ⟨.ref _, _, I.laid (t' := s.toks) (o := .tup ws.reverse) (fun b ob q => Heap.get?_push_of_some _ q) (Nat.le_refl _) ?_, rfl, k _ _ (new_tup am p.reverse h (I.hok.fresh (Nat.le_refl _)))⟩
      refine ⟨?_, _, r.reverse, IsTup.new _ _⟩
      rw [List.length_reverse]
      exact hz
    | lst xs =>
      simp only [Rep] at rx
      obtain ⟨a, ws, e, _, h1, h2⟩ := rx
      exact lists e (SqL.of h1) h2 h
    | scr ns =>
      simp only [Rep] at rx
      obtain ⟨a, e, h1⟩ := rx
      exact lists e h1.sq (Reps.ints ns) h
    | ref a =>
      simp only [seqA] at h
      split at h
      · rename_i ys e
        split at e
        · rename_i zs e2
          cases e
          obtain ⟨_, ws, h1, h2⟩ := am.mp a _ e2
          exact lists rx (SqL.of h1) h2 h
        · cases e
      · exact h.elim
    | _ => exact h.elim
  · intro σ H Q h
    obtain ⟨F, M, ρ, Φ, A, h, k⟩ := h
    exact ⟨F, M, ρ, _, A, h, fun v H1 ⟨F1, M1, x, l1, a1, r1, h1⟩ => ⟨F1, M1, x, Φ, a1, r1, h1, fun v H' q => k v H' (q.le l1)⟩⟩
end

/-! ### [..] * n, a list that may change -/
def rMulM (x y : D) (M : MS) (Φ : DQ) : Prop := match seqL M x with
  | some xs => (match y with
    | .int k => -(2 ^ 63) ≤ k ∧ k < 2 ^ 63 ∧ xs.length * k.toNat ≤ 100000 ∧ ∀ p, M.map p = none → Φ (.ref p) (M.put p (.lst (List.replicate k.toNat xs).flatten))
    | _ => False)
  | none => False
theorem o_mulM {X : Cx} : OpR X (binaryOp .Mult) (loR X.K rMulM) := by
  rintro pins s σ H vx vy v u Q I r1 r2 ⟨F, M, x, y, Φ, am, rx, ry, h, k⟩
  unfold rMulM at h
  split at h
  · rename_i xs ex
    split at h
    · rename_i n
      obtain ⟨b1, b2, hz, q⟩ := h
      obtain ⟨a, vs, e1, h1, p1⟩ := seqL_rep am rx ex
      exact op_rep pins s σ H vx vy v u Q I r1 r2 ⟨a, n, vs, e1, ry, h1, b1, b2, by rw [← p1.length]; exact sz5 hz, fun p hp => k _ _ (new_lstM am (p1.rep _) q hp)⟩
    · exact h.elim
  · exact h.elim

/-! ### sum, max, min of a list or a tuple of numbers -/
theorem nums_rep {K : PySem.W.Frag} {F : Addr → Prop} {H : Hp} {M : MS} {x : D} {v : V} {ns : List Int} (am : AbsM K F H M) (r : Rep K F H x v) (h : (seqA M x).bind asInts = some ns) : ∃ a, v = .ref a ∧ (SqL K H a (ns.map V.int) ∨ SqT K H a (ns.map V.int)) := by
  obtain ⟨xs, h1, h2⟩ := Option.bind_eq_some_iff.mp h
  obtain ⟨a, vs, e, hq, p⟩ := seqA_rep am r h1
  rw [asInts_eq h2] at p
  rw [reps_ints p] at hq
  exact ⟨a, e, hq⟩
theorem holdAll_ints {h : Heap} : ∀ {its : List Value} {ns : List Int}, IntsAre its ns → PySem.W.HoldAll h its ns
  | _, _, .nil => PySem.W.HoldAll.nil
  | _, _, .cons n t r => PySem.W.HoldAll.cons (PySem.W.holds_int n t) (holdAll_ints r)
theorem maxOf_mx : ∀ (r : List Int) (x : Int), PySem.W.maxOf x r = r.foldl max x
  | [], _ => rfl
  | y :: r, x => by
    have ih := maxOf_mx r (max x y)
    unfold PySem.W.maxOf at ih ⊢
    rw [List.foldl_cons, List.foldl_cons, ← ih]
    congr 1
    show (if decide (x < y) = true then y else x) = max x y
    by_cases h : x < y
    · rw [if_pos (decide_eq_true h)]; omega
    · rw [if_neg (by simpa using h)]; omega
theorem minOf_mn : ∀ (r : List Int) (x : Int), PySem.W.minOf x r = r.foldl min x
  | [], _ => rfl
  | y :: r, x => by
    have ih := minOf_mn r (min x y)
    unfold PySem.W.minOf at ih ⊢
    rw [List.foldl_cons, List.foldl_cons, ← ih]
    congr 1
    show (if decide (y < x) = true then y else x) = min x y
    by_cases h : y < x
    · rw [if_pos (decide_eq_true h)]; omega
    · rw [if_neg (by simpa using h)]; omega
def rMaxA (args : List D) (M : MS) (Φ : DQ) : Prop := match args with
  | [x] => (match (seqA M x).bind asInts with
    | some ns => 0 < ns.length ∧ Φ (.int (mxI ns)) M
    | none => False)
  | _ => False
def rMinA (args : List D) (M : MS) (Φ : DQ) : Prop := match args with
  | [x] => (match (seqA M x).bind asInts with
    | some ns => 0 < ns.length ∧ Φ (.int (mnI ns)) M
    | none => False)
  | _ => False
theorem holds_val {h : Heap} {v : Value} {n : Int} (q : PySem.W.Holds h v n) : ∃ t, v = .int n t := by
  obtain ⟨as, r⟩ := q
  cases r with
  | int _ t => exact ⟨t, rfl⟩
section
variable {X : Cx}
theorem c_sum (hc : X.calm = true) : CallR X (.builtin "sum") (loC X.K rSum) := by
  rintro pins s σ H vs us Q I r ⟨F, M, ds, Φ, am, rs, h, k⟩
  unfold rSum at h
  split at h
  · simp only [Reps] at rs
    obtain ⟨v, _, e, rx, rfl⟩ := rs
    subst e
    split at h
    · rename_i ns ex
      obtain ⟨a, rfl, hq⟩ := nums_rep am rx ex
      rcases hq with hq | hq
      · exact cr_sum hc pins s σ H _ us Q I r ⟨a, ns, rfl, hq, k _ _ (hI am h)⟩
      · obtain ⟨its, rv, ht, _⟩ := I.tuple hq
        rw [Vals.ref1 r]
        have hi : IntsAre its ns := rv.ints
        obtain ⟨xs, e⟩ := hi.allInts.items
        have hn : numsOf (intItems xs).toList = ns := by rw [← e]; exact hi.numsOf
        rw [nums_intItems] at hn
        rw [e] at ht
        refine PySem.W.ktm_sumG (I.ok.hd hc) ht fun h' tk t' hk => ?_
        rw [preSum_eq, List.take_of_length_le (by simp), hn]
        exact ⟨.int _, H, I.kept hk, ⟨_, rfl⟩, k _ _ (hI am h)⟩
    · exact h.elim
  · exact h.elim
theorem c_maxA (hc : X.calm = true) (hu : X.A.units + 64 < cLine) : CallR X (.builtin "max") (loC X.K rMaxA) := by
  rintro pins s σ H vs us Q I r ⟨F, M, ds, Φ, am, rs, h, k⟩
  unfold rMaxA at h
  split at h
  · simp only [Reps] at rs
    obtain ⟨v, _, e, rx, rfl⟩ := rs
    subst e
    split at h
    · rename_i ns ex
      obtain ⟨a, rfl, hq⟩ := nums_rep am rx ex
      rcases hq with hq | hq
      · refine cr_max hc pins s σ H _ us Q I r ⟨a, ns, rfl, hq, h.1, fun m hm hle => ?_⟩
        obtain ⟨h1, h2⟩ := mxI_mem h.1
        have e : m = mxI ns := Int.le_antisymm (h2 m hm) (hle _ h1)
        rw [e]
        exact k _ _ (hI am h.2)
      · obtain ⟨its, rv, ht, _⟩ := I.tuple hq
        rw [Vals.ref1 r]
        have hi : IntsAre its ns := rv.ints
        cases ns with
        | nil => exact absurd h.1 (by decide)
        | cons x xs =>
          refine PySem.W.max_tuple_datum (I.ok.hd hc) ht (x := x) (xs := xs) (holdAll_ints hi) (by show X.A.units + 1 + 0 < cLine; omega) fun i v h' tk _ hv hk => ?_
          obtain ⟨t, rfl⟩ := holds_val hv
          rw [maxOf_mx]
          exact ⟨.int _, H, I.kept hk, ⟨_, rfl⟩, k _ _ (hI am h.2)⟩
    · exact h.elim
  · exact h.elim
theorem c_minA (hc : X.calm = true) (hu : X.A.units + 64 < cLine) : CallR X (.builtin "min") (loC X.K rMinA) := by
  rintro pins s σ H vs us Q I r ⟨F, M, ds, Φ, am, rs, h, k⟩
  unfold rMinA at h
  split at h
  · simp only [Reps] at rs
    obtain ⟨v, _, e, rx, rfl⟩ := rs
    subst e
    split at h
    · rename_i ns ex
      obtain ⟨a, rfl, hq⟩ := nums_rep am rx ex
      rcases hq with hq | hq
      · refine cr_min hc pins s σ H _ us Q I r ⟨a, ns, rfl, hq, h.1, fun m hm hle => ?_⟩
        obtain ⟨h1, h2⟩ := mnI_mem h.1
        have e : m = mnI ns := Int.le_antisymm (hle _ h1) (h2 m hm)
        rw [e]
        exact k _ _ (hI am h.2)
      · obtain ⟨its, rv, ht, _⟩ := I.tuple hq
        rw [Vals.ref1 r]
        have hi : IntsAre its ns := rv.ints
        cases ns with
        | nil => exact absurd h.1 (by decide)
        | cons x xs =>
          refine PySem.W.min_tuple_datum (I.ok.hd hc) ht (x := x) (xs := xs) (holdAll_ints hi) (by show X.A.units + 1 + 0 < cLine; omega) fun i v h' tk _ hv hk => ?_
          obtain ⟨t, rfl⟩ := holds_val hv
          rw [minOf_mn]
          exact ⟨.int _, H, I.kept hk, ⟨_, rfl⟩, k _ _ (hI am h.2)⟩
    · exact h.elim
  · exact h.elim
end
end DL

namespace DL
open PySem PySem.Spec PyProof.Rows L2

/-! ### sorted(list of numbers); a tuple with a star -/
theorem ints_reps {K : PySem.W.Frag} {F : Addr → Prop} {H : Hp} : ∀ ns : List Int, Reps K F H (ns.map D.int) (ns.map V.int)
  | [] => Reps.nil
  | n :: ns => Reps.cons rfl (ints_reps ns)
def rSorted (args : List D) (M : MS) (Φ : DQ) : Prop := match args with
  | [x] => (match (seqL M x).bind asInts with
    | some ns => ∀ ns' : List Int, ns'.Perm ns → ns'.Pairwise (· ≤ ·) → Φ (.lst (ns'.map D.int)) M
    | none => False)
  | _ => False
/-- the items of *x -/
def dStar (t : DE) (r : DAs) : DAs := fun ρ M Φ => t ρ M fun x M1 => match x with
  | .tup xs => r ρ M1 fun ys M2 => Φ (xs ++ ys) M2
  | .lst xs => r ρ M1 fun ys M2 => Φ (xs ++ ys) M2
  | _ => False
section
variable {X : Cx} {te : DE}
theorem c_sorted : CallR X (.builtin "sorted") (loC X.K rSorted) := by
  rintro pins s σ H vs us Q I r ⟨F, M, ds, Φ, am, rs, h, k⟩
  unfold rSorted at h
  split at h
  · rename_i x
    simp only [Reps] at rs
    obtain ⟨v, _, e, rx, rfl⟩ := rs
    subst e
    split at h
    · rename_i ns ex
      obtain ⟨xs, h1, h2⟩ := Option.bind_eq_some_iff.mp ex
      obtain ⟨a, ws, rfl, hq, p⟩ := seqL_rep am rx h1
      rw [asInts_eq h2] at p
      rw [reps_ints p] at hq
      exact cr_sortedI pins s σ H _ us Q I r ⟨a, ns, rfl, SqL.of hq, fun ns' l hp hs hl => k _ _ (new_lst am (ints_reps ns') (h ns' hp hs) hl)⟩
    · exact h.elim
  · exact h.elim
theorem q_star {e : Expr} {es : List Expr} {tr : DAs} {p : Pos} (he : PE X e (lo X.K te)) (hr : PA X es (loA X.K tr)) (hs : starEach (.Starred e p :: es) X.env = (true, eval e X.env) :: starEach es X.env) : PA X (.Starred e p :: es) (loA X.K (dStar te tr)) :=
  PA.imp (StX.pa_star he hr hs) fun σ H Q h => by
    obtain ⟨F, M, ρ, Φ, A, h, k⟩ := h
    refine ⟨F, M, ρ, _, A, h, fun vx H1 ⟨F1, M1, x, l1, a1, r1, h1⟩ => ?_⟩
    have go : ∀ xs, seqA M1 x = some xs → (tr ρ M1 fun ys M2 => Φ (xs ++ ys) M2) → ∃ p xs, vx = V.ref p ∧ (SqT X.K H1 p xs ∨ SqL X.K H1 p xs) ∧ loA X.K tr σ H1 fun ys H2 => Q (xs ++ ys) H2 := fun xs hx h1 => by
      obtain ⟨a, vs, e, hq, p⟩ := seqA_rep a1 r1 hx
      exact ⟨a, vs, e, hq.symm, F1, M1, ρ, _, ⟨a1, A.env.mono l1.le⟩, h1, fun ws H2 F2 M2 ys l2 a2 r2 h2 => k (vs ++ ws) H2 F2 M2 (xs ++ ys) (l1.trans l2) a2 ((p.mono l2.le).append r2) h2⟩
    cases x with
    | tup xs => exact go xs rfl h1
    | lst xs => exact go xs rfl h1
    | _ => exact h1.elim
end
end DL

namespace DL
open PySem PySem.Spec PyProof.Rows L2

/-! ### sorted(set(a tuple of numbers)) -/
/-- set(t), t a tuple of numbers -/
def rSetTI (K : PySem.W.Frag) (w : World) : List V → Hp → VK → Prop := fun vs H Q => ∃ (a : Addr) (ns : List Int), vs = [V.ref a] ∧ SqT K H a (ns.map V.int) ∧ ns.length < 60 ∧
  ∀ p c, H p = none → c ≤ ns.length → Q (.ref p) (upd H p (SetO w p (fun j => decide (j ∈ ns)) c))
def rSortedSetD (args : List D) (M : MS) (Φ : DQ) : Prop := match args with
  | [.tup xs] => (match asInts xs with
    | some ns => ns.length < 60 ∧ ∀ ms : List Int, ms.Pairwise (· < ·) → (∀ k, k ∈ ms ↔ k ∈ ns) → Φ (.lst (ms.map D.int)) M
    | none => False)
  | _ => False
section
variable {X : Cx}
theorem c_setTI (hc : X.calm = true) : CallR X (.type "set") (rSetTI X.K X.w) := by
  rintro pins s σ H vs us Q I r ⟨a, ns, rfl, hq, hl, q⟩
  obtain ⟨its, rv, ht, _⟩ := I.tuple hq
  rw [Vals.ref1 r]
  have hi : IntsAre its ns := rv.ints
  refine call_set_tupI ns (I.ok.hd hc) ht hi (Nat.lt_of_lt_of_le (show ns.length + 1 < 61 by omega) (by decide)) fun h' tk c R hcl k => ?_
  exact ⟨.ref _, upd H s.heap.objs.size (SetO X.w s.heap.objs.size (fun j => decide (j ∈ ns)) c), I.laid (t' := tk) k (Nat.le_refl _) (setO_new R), rfl, q _ _ (I.hok.fresh (Nat.le_refl _)) hcl⟩
theorem q_sortedSet {x1 x2 : Str} {e : Expr} {es : List Expr} {ta : DAs} {p1 p2 pos1 pos2 : Pos} (hc : X.calm = true) (hg1 : Gl X x1) (hm1 : X.mg x1 = none) (hv1 : bootBuiltins x1 = some (.builtin "sorted")) (hg2 : Gl X x2) (hm2 : X.mg x2 = none) (hv2 : bootBuiltins x2 = some (.type "set"))
    (ha : PA X (e :: es) (loA X.K ta)) (hn1 : x1 ≠ "__name__") (hd1 : (x1 == ("__debug__" : Str)) = false) (hn2 : x2 ≠ "__name__") (hd2 : (x2 == ("__debug__" : Str)) = false)
    (he2 : starEach (e :: es) X.env = (false, eval e X.env) :: starEach es X.env) (hp2 : (backTo pos2 (starEach es X.env)).any (·.1) = false) :
    PE X (.Call (.Name x1 p1) [.Call (.Name x2 p2) (e :: es) [] pos2] [] pos1) (lo X.K (dFn rSortedSetD ta)) :=
  PE.imp (pe_callB (cr_sortedSet hc) hg1 hm1 hv1 (pa_cons (pe_callTy (c_setTI hc) hg2 hm2 hv2 ha hn2 hd2 he2 hp2) pa_nil rfl) hn1 hd1 rfl rfl) fun σ H Q h => by
    obtain ⟨F, M, ρ, Φ, A, h, k⟩ := h
    refine ⟨F, M, ρ, _, A, h, fun vs H1 F1 M1 ds l1 a1 r1 h1 => ?_⟩
    unfold rSortedSetD at h1
    split at h1
    · rename_i xs
      simp only [Reps] at r1
      obtain ⟨v, _, ev, rx, rfl⟩ := r1
      subst ev
      split at h1
      · rename_i ns ex
        obtain ⟨a, ws, rfl, hq, p⟩ := rep_tup rx
        rw [asInts_eq ex] at p
        rw [reps_ints p] at hq
        refine ⟨a, ns, rfl, hq, h1.1, fun p c hp hcl => ?_⟩
        have l2 := Lm.laid (o := SetO X.w p (fun j => decide (j ∈ ns)) c) a1 hp
        refine ⟨p, _, c, rfl, upd_same, by have := h1.1; omega, fun ms q hpw hmem hlen hq' => ?_⟩
        refine k _ _ ((new_lst (a1.laid hp) (ints_reps ms) (h1.2 ms hpw fun z => ?_) hq').le (l1.trans l2))
        rw [hmem z]
        exact decide_eq_true_iff
      · exact h1.elim
    · exact h1.elim
/-- tuple(range(i, j)) -/
def dTupRg (ta tb : DE) : DE := fun ρ M Φ => ta ρ M fun x M1 => tb ρ M1 fun y M2 => match x, y with
  | .int i, .int j => 0 ≤ i ∧ i ≤ 16777216 ∧ 0 ≤ j ∧ j ≤ 16777216 ∧ Φ (.tup ((List.range (j - i).toNat).map fun k => D.int (i + (k : Nat)))) M2
  | _, _ => False
theorem reps_rg {K : PySem.W.Frag} {F : Addr → Prop} {H : Hp} (i j : Int) : Reps K F H ((List.range (j - i).toNat).map fun k => D.int (i + (k : Nat))) (rgV i j) := by
  have := ints_reps (K := K) (F := F) (H := H) ((List.range (j - i).toNat).map fun k => i + ((k : Nat) : Int))
  rw [List.map_map, List.map_map] at this
  exact this
theorem q_tupRg {a b : Expr} {ta tb : DE} {p1 p2 pos1 pos2 : Pos} (hc : X.calm = true) (hg1 : Gl X ("tuple" : Str)) (hm1 : X.mg ("tuple" : Str) = none) (hg2 : Gl X ("range" : Str)) (hm2 : X.mg ("range" : Str) = none) (ha : PE X a (lo X.K ta)) (hb : PE X b (lo X.K tb))
    (na : starEach [a, b] X.env = (false, eval a X.env) :: starEach [b] X.env) (nb : starEach [b] X.env = (false, eval b X.env) :: starEach [] X.env) (hp : (backTo pos2 (starEach [b] X.env)).any (·.1) = false) :
    PE X (.Call (.Name "tuple" p1) [.Call (.Name "range" p2) [a, b] [] pos2] [] pos1) (lo X.K (dTupRg ta tb)) :=
  PE.imp (pe_tupRg hc hg1 hm1 (prg_2 hg2 hm2 ha hb na nb hp) rfl) fun σ H Q h => by
    obtain ⟨F, M, ρ, Φ, A, h, k⟩ := h
    refine ⟨F, M, ρ, _, A, h, fun vx H1 ⟨F1, M1, x, l1, a1, r1, h1⟩ => ⟨F1, M1, ρ, _, ⟨a1, A.env.mono l1.le⟩, h1, fun vy H2 ⟨F2, M2, y, l2, a2, r2, h2⟩ => ?_⟩⟩
    cases x with
    | int i =>
      cases y with
      | int j =>
        obtain ⟨g1, g2, g3, g4, g5⟩ := h2
        exact ⟨i, j, rep_int r1, rep_int r2, RgOk.of_le g1 g4 g2 g3, fun q hq => k _ _ ((new_tup a2 (reps_rg i j) g5 hq).le (l1.trans l2))⟩
      | _ => exact h2.elim
    | _ => exact h2.elim
end
theorem bt_sorted : bootBuiltins "sorted" = some (.builtin "sorted") := by decide +kernel
theorem bt_set : bootBuiltins "set" = some (.type "set") := by decide +kernel
end DL

/-! Generators that sleep are as they were behind a run that never woke them: a run over a table where they cannot be woken is a run over the table. -/
namespace DL
open PySem PySem.Spec PyProof.Rows

/-- as gs to one who looks, but no run goes on from it -/
def deadOf : GenState → GenState
  | .suspended _ l c p fs cl => .suspended (fun _ => .unsupported "dead") l c p fs cl
  | x => x
def sleeps : GenState → Bool
  | .suspended .. => true
  | _ => false
theorem deadOf_seen (x : GenState) : (deadOf x).seen = x.seen := by cases x <;> rfl
theorem deadOf_bare (x : GenState) : (deadOf x).bare = x.bare := by cases x <;> rfl
/-- T: what sleeps at the places; the first table: dead there -/
structure Dead (T : Nat → Option GenState) (G G' : Array GenState) : Prop where
  size : G.size = G'.size
  at_ : ∀ (i : Nat) (x : GenState), T i = some x → sleeps x = true ∧ G'[i]? = some x ∧ G[i]? = some (deadOf x)
  off : ∀ i : Nat, T i = none → G[i]? = G'[i]? ∧ ∀ k l c p fs cl, G[i]? = some (.suspended k l c p fs cl) → splitAtGen fs = none
section
variable {M : Model} {T : Nat → Option GenState} {G G' : Array GenState}
theorem split_append : ∀ {fs hs : List Frame}, splitAtGen fs = none → splitAtGen hs = none → splitAtGen (fs ++ hs) = none
  | [], _, _, h => h
  | .gen .. :: _, _, h, _ => by cases h
  | .ret .. :: fs, hs, h, h' => by
    have e : splitAtGen fs = none := by
      cases q : splitAtGen fs with
      | none => rfl
      | some x => simp only [splitAtGen, q, Option.map_some] at h; cases h
    show (splitAtGen (fs ++ hs)).map _ = none
    rw [split_append e h']
    rfl
theorem split_tail {F : Frame} {fs : List Frame} (h : splitAtGen (F :: fs) = none) : splitAtGen fs = none := by
  cases F with
  | gen => cases h
  | ret k hd g l c p kp =>
    cases q : splitAtGen fs with
    | none => rfl
    | some x => simp only [splitAtGen, q, Option.map_some] at h; cases h
theorem Dead.setGen (d : Dead T G G') {g : Nat} {x : GenState} (hg : T g = none) (hx : ∀ k l c p fs cl, x = .suspended k l c p fs cl → splitAtGen fs = none) : Dead T (G.setIfInBounds g x) (G'.setIfInBounds g x) := by
  refine ⟨by simp [d.size], fun i y hi => ?_, fun i hi => ?_⟩
  · obtain ⟨h1, h2, h3⟩ := d.at_ i y hi
    have ne : g ≠ i := fun e => by subst e; rw [hg] at hi; cases hi
    exact ⟨h1, by rw [Array.getElem?_setIfInBounds_ne ne]; exact h2, by rw [Array.getElem?_setIfInBounds_ne ne]; exact h3⟩
  · by_cases e : g = i
    · subst e
      by_cases hb : g < G.size
      · have hb' : g < G'.size := by rw [← d.size]; exact hb
        refine ⟨by simp [hb, hb'], fun k l c p fs cl z => ?_⟩
        rw [Array.getElem?_setIfInBounds_self_of_lt hb] at z
        exact hx k l c p fs cl (Option.some.inj z)
      · have hb' : ¬ g < G'.size := by rw [← d.size]; exact hb
        refine ⟨by simp [hb, hb'], fun k l c p fs cl z => ?_⟩
        simp [hb] at z
    · rw [Array.getElem?_setIfInBounds_ne e, Array.getElem?_setIfInBounds_ne e]
      exact d.off i hi
theorem Dead.push (d : Dead T G G') (c : Code) : Dead T (G.push (.fresh c)) (G'.push (.fresh c)) := by
  refine ⟨by simp [d.size], fun i y hi => ?_, fun i hi => ?_⟩
  · obtain ⟨h1, h2, h3⟩ := d.at_ i y hi
    have l2 : i < G'.size := (Array.getElem?_eq_some_iff.mp h2).1
    have l3 : i < G.size := (Array.getElem?_eq_some_iff.mp h3).1
    exact ⟨h1, by rw [Array.getElem?_push_lt l2, ← Array.getElem?_eq_getElem l2]; exact h2, by rw [Array.getElem?_push_lt l3, ← Array.getElem?_eq_getElem l3]; exact h3⟩
  · by_cases hb : i < G.size
    · have hb' : i < G'.size := by rw [← d.size]; exact hb
      obtain ⟨o1, o2⟩ := d.off i hi
      rw [Array.getElem?_push_lt hb, Array.getElem?_push_lt hb', ← Array.getElem?_eq_getElem hb, ← Array.getElem?_eq_getElem hb']
      exact ⟨o1, o2⟩
    · by_cases he : i = G.size
      · subst he
        refine ⟨by rw [Array.getElem?_push_size, d.size, Array.getElem?_push_size], fun k l c' p fs cl z => ?_⟩
        rw [Array.getElem?_push_size] at z
        cases z
      · have h1 : (G.push (.fresh c))[i]? = none := by rw [Array.getElem?_eq_none]; rw [Array.size_push]; omega
        have h2 : (G'.push (.fresh c))[i]? = none := by rw [Array.getElem?_eq_none]; rw [Array.size_push, ← d.size]; omega
        rw [h1, h2]
        exact ⟨rfl, fun _ _ _ _ _ _ z => by cases z⟩
theorem no_run {Γ : PySem.Ctx} {p : Pos} {z : String} : ∀ {fs : List Frame} {s s' : Shared} {e : End}, ¬ Runs M Γ p (.unsupported z) fs s e s' := by
  have h0 : ∀ {Γ : PySem.Ctx} {s s' : Shared} {e : End}, ¬ Runs M Γ p (.unsupported z) [] s e s' := fun h => by cases h
  intro fs s s' e h
  cases h with
  | segRet h _ => exact h0 h
  | segGen h _ => exact h0 h
  | segSuspOut _ h => exact h0 h
  | segSuspGen _ h _ _ => exact h0 h
/-- the end of a segment left no frame of another generator -/
def OkEnd : End → Prop
  | .ret _ => True
  | .susp _ _ _ _ _ _ fs => splitAtGen fs = none
theorem OkEnd.gen {e : End} (h : OkEnd e) : ∀ k l c p fs cl, e.genState = .suspended k l c p fs cl → splitAtGen fs = none := fun k l c p fs cl z => by
  cases e with
  | ret r => cases z
  | susp v g l' k' c' p' fs' => cases z; exact h
theorem Dead.none_of (d : Dead T G G') {g : Nat} {x : GenState} (h : G[g]? = some x) (hx : sleeps x = false) : T g = none := by
  cases q : T g with
  | none => rfl
  | some y =>
    obtain ⟨h1, _, h3⟩ := d.at_ g y q
    rw [h] at h3
    cases h3
    cases y <;> simp_all [sleeps, deadOf]
theorem runs_dead {Γ : PySem.Ctx} {p : Pos} {t : Sem PySem.Fin} {fs : List Frame} {s s' : Shared} {e : End} (h : Runs M Γ p t fs s e s') :
    splitAtGen fs = none → ∀ G', Dead T s.gens G' → ∃ G2, Runs M Γ p t fs { s with gens := G' } e { s' with gens := G2 } ∧ Dead T s'.gens G2 ∧ OkEnd e := by
  induction h with
  | done => intro _ G' d; exact ⟨G', .done, d, trivial⟩
  | raise => intro _ G' d; exact ⟨G', .raise, d, trivial⟩
  | again hq _ ih => intro hf G' d; obtain ⟨G2, r, d2, o⟩ := ih hf G' d; exact ⟨G2, .again hq r, d2, o⟩
  | rule _ ih => intro hf G' d; obtain ⟨G2, r, d2, o⟩ := ih hf G' d; exact ⟨G2, .rule r, d2, o⟩
  | «at» _ ih => intro hf G' d; obtain ⟨G2, r, d2, o⟩ := ih hf G' d; exact ⟨G2, .at r, d2, o⟩
  | load ho _ ih => intro hf G' d; obtain ⟨G2, r, d2, o⟩ := ih hf G' d; exact ⟨G2, .load ho r, d2, o⟩
  | update ho _ ih => intro hf G' d; obtain ⟨G2, r, d2, o⟩ := ih hf G' d; exact ⟨G2, .update ho r, d2, o⟩
  | loadIfAlive _ ih => intro hf G' d; obtain ⟨G2, r, d2, o⟩ := ih hf G' d; exact ⟨G2, .loadIfAlive r, d2, o⟩
  | point _ ih => intro hf G' d; obtain ⟨G2, r, d2, o⟩ := ih hf G' d; exact ⟨G2, .point r, d2, o⟩
  | alloc _ ih => intro hf G' d; obtain ⟨G2, r, d2, o⟩ := ih hf G' d; exact ⟨G2, .alloc r, d2, o⟩
  | fresh _ ih => intro hf G' d; obtain ⟨G2, r, d2, o⟩ := ih hf G' d; exact ⟨G2, .fresh r, d2, o⟩
  | ask _ ih => intro hf G' d; obtain ⟨G2, r, d2, o⟩ := ih hf G' d; exact ⟨G2, .ask r, d2, o⟩
  | choose hn _ ih => intro hf G' d; obtain ⟨G2, r, d2, o⟩ := ih hf G' d; exact ⟨G2, .choose hn r, d2, o⟩
  | os _ ih => intro hf G' d; obtain ⟨G2, r, d2, o⟩ := ih hf G' d; exact ⟨G2, .os r, d2, o⟩
  | handled _ ih => intro hf G' d; obtain ⟨G2, r, d2, o⟩ := ih hf G' d; exact ⟨G2, .handled r, d2, o⟩
  | genState hg _ ih =>
    rename_i g st _ _ _ _ _ _ _
    intro hf G' d
    obtain ⟨G2, r, d2, o⟩ := ih hf G' d
    cases q : T g with
    | none => exact ⟨G2, .genState (by rw [← (d.off g q).1]; exact hg) r, d2, o⟩
    | some x =>
      obtain ⟨_, h2, h3⟩ := d.at_ g x q
      rw [hg] at h3
      cases h3
      exact ⟨G2, .genState (st := x) h2 (by rw [← deadOf_seen]; exact r), d2, o⟩
  | stack _ ih => intro hf G' d; obtain ⟨G2, r, d2, o⟩ := ih hf G' d; exact ⟨G2, .stack r, d2, o⟩
  | thread _ ih => intro hf G' d; obtain ⟨G2, r, d2, o⟩ := ih hf G' d; exact ⟨G2, .thread r, d2, o⟩
  | newGen _ ih =>
    intro hf G' d
    obtain ⟨G2, r, d2, o⟩ := ih hf _ (d.push _)
    rw [d.size] at r
    exact ⟨G2, .newGen r, d2, o⟩
  | call _ _ ih1 ih2 =>
    intro hf G' d
    obtain ⟨G2, r, d2, _⟩ := ih1 rfl G' d
    obtain ⟨G3, r', d3, o⟩ := ih2 rfl G2 d2
    exact ⟨G3, .call r r', d3, o⟩
  | callSusp _ ih =>
    intro hf G' d
    obtain ⟨G2, r, d2, o⟩ := ih rfl G' d
    exact ⟨G2, .callSusp r, d2, split_append o rfl⟩
  | yield => intro _ G' d; exact ⟨G', .yield, d, rfl⟩
  | resumeFresh hg _ hq _ ih1 ih2 =>
    intro hf G' d
    have hT := d.none_of hg rfl
    obtain ⟨G2, r, d2, o1⟩ := ih1 rfl _ (d.setGen hT (x := .running) fun _ _ _ _ _ _ z => by cases z)
    obtain ⟨G3, r', d3, o⟩ := ih2 rfl _ (d2.setGen hT o1.gen)
    exact ⟨G3, .resumeFresh (by rw [← (d.off _ hT).1]; exact hg) r hq r', d3, o⟩
  | @resumeSuspended Γ p g r l k s k₀ l₀ c₀ p₀ fs cl e₁ s₁ e s' hg h1 hq _ ih1 ih2 =>
    intro hf G' d
    cases hT : T g with
    | some x =>
      obtain ⟨h2, _, h3⟩ := d.at_ g x hT
      rw [hg] at h3
      cases x with
      | suspended => cases h3; exact absurd h1 no_run
      | _ => cases h2
    | none =>
      obtain ⟨o1, o2⟩ := d.off g hT
      obtain ⟨G2, r, d2, o3⟩ := ih1 (o2 _ _ _ _ _ _ hg) _ (d.setGen hT (x := .running) fun _ _ _ _ _ _ z => by cases z)
      obtain ⟨G3, r', d3, o⟩ := ih2 rfl _ (d2.setGen hT o3.gen)
      exact ⟨G3, .resumeSuspended (by rw [← o1]; exact hg) r hq r', d3, o⟩
  | resumeJustStarted hg hv _ ih =>
    intro hf G' d
    have hT := d.none_of hg rfl
    obtain ⟨G2, r, d2, o⟩ := ih hf G' d
    exact ⟨G2, .resumeJustStarted (by rw [← (d.off _ hT).1]; exact hg) hv r, d2, o⟩
  | resumeThrowFresh hg _ ih =>
    intro hf G' d
    have hT := d.none_of hg rfl
    obtain ⟨G2, r, d2, o⟩ := ih hf _ (d.setGen hT (x := .finished) fun _ _ _ _ _ _ z => by cases z)
    exact ⟨G2, .resumeThrowFresh (by rw [← (d.off _ hT).1]; exact hg) r, d2, o⟩
  | resumeRunning hg _ ih =>
    intro hf G' d
    have hT := d.none_of hg rfl
    obtain ⟨G2, r, d2, o⟩ := ih hf G' d
    exact ⟨G2, .resumeRunning (by rw [← (d.off _ hT).1]; exact hg) r, d2, o⟩
  | resumeFinished hg _ ih =>
    intro hf G' d
    have hT := d.none_of hg rfl
    obtain ⟨G2, r, d2, o⟩ := ih hf G' d
    exact ⟨G2, .resumeFinished (by rw [← (d.off _ hT).1]; exact hg) r, d2, o⟩
  | segRet _ _ ih1 ih2 =>
    intro hf G' d
    obtain ⟨G2, r, d2, _⟩ := ih1 rfl G' d
    obtain ⟨G3, r', d3, o⟩ := ih2 (split_tail hf) G2 d2
    exact ⟨G3, .segRet r r', d3, o⟩
  | segGen _ _ _ _ => intro hf; cases hf
  | segSuspOut hs _ ih =>
    intro hf G' d
    obtain ⟨G2, r, d2, o⟩ := ih rfl G' d
    exact ⟨G2, .segSuspOut hs r, d2, split_append o hf⟩
  | segSuspGen hs _ _ _ _ _ => intro hf; rw [hf] at hs; cases hs
theorem wp_dead {α : Type} {Γ : PySem.Ctx} (t : Sem α) : ∀ {Q : α → Pos → Shared → Prop} {E : Value → Pos → Shared → Prop} {p : Pos} {s : Shared}, Sem.wp M Γ t Q E p s → ∀ G', Dead T s.gens G' →
    Sem.wp M Γ t (fun a p' s' => ∃ G2, Dead T G2 s'.gens ∧ Q a p' { s' with gens := G2 }) (fun e p' s' => ∃ G2, Dead T G2 s'.gens ∧ E e p' { s' with gens := G2 }) p { s with gens := G' } := by
  induction t with
  | pure a => intro Q E p s h G' d; exact ⟨s.gens, d, h⟩
  | raise e => intro Q E p s h G' d; exact ⟨s.gens, d, h⟩
  | unsupported _ => intro Q E p s h; exact h.elim
  | finish _ => intro Q E p s h; exact h.elim
  | rule _ k ih => intro Q E p s h G' d; exact ih () h G' d
  | «at» p' k ih => intro Q E p s h G' d; exact ih () h G' d
  | load a _ k ih => intro Q E p s h G' d; obtain ⟨o, ho, h⟩ := h; exact ⟨o, ho, ih o h G' d⟩
  | update a _ f k ih => intro Q E p s h G' d; exact ⟨h.1, ih () h.2 G' d⟩
  | loadIfAlive a k ih => intro Q E p s h G' d; exact ih _ h G' d
  | point _ k ih => intro Q E p s h G' d; exact ih () h G' d
  | register _ _ => intro Q E p s h; exact h.elim
  | alloc o k ih => intro Q E p s h G' d; exact ih _ (s := { s with heap := s.heap.push o }) h G' d
  | fresh k ih => intro Q E p s h G' d; exact ih _ (s := { s with toks := s.toks + 1 }) h G' d
  | ask k ih => intro Q E p s h G' d; exact ih _ h G' d
  | choose src m k ih => intro Q E p s h G' d; exact ⟨h.1, ih _ (s := { s with drawn := s.drawn.bump src }) h.2 G' d⟩
  | os q _ k ih => intro Q E p s h G' d; exact ih _ (s := { s with os := (Os.step s.os q).1 }) h G' d
  | call c hd _ _ k ih =>
    intro Q E p s h G' d
    obtain ⟨r, s1, hr, h⟩ := h
    obtain ⟨G2, r2, d2, _⟩ := runs_dead hr rfl G' d
    exact ⟨r, _, r2, ih r h G2 d2⟩
  | handled own k ih => intro Q E p s h G' d; exact ih _ h G' d
  | genState g k ih =>
    intro Q E p s h G' d
    obtain ⟨st, hg, h⟩ := h
    cases q : T g with
    | none => exact ⟨st, by rw [← (d.off g q).1]; exact hg, ih _ h G' d⟩
    | some x =>
      obtain ⟨_, h2, h3⟩ := d.at_ g x q
      rw [hg] at h3
      cases h3
      exact ⟨x, h2, by rw [← deadOf_seen]; exact ih _ h G' d⟩
  | newGen c k ih =>
    intro Q E p s h G' d
    have := ih _ (s := { s with gens := s.gens.push (.fresh c) }) h _ (d.push c)
    show Sem.wp M Γ (k G'.size) _ _ _ _
    rw [← d.size]
    exact this
  | resume g r l k ih =>
    intro Q E p s h G' d
    obtain ⟨res, s1, hw, h⟩ := h
    have key : ∃ G2, Wakes M Γ p g r { s with gens := G' } res { s1 with gens := G2 } ∧ Dead T s1.gens G2 := by
      unfold Wakes at hw
      cases hT : T g with
      | some x =>
        obtain ⟨h2, h4, h3⟩ := d.at_ g x hT
        rw [h3] at hw
        cases x with
        | suspended => obtain ⟨_, _, hr, _⟩ := hw; exact absurd hr no_run
        | _ => cases h2
      | none =>
        obtain ⟨o1, o2⟩ := d.off g hT
        cases hg : s.gens[g]? with
        | none => rw [hg] at hw; exact hw.elim
        | some x =>
          have hg' : ({ s with gens := G' } : Shared).gens[g]? = some x := o1.symm.trans hg
          rw [hg] at hw
          cases x with
          | fresh c =>
            cases r with
            | throw x => exact ⟨G'.setIfInBounds g .finished, by unfold Wakes; rw [hg']; exact ⟨hw.1, by rw [hw.2]; rfl⟩, by rw [hw.2]; exact d.setGen hT (x := .finished) fun _ _ _ _ _ _ z => by cases z⟩
            | send v =>
              cases v with
              | none =>
                obtain ⟨e1, s2, hr, hq, h1, h2⟩ := hw
                obtain ⟨G2, r2, d2, o⟩ := runs_dead hr rfl _ (d.setGen hT (x := .running) fun _ _ _ _ _ _ z => by cases z)
                exact ⟨G2.setIfInBounds g e1.genState, by unfold Wakes; rw [hg']; exact ⟨e1, _, r2, hq, h1, by rw [h2]; rfl⟩, by rw [h2]; exact d2.setGen hT o.gen⟩
              | _ => exact ⟨G', by unfold Wakes; rw [hg']; exact ⟨hw.1, by rw [hw.2]⟩, by rw [hw.2]; exact d⟩
          | suspended k₀ l₀ c₀ p₀ fs cl =>
            obtain ⟨e1, s2, hr, hq, h1, h2⟩ := hw
            obtain ⟨G2, r2, d2, o⟩ := runs_dead hr (o2 _ _ _ _ _ _ hg) _ (d.setGen hT (x := .running) fun _ _ _ _ _ _ z => by cases z)
            exact ⟨G2.setIfInBounds g e1.genState, by unfold Wakes; rw [hg']; exact ⟨e1, _, r2, hq, h1, by rw [h2]; rfl⟩, by rw [h2]; exact d2.setGen hT o.gen⟩
          | running => exact ⟨G', by unfold Wakes; rw [hg']; exact ⟨hw.1, by rw [hw.2]⟩, by rw [hw.2]; exact d⟩
          | finished => exact ⟨G', by unfold Wakes; rw [hg']; exact ⟨hw.1, by rw [hw.2]⟩, by rw [hw.2]; exact d⟩
    obtain ⟨G2, hw2, d2⟩ := key
    exact ⟨res, _, hw2, ih res h G2 d2⟩
  | yield _ _ _ _ => intro Q E p s h; exact h.elim
  | stack k ih => intro Q E p s h G' d; exact ih _ h G' d
  | fork _ _ => intro Q E p s h; exact h.elim
  | thread k ih => intro Q E p s h G' d; exact ih _ h G' d
  | await _ _ _ _ _ => intro Q E p s h; exact h.elim
end

/-! ### all that sleeps -/
def Keeps (s s' : Shared) : Prop := ∀ (g : Nat) (x : GenState), s.gens[g]? = some x → sleeps x = true → s'.gens[g]? = some x
theorem Keeps.refl {s : Shared} : Keeps s s := fun _ _ h _ => h
theorem Keeps.trans {s s1 s2 : Shared} (a : Keeps s s1) (b : Keeps s1 s2) : Keeps s s2 := fun g x h hx => b g x (a g x h hx) hx
/-- the table with all that sleeps dead -/
def deadG (G : Array GenState) : Array GenState := G.map deadOf
def sleptT (G : Array GenState) : Nat → Option GenState := fun i => match G[i]? with
  | some x => if sleeps x = true then some x else none
  | none => none
theorem dead_all (G : Array GenState) : Dead (sleptT G) (deadG G) G := by
  refine ⟨by simp [deadG], fun i x h => ?_, fun i h => ?_⟩
  · unfold sleptT at h
    cases q : G[i]? with
    | none => rw [q] at h; cases h
    | some y =>
      rw [q] at h
      simp only at h
      split at h
      · rename_i hy
        cases h
        exact ⟨hy, rfl, by simp [deadG, Array.getElem?_map, q]⟩
      · cases h
  · unfold sleptT at h
    cases q : G[i]? with
    | none => exact ⟨by simp [deadG, Array.getElem?_map, q], fun _ _ _ _ _ _ z => by simp [deadG, Array.getElem?_map, q] at z⟩
    | some y =>
      rw [q] at h
      simp only at h
      have hy : sleeps y = false := by
        cases e : sleeps y with
        | false => rfl
        | true => rw [e] at h; simp at h
      have e : deadOf y = y := by cases y <;> first | rfl | cases hy
      refine ⟨by simp [deadG, Array.getElem?_map, q, e], fun k l c p fs cl z => ?_⟩
      simp only [deadG, Array.getElem?_map, q, Option.map_some, e, Option.some.injEq] at z
      subst z
      cases hy
theorem deadG_bare {G : Array GenState} (h : AllBare G) : AllBare (deadG G) := fun x hx => by
  obtain ⟨y, hy, e⟩ := Array.mem_map.mp hx
  rw [← e, deadOf_bare]
  exact h y hy
theorem Dead.bare {T : Nat → Option GenState} {G G' : Array GenState} (d : Dead T G G') (h : AllBare G) : AllBare G' := fun x hx => by
  obtain ⟨i, hi, e⟩ := Array.mem_iff_getElem.mp hx
  have hi' : i < G.size := by rw [d.size]; exact hi
  have e' : G'[i]? = some x := by rw [Array.getElem?_eq_getElem hi, e]
  cases q : T i with
  | none =>
    obtain ⟨o, _⟩ := d.off i q
    rw [e'] at o
    exact h x (Array.mem_of_getElem? o)
  | some y =>
    obtain ⟨_, h2, h3⟩ := d.at_ i y q
    rw [e'] at h2
    cases h2
    rw [← deadOf_bare]
    exact h _ (Array.mem_of_getElem? h3)
def At (T : Nat → Option GenState) (s : Shared) (Q : Shared → Prop) : Prop := ∃ G2, Dead T G2 s.gens ∧ Q { s with gens := G2 }
theorem wpAny_deadT {α : Type} {M : Model} {A : Around} {t : Sem α} {T : Nat → Option GenState} {Q : α → Shared → Prop} {E : Value → Shared → Prop} {s : Shared} {G2 : Array GenState} (d : Dead T G2 s.gens) (h : wpAny M A t Q E { s with gens := G2 }) :
    wpAny M A t (fun a s' => At T s' (Q a)) (fun e s' => At T s' (E e)) s := fun Γ p hΓ => wp_dead (T := T) t (h Γ p hΓ) s.gens d
theorem At.keeps {s s' : Shared} {Q : Shared → Prop} (h : At (sleptT s.gens) s' Q) : Keeps s s' := fun g x hg hx => by
  obtain ⟨G2, d, _⟩ := h
  have e : sleptT s.gens g = some x := by unfold sleptT; rw [hg]; simp [hx]
  exact (d.at_ g x e).2.1
/-- what holds where nothing that sleeps can be woken holds, and all that sleeps is as it was -/
theorem wpAny_dead {α : Type} {M : Model} {A : Around} {t : Sem α} {Q : α → Shared → Prop} {E : Value → Shared → Prop} {s : Shared} (h : wpAny M A t Q E { s with gens := deadG s.gens }) :
    wpAny M A t (fun a s' => Keeps s s' ∧ ∃ G2, (AllBare G2 → AllBare s'.gens) ∧ Q a { s' with gens := G2 }) (fun e s' => Keeps s s' ∧ ∃ G2, (AllBare G2 → AllBare s'.gens) ∧ E e { s' with gens := G2 }) s := fun Γ p hΓ => by
  have hk : ∀ {s' : Shared} {G2 : Array GenState}, Dead (sleptT s.gens) G2 s'.gens → Keeps s s' := fun {s' G2} d g x hg hx => by
    have e : sleptT s.gens g = some x := by unfold sleptT; rw [hg]; simp [hx]
    exact (d.at_ g x e).2.1
  exact Sem.wp_mono (model := M) (ctx := Γ) (tree := t) (post := fun a p' s' => ∃ G2, Dead (sleptT s.gens) G2 s'.gens ∧ Q a { s' with gens := G2 }) (exc := fun e p' s' => ∃ G2, Dead (sleptT s.gens) G2 s'.gens ∧ E e { s' with gens := G2 })
    (fun a p' s' ⟨G2, d, q⟩ => ⟨hk d, G2, d.bare, q⟩) (fun e p' s' ⟨G2, d, q⟩ => ⟨hk d, G2, d.bare, q⟩) (pos := p) (sh := s) (wp_dead (T := sleptT s.gens) t (h Γ p hΓ) s.gens (dead_all s.gens))
end DL

/-! A generator's segments, from a wake to the next yield, and what the one who wakes it sees. -/
namespace DL
open PySem PySem.Spec PyProof.Rows L2 PySem.W.X GenW

section
variable {P : Program} {w : World} {A : Around} {c : Code} {fs : List Frame} {s : Shared} {Z : End → Shared → Prop}
theorem sx_wrap {α : Type} {m : Sem α} {K : α → Sem PySem.Fin} {J : Value → Sem PySem.Fin} {gd : Bool → Bool} {lv : List Value → List Value}
    (h : wpAny (model P w) (A.over c fs) m (fun a s' => SegX (model P w) A c (K a) fs s' Z) (fun x s' => SegX (model P w) A c (J x) fs s' Z) s) :
    SegX (model P w) A c (m.wrap K J gd lv) fs s Z := by
  intro Γ p hc hΓ
  subst hc
  obtain ⟨e, s', q1, q2, q3⟩ := runs_wrap_of_wp (Φ := fun e s' => e.quiet = true ∧ Z e s') K J gd lv m (h (Γ.over fs) p (hΓ.over fs)) (fun a p' s' z => z Γ p' rfl hΓ) (fun x p' s' z => z Γ p' rfl hΓ)
  exact ⟨e, s', q1, q2, q3⟩
theorem sx_bind {α : Type} {m : Sem α} {f : α → Sem PySem.Fin} (h : wpAny (model P w) (A.over c fs) m (fun a s' => SegX (model P w) A c (f a) fs s' Z) (fun x s' => SegX (model P w) A c (.raise x) fs s' Z) s) :
    SegX (model P w) A c (m >>= f) fs s Z := by
  rw [Sem.bind_eq_wrap']
  exact sx_wrap h
theorem sx_bindw {α β : Type} {m : Sem α} {f : α → Sem β} {K : β → Sem PySem.Fin} {J : Value → Sem PySem.Fin} {gd : Bool → Bool} {lv : List Value → List Value}
    (h : wpAny (model P w) (A.over c fs) m (fun a s' => SegX (model P w) A c ((f a).wrap K J gd lv) fs s' Z) (fun x s' => SegX (model P w) A c (J x) fs s' Z) s) :
    SegX (model P w) A c ((m >>= f).wrap K J gd lv) fs s Z := by
  rw [Sem.bind_eq_wrap', Sem.wrap_wrap]
  exact sx_wrap h
theorem sx_cons {st : Stmt} {rest : List Stmt} {env : Env} {K : Flow → Sem PySem.Fin} {J : Value → Sem PySem.Fin} {gd : Bool → Bool} {lv : List Value → List Value}
    (h : SegX (model P w) A c ((exec st env).wrap (fun f => match f with | .next => (execs rest env).wrap K J gd lv | f => K f) J gd lv) fs s Z) :
    SegX (model P w) A c ((execs (st :: rest) env).wrap K J gd lv) fs s Z := by
  rw [execs_cons_wrap]
  exact h
theorem sx_end {r : Result} (h : Z (.ret r) s) : SegX (model P w) A c (leafOf r) [] s Z := s_end P w A c Z s r _ rfl h
/-- a yield as a statement -/
theorem sx_yield {env : Env} {e : Expr} {yp pos : Pos} {K : Flow → Sem PySem.Fin} {J : Value → Sem PySem.Fin} {gd : Bool → Bool} {lv : List Value → List Value} (hfs : splitAtGen fs = none) (hgd : gd false = false) (hfg : fs.any Frame.guarded = false)
    (h : wpAny (model P w) (A.over c fs) (eval e env) (fun v s' => ∀ (l : List Value) (k : Resume → Sem PySem.Fin) (p : Pos), (∀ (s2 : Shared) (Z' : End → Shared → Prop), SegX (model P w) A c (K .next) fs s2 Z' → SegX (model P w) A c (k (.send .none)) fs s2 Z') → Z (.susp v false l k c p fs) s')
      (fun x s' => SegX (model P w) A c (J x) fs s' Z) s) (hco : env.scope.isCoroutine = false) (hi : interactive env = false) :
    SegX (model P w) A c ((exec (.Expr (.Yield (some e) yp) pos) env).wrap K J gd lv) fs s Z := by
  have hy : ∀ v, yieldOut env v = yieldValue v := fun v => by unfold yieldOut; rw [hco]; rfl
  rw [exec_Expr env _ pos hi rfl]
  refine sx_bindw (wpAny_standAt ?_)
  show SegX _ A c (((eval e env >>= fun v => (standAt yp >>= fun _ => yieldOut env v)) >>= fun x => dropValue (.Yield (some e) yp) pos x).wrap K J gd lv) fs s Z
  simp only [hy]
  rw [Sem.bind_eq_wrap', Sem.wrap_wrap, Sem.bind_eq_wrap', Sem.wrap_wrap]
  refine sx_wrap (wpAny_mono h (fun v s' z => ?_) fun _ _ x => x)
  refine sx_bindw (wpAny_standAt ?_)
  show SegX _ A c (.yield v (gd false) _ _) fs s' Z
  rw [hgd]
  refine s_yield P w A c fs Z s' v _ _ hfs hfg fun p => z _ _ p fun s2 Z' q => ?_
  exact q
/-- a loop's code -/
theorem sx_for {env : Env} {tg iter : Expr} {body : List Stmt} {pos : Pos} {K : Flow → Sem PySem.Fin} {J : Value → Sem PySem.Fin} {gd : Bool → Bool} {lv : List Value → List Value} (hfd : ∀ x, foldedSetIterable iter env x = pure x)
    (h : wpAny (model P w) (A.over c fs) (eval iter env) (fun x s1 => wpAny (model P w) (A.over c fs) (pyIter x) (fun it s2 => ∀ (p : Pos) (l : List Value) (kp : List Value) (k : Result → Sem PySem.Fin), (∀ f, k (.ok f) = K f) → 
        SegX (model P w) A (.forLoop tg it body [] env) ((model P w).den (.forLoop tg it body [] env)) (.ret k none (gd false) l c p kp :: fs) s2 Z)
      (fun x s' => SegX (model P w) A c (J x) fs s' Z) s1) (fun x s' => SegX (model P w) A c (J x) fs s' Z) s) :
    SegX (model P w) A c ((exec (.For tg iter body [] pos) env).wrap K J gd lv) fs s Z := by
  rw [exec_For]
  refine sx_bindw (wpAny_standAt ?_)
  refine sx_bindw (wpAny_mono h (fun x s1 h1 => ?_) fun _ _ q => q)
  refine sx_bindw (wpAny_of_eq (hfd x) ?_)
  refine sx_bindw (wpAny_standAt ?_)
  refine sx_bindw (wpAny_holding (wpAny_mono h1 (fun it s2 h2 => ?_) fun _ _ q => q))
  refine s_call P w A c fs Z s2 _ _ _ _ _ fun p => ?_
  exact h2 p _ _ _ fun f => rfl
/-- a turn of it -/
theorem sx_turn {env : Env} {tg : Expr} {it : Value} {body : List Stmt} {kk : Result → Sem PySem.Fin} {g : Bool} {l kp : List Value} {c0 : Code} {p0 : Pos}
    (h : wpAny (model P w) (A.over (.forLoop tg it body [] env) (.ret kk none g l c0 p0 kp :: fs)) (pyNext it) (fun r s1 => match r with
      | none => SegX (model P w) A c0 (kk (.ok .next)) fs s1 Z
      | some v => wpAny (model P w) (A.over (.forLoop tg it body [] env) (.ret kk none g l c0 p0 kp :: fs)) (letOwnedTupleGo tg it v) (fun _ s2 =>
          wpAny (model P w) (A.over (.forLoop tg it body [] env) (.ret kk none g l c0 p0 kp :: fs)) (assign tg env v) (fun _ s3 => ∀ (K : Flow → Sem PySem.Fin) (J : Value → Sem PySem.Fin) (gd : Bool → Bool) (lv : List Value → List Value), gd false = false →
            (∀ (s4 : Shared) (Z' : End → Shared → Prop), SegX (model P w) A (.forLoop tg it body [] env) ((model P w).den (.forLoop tg it body [] env)) (.ret kk none g l c0 p0 kp :: fs) s4 Z' → SegX (model P w) A (.forLoop tg it body [] env) (K .next) (.ret kk none g l c0 p0 kp :: fs) s4 Z') →
            (∀ (s4 : Shared) (Z' : End → Shared → Prop), SegX (model P w) A (.forLoop tg it body [] env) ((model P w).den (.forLoop tg it body [] env)) (.ret kk none g l c0 p0 kp :: fs) s4 Z' → SegX (model P w) A (.forLoop tg it body [] env) (K .cont) (.ret kk none g l c0 p0 kp :: fs) s4 Z') →
            (∀ (s4 : Shared) (Z' : End → Shared → Prop), SegX (model P w) A c0 (kk (.ok .next)) fs s4 Z' → SegX (model P w) A (.forLoop tg it body [] env) (K .brk) (.ret kk none g l c0 p0 kp :: fs) s4 Z') →
            (∀ (u : Value) (s4 : Shared) (Z' : End → Shared → Prop), SegX (model P w) A c0 (kk (.ok (.ret u))) fs s4 Z' → SegX (model P w) A (.forLoop tg it body [] env) (K (.ret u)) (.ret kk none g l c0 p0 kp :: fs) s4 Z') →
            SegX (model P w) A (.forLoop tg it body [] env) ((execs body env).wrap K J gd lv) (.ret kk none g l c0 p0 kp :: fs) s3 Z) (fun _ _ => False) s2) (fun _ _ => False) s1) (fun _ _ => False) s) :
    SegX (model P w) A (.forLoop tg it body [] env) ((model P w).den (.forLoop tg it body [] env)) (.ret kk none g l c0 p0 kp :: fs) s Z := by
  show SegX _ A _ ((forTurn tg it body [] env).onRaise (fun x => do noteFrame x env; theTreesLotGoes x)) _ _ _
  rw [Sem.onRaise_eq_wrap]
  unfold forTurn
  refine sx_bindw (wpAny_standAt ?_)
  refine sx_bindw (wpAny_onRaise (wpAny_mono h (fun r s1 h1 => ?_) fun _ _ q => q.elim))
  cases r with
  | none =>
    refine s_again P w A _ _ Z s1 (.block [] env) rfl ?_
    exact s_pop P w A _ _ Z s1 (.ok .next) _ rfl _ _ _ _ _ _ _ h1
  | some v =>
    refine sx_bindw (wpAny_mono h1 (fun _ s2 h2 => ?_) fun _ _ q => q.elim)
    refine sx_bindw (wpAny_mono h2 (fun _ s3 h3 => ?_) fun _ _ q => q.elim)
    rw [Sem.bind_eq_wrap', Sem.wrap_wrap]
    refine h3 _ _ _ _ rfl (fun s4 Z' q => ?_) (fun s4 Z' q => ?_) (fun s4 Z' q => ?_) fun u s4 Z' q => ?_
    · exact s_again P w A _ _ Z' s4 _ rfl q
    · exact s_again P w A _ _ Z' s4 _ rfl q
    · exact s_pop P w A _ _ Z' s4 (.ok .next) _ rfl _ _ _ _ _ _ _ q
    · exact s_pop P w A _ _ Z' s4 (.ok (.ret u)) _ rfl _ _ _ _ _ _ _ q
/-- a def's body -/
theorem sx_func {body : List Stmt} {env : Env} 
    (h : ∀ (K : Flow → Sem PySem.Fin) (J : Value → Sem PySem.Fin) (gd : Bool → Bool) (lv : List Value → List Value), gd false = false → (K .next = leafOf (.ok (.ret .none))) → (∀ v, K (.ret v) = leafOf (.ok (.ret v))) → 
      SegX (model P w) A (.func body env) ((execs body env).wrap K J gd lv) fs s Z) :
    SegX (model P w) A (.func body env) ((model P w).den (.func body env)) fs s Z := by
  show SegX _ A _ (.point [] fun _ => ((execs body env).onRaise (leaving env)) >>= _) fs s Z
  have y : SegX (model P w) A (.func body env) (point.wrap (fun _ => ((execs body env).onRaise (leaving env)) >>= fun f => match f with | .ret v => ret v | _ => ret .none) .raise id (fun _ => [])) fs s Z := by
    refine sx_wrap (wpAny_point ?_)
    rw [Sem.onRaise_eq_wrap, Sem.bind_eq_wrap', Sem.wrap_wrap]
    exact h _ _ _ _ rfl rfl fun _ => rfl
  exact y
end

/-! ### what is asked of a generator -/
/-- the code that stands in a state that has not ended -/
def Opens (gs : GenState) (c : Code) (t : Sem PySem.Fin) (fs : List Frame) : Prop :=
  (gs = .fresh c ∧ t = denote table c ∧ fs = []) ∨ ∃ k l p cl, gs = .suspended k l c p fs cl ∧ t = k (.send .none)
section
variable {P : Program} {w : World} {A : Around} {s : Shared} {E : Value → Shared → Prop}
theorem next_x {a : Addr} {g : Nat} {gs : GenState} {c : Code} {t : Sem PySem.Fin} {fs : List Frame} {Q : Option Value → Shared → Prop} (hh : A.handled = none) (hl : s.heap.NoLimit) (hroom : A.depth < recursionLimit) (hg : s.heap.IsGen a g) (hgs : s.gens[g]? = some gs)
    (ho : Opens gs c t fs)
    (x : SegX (model P w) A.in1 c t fs (s.setGen g .running) fun e s₁ => match e with
      | .ret r => (r = .ok (.ret .none) ∨ r = .ok .next) ∧ ∀ h', (∀ b o, s₁.heap.get? b = some o → h'.get? b = some o) → Q none { s₁.setGen g .finished with heap := h' }
      | .susp v g0 l k c p fs => Q (some v) (s₁.setGen g (End.susp v g0 l k c p fs).genState)) :
    wpAny (model P w) A (pyNext (.ref a)) Q E s := by
  unfold pyNext
  refine wpAny_bind (wpAny_attempt (wpAny_callSpecial?_slot (name := Str.ofString "__next__") hg.typeIs slot_gen_next (wpAny_call_entry slot_gen_next hg.typeIs entry_gen_next ?_ (args_gen_next _))))
  show wpAny _ A.in1 (Builtin.Generator.genWake (.ref a) (.send .none)) _ _ s
  unfold Builtin.Generator.genWake
  refine wpAny_bind (wpAny_holding (wpAny_genNumber hg (wpAny_bind (wpAny_genState hgs ?_))))
  have st : gs.status = .fresh ∨ gs.status = .suspended := by
    rcases ho with ⟨rfl, _⟩ | ⟨_, _, _, _, rfl, _⟩
    · exact .inl rfl
    · exact .inr rfl
  have go : ∀ {α : Type} {k : GenResult → Sem α} {Q' : α → Shared → Prop} {E' : Value → Shared → Prop}, SegX (model P w) A.in1 c t fs (s.setGen g .running) (fun e s₁ => wpAny (model P w) A.in1 (k e.result) Q' E' (s₁.setGen g e.genState)) →
      wpAny (model P w) A.in1 (.resume g (.send .none) [] k) Q' E' s := fun {α k Q' E'} h =>
    wake_any α P w hgs (by
      rcases ho with ⟨h1, h2, h3⟩ | ⟨k0, l0, p0, cl, h1, h2⟩
      · exact .inl ⟨h1, rfl, h2, h3⟩
      · exact .inr ⟨k0, l0, p0, cl, h1, h2⟩) (fun Γ => Γ.In A.in1) (fun _ z => z) (h.mono fun e s' z Γ p hΓ => z Γ p hΓ)
  rcases st with e | e
  all_goals
    rw [e]
    refine wpAny_bind (wpAny_roomToWake hl hroom ?_)
    show wpAny _ A.in1 (.resume g (.send .none) [] _) _ _ s
    refine go (x.mono fun e s₁ hx => ?_)
    cases e with
    | ret r =>
      obtain ⟨hr, hp⟩ := hx
      have hres : End.result (.ret r) = .returned .none := by rcases hr with rfl | rfl <;> rfl
      rw [hres]
      show wpAny _ A.in1 (newExc (.type "StopIteration") [] >>= _) _ _ _
      refine wpAny_bind ?_
      simp only [newExc, newTuple]
      refine wpAny_bind (wpAny_newObj_type ?_ (by size_fits))
      refine wpAny_bind (m := firstArgMember _ _) (wpAny_of_eq (a := Value.none) (by first | rfl | (simp only [firstArgMember]; rfl)) ?_)
      refine wpAny_newObj_type ?_ (by size_fits)
      simp only [raiseNew]
      refine wpAny_bind (wpAny_bind (wpAny_handled ?_))
      first | rw [show A.in1.handled = none from hh] | rw [hh]
      refine wpAny_throw ?_
      refine wpAny_bind (wpAny_isInstance (T := "StopIteration") (b := true) ⟨_, Heap.get?_push_size _ rfl, rfl⟩ isSubtype_stop ?_)
      exact wpAny_pure (hp _ fun b o hb => Heap.get?_push_of_some _ (Heap.get?_push_of_some _ hb))
    | susp v g0 l k c p fs => exact wpAny_pure ⟨v, rfl, wpAny_pure hx⟩
end
end DL

/-! What a generator's frame sees at each wake, what its waker sees at each yield. -/
namespace DL
open PySem PySem.Spec PyProof.Rows L2 PySem.W.X

/-! ### a heap cut off -/
def tr (n : Nat) (s : Shared) : Shared := { s with heap := ⟨s.heap.objs.extract 0 n, s.heap.life⟩ }
section
variable {n : Nat} {s : Shared}
theorem tr_size (h : n ≤ s.heap.objs.size) : (tr n s).heap.objs.size = n := by
  show (s.heap.objs.extract 0 n).size = n
  rw [Array.size_extract]; omega
theorem tr_get {b : Addr} (hb : b < n) : (tr n s).heap.get? b = s.heap.get? b := by
  have e : (s.heap.objs.extract 0 n)[b]? = s.heap.objs[b]? := by
    rw [Array.getElem?_extract]
    by_cases h : b < min n s.heap.objs.size - 0
    · rw [if_pos h, Nat.zero_add]
    · rw [if_neg h, Array.getElem?_eq_none]
      refine Nat.le_of_not_lt fun z => h ?_
      rw [Nat.sub_zero]
      exact Nat.lt_min.mpr ⟨hb, z⟩
  show (match (s.heap.objs.extract 0 n)[b]? with | some ⟨_, _, .freed, _⟩ => none | o => o) = (match s.heap.objs[b]? with | some ⟨_, _, .freed, _⟩ => none | o => o)
  rw [e]
theorem tr_lt {b : Addr} {o : Obj} (h : (tr n s).heap.get? b = some o) : b < n := by
  have h1 := Heap.lt_size h
  have h2 : (tr n s).heap.objs.size ≤ n := by
    show (s.heap.objs.extract 0 n).size ≤ n
    rw [Array.size_extract]; omega
  exact Nat.lt_of_lt_of_le h1 h2
theorem tr_of {b : Addr} {o : Obj} (h : (tr n s).heap.get? b = some o) : s.heap.get? b = some o := by
  rw [← tr_get (tr_lt h)]; exact h
theorem tr_frames {base : Heap} : ∀ {l : List Env}, s.heap.FunFrames base l → (∀ b ∈ frs l, b < n) → (tr n s).heap.FunFrames base l
  | [], _, _ => trivial
  | env :: rest, h, hb => by
    obtain ⟨hk, ⟨L, o, hf, h1, h2, h3⟩, h4⟩ := h
    have e : frs (env :: rest) = L :: frs rest := by unfold frs; rw [List.filterMap_cons, hf]
    have hL : L < n := hb L (by rw [e]; exact List.mem_cons_self)
    exact ⟨hk, ⟨L, o, hf, h1, by rw [tr_get hL]; exact h2, h3⟩, tr_frames h4 fun b z => hb b (by rw [e]; exact List.mem_cons_of_mem _ z)⟩
end

/-! ### trees that nothing can change -/
mutual
def pureD : D → Bool
  | .tup xs => pures xs
  | .lst _ => false
  | .dic _ _ => false
  | .ref _ => false
  | .scr _ => false
  | _ => true
def pures : List D → Bool
  | [] => true
  | x :: xs => pureD x && pures xs
end
mutual
theorem Rep.pure {K : PySem.W.Frag} {F F' : Addr → Prop} {H H' : Hp} (hm : ∀ a vs, SqT K H a vs → SqT K H' a vs) : ∀ {d : D} {v : V}, pureD d = true → Rep K F H d v → Rep K F' H' d v
  | .non, _, _, h => h
  | .bl _, _, _, h => h
  | .int _, _, _, h => h
  | .str _, _, _, h => h
  | .ty _, _, _, h => h
  | .lst _, _, p, _ => by simp [pureD] at p
  | .dic _ _, _, p, _ => by simp [pureD] at p
  | .ref _, _, p, _ => by simp [pureD] at p
  | .scr _, _, p, _ => by simp [pureD] at p
  | .tup xs, v, p, h => by
    simp only [Rep] at h ⊢
    obtain ⟨a, vs, e, s, r⟩ := h
    exact ⟨a, vs, e, hm a vs s, Reps.pure hm (by simpa only [pureD] using p) r⟩
theorem Reps.pure {K : PySem.W.Frag} {F F' : Addr → Prop} {H H' : Hp} (hm : ∀ a vs, SqT K H a vs → SqT K H' a vs) : ∀ {ds : List D} {vs : List V}, pures ds = true → Reps K F H ds vs → Reps K F' H' ds vs
  | [], _, _, h => h
  | x :: xs, vs, p, h => by
    simp only [pures, Bool.and_eq_true] at p
    simp only [Reps] at h ⊢
    obtain ⟨v, r, e, h1, h2⟩ := h
    exact ⟨v, r, e, Rep.pure hm p.1 h1, Reps.pure hm p.2 h2⟩
end
theorem pures_get : ∀ {xs : List D} {i : Nat} {d : D}, pures xs = true → xs[i]? = some d → pureD d = true
  | [], _, _, _, e => by simp at e
  | x :: xs, 0, d, p, e => by
    simp only [pures, Bool.and_eq_true] at p
    simp at e; subst e; exact p.1
  | x :: xs, i + 1, d, p, e => by
    simp only [pures, Bool.and_eq_true] at p
    exact pures_get p.2 (by simpa using e)
def purE (ρ : DEnv) : DEnv := ρ.map fun o => match o with
  | some d => if pureD d = true then some d else none
  | none => none

/-! ### what is tracked, frozen for another's run -/
def fz (n : Nat) (pv : List Addr) (s : Shared) (H : Hp) : Hp := fun b => match H b with
  | some u => some u
  | none => if n ≤ b ∧ b ∉ pv then (s.heap.get? b).map fun o => .frz o (.ext fun _ => True) else none
def unfz (H Hf H' : Hp) : Hp := fun b => if (H b).isNone = true ∧ (Hf b).isSome = true then none else H' b
section
variable {n : Nat} {pv : List Addr} {s : Shared} {H H' : Hp} {b : Addr} {P : Program} {w : World} {K : PySem.W.Frag}
theorem fz_some {u : HO} (h : H b = some u) : fz n pv s H b = some u := by unfold fz; rw [h]
theorem fz_none {u : HO} (h : H b = none) (h' : fz n pv s H b = some u) : ∃ o, s.heap.get? b = some o ∧ u = .frz o (.ext fun _ => True) ∧ n ≤ b ∧ b ∉ pv := by
  unfold fz at h'
  rw [h] at h'
  simp only at h'
  split at h'
  · rename_i hb
    cases q : s.heap.get? b with
    | none => rw [q] at h'; cases h'
    | some o => rw [q] at h'; cases h'; exact ⟨o, rfl, rfl, hb⟩
  · cases h'
theorem fz_lt (hb : b < n) : fz n pv s H b = H b := by
  unfold fz
  cases q : H b with
  | some u => rfl
  | none => simp only; rw [if_neg (fun z => absurd hb (Nat.not_lt.mpr z.1))]
theorem fz_pv (hb : b ∈ pv) : fz n pv s H b = H b := by
  unfold fz
  cases q : H b with
  | some u => rfl
  | none => simp only; rw [if_neg (fun z => z.2 hb)]
theorem fz_new {o : Obj} (h : s.heap.get? b = some o) (hn : n ≤ b) (hp : b ∉ pv) : fz n pv s H b ≠ none := by
  unfold fz
  cases q : H b with
  | some u => simp
  | none => simp only; rw [if_pos ⟨hn, hp⟩, h]; simp
theorem fz_sq {a : Addr} {vs : List V} (h : SqT K H a vs) : SqT K (fz n pv s H) a vs := by
  rcases h with (h | ⟨o, h⟩) | h
  · exact .inl (.inl (fz_some h))
  · exact .inl (.inr ⟨o, fz_some h⟩)
  · exact .inr h
theorem fz_ok (h : HOk P w H s.heap) : HOk P w (fz n pv s H) s.heap := fun b u e => by
  cases q : H b with
  | some u' =>
    rw [fz_some q] at e; cases e
    exact (h b _ q).stay (fun _ _ _ z => z) (fun c z => fz_some z) fun c xs z => fz_some z
  | none =>
    obtain ⟨o, ho, rfl, _⟩ := fz_none q e
    exact ⟨ho, trivial, ⟨o, ho⟩, fun _ _ _ _ => trivial⟩
theorem ObjOk.there {h : Heap} {a : Addr} : ∀ {o : HO}, ObjOk P w H h a o → ∃ ob, h.get? a = some ob
  | .lst xs, x => by obtain ⟨_, _, _, _, e⟩ := x; exact ⟨_, e⟩
  | .tup xs, x => by obtain ⟨_, _, _, o, e, _⟩ := x; exact ⟨o, e⟩
  | .dK kvs, x => by obtain ⟨_, _, _, _, o, _, _, e, _⟩ := x; exact ⟨o, e⟩
  | .dT kvs, x => by obtain ⟨_, _, _, _, o, _, _, e, _⟩ := x; exact ⟨o, e⟩
  | .set S n, x => by obtain ⟨o, _, _, _, e, _⟩ := x; exact ⟨o, e⟩
  | .ins C dx fs, x => by obtain ⟨_, _, _, e, _⟩ := x; exact ⟨_, e⟩
  | .own y, x => x
  | .xd fs, x => by obtain ⟨_, ⟨o, _, _, e, _⟩, _⟩ := x; exact ⟨o, e⟩
  | .rng lo hi, x => by obtain ⟨_, _, _, e⟩ := x; exact ⟨_, e⟩
  | .frz ob u, x => by obtain ⟨e, _⟩ := x; exact ⟨_, e⟩
  | .tbl ps, x => ⟨_, x⟩
  | .met f y, x => ⟨_, x⟩
  | .ext φ, x => by obtain ⟨_, e, _⟩ := x; exact e
/-- taken back -/
theorem unfz_old (h : H b ≠ none) : unfz H (fz n pv s H) H' b = H' b := by
  unfold unfz
  rw [if_neg]
  intro z
  cases q : H b with
  | none => exact h q
  | some u => rw [q] at z; cases z.1
theorem unfz_drop (h : H b = none) (h' : fz n pv s H b ≠ none) : unfz H (fz n pv s H) H' b = none := by
  unfold unfz
  rw [if_pos]
  refine ⟨by rw [h]; rfl, ?_⟩
  cases q : fz n pv s H b with
  | none => exact absurd q h'
  | some u => rfl
theorem unfz_keep (h : fz n pv s H b = none) : unfz H (fz n pv s H) H' b = H' b := by
  unfold unfz
  rw [if_neg]
  intro z
  rw [h] at z
  cases z.2
/-- what is neither a frozen thing stays -/
theorem unfz_kind {u : HO} (hid : ∀ a, fz n pv s H a ≠ none → H' a = fz n pv s H a) (h : H' b = some u) (hu : ∀ o, u ≠ .frz o (.ext fun _ => True)) : unfz H (fz n pv s H) H' b = some u := by
  cases q : fz n pv s H b with
  | none => rw [unfz_keep q]; exact h
  | some z =>
    cases q2 : H b with
    | some y => rw [unfz_old (by rw [q2]; simp)]; exact h
    | none =>
      obtain ⟨o, _, rfl, _⟩ := fz_none q2 q
      rw [hid b (by rw [q]; simp), q] at h
      cases h
      exact absurd rfl (hu o)
theorem unfz_ok {h : Heap} (hid : ∀ a, fz n pv s H a ≠ none → H' a = fz n pv s H a) (x : HOk P w H' h) : HOk P w (unfz H (fz n pv s H) H') h := fun b u e => by
  have e' : H' b = some u := by
    unfold unfz at e
    split at e
    · cases e
    · exact e
  exact (x b u e').stay (fun _ _ _ z => z) (fun c z => unfz_kind hid z fun o q => by cases q) fun c xs z => unfz_kind hid z fun o q => by cases q
theorem unfz_sq {a : Addr} {vs : List V} (hid : ∀ a, fz n pv s H a ≠ none → H' a = fz n pv s H a) (h : SqT K H' a vs) : SqT K (unfz H (fz n pv s H) H') a vs := by
  rcases h with (h | ⟨o, h⟩) | h
  · exact .inl (.inl (unfz_kind hid h fun o q => by cases q))
  · exact .inl (.inr ⟨o, unfz_kind hid h fun o q => by cases q⟩)
  · exact .inr h
end

/-! ### the generator's frame -/
structure GD where
  P : Program
  w : World
  K : PySem.W.Frag
  mg : Str → Option Value
  base : Heap
  N : List Str
  qual : Str
  scope : Scope
  n0 : Addr
  f : Addr
  cdv : Value
  outer : List Env
  g : Nat
abbrev GD.env (G : GD) : Env := envOfC G.qual G.scope G.n0 G.f G.cdv
def GD.cx (G : GD) (A : Around) (s0 : Shared) (H0 : Hp) : Cx where
  prog := G.P
  w := G.w
  K := G.K
  mg := G.mg
  base := G.base
  A := A.deeper G.env
  N := G.N
  s_0 := s0
  H_0 := H0
  env := G.env
  outer := G.outer
  stack := G.env :: G.outer
  ex := []
  calm := true
  fn := fun _ => true
  pn := []
  xe := fun _ _ => False
theorem GD.cx_eq {G : GD} {A : Around} {s0 : Shared} {H0 : Hp} {E : XK} (h : s0.heap.objs.size = G.n0) : (cxOf CX0 G.P G.w G.K G.mg G.base G.N G.qual G.scope G.f G.cdv A G.outer s0 H0 E).nox = G.cx A s0 H0 := by
  obtain ⟨P, w, K, mg, base, N, qual, scope, n0, f, cdv, outer, g⟩ := G
  have h : s0.heap.objs.size = n0 := h
  subst h
  rfl
def emM : MS := ⟨fun _ => none, 0⟩
/-- from a yield to the next wake: what the waker did -/
structure Wk (G : GD) (pv : List Addr) (s1 : Shared) (H1 : Hp) (s : Shared) (H : Hp) : Prop where
  os : s.os = s1.os
  bare : AllBare s.gens
  base : ∀ b o, G.base.get? b = some o → s.heap.get? b = some o ∧ H b = none
  funs : s.heap.FunFrames G.base G.outer
  frf : ∀ b ∈ frs G.outer, H b = none
  hok : HOk G.P G.w H s.heap
  pv : ∀ b ∈ pv, H b = none ∧ ∀ o, s1.heap.get? b = some o → s.heap.get? b = some o
  tups : ∀ a vs, SqT G.K H1 a vs → SqT G.K H a vs
  gens : ∀ (i : Nat) (x : GenState), i ≠ G.g → s1.gens[i]? = some x → sleeps x = true → s.gens[i]? = some x
theorem Wk.trans {G : GD} {pv : List Addr} {s1 s2 s3 : Shared} {H1 H2 H3 : Hp} (a : Wk G pv s1 H1 s2 H2) (b : Wk G pv s2 H2 s3 H3) : Wk G pv s1 H1 s3 H3 :=
  ⟨b.os.trans a.os, b.bare, b.base, b.funs, b.frf, b.hok, fun c hc => ⟨(b.pv c hc).1, fun o q => (b.pv c hc).2 o ((a.pv c hc).2 o q)⟩, fun c vs q => b.tups c vs (a.tups c vs q), fun i x hi q hx => b.gens i x hi (a.gens i x hi q hx) hx⟩
/-- from a wake to the next yield, or to the end: what the generator did -/
structure Stp (G : GD) (pv : List Addr) (s : Shared) (H : Hp) (pv' : List Addr) (s2 : Shared) (H' : Hp) : Prop where
  os : s2.os = s.os
  bare : AllBare s2.gens
  un : Un (frs G.outer) pv H H' s.heap s2.heap
  hok : HOk G.P G.w H' s2.heap
  fix : ∀ b, H b ≠ none → H' b = H b
  pv : ∀ b ∈ pv', G.n0 ≤ b ∧ (b ∈ pv ∨ s.heap.get? b = none) ∧ H' b = none ∧ ∃ o, s2.heap.get? b = some o ∧ ∀ v, o.data ≠ .cell v
/-- the end of a segment that began at s, H: these items are still to come -/
def GPE (G : GD) (A : Around) : List D → Shared → Hp → List Addr → End → Shared → Prop
  | [], s, H, pv, e, s2 => (e = .ret (.ok (.ret .none)) ∨ e = .ret (.ok .next)) ∧ ∃ H', Stp G pv s H [] s2 H'
  | d :: rest, s, H, pv, e, s2 => ∃ v vv g0 l k c p fs pv' H', e = .susp v g0 l k c p fs ∧ Stp G pv s H pv' s2 H' ∧ RelV vv v ∧ Rep G.K (fun _ => False) H' d vv ∧
      ∀ s' H'', Wk G pv' s2 H' s' H'' → SegX (model G.P G.w) A c (k (.send .none)) fs (s'.setGen G.g .running) (GPE G A rest s' H'' pv')
/-- what is known of a wake -/
structure WOk (G : GD) (pv : List Addr) (sw : Shared) (Hw : Hp) : Prop where
  n0 : G.n0 ∈ pv
  frs : ∀ b ∈ frs G.outer, b < G.n0 ∧ Hw b = none
  cells : G.env.cells = []
  hok : HOk G.P G.w Hw sw.heap
  sz : G.n0 ≤ sw.heap.objs.size
section
variable {G : GD} {A : Around} {pv : List Addr} {sw s : Shared} {Hw H : Hp} {ip : List (Addr × Obj)} {σ : L2.St} {F : Addr → Prop} {M : MS}
theorem lm_id (l : Lm G.K (fun _ => False) (fz G.n0 pv sw Hw) emM F H M) : ∀ a, fz G.n0 pv sw Hw a ≠ none → H a = fz G.n0 pv sw Hw a := fun a h => (l.hid a h (fun z => z) rfl).2.2
theorem stp_of (I : Inv (G.cx A (tr G.n0 sw) (fz G.n0 pv sw Hw)) ip σ H s) (l : Lm G.K (fun _ => False) (fz G.n0 pv sw Hw) emM F H M) (W : WOk G pv sw Hw) (hip : ∀ p ∈ ip, G.n0 ≤ p.1) :
    Stp G pv sw Hw (G.n0 :: ip.map (·.1)) s (unfz Hw (fz G.n0 pv sw Hw) H) := by
  have hid := lm_id l
  have kept : ∀ b o, sw.heap.get? b = some o → b ∉ pv → G.n0 ≤ b → Hw b = none → s.heap.get? b = some o := fun b o e hb hn q => by
    have hf := fz_new (H := Hw) e hn hb
    cases q2 : fz G.n0 pv sw Hw b with
    | none => exact absurd q2 hf
    | some u =>
      obtain ⟨o', ho', rfl, _⟩ := fz_none q q2
      rw [e] at ho'; cases ho'
      exact (I.hok b _ ((hid b hf).trans q2)).1
  have old : ∀ b, b < G.n0 → Hw b = none → fz G.n0 pv sw Hw b = none := fun b hb q => (fz_lt hb).trans q
  refine ⟨I.os, I.bare, ⟨fun b o e q hb hp => ?_, fun b o e q hb hp => ?_, fun b o e q hp => ?_, fun b o e hp => ?_, fun b xs e => ?_, fun b o u e => ?_, fun b ps e => ⟨#[], ?_⟩⟩, unfz_ok hid I.hok, fun b h => ?_, fun b hb => ?_⟩
  · by_cases hn : b < G.n0
    · exact I.base.keep b o (by rw [show (G.cx A (tr G.n0 sw) (fz G.n0 pv sw Hw)).s_0 = tr G.n0 sw from rfl, tr_get hn]; exact e) (old b hn q) hb (by intro z; cases z)
    · exact kept b o e hp (Nat.le_of_not_lt hn) q
  · have hn := (W.frs b hb).1
    exact I.base.slot b o (by rw [show (G.cx A (tr G.n0 sw) (fz G.n0 pv sw Hw)).s_0 = tr G.n0 sw from rfl, tr_get hn]; exact e) (old b hn q) hb (by intro z; cases z)
  · by_cases hn : b < G.n0
    · rw [unfz_keep (old b hn q)]
      exact I.base.free b o (by rw [show (G.cx A (tr G.n0 sw) (fz G.n0 pv sw Hw)).s_0 = tr G.n0 sw from rfl, tr_get hn]; exact e) (old b hn q) (by intro z; cases z)
    · exact unfz_drop q (fz_new e (Nat.le_of_not_lt hn) hp)
  · by_cases hn : b < G.n0
    · exact I.base.there b o (by rw [show (G.cx A (tr G.n0 sw) (fz G.n0 pv sw Hw)).s_0 = tr G.n0 sw from rfl, tr_get hn]; exact e) (by intro z; cases z)
    · have hf := fz_new (H := Hw) e (Nat.le_of_not_lt hn) hp
      cases q2 : fz G.n0 pv sw Hw b with
      | none => exact absurd q2 hf
      | some u => exact ObjOk.there (I.hok b u ((hid b hf).trans q2))
  · have q : Hw b ≠ none := by rw [e]; simp
    rw [unfz_old q, hid b (by rw [fz_some e]; simp), fz_some e]
  · have q : Hw b ≠ none := by rw [e]; simp
    rw [unfz_old q, hid b (by rw [fz_some e]; simp), fz_some e]
  · have q : Hw b ≠ none := by rw [e]; simp
    rw [unfz_old q, hid b (by rw [fz_some e]; simp), fz_some e, Array.append_empty]
  · cases q : Hw b with
    | none => exact absurd q h
    | some u => rw [unfz_old h, hid b (by rw [fz_some q]; simp), fz_some q]
  · have free : ∀ b, H b = none → unfz Hw (fz G.n0 pv sw Hw) H b = none ∧ (G.n0 ≤ b → b ∈ pv ∨ sw.heap.get? b = none) := fun b q => by
      refine ⟨by unfold unfz; split <;> first | rfl | exact q, fun hn => ?_⟩
      by_cases hp : b ∈ pv
      · exact .inl hp
      · cases q2 : sw.heap.get? b with
        | none => exact .inr rfl
        | some o =>
          have hf := fz_new (H := Hw) q2 hn hp
          exact absurd ((hid b hf).symm.trans q) hf
    rcases List.mem_cons.mp hb with e | hb
    · subst e
      obtain ⟨m, ⟨o, es, ep, ho, hd, _⟩, _⟩ := I.loc
      exact ⟨Nat.le_refl _, .inl W.n0, (free _ I.free).1, o, ho, fun v z => by rw [hd] at z; cases z⟩
    · obtain ⟨p, hp, rfl⟩ := List.mem_map.mp hb
      obtain ⟨h1, h2, _, _, h5⟩ := I.pin p (List.mem_append_right _ hp)
      obtain ⟨f1, f2⟩ := free _ h2
      exact ⟨hip p hp, f2 (hip p hp), f1, p.2, h1, h5⟩
/-- a wake: the frame stands as it stood -/
theorem rebase {A A' : Around} {s0 s1 s2 : Shared} {H0 H H1 H2 : Hp} {pv' : List Addr} (I : Inv (G.cx A s0 H0) ip σ H s1) (hs0 : s0.heap.objs.size = G.n0) (k : Wk G pv' s1 H1 s2 H2) (hn : G.n0 ∈ pv') (hip : ∀ p ∈ ip, p.1 ∈ pv') (hc : G.env.cells = [])
    (hf : ∀ b ∈ frs G.outer, b < G.n0) (hh : A'.handled = none) (hfr : A'.frames = some G.outer) : Inv (G.cx A' (tr G.n0 s2) (fz G.n0 pv' s2 H2)) ip σ (fz G.n0 pv' s2 H2) (s2.setGen G.g .running) := by
  obtain ⟨m, hns, hl⟩ := id I.loc
  have hns2 : s2.heap.Ns G.n0 m := by
    obtain ⟨o, es, ep, ho, r⟩ := hns
    exact ⟨o, es, ep, (k.pv _ hn).2 o ho, r⟩
  have hsz : G.n0 ≤ s2.heap.objs.size := Nat.le_of_lt hns2.lt
  have bz : G.base.objs.size ≤ G.n0 := by
    have h1 := I.ok.bsz
    have h2 : (G.cx A s0 H0).s_0 = s0 := rfl
    rw [h2, hs0] at h1
    exact h1
  have inB : ∀ b o, G.base.get? b = some o → b < G.n0 := fun b o e => Nat.lt_of_lt_of_le (Heap.lt_size e) bz
  have nx : ∀ b : Addr, b ∉ (G.cx A' (tr G.n0 s2) (fz G.n0 pv' s2 H2)).ex := fun b z => absurd (show b ∈ ([] : List Addr) from z) (by simp)
  have frame : frs (G.env :: G.outer) = G.n0 :: frs G.outer := rfl
  refine ⟨⟨I.ok.mod, I.ok.kind, I.ok.glob, I.ok.blt, ?_, I.ok.inj, I.ok.has, fun x c _ e => ?_, fun _ => hh, Around.frames_deeper hfr, .inr ⟨rfl, rfl⟩, fun b z => absurd z (nx b), fun b o e => ?_, ?_, fun b _ _ => nx b, fun b z => absurd z (nx b), ?_, fun b hb => ?_⟩,
    rfl, allBare_setGen k.bare rfl, ⟨fun b o e _ _ _ => tr_of e, fun b o e _ _ _ => ⟨o.slots, tr_of e⟩, fun _ _ _ z _ => z, fun b o e _ => ⟨o, tr_of e⟩, fun _ _ z => z, fun _ _ _ z => z, fun b ps z => ⟨#[], by rw [Array.append_empty]; exact z⟩⟩,
    ⟨m, hns2, fun i x v e1 e2 e3 => ?_⟩, fun x c e => ?_, ?_, fun x c e => ?_, fun p hp => ?_, fz_ok k.hok, I.len⟩
  · show (tr G.n0 s2).heap.objs.size ≤ G.n0
    rw [tr_size hsz]; exact Nat.le_refl _
  · rw [show (G.cx A' (tr G.n0 s2) (fz G.n0 pv' s2 H2)).env.cells = [] from hc] at e; cases e
  · obtain ⟨h1, h2⟩ := k.base b o e
    exact ⟨by show (tr G.n0 s2).heap.get? b = some o; rw [tr_get (inB b o e)]; exact h1, (fz_lt (inB b o e)).trans h2⟩
  · show _ ≤ (tr G.n0 s2).heap.objs.size
    rw [tr_size hsz]; exact bz
  · exact tr_frames k.funs hf
  · exact (fz_lt (hf b hb)).trans (k.frf b hb)
  · obtain ⟨u, r, q⟩ := hl i x v e1 e2 e3
    refine ⟨u, r, ?_⟩
    rcases q with q | ⟨_, c, e, _⟩
    · exact .inl q
    · rw [show (G.cx A s0 H0).env.cells = [] from hc] at e; cases e
  · rw [show (G.cx A' (tr G.n0 s2) (fz G.n0 pv' s2 H2)).env.cells = [] from hc] at e; cases e
  · exact (fz_pv hn).trans (k.pv _ hn).1
  · rw [show (G.cx A' (tr G.n0 s2) (fz G.n0 pv' s2 H2)).env.cells = [] from hc] at e; cases e
  · have hp' : p ∈ ip := by
      rcases List.mem_append.mp hp with z | z
      · exact absurd (show p ∈ ([] : List (Addr × Obj)) from z) (by simp)
      · exact z
    obtain ⟨h1, _, h3, h4, h5⟩ := I.pin p (List.mem_append_right _ hp')
    obtain ⟨k1, k2⟩ := k.pv p.1 (hip p hp')
    exact ⟨k2 _ h1, (fz_pv (hip p hp')).trans k1, h3, h4, h5⟩
end
end DL

/-! Statements of a generator, over trees. -/
namespace DL
open PySem PySem.Spec PyProof.Rows L2 PySem.W.X

/-- behind a statement: the items still to come -/
structure GE where
  nx : List D → DEnv → MS → Prop
  rt : List D → Prop
  bk : List D → DEnv → MS → Prop := fun _ _ _ => False
  ct : List D → DEnv → MS → Prop := fun _ _ _ => False
abbrev DG := GE → List D → DEnv → MS → Prop
def GE.at (Δ : GE) (xs : List D) : DEnds := { nx := Δ.nx xs, rt := fun d _ => d = .non ∧ Δ.rt xs, bk := Δ.bk xs, ct := Δ.ct xs }
def gPlain (t : DS) : DG := fun Δ xs ρ M => t (Δ.at xs) ρ M
def gNil : DG := fun Δ xs ρ M => Δ.nx xs ρ M
def gSeq (t u : DG) : DG := fun Δ xs ρ M => t { Δ with nx := u Δ } xs ρ M
def gYield (te : DE) : DG := fun Δ xs ρ M => te ρ M fun x _ => pureD x = true ∧ ∃ rest, xs = x :: rest ∧ Δ.nx rest (purE ρ) emM
abbrev DIP := DEnv → MS → (List D → MS → Prop) → Prop
def gforW (p : Pat) (body : DG) (Δ : GE) : List D → List D → DEnv → MS → Prop
  | [], xs, ρ, M => Δ.nx xs ρ M
  | d :: ds, xs, ρ, M => match p.put d ρ with
    | some ρ1 => body { nx := fun xs' ρ' M' => gforW p body Δ ds xs' ρ' M', rt := Δ.rt, bk := Δ.nx, ct := fun xs' ρ' M' => gforW p body Δ ds xs' ρ' M' } xs ρ1 M
    | none => False
def gFor (ti : DIP) (p : Pat) (body : DG) : DG := fun Δ xs ρ M => ti ρ M fun items M1 => gforW p body Δ items xs ρ M1

theorem inv_gens {X : Cx} {pins : List (Addr × Obj)} {σ : L2.St} {H : Hp} {s : Shared} {G2 : Array GenState} (I : Inv X pins σ H s) (h : AllBare G2) : Inv X pins σ H { s with gens := G2 } :=
  ⟨I.ok, I.os, h, I.base, I.loc, I.cell, I.free, I.freeC, I.pin, I.hok, I.len⟩

/-! ### running -/
/-- what stays for as long as a loop runs: generators that sleep, tuples -/
structure GKeep where
  gens : List (Nat × GenState)
  tk : Addr → List V → Prop
structure GRun (G : GD) (A : Around) (sw : Shared) (Hw : Hp) (pv : List Addr) (ip : List (Addr × Obj)) (gp : GKeep) (ρ : DEnv) (M : MS) (s : Shared) : Prop where
  run : ∃ σ F H, Inv (G.cx A (tr G.n0 sw) (fz G.n0 pv sw Hw)) ip σ H s ∧ Abs G.K F H M σ ρ ∧ Lm G.K (fun _ => False) (fz G.n0 pv sw Hw) emM F H M ∧ ∀ a vs, gp.tk a vs → SqT G.K H a vs
  here : WOk G pv sw Hw
  ipok : ∀ p ∈ ip, G.n0 ≤ p.1
  gens : ∀ q ∈ gp.gens, sleeps q.2 = true ∧ s.gens[q.1]? = some q.2 ∧ q.1 ≠ G.g
structure GA (G : GD) (k : Nat) (A : Around) : Prop where
  room : Room k (A.deeper G.env)
  gd : (A.deeper G.env).guards = some []
  fr : A.frames = some G.outer
structure GC0 (G : GD) (A : Around) (c : Code) (fs : List Frame) (gd : Bool → Bool) : Prop where
  over : A.over c fs = A.deeper G.env
  split : splitAtGen fs = none
  guard : fs.any Frame.guarded = false
  gd : gd false = false
def GPost (G : GD) (A : Around) (xs : List D) (sw : Shared) (Hw : Hp) (pv : List Addr) (ip : List (Addr × Obj)) (gp : GKeep) (Δ : GE) (f : Flow) (s : Shared) : Prop := match f with
  | .next => ∃ ρ M, GRun G A sw Hw pv ip gp ρ M s ∧ Δ.nx xs ρ M
  | .brk => ∃ ρ M, GRun G A sw Hw pv ip gp ρ M s ∧ Δ.bk xs ρ M
  | .cont => ∃ ρ M, GRun G A sw Hw pv ip gp ρ M s ∧ Δ.ct xs ρ M
  | .ret u => u = .none ∧ ∃ ρ M, GRun G A sw Hw pv ip gp ρ M s ∧ Δ.rt xs
/-- for all that runs in the frame: a piece m of the generator's code -/
structure GSm (G : GD) (k : Nat) (m : Sem Flow) (t : DG) : Prop where
  run : ∀ (A : Around) (c : Code) (fs : List Frame) (K : Flow → Sem PySem.Fin) (J : Value → Sem PySem.Fin) (gd : Bool → Bool) (lv : List Value → List Value) (xs : List D) (sw : Shared) (Hw : Hp) (pv : List Addr) (ip : List (Addr × Obj)) (gp : GKeep) (ρ : DEnv) (M : MS) (s : Shared) (Δ : GE),
    GA G k A → GC0 G A c fs gd → GRun G A sw Hw pv ip gp ρ M s → t Δ xs ρ M →
    (∀ (xs' : List D) (sw' : Shared) (Hw' : Hp) (pv' : List Addr) (f : Flow) (s' : Shared), GPost G A xs' sw' Hw' pv' ip gp Δ f s' → SegX (model G.P G.w) A c (K f) fs s' (GPE G A xs' sw' Hw' pv')) →
    SegX (model G.P G.w) A c (m.wrap K J gd lv) fs s (GPE G A xs sw Hw pv)
abbrev GSx (G : GD) (k : Nat) (st : Stmt) (t : DG) : Prop := GSm G k (exec st G.env) t
abbrev GSxs (G : GD) (k : Nat) (sts : List Stmt) (t : DG) : Prop := GSm G k (execs sts G.env) t
section
variable {G : GD} {k : Nat} {A : Around} {sw s : Shared} {Hw : Hp} {pv : List Addr} {ip : List (Addr × Obj)} {gp : GKeep} {ρ : DEnv} {M : MS}
theorem GRun.dead (R : GRun G A sw Hw pv ip gp ρ M s) : ∃ σ F H, Inv (G.cx A (tr G.n0 sw) (fz G.n0 pv sw Hw)) ip σ H { s with gens := deadG s.gens } ∧ Abs G.K F H M σ ρ ∧ Lm G.K (fun _ => False) (fz G.n0 pv sw Hw) emM F H M ∧ ∀ a vs, gp.tk a vs → SqT G.K H a vs := by
  obtain ⟨σ, F, H, I, a, l⟩ := R.run
  exact ⟨σ, F, H, inv_gens I (deadG_bare I.bare), a, l⟩
theorem GRun.on (R : GRun G A sw Hw pv ip gp ρ M s) {s' : Shared} {Q : Shared → Prop} {ρ' : DEnv} {M' : MS} {σ : L2.St} {F : Addr → Prop} {H : Hp} {ip' : List (Addr × Obj)} (t : At (sleptT s.gens) s' Q) (hq : ∀ s2, Q s2 → Inv (G.cx A (tr G.n0 sw) (fz G.n0 pv sw Hw)) ip' σ H s2)
    (a : Abs G.K F H M' σ ρ') (l : Lm G.K (fun _ => False) (fz G.n0 pv sw Hw) emM F H M') (tk : ∀ a vs, gp.tk a vs → SqT G.K H a vs) (hip : ∀ p ∈ ip', G.n0 ≤ p.1) : GRun G A sw Hw pv ip' gp ρ' M' s' := by
  obtain ⟨G2, d, q⟩ := id t
  have I := hq _ q
  refine ⟨⟨σ, F, H, ?_, a, l, tk⟩, R.here, hip, fun q hq => ?_⟩
  · have := inv_gens I (d.bare I.bare)
    exact this
  · obtain ⟨h1, h2, h3⟩ := R.gens q hq
    exact ⟨h1, t.keeps q.1 q.2 h2 h1, h3⟩
theorem GRun.weak {gq : GKeep} (R : GRun G A sw Hw pv ip gp ρ M s) (h1 : ∀ q ∈ gq.gens, q ∈ gp.gens) (h2 : ∀ a vs, gq.tk a vs → gp.tk a vs) : GRun G A sw Hw pv ip gq ρ M s := by
  obtain ⟨⟨σ, F, H, I, a, l, tk⟩, h, hip, hg⟩ := R
  exact ⟨⟨σ, F, H, I, a, l, fun a vs q => tk a vs (h2 a vs q)⟩, h, hip, fun q hq => hg q (h1 q hq)⟩
theorem GRun.onK {gq : GKeep} (R : GRun G A sw Hw pv ip gp ρ M s) {s' : Shared} {Q : Shared → Prop} {ρ' : DEnv} {M' : MS} {σ : L2.St} {F : Addr → Prop} {H : Hp} {ip' : List (Addr × Obj)} (hgs : gq.gens = gp.gens) (t : At (sleptT s.gens) s' Q) (hq : ∀ s2, Q s2 → Inv (G.cx A (tr G.n0 sw) (fz G.n0 pv sw Hw)) ip' σ H s2)
    (a : Abs G.K F H M' σ ρ') (l : Lm G.K (fun _ => False) (fz G.n0 pv sw Hw) emM F H M') (tk : ∀ a vs, gq.tk a vs → SqT G.K H a vs) (hip : ∀ p ∈ ip', G.n0 ≤ p.1) : GRun G A sw Hw pv ip' gq ρ' M' s' := by
  have R2 : GRun G A sw Hw pv ip' ⟨gp.gens, fun _ _ => False⟩ ρ' M' s' := GRun.on (gp := ⟨gp.gens, fun _ _ => False⟩) (R.weak (gq := ⟨gp.gens, fun _ _ => False⟩) (fun _ z => z) fun _ _ z => z.elim) t hq a l (fun _ _ z => z.elim) hip
  obtain ⟨G2, d, q⟩ := t
  have I := hq _ q
  refine ⟨⟨σ, F, H, ?_, a, l, tk⟩, R2.here, hip, fun q hq => R2.gens q (hgs ▸ hq)⟩
  have := inv_gens I (d.bare I.bare)
  exact this
theorem blank_env {K : PySem.W.Frag} {F : Addr → Prop} {H : Hp} {σ : L2.St} : RepEnv K F H σ (List.replicate σ.length none) := by
  refine ⟨by simp, fun i d h => ?_⟩
  rw [List.getElem?_replicate] at h
  split at h <;> cases h
theorem gx_of {m : Sem Flow} {t : DS} (h : ∀ A s0 H0, GA G k A → s0.heap.objs.size = G.n0 → ∀ (pins : List (Addr × Obj)) (s : Shared) (σ : L2.St) (H : Hp) (D : Ends), Inv (G.cx A s0 H0) pins σ H s → loS G.K t D σ H → wpAny (model G.P G.w) (G.cx A s0 H0).A m (SP (G.cx A s0 H0) pins D) (G.cx A s0 H0).xe s) :
    GSm G k m (gPlain t) := by
  refine ⟨fun A c fs K J gd lv xs sw Hw pv ip gp ρ M s Δ a g R ht kk => ?_⟩
  refine sx_wrap ?_
  rw [g.over]
  obtain ⟨σ, F, H, I, ab, l, tk⟩ := R.dead
  let Y : Ends := {
    nx := fun σ' H' => ∃ F' M' ρ', Lm G.K F H M F' H' M' ∧ Abs G.K F' H' M' σ' ρ' ∧ Δ.nx xs ρ' M'
    rt := fun v H' => v = .non ∧ Δ.rt xs ∧ ∃ F' M', Lm G.K F H M F' H' M' ∧ AbsM G.K F' H' M'
    bk := fun σ' H' => ∃ F' M' ρ', Lm G.K F H M F' H' M' ∧ Abs G.K F' H' M' σ' ρ' ∧ Δ.bk xs ρ' M'
    ct := fun σ' H' => ∃ F' M' ρ', Lm G.K F H M F' H' M' ∧ Abs G.K F' H' M' σ' ρ' ∧ Δ.ct xs ρ' M' }
  have hw := h A (tr G.n0 sw) (fz G.n0 pv sw Hw) a (tr_size R.here.sz) ip _ σ H Y I ⟨F, M, ρ, Δ.at xs, ab, ht,
    ⟨fun σ' H' F' M' ρ' l' a' q => ⟨F', M', ρ', l', a', q⟩, fun v H' q => by
      obtain ⟨F', M', d, l', a', r, e, q⟩ := q
      subst e
      exact ⟨r, q, F', M', l', a'⟩, fun σ' H' F' M' ρ' l' a' q => ⟨F', M', ρ', l', a', q⟩, fun σ' H' F' M' ρ' l' a' q => ⟨F', M', ρ', l', a', q⟩⟩⟩
  refine wpAny_mono (wpAny_deadT (dead_all s.gens) hw) (fun f s' z => kk xs sw Hw pv f s' ?_) fun x s' z => ?_
  · cases f with
    | next =>
      obtain ⟨G2, d, σ', H', I', F', M', ρ', l', a', q⟩ := z
      exact ⟨ρ', M', R.on (Q := fun s2 => Inv (G.cx A (tr G.n0 sw) (fz G.n0 pv sw Hw)) ip σ' H' s2) ⟨G2, d, I'⟩ (fun _ q => q) a' (l.trans l') (fun a vs q => l'.le.tup a vs (tk a vs q)) R.ipok, q⟩
    | brk =>
      obtain ⟨G2, d, σ', H', I', F', M', ρ', l', a', q⟩ := z
      exact ⟨ρ', M', R.on (Q := fun s2 => Inv (G.cx A (tr G.n0 sw) (fz G.n0 pv sw Hw)) ip σ' H' s2) ⟨G2, d, I'⟩ (fun _ q => q) a' (l.trans l') (fun a vs q => l'.le.tup a vs (tk a vs q)) R.ipok, q⟩
    | cont =>
      obtain ⟨G2, d, σ', H', I', F', M', ρ', l', a', q⟩ := z
      exact ⟨ρ', M', R.on (Q := fun s2 => Inv (G.cx A (tr G.n0 sw) (fz G.n0 pv sw Hw)) ip σ' H' s2) ⟨G2, d, I'⟩ (fun _ q => q) a' (l.trans l') (fun a vs q => l'.le.tup a vs (tk a vs q)) R.ipok, q⟩
    | ret u =>
      obtain ⟨G2, d, v, σ', H', I', rv, hv, q, F', M', l', a'⟩ := z
      subst hv
      exact ⟨rv, _, M', R.on (Q := fun s2 => Inv (G.cx A (tr G.n0 sw) (fz G.n0 pv sw Hw)) ip σ' H' s2) ⟨G2, d, I'⟩ (fun _ q => q) ⟨a', blank_env⟩ (l.trans l') (fun a vs q => l'.le.tup a vs (tk a vs q)) R.ipok, q⟩
  · obtain ⟨_, _, q⟩ := z
    exact q.elim
theorem gx_plain {st : Stmt} {t : DS} (h : ∀ A s0 H0, GA G k A → s0.heap.objs.size = G.n0 → PS (G.cx A s0 H0) st (loS G.K t)) : GSx G k st (gPlain t) := gx_of fun A s0 H0 a hs => (h A s0 H0 a hs).run
theorem gxs_nil : GSxs G k [] gNil := ⟨fun A c fs K J gd lv xs sw Hw pv ip gp ρ M s Δ a g R ht kk => kk xs sw Hw pv .next s ⟨ρ, M, R, ht⟩⟩
theorem gxs_cons {st : Stmt} {rest : List Stmt} {t u : DG} (h1 : GSx G k st t) (h2 : GSxs G k rest u) : GSxs G k (st :: rest) (gSeq t u) := by
  refine ⟨fun A c fs K J gd lv xs sw Hw pv ip gp ρ M s Δ a g R ht kk => ?_⟩
  refine sx_cons (h1.run A c fs _ J gd lv xs sw Hw pv ip gp ρ M s { Δ with nx := u Δ } a g R ht fun xs' sw' Hw' pv' f s' q => ?_)
  cases f with
  | next =>
    obtain ⟨ρ', M', R', q⟩ := q
    exact h2.run A c fs K J gd lv xs' sw' Hw' pv' ip gp ρ' M' s' Δ a g R' q kk
  | brk => exact kk xs' sw' Hw' pv' .brk s' q
  | cont => exact kk xs' sw' Hw' pv' .cont s' q
  | ret u => exact kk xs' sw' Hw' pv' (.ret u) s' q
/-- the frame at a wake -/
theorem GRun.wake {σ : L2.St} {F : Addr → Prop} {H H2 : Hp} {s2 : Shared} {A' : Around} (W : WOk G pv sw Hw) (I : Inv (G.cx A (tr G.n0 sw) (fz G.n0 pv sw Hw)) ip σ H s) (ab : Abs G.K F H M σ ρ) (l : Lm G.K (fun _ => False) (fz G.n0 pv sw Hw) emM F H M)
    (tk : ∀ a vs, gp.tk a vs → SqT G.K H a vs) (hip : ∀ p ∈ ip, G.n0 ≤ p.1) (hgp : ∀ q ∈ gp.gens, sleeps q.2 = true ∧ s.gens[q.1]? = some q.2 ∧ q.1 ≠ G.g) (k : Wk G (G.n0 :: ip.map (·.1)) s (unfz Hw (fz G.n0 pv sw Hw) H) s2 H2) (hh : A'.handled = none) (hfr : A'.frames = some G.outer) :
    GRun G A' s2 H2 (G.n0 :: ip.map (·.1)) ip gp (purE ρ) emM (s2.setGen G.g .running) := by
  have I2 := rebase (A' := A') I (tr_size W.sz) k List.mem_cons_self (fun p hp => List.mem_cons_of_mem _ (List.mem_map_of_mem hp)) W.cells (fun b hb => (W.frs b hb).1) hh hfr
  have hsq : ∀ a vs, SqT G.K H a vs → SqT G.K (fz G.n0 (G.n0 :: ip.map (·.1)) s2 H2) a vs := fun a vs q => fz_sq (k.tups a vs (unfz_sq (lm_id l) q))
  refine ⟨⟨σ, fun _ => False, _, I2, ⟨⟨fun _ z => z.elim, fun a o z => by cases z⟩, ⟨?_, fun i d e => ?_⟩⟩, Lm.refl, fun a vs q => hsq a vs (tk a vs q)⟩, ⟨List.mem_cons_self, fun b hb => ⟨(W.frs b hb).1, k.frf b hb⟩, W.cells, k.hok, ?_⟩, hip, fun q hq => ?_⟩
  · unfold purE
    rw [List.length_map]
    exact ab.env.len
  · unfold purE at e
    rw [List.getElem?_map] at e
    cases q : ρ[i]? with
    | none => rw [q] at e; cases e
    | some o =>
      rw [q] at e
      cases o with
      | none => cases e
      | some d' =>
        simp only [Option.map_some, Option.some.injEq] at e
        split at e
        · rename_i hp
          cases e
          obtain ⟨v, e1, r⟩ := ab.env.get i d q
          exact ⟨v, e1, r.pure hsq hp⟩
        · cases e
  · obtain ⟨m, hn, _⟩ := I2.loc
    exact Nat.le_of_lt hn.lt
  · obtain ⟨h1, h2, h3⟩ := hgp q hq
    refine ⟨h1, ?_, h3⟩
    show (s2.gens.setIfInBounds G.g .running)[q.1]? = _
    rw [Array.getElem?_setIfInBounds_ne (Ne.symm h3)]
    exact k.gens q.1 q.2 h3 h2 h1
theorem gx_yield {e : Expr} {te : DE} {yp pos : Pos} (he : ∀ A s0 H0, GA G k A → s0.heap.objs.size = G.n0 → PE (G.cx A s0 H0) e (lo G.K te)) (hco : G.scope.isCoroutine = false) : GSx G k (.Expr (.Yield (some e) yp) pos) (gYield te) := by
  refine ⟨fun A c fs K J gd lv xs sw Hw pv ip gp ρ M s Δ a g R ht kk => ?_⟩
  obtain ⟨σ, F, H, I, ab, l, tk⟩ := R.dead
  refine sx_yield g.split g.gd g.guard ?_ hco I.quiet
  rw [g.over]
  have hw := (he A (tr G.n0 sw) (fz G.n0 pv sw Hw) a (tr_size R.here.sz)).run ip _ σ H (fun v H' => loQ G.K F H M (fun x _ => pureD x = true ∧ ∃ rest, xs = x :: rest ∧ Δ.nx rest (purE ρ) emM) v H') I ⟨F, M, ρ, _, ab, ht, fun v H' q => q⟩
  refine wpAny_mono (wpAny_deadT (dead_all s.gens) hw) (fun v s' z => ?_) fun x s' z => ?_
  · intro l0 k0 p0 hc
    have z' := z
    obtain ⟨G2, d, vv, H', I', rv, F', M', x, l', a', r, px, rest, hx, hn⟩ := z
    subst hx
    have I1 : Inv (G.cx A (tr G.n0 sw) (fz G.n0 pv sw Hw)) ip σ H' s' := by
      have := inv_gens I' (d.bare I'.bare)
      exact this
    have lt := l.trans l'
    refine ⟨v, vv, false, l0, k0, c, p0, fs, G.n0 :: ip.map (·.1), _, rfl, stp_of I1 lt R.here R.ipok, rv, r.pure (fun a vs q => unfz_sq (lm_id lt) q) px, fun s2 H2 wk => ?_⟩
    refine hc _ _ (kk rest s2 H2 _ .next _ ⟨purE ρ, emM, ?_, hn⟩)
    refine GRun.wake R.here I1 ⟨a', ab.env.mono l'.le⟩ lt (fun a vs q => l'.le.tup a vs (tk a vs q)) R.ipok (fun q hq => ?_) wk a.room.hd a.fr
    obtain ⟨h1, h2, h3⟩ := R.gens q hq
    exact ⟨h1, z'.keeps q.1 q.2 h2 h1, h3⟩
  · obtain ⟨_, _, q⟩ := z
    exact q.elim
end
end DL

/-! for in a generator, over tuples and ranges; a generator def's promise. -/
namespace DL
open PySem PySem.Spec PyProof.Rows L2 PySem.W.X

/-- at turn i an iterator of this kind yields the i-th item, wherever the tuples stand -/
def SrcP (K : PySem.W.Frag) (H0 : Hp) (J : It) (items : List D) : Prop := ∀ (F' : Addr → Prop) (H' : Hp) (M' : MS), AbsM K F' H' M' → (∀ a vs, SqT K H0 a vs → SqT K H' a vs) →
  (∀ i, i < items.length → J.go i H') ∧ J.stop items.length H' ∧ ∀ i v H'', i < items.length → J.yld i H' v H'' → ∃ F'' d, Lm K F' H' M' F'' H'' M' ∧ AbsM K F'' H'' M' ∧ items[i]? = some d ∧ Rep K F'' H'' d v
def loIP (K : PySem.W.Frag) (t : DIP) : TI := fun σ H R => ∃ F M ρ Ψ, Abs K F H M σ ρ ∧ t ρ M Ψ ∧ ∀ J H' F' M' items, Lm K F H M F' H' M' → AbsM K F' H' M' → SrcP K H' J items → Ψ items M' → R J H'
def dTupP (te : DE) : DIP := fun ρ M Ψ => te ρ M fun x M1 => match x with
  | .tup xs => pures xs = true ∧ Ψ xs M1
  | _ => False
def dRngP (ta tb : DE) : DIP := fun ρ M Ψ => ta ρ M fun x M1 => tb ρ M1 fun y M2 => match x with
  | .int i => (match y with
    | .int j => (-(2 ^ 62) ≤ i ∧ i < 2 ^ 62 ∧ -(2 ^ 62) ≤ j ∧ j < 2 ^ 62) ∧ Ψ (rangeD i (j - i).toNat) M2
    | _ => False)
  | _ => False
section
variable {X : Cx} {tg : Expr}
theorem pip_tup {e : Expr} {te : DE} (he : PE X e (lo X.K te)) : PI X tg e (loIP X.K (dTupP te)) :=
  PI.imp (pi_tup he) fun σ H R h => by
    obtain ⟨F, M, ρ, Ψ, A, h, k⟩ := h
    refine ⟨F, M, ρ, _, A, h, fun v H1 q => ?_⟩
    obtain ⟨F1, M1, d, l1, a1, rd, h1⟩ := q
    split at h1
    · rename_i xs
      obtain ⟨hp, h1⟩ := h1
      obtain ⟨a, vs, e, ht, rs⟩ := rep_tup rd
      refine ⟨a, e, ⟨vs, ht⟩, k _ _ _ _ _ l1 a1 ?_ h1⟩
      intro F' H' M' am hm
      have ht' := hm a vs ht
      have rs' : Reps X.K F' H' xs vs := rs.pure hm hp
      refine ⟨fun i hi => ?_, ⟨vs, ht', Nat.le_of_eq rs.length.symm⟩, fun i v H'' hi hy => ?_⟩
      · obtain ⟨y, e, _⟩ := rs'.get (List.getElem?_eq_getElem hi)
        exact ⟨vs, y, ht', e⟩
      · obtain ⟨rfl, hy⟩ := hy
        obtain ⟨y, e, ry⟩ := rs'.get (List.getElem?_eq_getElem hi)
        rw [hy vs ht'] at e
        cases e
        exact ⟨F', _, Lm.refl, am, List.getElem?_eq_getElem hi, ry⟩
    · exact h1.elim
theorem pip_rng {a b : Expr} {ta tb : DE} {p pos : Pos} (hg : Gl X "range") (hm : X.mg "range" = none) (ha : PE X a (lo X.K ta)) (hb : PE X b (lo X.K tb)) (hs1 : starEach (a :: [b]) X.env = (false, eval a X.env) :: starEach [b] X.env) (hs3 : starEach [b] X.env = (false, eval b X.env) :: starEach [] X.env)
    (hs : starEach [a, b] X.env = [(false, eval a X.env), (false, eval b X.env)]) (hs2 : starEach [b] X.env = [(false, eval b X.env)]) : PI X tg (.Call (.Name "range" p) [a, b] [] pos) (loIP X.K (dRngP ta tb)) :=
  PI.imp (pi_range2 hg hm (pa_cons ha (pa_cons hb pa_nil hs3) hs1) hs hs2) fun σ H R h => by
    obtain ⟨F, M, ρ, Ψ, A, h, k⟩ := h
    refine ⟨F, M, ρ, _, A, h, fun v H1 q => ?_⟩
    obtain ⟨F1, M1, d, l1, a1, rd, h1⟩ := q
    refine ⟨F1, M1, ρ, _, ⟨a1, A.env.mono l1.le⟩, h1, fun v2 H2 q2 => ?_⟩
    obtain ⟨F2, M2, d2, l2, a2, rd2, h2⟩ := q2
    split at h2
    · rename_i i
      split at h2
      · rename_i j
        obtain ⟨g1, h2⟩ := h2
        refine ⟨i, j, by rw [rep_int rd, rep_int rd2], g1, k _ _ _ _ _ (l1.trans l2) a2 ?_ h2⟩
        intro F' H' M' am _
        refine ⟨fun n hn => ?_, ?_, fun n v H'' hn q => ?_⟩
        · show n < (j - i).toNat
          simpa [rangeD] using hn
        · show (j - i).toNat ≤ (rangeD i (j - i).toNat).length
          simp [rangeD]
        · obtain ⟨rfl, rfl⟩ := q
          refine ⟨F', .int (i + n), Lm.refl, am, ?_, rfl⟩
          have hn' : n < (j - i).toNat := by simpa [rangeD] using hn
          simp [rangeD, List.getElem?_map, List.getElem?_range hn']
      · exact h2.elim
    · exact h2.elim
end

section
variable {G : GD} {k : Nat} {A : Around} {sw s : Shared} {Hw : Hp} {pv : List Addr} {ip : List (Addr × Obj)} {gp : GKeep} {ρ : DEnv} {M : MS}
theorem GRun.unpin {pl : List (Addr × Obj)} (R : GRun G A sw Hw pv (ip ++ pl) gp ρ M s) : GRun G A sw Hw pv ip gp ρ M s := by
  obtain ⟨⟨σ, F, H, I, a, l⟩, h, hip, hg⟩ := R
  exact ⟨⟨σ, F, H, I.unpinned, a, l⟩, h, fun p hp => hip p (List.mem_append_left _ hp), hg⟩
theorem GPost.unpin {pl : List (Addr × Obj)} {xs : List D} {Δ : GE} {f : Flow} (h : GPost G A xs sw Hw pv (ip ++ pl) gp Δ f s) : GPost G A xs sw Hw pv ip gp Δ f s := by
  cases f with
  | next => obtain ⟨ρ, M, R, q⟩ := h; exact ⟨ρ, M, R.unpin, q⟩
  | brk => obtain ⟨ρ, M, R, q⟩ := h; exact ⟨ρ, M, R.unpin, q⟩
  | cont => obtain ⟨ρ, M, R, q⟩ := h; exact ⟨ρ, M, R.unpin, q⟩
  | ret u => obtain ⟨e, ρ, M, R, q⟩ := h; exact ⟨e, ρ, M, R.unpin, q⟩
/-- the iterator's own objects, of one frame at all its wakes -/
structure FpG (G : GD) (ip : List (Addr × Obj)) (b : Addr) : Prop where
  loc : b ≠ G.n0
  fs : b ∉ frs G.outer
  ge : G.n0 ≤ b
  ip : ∀ p ∈ ip, p.1 ≠ b
theorem fpG_of {H : Hp} {b : Addr} {H0 : Hp} {s0 : Shared} (hs0 : s0.heap.objs.size = G.n0) (h : FpOk (G.cx A s0 H0) ip H b) : FpG G ip b ∧ H b = none := by
  obtain ⟨h1, h2, h3, h4, _, h6⟩ := h
  refine ⟨⟨h2, h3, ?_, fun p hp => h6 p (List.mem_append_right _ hp)⟩, h1⟩
  rcases h4 with z | z
  · exact absurd (show b ∈ ([] : List Addr) from z) (by simp)
  · have e : (G.cx A s0 H0).s_0 = s0 := rfl
    rw [e, hs0] at z
    exact z
theorem FpG.ok {H : Hp} {b : Addr} {H0 : Hp} {s0 : Shared} (hs0 : s0.heap.objs.size = G.n0) (hc : G.env.cells = []) (h : FpG G ip b) (hb : H b = none) : FpOk (G.cx A s0 H0) ip H b := by
  refine ⟨hb, h.loc, h.fs, .inr ?_, fun x c e => ?_, fun p hp => ?_⟩
  · have e : (G.cx A s0 H0).s_0 = s0 := rfl
    rw [e, hs0]; exact h.ge
  · rw [show (G.cx A s0 H0).env.cells = [] from hc] at e; cases e
  · rcases List.mem_append.mp hp with z | z
    · exact absurd (show p ∈ ([] : List (Addr × Obj)) from z) (by simp)
    · exact h.ip p z
theorem gx_for {tg iter : Expr} {body : List Stmt} {pos : Pos} {ti : DIP} {p : Pat} {tb : DG} (hi : ∀ A s0 H0, GA G k A → s0.heap.objs.size = G.n0 → PI (G.cx A s0 H0) tg iter (loIP G.K ti))
    (hg : ∀ A s0 H0, GA G k A → s0.heap.objs.size = G.n0 → PG (G.cx A s0 H0) tg (p.tg G.K)) (hb : GSxs G k body tb) (hfd : ∀ x, foldedSetIterable iter G.env x = pure x) : GSx G k (.For tg iter body [] pos) (gFor ti p tb) := by
  refine ⟨fun A c fs K J gd lv xs sw Hw pv ip gp ρ M s Δ a g R ht kk => ?_⟩
  refine sx_for hfd ?_
  rw [g.over]
  obtain ⟨σ, F, H, I, ab, l, tk⟩ := R.dead
  have hw := (hi A (tr G.n0 sw) (fz G.n0 pv sw Hw) a (tr_size R.here.sz)).run ip _ σ H (fun J H' => ∃ F' M' items, Lm G.K F H M F' H' M' ∧ AbsM G.K F' H' M' ∧ SrcP G.K H' J items ∧ gforW p tb Δ items xs ρ M') I
    ⟨F, M, ρ, _, ab, ht, fun J H' F' M' items l' a' sp q => ⟨F', M', items, l', a', sp, q⟩⟩
  refine wpAny_mono (wpAny_deadT (dead_all s.gens) hw) (fun v s1 z => ?_) fun x s' z => by obtain ⟨_, _, q⟩ := z; exact q.elim
  obtain ⟨G2, d2, z⟩ := z
  refine wpAny_mono (wpAny_deadT d2 z) (fun itv s2 z => ?_) fun x s' z => by obtain ⟨_, _, q⟩ := z; exact q.elim
  intro p0 l0 kp0 kf hkf
  have z0 := z
  obtain ⟨G3, d3, it, fp, tn, Ji, H2, hit, I2, T, st2, f2, F2, M2, items, l2, a2, sp, hw2⟩ := z
  subst hit
  have hs0 := tr_size R.here.sz
  have fpg : ∀ b ∈ fp, FpG G ip b := fun b hb => (fpG_of hs0 (f2 b hb)).1
  let gq : GKeep := ⟨gp.gens, fun a vs => gp.tk a vs ∨ SqT G.K H2 a vs⟩
  have back : ∀ {sw : Shared} {Hw : Hp} {pv : List Addr} {ip : List (Addr × Obj)} {ρ : DEnv} {M : MS} {s : Shared}, GRun G A sw Hw pv ip gq ρ M s → GRun G A sw Hw pv ip gp ρ M s := fun R => R.weak (fun _ z => z) fun _ _ z => .inl z
  have gover : ∀ {k1 : Result → Sem PySem.Fin} {l1 kp1 : List Value} {p1 : Pos}, A.over (.forLoop tg (.ref it) body [] G.env) (.ret k1 none (gd false) l1 c p1 kp1 :: fs) = A.deeper G.env := (GenW.over_loop rfl rfl).trans g.over
  -- one turn, and those behind it
  have loop : ∀ (ds : List D) (i : Nat) (xs : List D) (sw : Shared) (Hw : Hp) (pv : List Addr) (ρ : DEnv) (M : MS) (s : Shared) (hp : Heap), items.drop i = ds → i ≤ items.length → GRun G A sw Hw pv (ip ++ pinsAt fp hp) gq ρ M s → tn i hp →
      gforW p tb Δ ds xs ρ M →
      SegX (model G.P G.w) A (.forLoop tg (.ref it) body [] G.env) ((model G.P G.w).den (.forLoop tg (.ref it) body [] G.env)) (.ret kf none (gd false) l0 c p0 kp0 :: fs) s (GPE G A xs sw Hw pv) := by
    intro ds
    induction ds with
    | nil =>
      intro i xs sw Hw pv ρ M s hp hd hil R htn hw
      have hi' : i = items.length := by
        have := congrArg List.length hd
        simp at this; omega
      subst hi'
      have hs := tr_size R.here.sz
      obtain ⟨σ3, F3, H3, I3, ab3, l3, tk3⟩ := R.dead
      have pin : ∀ b ∈ fp, ∃ o, hp.get? b = some o ∧ s.heap.get? b = some o ∧ H3 b = none := fun b hb => by
        obtain ⟨o, ho, _⟩ := T.obj _ _ htn b hb
        obtain ⟨q1, q2, _⟩ := I3.pin (b, o) (List.mem_append_right _ (List.mem_append_right _ (mem_pinsAt hb ho)))
        exact ⟨o, ho, q1, q2⟩
      have tns : tn items.length s.heap := T.keep _ _ _ htn fun b hb o ho => by
        obtain ⟨o', h1, h2, _⟩ := pin b hb
        rw [h1] at ho; cases ho; exact h2
      have J := sp F3 H3 M ab3.am fun a vs q => tk3 a vs (.inr q)
      have hdone := T.done (G.cx A (tr G.n0 sw) (fz G.n0 pv sw Hw)) rfl rfl rfl rfl items.length ip _ σ3 H3 (fun _ _ => False) I3.unpinned (fun b hb => (fpg b hb).ok hs R.here.cells (pin b hb).choose_spec.2.2) tns J.2.1
      refine sx_turn ?_
      rw [gover]
      refine wpAny_mono (wpAny_deadT (dead_all s.gens) hdone) (fun r s1 z => ?_) fun x s' z => by obtain ⟨_, _, q⟩ := z; exact q.elim
      obtain ⟨G4, d4, hr, I4⟩ := z
      subst hr
      rw [hkf]
      refine kk xs sw Hw pv .next s1 ⟨ρ, M, back ?_, hw⟩
      exact R.on (Q := fun s2 => Inv (G.cx A (tr G.n0 sw) (fz G.n0 pv sw Hw)) ip σ3 H3 s2) ⟨G4, d4, I4⟩ (fun _ q => q) ab3 l3 tk3 fun p hp => R.ipok p (List.mem_append_left _ hp)
    | cons d ds ih =>
      intro i xs sw Hw pv ρ M s hp hd hil R htn hw
      obtain ⟨g1, g2, g3⟩ := drop_get hd
      have hs := tr_size R.here.sz
      obtain ⟨σ3, F3, H3, I3, ab3, l3, tk3⟩ := R.dead
      have pin : ∀ b ∈ fp, ∃ o, hp.get? b = some o ∧ s.heap.get? b = some o ∧ H3 b = none := fun b hb => by
        obtain ⟨o, ho, _⟩ := T.obj _ _ htn b hb
        obtain ⟨q1, q2, _⟩ := I3.pin (b, o) (List.mem_append_right _ (List.mem_append_right _ (mem_pinsAt hb ho)))
        exact ⟨o, ho, q1, q2⟩
      have tns : tn i s.heap := T.keep _ _ _ htn fun b hb o ho => by
        obtain ⟨o', h1, h2, _⟩ := pin b hb
        rw [h1] at ho; cases ho; exact h2
      have J := sp F3 H3 M ab3.am fun a vs q => tk3 a vs (.inr q)
      have hitem := T.item (G.cx A (tr G.n0 sw) (fz G.n0 pv sw Hw)) rfl rfl rfl rfl i ip _ σ3 H3 (fun _ _ => False) I3.unpinned (fun b hb => (fpg b hb).ok hs R.here.cells (pin b hb).choose_spec.2.2) tns (J.1 i g3)
      have hw' : ∃ ρ1, p.put d ρ = some ρ1 ∧ tb { nx := fun xs' ρ' M' => gforW p tb Δ ds xs' ρ' M', rt := Δ.rt, bk := Δ.nx, ct := fun xs' ρ' M' => gforW p tb Δ ds xs' ρ' M' } xs ρ1 M := by
        unfold gforW at hw
        split at hw
        · rename_i ρ1 e; exact ⟨ρ1, e, hw⟩
        · exact hw.elim
      obtain ⟨ρ1, hput, hw'⟩ := hw'
      refine sx_turn ?_
      rw [gover]
      refine wpAny_mono (wpAny_deadT (dead_all s.gens) hitem) (fun r s1 z => ?_) fun x s' z => by obtain ⟨_, _, q⟩ := z; exact q.elim
      obtain ⟨G4, d4, u, hr, z⟩ := z
      subst hr
      refine wpAny_mono (wpAny_deadT d4 z) (fun _ s2 z => ?_) fun x s' z => by obtain ⟨_, _, q⟩ := z; exact q.elim
      obtain ⟨G5, d5, x, H5, I5, rx, y5, tn5, fr5⟩ := z
      obtain ⟨F5, d', l5, a5, e5, r5⟩ := J.2.2 i x H5 g3 y5
      rw [g1] at e5; cases e5
      have fo5 : ∀ b ∈ fp, FpOk (G.cx A (tr G.n0 sw) (fz G.n0 pv sw Hw)) ip H5 b := fun b hb => (fpg b hb).ok hs R.here.cells (fr5 b hb)
      have I5p := I5.pinned fo5 (T.obj _ _ tn5)
      obtain ⟨σ2, en2, _, q2⟩ := p.runs hput r5 (ab3.env.mono l5.le)
      have hasg := (hg A (tr G.n0 sw) (fz G.n0 pv sw Hw) a hs).run _ _ σ3 H5 x u (fun σ' H' => σ' = σ2 ∧ H' = H5) I5p rx (q2 _ ⟨rfl, rfl⟩)
      refine wpAny_mono (wpAny_deadT d5 hasg) (fun _ s3 z => ?_) fun x s' z => by obtain ⟨_, _, q⟩ := z; exact q.elim
      obtain ⟨G6, d6, σ6, H6, I6, rfl, rfl⟩ := z
      intro K1 J1 gd1 lv1 hgd1 c1 c2 c3 c4
      have R6 : GRun G A sw Hw pv (ip ++ pinsAt fp s2.heap) gq ρ1 M s3 := R.on (Q := fun s2' => Inv (G.cx A (tr G.n0 sw) (fz G.n0 pv sw Hw)) (ip ++ pinsAt fp s2.heap) σ6 H6 s2') ⟨G6, d6, I6⟩ (fun _ q => q) ⟨a5, en2⟩ (l3.trans l5) (fun a vs q => l5.le.tup a vs (tk3 a vs q)) fun p hp' => by
        rcases List.mem_append.mp hp' with z | z
        · exact R.ipok p (List.mem_append_left _ z)
        · exact (fpg p.1 (of_pinsAt z).1).ge
      refine hb.run A _ _ K1 J1 gd1 lv1 xs sw Hw pv (ip ++ pinsAt fp s2.heap) gq ρ1 M s3 _ a ⟨gover, ?_, ?_, hgd1⟩ R6 hw' fun xs' sw' Hw' pv' f s' post => ?_
      · show (splitAtGen fs).map _ = none
        rw [g.split]; rfl
      · show (gd false || fs.any Frame.guarded) = false
        rw [g.gd, g.guard]; rfl
      · cases f with
        | next =>
          obtain ⟨ρ', M', R', q⟩ := post
          exact c1 s' _ (ih (i + 1) xs' sw' Hw' pv' ρ' M' s' s2.heap g2 (by omega) R' tn5 q)
        | cont =>
          obtain ⟨ρ', M', R', q⟩ := post
          exact c2 s' _ (ih (i + 1) xs' sw' Hw' pv' ρ' M' s' s2.heap g2 (by omega) R' tn5 q)
        | brk =>
          obtain ⟨ρ', M', R', q⟩ := post
          refine c3 s' _ ?_
          rw [hkf]
          exact kk xs' sw' Hw' pv' .next s' ⟨ρ', M', back R'.unpin, q⟩
        | ret u =>
          obtain ⟨e, ρ', M', R', q⟩ := post
          refine c4 u s' _ ?_
          rw [hkf]
          exact kk xs' sw' Hw' pv' (.ret u) s' ⟨e, ρ', M', back R'.unpin, q⟩
  refine loop items 0 xs sw Hw pv ρ M2 s2 s2.heap rfl (Nat.zero_le _) ?_ st2 hw2
  refine R.onK (gq := gq) (Q := fun s3 => Inv (G.cx A (tr G.n0 sw) (fz G.n0 pv sw Hw)) (ip ++ pinsAt fp s2.heap) σ H2 s3) rfl ⟨G3, d3, I2.pinned f2 (T.obj _ _ st2)⟩ (fun _ q => q) ⟨a2, ab.env.mono l2.le⟩ (l.trans l2) (fun a vs q => ?_) fun p hp => ?_
  · rcases q with q | q
    · exact l2.le.tup a vs (tk a vs q)
    · exact q
  · rcases List.mem_append.mp hp with z | z
    · exact R.ipok p z
    · exact (fpg p.1 (of_pinsAt z).1).ge
end
end DL

/-! A generator def's promise: from its arguments, the items. -/
namespace DL
open PySem PySem.Spec PyProof.Rows L2 PySem.W.X

abbrev GSp := List D → List D → Prop
/-- a generator that has not begun; s, H: the call; xs: what it will hand out -/
structure GMd (P : Program) (w : World) (K : PySem.W.Frag) (mg : Str → Option Value) (base : Heap) (k : Nat) (outer : List Env) (s : Shared) (H : Hp) (xs : List D) (u : Value) (s' : Shared) (G : GD) (a : Addr) (c : Code) : Prop where
  eq : ∃ N qual scope f cdv g, G = ⟨P, w, K, mg, base, N, qual, scope, s.heap.objs.size, f, cdv, outer, g⟩
  val : u = .ref a
  gen : s'.heap.IsGen a G.g
  at_ : s'.gens[G.g]? = some (.fresh c)
  os : s'.os = s.os
  bare : AllBare s'.gens
  keep : ∀ b o, s.heap.get? b = some o → s'.heap.get? b = some o
  lt : s.heap.objs.size < a
  gens : ∀ (i : Nat) (x : GenState), s.gens[i]? = some x → s'.gens[i]? = some x
  loc : ∃ o, s'.heap.get? s.heap.objs.size = some o ∧ ∀ v, o.data ≠ .cell v
  wake : ∀ A', Room k A' → A'.frames = some outer → A'.guards = some [] → ∀ s2 H2, Wk G [s.heap.objs.size] s' H s2 H2 → SegX (model P w) A' c (denote table c) [] (s2.setGen G.g .running) (GPE G A' xs s2 H2 [s.heap.objs.size])
structure GFn (P : Program) (w : World) (K : PySem.W.Frag) (mg : Str → Option Value) (base : Heap) (k : Nat) (f : Addr) (fd : FuncData) (ps : List Str) (n : Nat) (sp : GSp) : Prop where
  len : ps.length = n
  run : ∀ (A : Around) (outer : List Env) (s : Shared) (H : Hp) (args : Args) (us : List Value) (vs : List V) (F : Addr → Prop) (M : MS) (ds xs : List D), Room k A → Env0 P w K mg base A outer s H → BindsTo s fd args (ps.zip us) → Vals vs us → AbsM K F H M → Reps K F H ds vs → ds.length = n → pures ds = true → sp ds xs →
    codeAny (model P w) A (.call (.ref f) args) (fun r s' => ∃ u G a c, r = .ok (.ret u) ∧ GMd P w K mg base k outer s H xs u s' G a c) s
structure GCallee (P : Program) (w : World) (K : PySem.W.Frag) (mg : Str → Option Value) (base : Heap) (k : Nat) (x : Str) (n : Nat) (sp : GSp) : Prop where
  ex : ∃ (f : Addr) (fd : FuncData) (ps : List Str), mg x = some (.ref f) ∧ PySem.W.keepIn K (.ref f) = true ∧ Binds K fd ps [] ∧ GFn P w K mg base k f fd ps n sp
section
variable {P : Program} {w : World} {K : PySem.W.Frag} {mg : Str → Option Value} {base : Heap} {x qual : Str} {params : Arguments} {body : List Stmt} {scope : Scope} {f : Addr} {fd : FuncData} {N ps : List Str} {k n : Nat} {sp : GSp} {t : DG}
theorem gfnD (F : FunD K x qual params body scope [] [] f fd) (S : GScope N ps scope) (hn : ps.length = n) (hcl : ∀ m, cellsFrom m scope.names [] = [])
    (hbody : ∀ (n0 : Addr) (cdv : Value) (outer : List Env) (g : Nat), GSxs ⟨P, w, K, mg, base, N, qual, scope, n0, f, cdv, outer, g⟩ k body t)
    (hsp : ∀ ds xs, ds.length = n → pures ds = true → sp ds xs → t { nx := fun ys _ _ => ys = [], rt := fun ys => ys = [] } xs (startD N.length ds) emM) : GFn P w K mg base (k + 1) f fd ps n sp := by
  obtain ⟨oc, od, dV, kV, doc, pm, an, cdv, ct, osl, rfl, lk, hcd, _, _⟩ := F.ex
  refine ⟨hn, fun A outer s H args us vs F0 M0 ds xs hr e0 hbt rv am rds hdl hpu hs => ?_⟩
  have inK : K.In s.heap := e0.mod.kin.keeps fun b o e => (e0.bs b o e).1
  have noL : s.heap.NoLimit := e0.mod.nolimit.keeps fun b o e => (e0.bs b o e).1
  have hvl : vs.length = ps.length := by rw [← rds.length, hdl, hn]
  have kinds : ∀ y ∈ ps.zip us, scope.names.lookup y.1 = some .local ∨ (scope.names.lookup y.1 = some .cell ∧ ((cellsFrom (s.heap.objs.size + 1) scope.names []).lookup y.1).isSome = true) := by
    rintro ⟨m, v⟩ hy
    rcases S.par m (List.of_mem_zip hy).1 with h | h
    · exact .inl h
    · exact .inr ⟨h, PySem.W.cellsFrom_some _ _ _ (.inl h)⟩
  refine codeAny_call_generator (R := fun r s' => ∃ u G a c, r = .ok (.ret u) ∧ GMd P w K mg base (k + 1) outer s H xs u s' G a c) hr.depth (inK _ _ lk) rfl S.co S.gen rfl (PySem.W.codeRec_of inK hcd) (hbt _ _ _ _ ?_)
  refine wpAny_newFunctionEnv_cells S.kind kinds fun env henv s1 inC => ?_
  subst henv
  obtain ⟨h1, tk, es1, hk1⟩ := inC.done
  have kp1 : ∀ b o, s.heap.get? b = some o → s1.heap.get? b = some o := inC.toInCall.keep
  have os1 : s1.os = s.os := by rw [es1]
  have gs1 : s1.gens = s.gens := by rw [es1]
  have lt1 : s.heap.objs.size < s1.heap.objs.size := inC.toInCall.ns.lt
  have nl1 : s1.heap.NoLimit := noL.keeps kp1
  refine ⟨nl1, ?_⟩
  let go : Obj := { cls := .type "generator", data := .fields #[.int s1.gens.size 0, .str x s1.toks, .str qual (s1.toks + 1)] }
  have pushed : (s1.heap.push go).get? s1.heap.objs.size = some go := Heap.get?_push_size _ rfl
  have kp2 : ∀ b o, s1.heap.get? b = some o → (s1.heap.push go).get? b = some o := fun b o e => Heap.get?_push_of_some _ e
  have I1 := (inv_startG (E := fun _ _ _ => False) (N := N) (cd := cdv) (f := f) (qual := qual) S hr.hd e0 hvl rv inC).wish (fun _ _ => False)
  let G : GD := ⟨P, w, K, mg, base, N, qual, scope, s.heap.objs.size, f, cdv, outer, s1.gens.size⟩
  have I1' : Inv (G.cx A s H) [] (start N vs) H s1 := I1
  obtain ⟨m1, ⟨oL, esL, epL, hoL, hdL, _⟩, _⟩ := id I1'.loc
  have hfs : ∀ b ∈ frs outer, b < s.heap.objs.size := fun b hb => by
    obtain ⟨_, o, ho, _⟩ := e0.funs.mem hb
    exact Heap.lt_size ho
  refine ⟨.ref s1.heap.objs.size, G, s1.heap.objs.size, .func body G.env, rfl, ⟨_, _, _, _, _, _, rfl⟩, rfl, ⟨go, _, _, pushed, rfl, rfl, rfl⟩, Array.getElem?_push_size .., os1, AllBare.push (by rw [gs1]; exact e0.bare) rfl, fun b o e => kp2 b o (kp1 b o e), lt1, fun i y e => ?_,
    ⟨oL, kp2 _ _ hoL, fun v z => by rw [hdL] at z; cases z⟩, fun A' hr' hfr' hgd' s2 H2 wk => ?_⟩
  · rw [← gs1] at e
    have hi : i < s1.gens.size := (Array.getElem?_eq_some_iff.mp e).1
    show (s1.gens.push _)[i]? = some y
    rw [Array.getElem?_push_lt hi, ← Array.getElem?_eq_getElem hi]
    exact e
  · have wk1 : Wk G [G.n0] s1 H s2 H2 := ⟨wk.os, wk.bare, wk.base, wk.funs, wk.frf, wk.hok, fun b hb => ⟨(wk.pv b hb).1, fun o e => (wk.pv b hb).2 o (kp2 b o e)⟩, wk.tups, fun i y hi e hy => wk.gens i y hi (by
      have hlt : i < s1.gens.size := (Array.getElem?_eq_some_iff.mp e).1
      show (s1.gens.push _)[i]? = some y
      rw [Array.getElem?_push_lt hlt, ← Array.getElem?_eq_getElem hlt]
      exact e) hy⟩
    have hcells : G.env.cells = [] := hcl _
    have I2 := rebase (A' := A') I1' rfl wk1 List.mem_cons_self (fun p hp => by cases hp) hcells hfs hr'.hd hfr'
    have hsq : ∀ a vs, SqT K H a vs → SqT K (fz G.n0 [G.n0] s2 H2) a vs := fun a vs q => fz_sq (wk.tups a vs q)
    have hsz : G.n0 ≤ s2.heap.objs.size := by
      obtain ⟨m, hm, _⟩ := I2.loc
      exact Nat.le_of_lt hm.lt
    refine sx_func fun K1 J1 gd1 lv1 hg1 hk1 hk2 => ?_
    refine (hbody s.heap.objs.size cdv outer s1.gens.size).run A' _ [] K1 J1 gd1 lv1 xs s2 H2 [G.n0] [] ⟨[], fun _ _ => False⟩ (startD N.length ds) emM _ { nx := fun ys _ _ => ys = [], rt := fun ys => ys = [] } ⟨hr'.deeper _, hgd', hfr'⟩ ⟨GenW.over_func, rfl, rfl, hg1⟩
      ⟨⟨start N vs, fun _ => False, _, I2, ⟨⟨fun _ z => z.elim, fun a o z => by cases z⟩, repEnv_start (rds.pure hsq hpu)⟩, Lm.refl, fun _ _ z => z.elim⟩, ⟨List.mem_cons_self, fun b hb => ⟨hfs b hb, wk.frf b hb⟩, hcells, wk.hok, hsz⟩, fun p hp => (by cases hp), fun q hq => (by cases hq)⟩ (hsp ds xs hdl hpu hs) fun ys sw' Hw' pv' fl s' post => ?_
    have fin : ∀ {ρ : DEnv} {M : MS}, GRun G A' sw' Hw' pv' [] ⟨[], fun _ _ => False⟩ ρ M s' → ∃ H', Stp G pv' sw' Hw' [] s' H' := fun {ρ M} R => by
      obtain ⟨σ, F, H3, I, ab, l, _⟩ := R.run
      have st := stp_of I l R.here R.ipok
      exact ⟨_, st.os, st.bare, st.un, st.hok, st.fix, fun b hb => by cases hb⟩
    cases fl with
    | next =>
      obtain ⟨ρ', M', R, rfl⟩ := post
      rw [hk1]
      exact sx_end ⟨.inl rfl, fin R⟩
    | brk => obtain ⟨_, _, _, q⟩ := post; exact q.elim
    | cont => obtain ⟨_, _, _, q⟩ := post; exact q.elim
    | ret u =>
      obtain ⟨rfl, ρ', M', R, rfl⟩ := post
      rw [hk2]
      exact sx_end ⟨.inl rfl, fin R⟩
theorem gcal (F : FunD K x qual params body scope [] [] f fd) (hm : mg x = some (.ref f)) (hb : Binds K fd ps []) (h : GFn P w K mg base k f fd ps n sp) : GCallee P w K mg base k x n sp := ⟨f, fd, ps, hm, F.kp, hb, h⟩
end
end DL

/-! One who walks a generator. -/
namespace DL
open PySem PySem.Spec PyProof.Rows L2 PySem.W.X GenW

/-! ### what is gone stays gone -/
structure Gone (s s' : Shared) : Prop where
  sz : s.heap.objs.size ≤ s'.heap.objs.size
  no : ∀ b, b < s.heap.objs.size → s.heap.get? b = none → s'.heap.get? b = none
theorem Gone.refl {s : Shared} : Gone s s := ⟨Nat.le_refl _, fun _ _ h => h⟩
theorem Gone.trans {a b c : Shared} (h : Gone a b) (h' : Gone b c) : Gone a c := ⟨Nat.le_trans h.sz h'.sz, fun x hx hn => h'.no x (Nat.lt_of_lt_of_le hx h.sz) (h.no x hx hn)⟩
theorem gone_push {s : Shared} {o : Obj} : Gone s { s with heap := s.heap.push o } := by
  refine ⟨by show _ ≤ (s.heap.push o).objs.size; rw [Heap.size_push]; exact Nat.le_succ _, fun b hb hn => ?_⟩
  show (match (s.heap.objs.push o)[b]? with | some ⟨_, _, .freed, _⟩ => none | o => o) = none
  rw [Array.getElem?_push_lt hb, ← Array.getElem?_eq_getElem hb]
  exact hn
theorem gone_upd {s : Shared} {a : Addr} {f : Obj → Obj} (h : (s.heap.get? a).isSome = true) : Gone s { s with heap := s.heap.update a f } := by
  refine ⟨Nat.le_of_eq (by show _ = (s.heap.objs.modify a f).size; rw [Array.size_modify]), fun b hb hn => ?_⟩
  have ne : a ≠ b := fun e => by subst e; rw [hn] at h; cases h
  exact (Heap.get?_update_other _ _ ne).trans hn
section
variable {M : Model}
theorem runs_gone {Γ : PySem.Ctx} {p : Pos} {t : Sem PySem.Fin} {fs : List Frame} {s s' : Shared} {e : End} (h : Runs M Γ p t fs s e s') : Gone s s' := by
  have sg : ∀ {s s' : Shared} {g : Nat} {x : GenState}, Gone (s.setGen g x) s' → Gone s s' := fun h => ⟨h.sz, h.no⟩
  induction h with
  | done => exact .refl
  | raise => exact .refl
  | yield => exact .refl
  | update ho _ ih => exact (gone_upd ho).trans ih
  | alloc _ ih => exact gone_push.trans ih
  | call _ _ i1 i2 => exact i1.trans i2
  | resumeFresh _ _ _ _ i1 i2 => exact (sg i1).trans (sg i2)
  | resumeSuspended _ _ _ _ i1 i2 => exact (sg i1).trans (sg i2)
  | resumeThrowFresh _ _ ih => exact sg ih
  | segRet _ _ i1 i2 => exact i1.trans i2
  | segGen _ _ i1 i2 => exact i1.trans (sg i2)
  | segSuspOut _ _ ih => exact ih
  | segSuspGen _ _ _ _ i1 i2 => exact i1.trans (sg i2)
  | callSusp _ ih => exact ih
  | fresh _ ih => exact ⟨ih.sz, ih.no⟩
  | choose _ _ ih => exact ⟨ih.sz, ih.no⟩
  | os _ ih => exact ⟨ih.sz, ih.no⟩
  | newGen _ ih => exact ⟨ih.sz, ih.no⟩
  | _ => assumption
end
theorem segx_gone {M : Model} {A : Around} {c : Code} {t : Sem PySem.Fin} {fs : List Frame} {s : Shared} {Z : End → Shared → Prop} (x : SegX M A c t fs s Z) : SegX M A c t fs s fun e s' => e.quiet = true ∧ Gone s s' ∧ Z e s' := fun Γ p hc hΓ => by
  obtain ⟨e, s', hr, hq, hp⟩ := x Γ p hc hΓ
  exact ⟨e, s', hr, hq, hq, runs_gone hr, hp⟩

/-! ### beside us a generator sleeps -/
structure Slp (A : Around) (G : GD) (pv : List Addr) (xs : List D) (s : Shared) (H : Hp) (fr : Bool) : Prop where
  st : ∃ gs c t fs, s.gens[G.g]? = some gs ∧ (fr = false → sleeps gs = true) ∧ Opens gs c t fs ∧ ∀ s2 H2, Wk G pv s H s2 H2 → SegX (model G.P G.w) A c t fs (s2.setGen G.g .running) (GPE G A xs s2 H2 pv)
  pv : ∀ b ∈ pv, ∃ o, s.heap.get? b = some o ∧ ∀ v, o.data ≠ .cell v
/-- the frame of ours and theirs -/
structure Fit (X : Cx) (G : GD) : Prop where
  P : G.P = X.prog
  w : G.w = X.w
  K : G.K = X.K
  base : G.base = X.base
  outer : G.outer = X.stack
section
variable {X : Cx} {pins : List (Addr × Obj)} {σ : L2.St} {H : Hp} {s : Shared} {G : GD} {pv : List Addr} {xs : List D} {F : Addr → Prop} {M : MS} {ρ : DEnv}
theorem wk_of {s1 : Shared} {H1 : Hp} (f : Fit X G) (os : s.os = s1.os) (I : Inv X pins σ H s) (hp : ∀ b ∈ pv, H b = none ∧ ∀ o, s1.heap.get? b = some o → s.heap.get? b = some o) (ht : ∀ a vs, SqT X.K H1 a vs → SqT X.K H a vs) (hg : ∀ (i : Nat) (x : GenState), i ≠ G.g → s1.gens[i]? = some x → sleeps x = true → s.gens[i]? = some x) : Wk G pv s1 H1 s H :=
  ⟨os, I.bare, fun b o e => I.bs b o (f.base ▸ e), by rw [f.base, f.outer]; exact I.stack, fun b hb => I.stkFree b (f.outer ▸ hb), by rw [f.P, f.w]; exact I.hok, hp, fun a vs q => by rw [f.K] at q ⊢; exact ht a vs q, hg⟩
/-- behind a body that kept it -/
theorem Slp.on {A : Around} {fr : Bool} {s5 : Shared} {H5 : Hp} (f : Fit X G) (h : Slp A G pv xs s5 H5 fr) (hfr : fr = false) (os : s.os = s5.os) (I : Inv X pins σ H s) (hp : ∀ b ∈ pv, H b = none ∧ ∀ o, s5.heap.get? b = some o → s.heap.get? b = some o) (ht : ∀ a vs, SqT X.K H5 a vs → SqT X.K H a vs) (hk : Keeps s5 s) : Slp A G pv xs s H false := by
  obtain ⟨⟨gs, c, t, fs, h1, h2, h3, h4⟩, h5⟩ := h
  refine ⟨⟨gs, c, t, fs, hk _ _ h1 (h2 hfr), fun _ => h2 hfr, h3, fun s2 H2 w2 => h4 s2 H2 ((wk_of f os I hp ht fun i x _ e hx => hk i x e hx).trans w2)⟩, fun b hb => ?_⟩
  obtain ⟨o, e, d⟩ := h5 b hb
  exact ⟨o, (hp b hb).2 o e, d⟩
theorem lm_fix {H' : Hp} (am : AbsM X.K F H M) (fix : ∀ b, H b ≠ none → H' b = H b) : Lm X.K F H M F H' M ∧ AbsM X.K F H' M := by
  have nn : ∀ {b : Addr} {u : HO}, H b = some u → H' b = some u := fun {b u} e => by rw [fix b (by rw [e]; simp)]; exact e
  have le : Le X.K F H F H' := by
    refine ⟨fun a vs h => ?_, fun _ h => h, fun a h => fix a (am.fh a h), fun a vs h => ?_⟩
    · rcases h with (h | ⟨o, h⟩) | h
      · exact .inl (.inl (nn h))
      · exact .inl (.inr ⟨o, nn h⟩)
      · exact .inr h
    · rcases h with ⟨o, h⟩ | h
      · exact .inl ⟨o, nn h⟩
      · exact .inr h
  refine ⟨⟨le, fun a h1 h2 h3 => ⟨h2, h3, fix a h1⟩⟩, ⟨fun a h => by rw [fix a (am.fh a h)]; exact am.fh a h, fun a o e => ?_⟩⟩
  obtain ⟨n1, o1⟩ := am.mp a o e
  exact ⟨n1, o1.keep le (fix a o1.there) (fun c hc => ⟨fix c (am.mp c _ hc).2.there, hc⟩) (Nat.le_refl _)⟩
/-- the generator's object is pinned -/
theorem isGen_pin {a : Addr} {oa : Obj} (I : Inv X pins σ H s) (hp : (a, oa) ∈ pins) (ho : ∃ nm qn, oa.cls = .type "generator" ∧ oa.data = .fields #[.int G.g 0, nm, qn] ∧ oa.slots = #[]) : s.heap.IsGen a G.g := by
  obtain ⟨nm, qn, h1, h2, h3⟩ := ho
  exact ⟨oa, nm, qn, (I.pin (a, oa) (List.mem_append_right _ hp)).1, h1, h2, h3⟩
theorem turnG {a : Addr} {fr : Bool} {E : Value → Shared → Prop} (f : Fit X G) (hn : X.s_0.heap.objs.size ≤ s.heap.objs.size) (hh : X.A.handled = none) (hd : X.A.depth < recursionLimit) (I : Inv X pins σ H s) (am : AbsM X.K F H M) (hg : s.heap.IsGen a G.g) (hf : ∀ b ∈ pv, FpOk X pins H b) (h : Slp X.A.in1 G pv xs s H fr) :
    wpAny (model X.prog X.w) X.A (pyNext (.ref a)) (fun r s1 => match xs with
      | [] => r = none ∧ ∃ H1, Inv X pins σ H1 s1 ∧ Lm X.K F H M F H1 M ∧ AbsM X.K F H1 M
      | d :: rest => ∃ u v H1 pv', r = some u ∧ Inv X pins σ H1 s1 ∧ Lm X.K F H M F H1 M ∧ AbsM X.K F H1 M ∧ RelV v u ∧ Rep X.K F H1 d v ∧ Slp X.A.in1 G pv' rest s1 H1 false ∧ ∀ b ∈ pv', FpOk X pins H1 b) E s := by
  obtain ⟨⟨gs, c, t, fs, h1, _, h3, h4⟩, h5⟩ := h
  have hgl : G.g < s.gens.size := (Array.getElem?_eq_some_iff.mp h1).1
  have x := segx_gone (h4 s H (wk_of f rfl I (fun b hb => ⟨(hf b hb).1, fun o e => e⟩) (fun _ _ q => q) fun _ _ _ e _ => e))
  rw [f.P, f.w] at x
  have after : ∀ {s1 : Shared} {H1 : Hp} {pv' : List Addr} {G1 : Array GenState} {h' : Heap}, Stp G pv s H pv' s1 H1 → AllBare G1 → (∀ b o, s1.heap.get? b = some o → h'.get? b = some o) → Inv X pins σ H1 { s1 with gens := G1, heap := h' } ∧ Lm X.K F H M F H1 M ∧ AbsM X.K F H1 M := fun {s1 H1 pv' G1 h'} st hb hk => by
    refine ⟨I.call' (s' := { s1 with gens := G1, heap := h' }) (ch := pv) st.os ?_ ?_ hb fun b hb => ?_, lm_fix am st.fix⟩
    · have := st.un.trans (Un.kept hk)
      rw [f.outer] at this
      exact this
    · have := st.hok.kept hk
      rw [f.P, f.w] at this
      exact this
    · obtain ⟨_, q2, _, q4, q5, q6⟩ := hf b hb
      exact ⟨q4, q2, q5, q6⟩
  refine wpAny_gsz (n := G.g + 1) hgl (next_x hh I.nolimit hd hg h1 h3 (x.mono fun e s1 z => ?_))
  obtain ⟨hqt, gn, z⟩ := z
  cases xs with
  | nil =>
    obtain ⟨he, H1, st⟩ := z
    have fin : ∀ h', (∀ b o, s1.heap.get? b = some o → h'.get? b = some o) → (none : Option Value) = none ∧ ∃ H1, Inv X pins σ H1 { s1.setGen G.g .finished with heap := h' } ∧ Lm X.K F H M F H1 M ∧ AbsM X.K F H1 M := fun h' hk => by
      obtain ⟨q1, q2, q3⟩ := after st (allBare_setGen (s := s1) (g := G.g) (x := .finished) st.bare rfl) hk
      exact ⟨rfl, H1, q1, q2, q3⟩
    rcases he with rfl | rfl
    · exact ⟨.inl rfl, fun h' hk _ => fin h' hk⟩
    · exact ⟨.inr rfl, fun h' hk _ => fin h' hk⟩
  | cons d rest =>
    obtain ⟨v, vv, g0, l, k, c', p, fs', pv', H1, rfl, st, rv, rp, nxt⟩ := z
    intro hsz
    have hbare : (End.susp v g0 l k c' p fs').genState.bare = true := End.bare_of_quiet hqt
    have hsz1 : G.g < s1.gens.size := by
      have q : (s1.setGen G.g (End.susp v g0 l k c' p fs').genState).gens.size = s1.gens.size := setGen_size _ _ _
      have hsz' : G.g + 1 ≤ (s1.setGen G.g (End.susp v g0 l k c' p fs').genState).gens.size := hsz
      omega
    obtain ⟨q1, q2, q3⟩ := after (G1 := (s1.setGen G.g (End.susp v g0 l k c' p fs').genState).gens) (h' := s1.heap) st (allBare_setGen (s := s1) st.bare hbare) fun _ _ e => e
    refine ⟨v, vv, H1, pv', rfl, q1, q2, q3, rv, ?_, ⟨⟨_, c', _, fs', setGen_at hsz1, fun _ => rfl, .inr ⟨k, l, p, _, rfl, rfl⟩, fun s2 H2 w2 => ?_⟩, fun b hb => (st.pv b hb).2.2.2⟩, fun b hb => ?_⟩
    · rw [f.K] at rp
      exact rp.mono ⟨fun _ _ z => z, fun _ z => z.elim, fun _ _ => rfl, fun _ _ z => z⟩
    · have := nxt s2 H2 ⟨w2.os, w2.bare, w2.base, w2.funs, w2.frf, w2.hok, w2.pv, w2.tups, fun i y hi e hy => w2.gens i y hi (by
        show (s1.gens.setIfInBounds G.g _)[i]? = some y
        rw [Array.getElem?_setIfInBounds_ne (Ne.symm hi)]
        exact e) hy⟩
      exact this
    · obtain ⟨_, p2, p3, o, p4, _⟩ := st.pv b hb
      rcases p2 with z | z
      · exact ⟨p3, (hf b z).2⟩
      · refine I.fpOk (Nat.le_of_not_lt fun hlt => ?_) p3
        have := gn.no b hlt z
        rw [this] at p4
        cases p4
end
/-! ### a call that makes one -/
def dCallG (n : Nat) (sp : GSp) (ta : DAs) : DIP := fun ρ M Ψ => ta ρ M fun ds M1 => ds.length = n ∧ pures ds = true ∧ ∃ xs, sp ds xs ∧ Ψ xs M1
structure PGn (X : Cx) (k : Nat) (e : Expr) (t : DIP) : Prop where
  run : ∀ (pins : List (Addr × Obj)) (s : Shared) (σ : L2.St) (H : Hp) (F : Addr → Prop) (M : MS) (ρ : DEnv) (Ψ : List D → MS → Prop), Inv X pins σ H s → Abs X.K F H M σ ρ → t ρ M Ψ → wpAny (model X.prog X.w) X.A (eval e X.env)
    (fun u s' => ∃ sc H1 F1 M1 xs G a c, Inv X pins σ H1 sc ∧ Lm X.K F H M F1 H1 M1 ∧ AbsM X.K F1 H1 M1 ∧ Ψ xs M1 ∧ GMd X.prog X.w X.K X.mg X.base k X.stack sc H1 xs u s' G a c) X.xe s
section
variable {X : Cx} {k j n : Nat} {x : Str} {p pos : Pos} {e : Expr} {es : List Expr} {ta : DAs} {sp : GSp}
theorem g_call (C : GCallee X.prog X.w X.K X.mg X.base j x n sp) (hr : Room j X.A) (hg : Gl X x) (ha : PA X (e :: es) (loA X.K ta)) (hdb : (x == ("__debug__" : Str)) = false) (he : starEach (e :: es) X.env = (false, eval e X.env) :: starEach es X.env)
    (hpl : (backTo pos (starEach es X.env)).any (·.1) = false) : PGn X j (.Call (.Name x p) (e :: es) [] pos) (dCallG n sp ta) := by
  obtain ⟨f, fd, ps, hm, hk, hb, C⟩ := C.ex
  refine ⟨fun pins s σ H F M ρ Ψ I ab h => ?_⟩
  refine wpAny_Call_Name_kw (ld_glob I hg hm ?_ hdb)
  refine PySem.W.callWith_K (h₀ := X.base) I.ok.mod.kin hk (thn (ha.run pos pins s σ H (fun vs H' => ∃ F' M' ds, Lm X.K F H M F' H' M' ∧ AbsM X.K F' H' M' ∧ Reps X.K F' H' ds vs ∧ ds.length = n ∧ pures ds = true ∧ ∃ xs, sp ds xs ∧ Ψ xs M') I
    ⟨F, M, ρ, _, ab, h, fun vs H' F' M' ds l' a' rs q => ⟨F', M', ds, l', a', rs, q⟩⟩) fun us s1 ⟨vs, H1, I1, rv, F1, M1, ds, l1, a1, rs, hdl, hpu, xs, hsp, hΨ⟩ => ⟨I1.kIn, ?_⟩) he hpl
  have hlen : us.length = ps.length := by rw [← rv.length, ← rs.length, hdl, C.len]
  have hbt := hb s1 us I1.kIn (by simpa using hlen)
  rw [List.append_nil] at hbt
  refine wpAny_call (codeAny_mono (C.run X.A X.stack s1 H1 ⟨us, []⟩ us vs F1 M1 ds xs hr I1.env0 hbt rv a1 rs hdl hpu hsp) fun res s' hq => ?_)
  obtain ⟨u, G, a, c, rfl, hq⟩ := hq
  exact ⟨s1, H1, F1, M1, xs, G, a, c, I1, l1, a1, hΨ, hq⟩
end
/-! ### behind the call -/
theorem GMd.fit {X : Cx} {k : Nat} {sc s' : Shared} {H : Hp} {xs : List D} {u : Value} {G : GD} {a : Addr} {c : Code} (h : GMd X.prog X.w X.K X.mg X.base k X.stack sc H xs u s' G a c) : Fit X G ∧ G.n0 = sc.heap.objs.size := by
  obtain ⟨_, _, _, _, _, _, rfl⟩ := h.eq
  exact ⟨⟨rfl, rfl, rfl, rfl, rfl⟩, rfl⟩
section
variable {X : Cx} {k : Nat} {pins : List (Addr × Obj)} {σ : L2.St} {sc s' : Shared} {H : Hp} {xs : List D} {u : Value} {G : GD} {a : Addr} {c : Code}
/-- ours and theirs, at the start -/
theorem GMd.begin (I : Inv X pins σ H sc) (h : GMd X.prog X.w X.K X.mg X.base k X.stack sc H xs u s' G a c) (hr : Room k X.A.in1) (hfr : X.A.in1.frames = some X.stack) (hgd : X.A.in1.guards = some []) :
    ∃ oa, (∃ nm qn, oa.cls = .type "generator" ∧ oa.data = .fields #[.int G.g 0, nm, qn] ∧ oa.slots = #[]) ∧ s'.heap.get? a = some oa ∧ Inv X (pins ++ [(a, oa)]) σ H s' ∧ (∀ b ∈ [G.n0], FpOk X (pins ++ [(a, oa)]) H b) ∧ Slp X.A.in1 G [G.n0] xs s' H true := by
  obtain ⟨f, hn0⟩ := h.fit
  obtain ⟨oa, nm, qn, ho, h1, h2, h3⟩ := id h.gen
  have I1 : Inv X pins σ H s' := I.call' (ch := []) h.os (Un.kept h.keep) (I.hok.kept h.keep) h.bare fun b z => by cases z
  have hna : H a = none := I.hok.fresh (Nat.le_of_lt h.lt)
  have hnn : H G.n0 = none := by rw [hn0]; exact I.hok.fresh (Nat.le_refl _)
  have fa : FpOk X pins H a := I.fpOk (Nat.le_of_lt h.lt) hna
  have fn : FpOk X pins H G.n0 := I.fpOk (by rw [hn0]; exact Nat.le_refl _) hnn
  have ne : a ≠ G.n0 := by rw [hn0]; exact Nat.ne_of_gt h.lt
  refine ⟨oa, ⟨nm, qn, h1, h2, h3⟩, ho, I1.pins_of fun p hp => ?_, fun b hb => ?_, ⟨⟨_, c, _, [], h.at_, (fun z => by cases z), .inl ⟨rfl, rfl, rfl⟩, fun s2 H2 w2 => ?_⟩, fun b hb => ?_⟩⟩
  · rcases List.mem_append.mp hp with z | z
    · exact I1.pin p (List.mem_append_right _ z)
    · rw [List.mem_singleton.mp z]
      exact ⟨ho, hna, fa.2.1, fa.2.2.1, fun v q => by rw [h2] at q; cases q⟩
  · rw [List.mem_singleton.mp hb]
    obtain ⟨q1, q2, q3, q4, q5, q6⟩ := fn
    refine ⟨q1, q2, q3, q4, q5, fun p hp => ?_⟩
    rw [← List.append_assoc] at hp
    rcases List.mem_append.mp hp with z | z
    · exact q6 p z
    · rw [List.mem_singleton.mp z]; exact ne
  · have := h.wake X.A.in1 hr hfr hgd s2 H2 (by rw [← hn0]; exact w2)
    rw [f.P, f.w, hn0]
    exact this
  · rw [List.mem_singleton.mp hb, hn0]
    exact h.loc
end
end DL

/-! for x in g(..). -/
namespace DL
open PySem PySem.Spec PyProof.Rows L2 PySem.W.X GenW

def sForG (t : DIP) (p : Pat) (body : DS) : DS := fun Δ ρ M => t ρ M fun xs M1 => forW (fun _ => True) p body Δ xs ρ M1
section
variable {X : Cx} {k : Nat} {tg e : Expr} {body : List Stmt} {pos : Pos} {t : DIP} {p : Pat} {tb : DS}
theorem z_forG (hxe : ∀ e s, ¬ X.xe e s) (hc : X.calm = true) (hr : Room (k + 1) X.A) (hgd : X.A.guards = some []) (hi : PGn X k e t) (hg : PG X tg (p.tg X.K)) (hb : PSs X body (loS X.K tb)) (hfs : ∀ x, foldedSetIterable e X.env x = pure x) :
    PS X (.For tg e body [] pos) (loS X.K (sForG t p tb)) := by
  refine ⟨fun pins s σ H Y I h => ?_⟩
  obtain ⟨F, M, ρ, Δ, A, h, kk⟩ := h
  refine wpAny_For (thn (hi.run pins s σ H F M ρ _ I A h) fun u s1 ⟨sc, H1, F1, M1, xs, G, a, c, I1, l1, a1, hw, gm⟩ => ?_) hfs
  obtain ⟨fit, _⟩ := gm.fit
  obtain ⟨oa, hoa, ha, I2, fp2, sl⟩ := gm.begin I1 hr.in1 I1.ok.frames hgd
  have hu := gm.val
  subst hu
  refine wpAny_pyIter_gen gm.gen ?_
  have ap : (a, oa) ∈ pins ++ [(a, oa)] := List.mem_append_right _ (List.mem_singleton.mpr rfl)
  refine codeAny_forLoop_any (fun m s' => ∃ xs pv σ' H' F' M' ρ' fr, m = xs.length ∧ Inv X (pins ++ [(a, oa)]) σ' H' s' ∧ Lm X.K F H M F' H' M' ∧ Abs X.K F' H' M' σ' ρ' ∧ forW (fun _ => True) p tb Δ xs ρ' M' ∧ Slp X.A.in1 G pv xs s' H' fr ∧ ∀ b ∈ pv, FpOk X (pins ++ [(a, oa)]) H' b) ?_
    xs.length ⟨xs, _, σ, H1, F1, M1, ρ, true, rfl, I2, l1, ⟨a1, A.env.mono l1.le⟩, hw, sl, fp2⟩
  rintro m s3 ⟨xs, pv, σ3, H3, F3, M3, ρ3, fr, rfl, I3, l3, A3, w3, sl3, fp3⟩
  have hdp : X.A.depth < recursionLimit := hr.depth
  refine wpAny_mono (turnG (E := fun _ _ => False) fit I3.sz (I3.ok.hd hc) hdp I3 A3.am (isGen_pin I3 ap hoa) fp3 sl3) (fun r s4 z => ?_) fun _ _ q => q.elim
  cases xs with
  | nil =>
    obtain ⟨rfl, H4, I4, l4, a4⟩ := z
    exact wpAny_execs_nil ⟨σ3, H4, I4.unpinned, kk.nx _ _ _ _ _ (l3.trans l4) ⟨a4, A3.env.mono l4.le⟩ w3.2⟩
  | cons d rest =>
    obtain ⟨u, v, H4, pv', rfl, I4, l4, a4, rv, rd, sl4, fp4⟩ := z
    obtain ⟨nm, qn, hc1, hc2, hc3⟩ := hoa
    refine go_of (I4.pin (a, oa) (List.mem_append_right _ ap)).1 hc1 hc2 (by decide) ?_
    obtain ⟨_, w4⟩ := w3
    split at w4
    · rename_i ρ1 hput
      obtain ⟨σ2, en2, _, q2⟩ := p.runs hput rd (A3.env.mono l4.le)
      have I4p := I4.pinned fp4 sl4.pv
      have hasg := hg.run _ { s4 with gens := deadG s4.gens } σ3 H4 v u (fun σ' H' => σ' = σ2 ∧ H' = H4) (inv_gens I4p (deadG_bare I4p.bare)) rv (q2 _ ⟨rfl, rfl⟩)
      refine wpAny_mono (wpAny_deadT (dead_all s4.gens) hasg) (fun _ s5 z => ?_) fun _ _ ⟨_, _, q⟩ => (hxe _ _ q).elim
      obtain ⟨G5, d5, σ5, H5, I5, rfl, rfl⟩ := z
      let Y2 : Ends := {
        nx := fun σ' H' => ∃ F' M' ρ', Lm X.K F3 H5 M3 F' H' M' ∧ Abs X.K F' H' M' σ' ρ' ∧ forW (fun _ => True) p tb Δ rest ρ' M'
        ct := fun σ' H' => ∃ F' M' ρ', Lm X.K F3 H5 M3 F' H' M' ∧ Abs X.K F' H' M' σ' ρ' ∧ forW (fun _ => True) p tb Δ rest ρ' M'
        bk := Y.nx
        rt := Y.rt }
      have hbody := hb.run _ _ σ5 H5 Y2 I5 ⟨F3, M3, ρ1, _, ⟨a4, en2⟩, w4, ⟨fun σ' H' F' M' ρ' l' A' q => ⟨F', M', ρ', l', A', q⟩, fun v H' q => kk.rt v H' ((q.le l4).le l3), fun σ' H' F' M' ρ' l' A' q => kk.nx σ' H' F' M' ρ' ((l3.trans l4).trans l') A' q, fun σ' H' F' M' ρ' l' A' q => ⟨F', M', ρ', l', A', q⟩⟩⟩
      refine wpAny_mono (wpAny_deadT d5 hbody) (fun fl s7 z => ?_) fun _ _ ⟨_, _, q⟩ => (hxe _ _ q).elim
      have z0 := z
      obtain ⟨G7, d7, z⟩ := z
      have again : ∀ {σ7 : L2.St} {H7 : Hp}, Inv X ((pins ++ [(a, oa)]) ++ pinsAt pv' s4.heap) σ7 H7 { s7 with gens := G7 } → (∃ F' M' ρ', Lm X.K F3 H5 M3 F' H7 M' ∧ Abs X.K F' H7 M' σ7 ρ' ∧ forW (fun _ => True) p tb Δ rest ρ' M') →
          ∃ m, m < (d :: rest).length ∧ ∃ xs pv σ' H' F' M' ρ' fr, m = xs.length ∧ Inv X (pins ++ [(a, oa)]) σ' H' s7 ∧ Lm X.K F H M F' H' M' ∧ Abs X.K F' H' M' σ' ρ' ∧ forW (fun _ => True) p tb Δ xs ρ' M' ∧ Slp X.A.in1 G pv xs s7 H' fr ∧ ∀ b ∈ pv, FpOk X (pins ++ [(a, oa)]) H' b := fun {σ7 H7} I7 ⟨F7, M7, ρ7, l7, A7, w7⟩ => by
        have pin : ∀ b ∈ pv', ∃ o, s4.heap.get? b = some o ∧ s7.heap.get? b = some o ∧ H7 b = none := fun b hb => by
          obtain ⟨o, ho, _⟩ := sl4.pv b hb
          obtain ⟨q1, q2, _⟩ := I7.pin (b, o) (List.mem_append_right _ (List.mem_append_right _ (mem_pinsAt hb ho)))
          exact ⟨o, ho, q1, q2⟩
        have I7' : Inv X (pins ++ [(a, oa)]) σ7 H7 s7 := by
          have := inv_gens I7.unpinned (d7.bare I7.bare)
          exact this
        refine ⟨rest.length, by simp, rest, pv', σ7, H7, F7, M7, ρ7, false, rfl, I7', ((l3.trans l4).trans l7), A7, w7, sl4.on fit rfl (I7'.os.trans I4.os.symm) I7' (fun b hb => ?_) (fun a vs q => l7.le.tup a vs q) z0.keeps, fun b hb => ?_⟩
        · obtain ⟨o, h1, h2, h3⟩ := pin b hb
          exact ⟨h3, fun o' e => by rw [h1] at e; cases e; exact h2⟩
        · obtain ⟨o, h1, h2, h3⟩ := pin b hb
          exact ⟨h3, (fp4 b hb).2⟩
      cases fl with
      | next => obtain ⟨σ7, H7, I7, q⟩ := z; exact again I7 q
      | cont => obtain ⟨σ7, H7, I7, q⟩ := z; exact again I7 q
      | brk =>
        obtain ⟨σ7, H7, I7, q⟩ := z
        have := inv_gens I7.unpinned.unpinned (d7.bare I7.bare)
        exact ⟨σ7, H7, this, q⟩
      | ret u' =>
        obtain ⟨x7, σ7, H7, I7, r7, q⟩ := z
        have := inv_gens I7.unpinned.unpinned (d7.bare I7.bare)
        exact ⟨x7, σ7, H7, this, r7, q⟩
    · exact w4.elim
end
end DL

/-! [.. for x in g(..)]. -/
namespace DL
open PySem PySem.Spec PyProof.Rows L2 PySem.W.X GenW

def dLcG (t : DIP) (p : Pat) (vs : List Nat) (tt : DT) (te : DE) : DE := fun ρ M Φ => t ρ M fun xs M1 => lcW (fun _ => True) p tt te (wipeD ρ vs) xs [] M1 fun ds M2 => Φ (.lst ds) M2
section
variable {X : Cx} {k : Nat} {elt tg iter : Expr} {ifs : List Expr} {scope : Scope} {own : List (Str × Nat)} {pos spos : Pos} {t : DIP} {p : Pat} {tt : DT} {te : DE}
/-- the list under way, one item more -/
theorem acc_more {K : PySem.W.Frag} {F1 F' : Addr → Prop} {H1 H' : Hp} {M1 M' : MS} {L : Addr} {ws ws' : List V} (hL : H1 L = none) (l : Lm K F1 H1 M1 F' H' M') (am : AbsM K F' H' M') (e : H' L = some (.lst ws)) (nf : ¬ F' L) (nm : M'.map L = none) :
    Lm K F1 H1 M1 F' (upd H' L (.lst ws')) M' ∧ AbsM K F' (upd H' L (.lst ws')) M' ∧ Le K F' H' F' (upd H' L (.lst ws')) := by
  have l2 : Le K F' H' F' (upd H' L (.lst ws')) := Le.upd nf (fun _ => nord_lst e) (nofrz_lst e)
  refine ⟨⟨l.le.trans l2, fun b hb f m => ?_⟩, ⟨fun b f => ?_, fun b o hb => ?_⟩, l2⟩
  · obtain ⟨x1, x2, x3⟩ := l.hid b hb f m
    have ne : b ≠ L := fun z => hb (by rw [z]; exact hL)
    exact ⟨x1, x2, (upd_ne ne).trans x3⟩
  · have ne : b ≠ L := fun z => nf (by rw [← z]; exact f)
    rw [upd_ne ne]
    exact am.fh b f
  · obtain ⟨n1, o1⟩ := am.mp b o hb
    have ne : ∀ c o', M'.map c = some o' → c ≠ L := fun c o' hc z => by rw [z, nm] at hc; cases hc
    exact ⟨n1, o1.keep l2 (upd_ne (ne b o hb)) (fun c hc => ⟨upd_ne (ne c _ hc), hc⟩) (Nat.le_refl _)⟩
theorem lcG_core {pins : List (Addr × Obj)} {s : Shared} {σ : L2.St} {H : Hp} {F : Addr → Prop} {M : MS} {ρ : DEnv} {Ψ : List D → MS → Prop} {pos' : Pos} {use : Option (Value → Sem Unit)} {Qf : Value → Shared → Prop}
    (hc : X.calm = true) (hN : X.N.Nodup) (hr : Room (k + 1) X.A) (hgd : X.A.guards = some []) (I : Inv X pins σ H s) (A : Abs X.K F H M σ ρ) (hi : PGn X k iter t) (ok : BlkOk X.N X.env.scope scope own)
    (hg : ∀ (s : Shared) (H : Hp) (C : Addr) (cl : List (Str × Addr)) (fp : List Addr), PG (X.blk s H scope (compEnvC scope cl C X.env) fp) tg (p.tg X.K))
    (ht : ∀ (s : Shared) (H : Hp) (C : Addr) (cl : List (Str × Addr)) (fp : List Addr), PTs (X.blk s H scope (compEnvC scope cl C X.env) fp) ifs (loT X.K tt))
    (he : ∀ (s : Shared) (H : Hp) (C : Addr) (cl : List (Str × Addr)) (fp : List Addr), PE (X.blk s H scope (compEnvC scope cl C X.env) fp) elt (lo X.K te)) (hfs : ∀ x, foldedSetIterable iter X.env x = pure x)
    (hs : ∀ i ∈ p.slots, i ∈ own.map (·.2))
    (h : t ρ M fun xs M1 => lcW (fun _ => True) p tt te (wipeD ρ (own.map (·.2))) xs [] M1 Ψ)
    (fin : ∀ (L C : Addr) (s' : Shared) (m : Str → Option Value) (F1 F' : Addr → Prop) (H1 H' : Hp) (M1 M' : MS) (ds : List D) (ws : List V), Inv X pins σ H' s' → Lm X.K F H M F1 H1 M1 → H1 L = none → Lm X.K F1 H1 M1 F' H' M' → AbsM X.K F' H' M' → H' L = some (.lst ws) → ¬ F' L → M'.map L = none → Reps X.K F' H' ds ws → Ψ ds M' → s'.heap.Ns C m → FpOk X pins H' C →
      compPost (model X.prog X.w) X.A X.xe use Qf (.ref L) C (.ok .next) s') :
    wpAny (model X.prog X.w) X.A (comprehension (.ListComp elt [⟨tg, iter, ifs, 0⟩] scope pos) scope X.env pos' (newList []) false (eval iter X.env) use) Qf X.xe s := by
  have hfree : ∀ y ∈ scope.names, y.2 = .free → ∃ c, X.env.cells.lookup y.1 = some c := fun y hy e => (ok.free y hy e).elim (fun z => I.ok.has _ (.inl z)) fun z => I.ok.has _ (.inr z)
  refine wpAny_comprehension_free (use := use) rfl hfs (closure_ok hfree) ok.kind (fun y hy e => (ok.uniq y hy).trans (by rw [e]))
    (thn (hi.run pins s σ H F M ρ _ I A h) fun u s1 ⟨sc, H1, F1, M1, xs, G, a, c, I1, l1, a1, hw, gm⟩ => ?_)
  obtain ⟨fit, hn0⟩ := gm.fit
  have f0n : FpOk X pins H1 G.n0 := I1.fpOk (by rw [hn0]; exact Nat.le_refl _) (by rw [hn0]; exact I1.hok.fresh (Nat.le_refl _))
  have hna : H1 a = none := I1.hok.fresh (Nat.le_of_lt gm.lt)
  obtain ⟨oa, hoa, ha, I2p, fp2, sl⟩ := gm.begin I1 hr.in1 I1.ok.frames hgd
  have I2 : Inv X pins σ H1 s1 := I2p.unpinned
  have hu := gm.val
  subst hu
  refine wpAny_pyIter_gen gm.gen ?_
  refine wpAny_newObj_type (newEnv_comp ?_) (Nat.zero_le sizeLine)
  generalize hL : s1.heap.objs.size = L
  have hL1 : H1 L = none := I2.hok.fresh (Nat.le_of_eq hL)
  generalize hs3 : ({ s1 with heap := s1.heap.push { cls := .type "list", data := .seq ([] : List Value).toArray } } : Shared) = s3
  have kp3 : ∀ b o, s1.heap.get? b = some o → s3.heap.get? b = some o := fun b o q => by rw [← hs3]; exact Heap.get?_push_of_some _ q
  have sz3 : s3.heap.objs.size = L + 1 := by rw [← hs3, ← hL]; exact Heap.size_push ..
  have J3 : Inv X (pins ++ [(a, oa)]) σ (upd H1 L (.lst [])) s3 := by
    rw [← hs3]
    refine I2p.laid (t' := s1.toks) (fun b o q => Heap.get?_push_of_some _ q) (Nat.le_of_eq hL) ⟨Nat.zero_le _, [], 0, .nil, ?_⟩
    rw [← hL]
    exact Heap.get?_push_size _ rfl
  have I3 := J3.unpinned
  have nlt : G.n0 < L := by rw [← hL]; obtain ⟨o, q, _⟩ := sl.pv G.n0 (List.mem_singleton.mpr rfl); exact Heap.lt_size q
  have alt : a < L := by rw [← hL]; exact Heap.lt_size ha
  have f3 : ∀ b ∈ [G.n0], FpOk X pins (upd H1 L (.lst [])) b ∧ b < s3.heap.objs.size := fun b hb => by
    rw [List.mem_singleton.mp hb]
    refine ⟨⟨?_, f0n.2⟩, by rw [sz3]; exact Nat.lt_succ_of_lt nlt⟩
    rw [upd_ne (Nat.ne_of_lt nlt)]
    exact f0n.1
  have I4 := block_start I3 ok hN f3
  have pg := hg s3 (upd H1 L (.lst [])) s3.heap.objs.size (cellsFrom (s3.heap.objs.size + 1) scope.names (cloFrom X.env.cells scope.names [])) [G.n0]
  have pt := ht s3 (upd H1 L (.lst [])) s3.heap.objs.size (cellsFrom (s3.heap.objs.size + 1) scope.names (cloFrom X.env.cells scope.names [])) [G.n0]
  have pe := he s3 (upd H1 L (.lst [])) s3.heap.objs.size (cellsFrom (s3.heap.objs.size + 1) scope.names (cloFrom X.env.cells scope.names [])) [G.n0]
  show codeAny _ _ (.compStart (.ListComp elt [⟨tg, iter, ifs, 0⟩] scope pos) 0 (.ref a) (.ref L) (compEnvC scope (cellsFrom (s3.heap.objs.size + 1) scope.names (cloFrom X.env.cells scope.names [])) s3.heap.objs.size X.env)) (compPost _ _ _ use Qf (.ref L) s3.heap.objs.size) { s3 with heap := pushCells (s3.heap.push { cls := .type "dict", data := .dict #[] }) scope.names }
  generalize hce : compEnvC scope (cellsFrom (s3.heap.objs.size + 1) scope.names (cloFrom X.env.cells scope.names [])) s3.heap.objs.size X.env = ce at I4 pg pt pe ⊢
  have cL : ce.locals = s3.heap.objs.size := by subst hce; rfl
  have kp4 : ∀ b o, s3.heap.get? b = some o → (pushCells (s3.heap.push { cls := .type "dict", data := .dict #[] }) scope.names).get? b = some o := fun b o q => pushCells_keeps _ _ _ _ (Heap.get?_push_of_some _ q)
  generalize hH3 : upd H1 L (.lst []) = H3 at I3 J3 I4 pg pt pe f3
  have os34 : ({ s3 with heap := pushCells (s3.heap.push { cls := .type "dict", data := .dict #[] }) scope.names } : Shared).gens = s1.gens := by rw [← hs3]
  generalize hs4 : ({ s3 with heap := pushCells (s3.heap.push { cls := .type "dict", data := .dict #[] }) scope.names } : Shared) = s4 at I4 os34 ⊢
  have kp14 : ∀ b o, s1.heap.get? b = some o → s4.heap.get? b = some o := fun b o q => by rw [← hs4]; exact kp4 b o (kp3 b o q)
  let B : Cx := X.blk s3 H3 scope ce [G.n0]
  have fitB : Fit B G := ⟨fit.P, fit.w, fit.K, fit.base, fit.outer⟩
  have hH3a : H3 a = none := by rw [← hH3, upd_ne (Nat.ne_of_lt alt)]; exact hna
  have hH3n : H3 G.n0 = none := by rw [← hH3, upd_ne (Nat.ne_of_lt nlt)]; exact f0n.1
  have ane : a ≠ ce.locals := by rw [cL, sz3]; exact Nat.ne_of_lt (Nat.lt_succ_of_lt alt)
  have afs : a ∉ frs X.stack := fun z => by
    have q := I2.stkSub a z
    obtain ⟨_, _, n3, n4, _⟩ := I2p.pin (a, oa) (List.mem_append_right _ (List.mem_append_right _ (List.mem_singleton.mpr rfl)))
    rcases List.mem_cons.mp q with y | y
    · exact n3 y
    · exact n4 y
  have I5 : Inv B [(a, oa)] (wipe σ (own.map (·.2))) H3 s4 := I4.pins_of fun q hq => by
    rw [List.mem_singleton.mp hq]
    obtain ⟨nm, qn, _, hd2, _⟩ := hoa
    exact ⟨kp14 a oa ha, hH3a, ane, afs, fun v z => by rw [hd2] at z; cases z⟩
  have fB : ∀ b ∈ [G.n0], FpOk B [(a, oa)] H3 b := fun b hb => by
    rw [List.mem_singleton.mp hb]
    refine ⟨hH3n, (I4.ok.exf G.n0 (List.mem_singleton.mpr rfl)).1, I4.ok.exfs G.n0 (List.mem_singleton.mpr rfl), .inl (List.mem_singleton.mpr rfl), fun y c e => (I4.ok.exf G.n0 (List.mem_singleton.mpr rfl)).2 y c e, fun q hq => ?_⟩
    have hq' : q ∈ [(a, oa)] := hq
    rw [List.mem_singleton.mp hq']
    have := gm.lt
    rw [← hn0] at this
    exact Nat.ne_of_gt this
  have slB : Slp X.A.in1 G [G.n0] xs s4 H3 true := by
    obtain ⟨⟨gs, c', t', fs', q1, q2, q3, q4⟩, q5⟩ := sl
    refine ⟨⟨gs, c', t', fs', by rw [os34]; exact q1, q2, q3, fun s2 H2 w2 => q4 s2 H2 ?_⟩, fun b hb => ?_⟩
    · refine Wk.trans ⟨?_, I5.bare, fun b o e => I5.bs b o (fitB.base ▸ e), ?_, fun b hb => I5.stkFree b (fitB.outer ▸ hb), ?_, fun b hb => ⟨(fB b hb).1, fun o e => kp14 b o e⟩, fun d vs q => ?_, fun i y _ e _ => by rw [os34]; exact e⟩ w2
      · rw [← hs4, ← hs3]
      · rw [fitB.base, fitB.outer]; exact I5.stack
      · rw [fitB.P, fitB.w]; exact I5.hok
      · rw [← hH3]
        rcases q with (q | ⟨o, q⟩) | q
        · exact .inl (.inl (by rw [upd_ne (fun z => by rw [z, hL1] at q; cases q)]; exact q))
        · exact .inl (.inr ⟨o, by rw [upd_ne (fun z => by rw [z, hL1] at q; cases q)]; exact q⟩)
        · exact .inr q
    · obtain ⟨o, e, d⟩ := q5 b hb
      exact ⟨o, kp14 b o e, d⟩
  have nfL : ¬ F1 L := fun z => a1.fh L z hL1
  have nmL : M1.map L = none := (a1.fresh hL1).2
  have hgen4 : s4.heap.IsGen a G.g := isGen_pin I5 (List.mem_singleton.mpr rfl) hoa
  have hdp : X.A.depth < recursionLimit := hr.depth
  have start3 : Lm X.K F1 H1 M1 F1 H3 M1 ∧ AbsM X.K F1 H3 M1 := by
    rw [← hH3]
    have l0 : Le X.K F1 H1 F1 (upd H1 L (.lst [])) := Le.upd nfL (fun _ => nord_none hL1) (nofrz_none hL1)
    exact ⟨⟨l0, fun b hb f m => ⟨f, m, upd_ne fun z => hb (by rw [z]; exact hL1)⟩⟩, a1.laid hL1⟩
  have en1 : RepEnv X.K F1 H3 (wipe σ (own.map (·.2))) (wipeD ρ (own.map (·.2))) := (A.env.wipe _).mono (l1.le.trans start3.1.le)
  have loop : codeAny (model X.prog X.w) X.A (.compLoop (.ListComp elt [⟨tg, iter, ifs, 0⟩] scope pos) 0 (.ref a) (.ref L) ce) (compPost (model X.prog X.w) X.A X.xe use Qf (.ref L) s3.heap.objs.size) s4 := by
    refine compLoop_any (fun m s' => ∃ xs pv H' F' M' acc ws fr, m = xs.length ∧ Inv B [(a, oa)] (wipe σ (own.map (·.2))) H' s' ∧ Lm X.K F1 H1 M1 F' H' M' ∧ AbsM X.K F' H' M' ∧ Le X.K F1 H3 F' H' ∧ H' L = some (.lst ws) ∧ ¬ F' L ∧ M'.map L = none ∧ Reps X.K F' H' acc ws ∧
      lcW (fun _ => True) p tt te (wipeD ρ (own.map (·.2))) xs acc M' Ψ ∧ Slp X.A.in1 G pv xs s' H' fr ∧ ∀ b ∈ pv, FpOk B [(a, oa)] H' b) ?_ xs.length
      ⟨xs, _, H3, F1, M1, [], [], true, rfl, I5, start3.1, start3.2, Le.refl, by rw [← hH3]; exact upd_same, nfL, nmL, Reps.nil, hw, slB, fB⟩
    rintro m s5 ⟨xs, pv, H5, F5, M5, acc, ws, fr, rfl, I5, l5, a5, le5, hl5, nf5, nm5, rs5, w5, sl5, fp5⟩
    refine wpAny_mono (turnG (X := B) (E := fun _ _ => False) fitB I5.sz (I5.ok.hd hc) hdp I5 a5 (isGen_pin I5 (List.mem_singleton.mpr rfl) hoa) fp5 sl5) (fun r s6 z => ?_) fun _ _ q => q.elim
    cases xs with
    | nil =>
      obtain ⟨rfl, H6, I6, l6, a6⟩ := z
      have i6 : Inv X pins σ H6 s6 := I3.call' (ch := [G.n0]) I6.os I6.base I6.hok I6.bare fun b hb => ⟨(f3 b hb).1.2.2.2.1, (f3 b hb).1.2.1, (f3 b hb).1.2.2.2.2.1, (f3 b hb).1.2.2.2.2.2⟩
      have nC : H6 s3.heap.objs.size = none := by
        have y : H6 ce.locals = none := I6.free
        rw [cL] at y
        exact y
      obtain ⟨m, hm, _⟩ := I6.loc
      have hm' : s6.heap.Ns ce.locals m := hm
      rw [cL] at hm'
      obtain ⟨x1, x2, x3⟩ := l6.hid L (by rw [hl5]; simp) nf5 nm5
      exact fin L _ s6 m F1 F5 H1 H6 M1 M5 acc ws i6 l1 hL1 (l5.trans l6) a6 (x3.trans hl5) x1 x2 (rs5.mono l6.le) w5.2 hm' (I3.fpOk (Nat.le_refl _) nC)
    | cons d rest =>
      obtain ⟨u, v, H6, pv', rfl, I6, l6, a6, rv, rd, sl6, fp6⟩ := z
      have hoa2 := hoa
      obtain ⟨nm, qn, hc1, hc2, hc3⟩ := hoa
      refine go_of (I6.pin (a, oa) (List.mem_append_right _ (List.mem_singleton.mpr rfl))).1 hc1 hc2 (by decide) ?_
      obtain ⟨_, w6⟩ := w5
      split at w6
      · rename_i ρ1 hput
        obtain ⟨σ2, en2, wp2, q2⟩ := p.runs hput rd (en1.mono (le5.trans l6.le))
        have hw2 : wipe σ2 (own.map (·.2)) = wipe σ (own.map (·.2)) := by
          rw [wp2 _ hs]
          refine List.ext_getElem? fun j => ?_
          simp only [wipe_get, wipe_length]
          split <;> rfl
        have I6p := I6.pinned fp6 sl6.pv
        refine wpAny_mono (wpAny_deadT (dead_all s6.gens) (pg.run _ { s6 with gens := deadG s6.gens } _ H6 v u (fun σ' H' => σ' = σ2 ∧ H' = H6) (inv_gens I6p (deadG_bare I6p.bare)) rv (q2 _ ⟨rfl, rfl⟩))) (fun _ s7 z => ?_) fun _ _ ⟨_, _, q⟩ => q.elim
        obtain ⟨G7, d7, σ7, H7, I7, rfl, rfl⟩ := z
        refine wpAny_mono (wpAny_deadT d7 (pt.run _ _ σ7 H7 (fun b H' => ∃ F' M', Lm X.K F5 H7 M5 F' H' M' ∧ AbsM X.K F' H' M' ∧ if b = true then te ρ1 M' (fun y M2 => acc.length < 100000 ∧ lcW (fun _ => True) p tt te (wipeD ρ (own.map (·.2))) rest (acc ++ [y]) M2 Ψ) else lcW (fun _ => True) p tt te (wipeD ρ (own.map (·.2))) rest acc M' Ψ) I7
          ⟨F5, M5, ρ1, _, ⟨a6, en2⟩, w6, fun b H' F' M' l' a' q => ⟨F', M', l', a', q⟩⟩)) (fun b s8 z => ?_) fun _ _ ⟨_, _, q⟩ => q.elim
        have z8 := z
        obtain ⟨G8, d8, H8, I8, F8, M8, l8, a8, w8⟩ := z
        obtain ⟨y1, y2, y3⟩ := l6.hid L (by rw [hl5]; simp) nf5 nm5
        have hl6 : H7 L = some (.lst ws) := y3.trans hl5
        obtain ⟨y4, y5, y6⟩ := l8.hid L (by rw [hl6]; simp) y1 y2
        have hl8 : H8 L = some (.lst ws) := y6.trans hl6
        -- the turn's end
        have done : ∀ {s' : Shared} {G' : Array GenState} {H' : Hp} {F' : Addr → Prop} {M' : MS} {acc' : List D} {ws' : List V}, Dead (sleptT s6.gens) G' s'.gens → Keeps s6 s' → Inv B ([(a, oa)] ++ pinsAt pv' s6.heap) σ7 H' { s' with gens := G' } → Lm X.K F1 H1 M1 F' H' M' → AbsM X.K F' H' M' → Le X.K F5 H7 F' H' → H' L = some (.lst ws') → ¬ F' L → M'.map L = none → Reps X.K F' H' acc' ws' →
            lcW (fun _ => True) p tt te (wipeD ρ (own.map (·.2))) rest acc' M' Ψ → ∃ m, m < (d :: rest).length ∧ ∃ xs pv H' F' M' acc ws fr, m = xs.length ∧ Inv B [(a, oa)] (wipe σ (own.map (·.2))) H' s' ∧ Lm X.K F1 H1 M1 F' H' M' ∧ AbsM X.K F' H' M' ∧ Le X.K F1 H3 F' H' ∧ H' L = some (.lst ws) ∧ ¬ F' L ∧ M'.map L = none ∧ Reps X.K F' H' acc ws ∧
      lcW (fun _ => True) p tt te (wipeD ρ (own.map (·.2))) xs acc M' Ψ ∧ Slp X.A.in1 G pv xs s' H' fr ∧ ∀ b ∈ pv, FpOk B [(a, oa)] H' b := by
          intro s' G' H' F' M' acc' ws' dd kp J lj aj lej hlj nfj nmj rsj wj
          have pin : ∀ b ∈ pv', ∃ o, s6.heap.get? b = some o ∧ s'.heap.get? b = some o ∧ H' b = none := fun b hb => by
            obtain ⟨o, ho, _⟩ := sl6.pv b hb
            obtain ⟨q1, q2, _⟩ := J.pin (b, o) (List.mem_append_right _ (List.mem_append_right _ (mem_pinsAt hb ho)))
            exact ⟨o, ho, q1, q2⟩
          have hl : (wipe σ (own.map (·.2))).length = σ7.length := by rw [← hw2, wipe_length]
          have J1 : Inv B [(a, oa)] (wipe σ (own.map (·.2))) H' s' := by
            have := inv_gens (J.unpinned (pins := [(a, oa)])) (dd.bare J.bare)
            have q : Inv B [(a, oa)] σ7 H' s' := this
            refine q.weak hl fun j v' e => ?_
            rw [← hw2] at e
            exact (wipe_some e).1
          refine ⟨rest.length, by simp, rest, pv', H', F', M', acc', ws', false, rfl, J1, lj, aj, (le5.trans l6.le).trans lej, hlj, nfj, nmj, rsj, wj, sl6.on fitB rfl (J1.os.trans I6.os.symm) J1 (fun b hb => ?_) (fun d vs q => lej.tup d vs q) kp, fun b hb => ?_⟩
          · obtain ⟨o, h1, h2, h3⟩ := pin b hb
            exact ⟨h3, fun o' e => by rw [h1] at e; cases e; exact h2⟩
          · obtain ⟨o, h1, h2, h3⟩ := pin b hb
            exact ⟨h3, (fp6 b hb).2⟩
        cases b with
        | false =>
          rw [if_neg Bool.false_ne_true] at w8 ⊢
          exact done d8 z8.keeps I8 ((l5.trans l6).trans l8) a8 l8.le hl8 y4 y5 ((rs5.mono l6.le).mono l8.le) w8
        | true =>
          rw [if_pos rfl] at w8 ⊢
          refine wpAny_mono (wpAny_deadT d8 (pe.run _ _ σ7 H8 (fun y H' => loQ X.K F8 H8 M8 (fun y M2 => acc.length < 100000 ∧ lcW (fun _ => True) p tt te (wipeD ρ (own.map (·.2))) rest (acc ++ [y]) M2 Ψ) y H') I8 ⟨F8, M8, ρ1, _, ⟨a8, en2.mono l8.le⟩, w8, fun y H' q => q⟩)) (fun y s9 z => ?_) fun _ _ ⟨_, _, q⟩ => q.elim
          obtain ⟨G9, d9, yv, H9, I9, ry, F9, M9, yd, l9, a9, ryd, hacc, w9⟩ := z
          obtain ⟨x4, x5, x6⟩ := l9.hid L (by rw [hl8]; simp) y4 y5
          have hl9 : H9 L = some (.lst ws) := x6.trans hl8
          have wl : acc.length = ws.length := rs5.length
          obtain ⟨lA, aA, leA⟩ := acc_more (ws' := ws ++ [yv]) hL1 (((l5.trans l6).trans l8).trans l9) a9 hl9 x4 x5
          have app := app_ok (X := B) (E := fun _ _ => False) (Q := fun _ s' => Inv B ([(a, oa)] ++ pinsAt pv' s6.heap) σ7 (upd H9 L (.lst (ws ++ [yv]))) s') I9 hl9 (by rw [← wl]; exact Nat.lt_of_lt_of_le hacc (by decide)) ry fun s' J => J
          refine wpAny_mono (wpAny_deadT d9 app) (fun _ s10 z => ?_) fun _ _ ⟨_, _, q⟩ => q.elim
          have z10 := z
          obtain ⟨G10, d10, J⟩ := z
          exact done d10 z10.keeps J lA aA ((l8.le.trans l9.le).trans leA) upd_same x4 x5 ((((rs5.mono l6.le).mono l8.le).mono l9.le).append (Reps.cons ryd Reps.nil) |>.mono leA) w9
      · exact w6.elim
  exact codeAny_compStart_list loop (wpAny_pyIter_gen hgen4 loop)
theorem q_lcG (hc : X.calm = true) (hN : X.N.Nodup) (hr : Room (k + 1) X.A) (hgd : X.A.guards = some []) (hi : PGn X k iter t) (ok : BlkOk X.N X.env.scope scope own)
    (hg : ∀ (s : Shared) (H : Hp) (C : Addr) (cl : List (Str × Addr)) (fp : List Addr), PG (X.blk s H scope (compEnvC scope cl C X.env) fp) tg (p.tg X.K))
    (ht : ∀ (s : Shared) (H : Hp) (C : Addr) (cl : List (Str × Addr)) (fp : List Addr), PTs (X.blk s H scope (compEnvC scope cl C X.env) fp) ifs (loT X.K tt))
    (he : ∀ (s : Shared) (H : Hp) (C : Addr) (cl : List (Str × Addr)) (fp : List Addr), PE (X.blk s H scope (compEnvC scope cl C X.env) fp) elt (lo X.K te)) (hfs : ∀ x, foldedSetIterable iter X.env x = pure x)
    (hs : ∀ i ∈ p.slots, i ∈ own.map (·.2)) : PE X (.ListComp elt [⟨tg, iter, ifs, 0⟩] scope pos) (lo X.K (dLcG t p (own.map (·.2)) tt te)) := by
  refine ⟨fun pins s σ H Q I h => ?_⟩
  obtain ⟨F, M, ρ, Φ, A, h, kq⟩ := h
  rw [eval_ListComp]
  refine lcG_core hc hN hr hgd I A hi ok hg ht he hfs hs h fun L C s' m F1 F' H1 H' M1 M' ds ws I' l1 hL l2 a2 hl nf nm rs q hn f => ⟨m, hn, fun h2 sb => ?_⟩
  obtain ⟨f0, f1, f2, f3, f4, f5⟩ := f
  refine ⟨.ref L, H', I'.turned (t' := s'.toks) (fun b o hb e => (sb.2 b hb).trans e) f0 f1 f3 f4 f5, rfl, ?_⟩
  have y : Le X.K F' H' (fun b => F' b ∨ b = L) H' := Le.refl.grow fun _ z => .inl z
  refine kq _ _ ⟨fun b => F' b ∨ b = L, M', .lst ds, (l1.trans ⟨l2.le.trans y, fun a ha f m => ?_⟩), ⟨fun b f => ?_, fun b o hb => ?_⟩, ?_, q⟩
  · obtain ⟨x1, x2, x3⟩ := l2.hid a ha f m
    exact ⟨fun z => z.elim x1 fun e => ha (by rw [e]; exact hL), x2, x3⟩
  · rcases f with f | f
    · exact a2.fh b f
    · rw [f, hl]; simp
  · obtain ⟨n1, o1⟩ := a2.mp b o hb
    refine ⟨fun z => z.elim n1 fun e => ?_, o1.keep y rfl (fun c hc => ⟨rfl, hc⟩) (Nat.le_refl _)⟩
    rw [e, nm] at hb; cases hb
  · simp only [Rep]
    exact ⟨L, ws, rfl, .inr rfl, hl, rs.mono y⟩
end
end DL

namespace DL
open PySem PySem.Spec PyProof.Rows L2

/-! ### patterns, put only where the value is seen -/
theorem put_nm {i : Nat} {d : D} {ρ : DEnv} : (Pat.nm i).put d ρ = some (ρ.set i (some d)) := rfl
theorem put_tp {ps : List Pat} {xs : List D} {ρ : DEnv} : (Pat.tp ps).put (.tup xs) ρ = Pat.puts ps xs ρ := rfl
theorem puts_nil {ρ : DEnv} : Pat.puts [] [] ρ = some ρ := rfl
theorem puts_cons {p : Pat} {ps : List Pat} {x : D} {xs : List D} {ρ : DEnv} : Pat.puts (p :: ps) (x :: xs) ρ = (match p.put x ρ with
  | some ρ' => Pat.puts ps xs ρ'
  | none => none) := rfl
end DL

/-! texts: join, f-strings, texts of the module -/
namespace DL
open PySem PySem.Spec PyProof.Rows L2

def asStrs : List D → Option (List Str)
  | [] => some []
  | .str z :: r => (asStrs r).map (z :: ·)
  | _ => none
theorem asStrs_eq : ∀ {xs : List D} {ys : List Str}, asStrs xs = some ys → xs = ys.map D.str
  | [], ys, h => by simp only [asStrs, Option.some.injEq] at h; subst h; rfl
  | x :: xs, ys, h => by
    cases x with
    | str z =>
      simp only [asStrs, Option.map_eq_some_iff] at h
      obtain ⟨ms, h1, h2⟩ := h
      subst h2
      rw [asStrs_eq h1]; rfl
    | _ => simp [asStrs] at h
theorem asStrs_map : ∀ ys : List Str, asStrs (ys.map D.str) = some ys
  | [] => rfl
  | n :: ns => by simp only [List.map_cons, asStrs, asStrs_map ns, Option.map_some]
theorem reps_strs {K : PySem.W.Frag} {F : Addr → Prop} {H : Hp} : ∀ {ys : List Str} {vs : List V}, Reps K F H (ys.map D.str) vs → vs = ys.map V.str
  | [], vs, h => by simpa [Reps] using h
  | n :: ns, vs, h => by
    simp only [List.map_cons, Reps, Rep] at h
    obtain ⟨v, r, e, rfl, h2⟩ := h
    rw [e, reps_strs h2]
    rfl
def dJoin (to te : DE) : DE := fun ρ M Φ => to ρ M fun x M1 => match x with
  | .str a => te ρ M1 fun y M2 => (match (seqA M2 y).bind asStrs with
    | some ys => (ys.map (·.length)).sum + ys.length * a.length ≤ 16777216 ∧ Φ (.str (Txt.join a ys)) M2
    | none => False)
  | _ => False
def dFmt (te : DE) : DE := fun ρ M Φ => te ρ M fun x M1 => match x with
  | .str y => y.length ≤ 1000000 ∧ Φ (.str y) M1
  | .int i => i.natAbs.log2 < 1920 ∧ Φ (.str (toString i)) M1
  | _ => False
def dJsA : List DE → Str → DE
  | [], acc => fun _ M Φ => Φ (.str acc) M
  | t :: ts, acc => fun ρ M Φ => t ρ M fun x M1 => match x with
    | .str y => (acc ++ y).length ≤ 1000000 ∧ dJsA ts (acc ++ y) ρ M1 Φ
    | _ => False
section
variable {X : Cx} {x : Str} {p pos apos : Pos} {o e : Expr} {to te : DE}
theorem q_gstr {z : Str} (hg : Gl X x) (hm : ∃ t, X.mg x = some (.str z t)) (hd : (x == ("__debug__" : Str)) = false) : PE X (.Name x p) (lo X.K (dC (.str z))) := by
  obtain ⟨t, hm⟩ := hm
  exact q_c (v := .str z) ⟨fun pins s σ H Q I h => ld_glob I hg hm ⟨.str z, H, I, ⟨t, rfl⟩, h⟩ hd⟩ fun _ _ => rfl
theorem q_join (ho : PE X o (lo X.K to)) (he : PE X e (lo X.K te)) (hs : starEach [e] X.env = [(false, eval e X.env)]) (hbase : attributeBase o "join" X.env (eval o X.env) = eval o X.env) (hline : (apos.endLine == pos.line) = true) :
    PE X (.Call (.Attribute o "join" apos) [e] [] pos) (lo X.K (dJoin to te)) :=
  PE.imp (pe_join ho he hs hbase hline) fun σ H Q h => by
    obtain ⟨F, M, ρ, Φ, A, h, k⟩ := h
    refine ⟨F, M, ρ, _, A, h, fun v H1 ⟨F1, M1, x, l1, a1, r1, h1⟩ => ?_⟩
    dsimp only at h1
    split at h1
    · rename_i a
      obtain rfl : v = .str a := r1
      refine ⟨⟨a, rfl⟩, F1, M1, ρ, _, ⟨a1, A.env.mono l1.le⟩, h1, fun w H2 ⟨F2, M2, y, l2, a2, r2, h2⟩ => ?_⟩
      dsimp only at h2
      split at h2
      · rename_i ys ey
        obtain ⟨xs, e1, e2⟩ := Option.bind_eq_some_iff.mp ey
        obtain ⟨q, vs, rfl, hq, rs⟩ := seqK_rep a2 r2 e1
        rw [asStrs_eq e2] at rs
        rw [reps_strs rs] at hq
        refine ⟨a, q, ys, rfl, rfl, ?_, h2.1, k _ _ ⟨F2, M2, .str _, l1.trans l2, a2, rfl, h2.2⟩⟩
        cases hk : kindD y with
        | true => rw [hk] at hq; exact .inl hq
        | false => rw [hk] at hq; exact .inr hq
      · exact h2.elim
    · exact h1.elim
theorem q_fmt (he : PE X e (lo X.K te)) : PE X (.FormattedValue e (-1) none pos) (lo X.K (dFmt te)) :=
  PE.imp (pe_fmt he) fun σ H Q h => by
    obtain ⟨F, M, ρ, Φ, A, h, k⟩ := h
    refine ⟨F, M, ρ, _, A, h, fun v H1 ⟨F1, M1, x, l1, a1, r1, h1⟩ => ?_⟩
    dsimp only at h1
    split at h1
    · rename_i y
      exact .inl ⟨y, r1, Nat.le_trans h1.1 (by decide), k _ _ ⟨F1, M1, .str _, l1, a1, rfl, h1.2⟩⟩
    · rename_i i
      exact .inr ⟨i, r1, h1.1, k _ _ ⟨F1, M1, .str _, l1, a1, rfl, h1.2⟩⟩
    · exact h1.elim
inductive PJD (X : Cx) : List Expr → List DE → Prop where
  | nil : PJD X [] []
  | cons {e : Expr} {t : DE} {es : List Expr} {ts : List DE} (h : PE X e (lo X.K t)) (r : PJD X es ts) : PJD X (e :: es) (t :: ts)
theorem PJD.pj {es : List Expr} {ts : List DE} (h : PJD X es ts) : PJ X es (ts.map (lo X.K)) := by
  induction h with
  | nil => exact .nil
  | cons h r ih => exact .cons h ih
theorem js_run {K : PySem.W.Frag} : ∀ (ts : List DE) (acc : Str) (σ : L2.St) (H : Hp) (F : Addr → Prop) (M : MS) (ρ : DEnv) (Φ : DQ) (Q : Str → Hp → Prop), Abs K F H M σ ρ → dJsA ts acc ρ M Φ →
    (∀ z H' F' M', Lm K F H M F' H' M' → AbsM K F' H' M' → Φ (.str z) M' → Q z H') → tJs (ts.map (lo K)) acc σ H Q
  | [], acc, σ, H, F, M, ρ, Φ, Q, A, h, k => k acc H F M Lm.refl A.am h
  | t :: ts, acc, σ, H, F, M, ρ, Φ, Q, A, h, k => by
    refine ⟨F, M, ρ, _, A, h, fun v H1 ⟨F1, M1, x, l1, a1, r1, h1⟩ => ?_⟩
    dsimp only at h1
    split at h1
    · rename_i y
      exact ⟨y, r1, Nat.le_trans h1.1 (by decide), js_run ts (acc ++ y) σ H1 F1 M1 ρ Φ Q ⟨a1, A.env.mono l1.le⟩ h1.2 fun z H' F' M' l a q => k z H' F' M' (l1.trans l) a q⟩
    · exact h1.elim
theorem q_joined {v1 v2 : Expr} {rest : List Expr} {ts : List DE} (h : PJD X (v1 :: v2 :: rest) ts) : PE X (.JoinedStr (v1 :: v2 :: rest) pos) (lo X.K (dJsA ts Str.empty)) :=
  PE.imp (pe_joined h.pj) fun σ H Q h => by
    obtain ⟨F, M, ρ, Φ, A, h, k⟩ := h
    exact js_run ts Str.empty σ H F M ρ Φ _ A h fun z H' F' M' l a q => k _ _ ⟨F', M', .str z, l, a, rfl, q⟩
end
end DL

namespace DL
open PySem PySem.Spec PyProof.Rows L2

def sp_law_deck : DSp := fun ds M Φ _ => ∃ ns : List Int, ds = [.scr ns] ∧ ∀ a c M', M.map a = none → M.map c = none → Dk M' a c (2 ^ 40) → Kp a c M M' → Φ (.ref a) M'
def sp_law_draw : DSp := fun ds M Φ _ => ∃ (a c : Addr) (k : Nat) (l : Int), ds = [.ref a, .int l] ∧ 1 ≤ l ∧ l < 2 ^ 30 ∧ Dk M a c (k + 1) ∧ ∀ (r : Int) M', Dk M' a c k → Kp a c M M' → 0 ≤ r → r < l → Φ (.int r) M'
def t_law_deck : DS := (sSeq (sRet (dLstM (dCons (dLcM (dSeq (dSl (dVar 0) dNoPart (dPart (dC (.int 63))))) (.nm 1) [1] dYes (dFn rAbs (dCons (dVar 1) dNil))) (dCons (dC (.int 0)) dNil)))) sNext)
def t_law_draw : DS := (sSeq (sSetI (dOp rAdd (dOp rIx (dVar 0) (dC (.int 1))) (dC (.int 1))) (dVar 0) (dC (.int 1))) (sSeq (sAsg (dTup (dCons (dC (.int 0)) (dCons (dUn rNeg (dC (.int 1))) dNil))) (.tp [(.nm 2), (.nm 3)])) (sSeq (sIf (dTest (dOp rGt (dFn rLen (dCons (dOp rIx (dVar 0) (dC (.int 0))) dNil)) (dC (.int 0)))) (sSeq (sAsg (dOp rMod (dOp rIx (dVar 0) (dC (.int 1))) (dFn rLen (dCons (dOp rIx (dVar 0) (dC (.int 0))) dNil))) (.nm 3)) (sSeq (sAsg (dOp rIx (dOp rIx (dVar 0) (dC (.int 0))) (dVar 3)) (.nm 2)) sNext)) sNext) (sSeq (sIf (dTest (dOp rGe (dVar 2) (dOp rPow (dC (.int 10)) (dC (.int 18))))) (sSeq (sSetI (dOp rDiv (dVar 2) (dVar 1)) (dOp rIx (dVar 0) (dC (.int 0))) (dVar 3)) (sSeq (sRet (dOp rMod (dVar 2) (dVar 1))) sNext)) sNext) (sSeq (sRet (dOp rMod (dOp rDiv (dOp rMod (dOp rPow (dOp rAdd (dOp rAdd (dOp rMod (dVar 2) (dC (.int 2147483587))) (dOp rMul (dC (.int 7919)) (dOp rIx (dVar 0) (dC (.int 1))))) (dC (.int 1))) (dC (.int 5))) (dC (.int 2147483647))) (dC (.int 7))) (dVar 1))) sNext)))))
theorem cutD63 (ns : List Int) : cutD (ns.map D.int) none (some 63) = (ns.take 63).map D.int := by
  unfold cutD
  rw [List.length_map, show HT.sIx ns.length 0 none = 0 from HT.sIx_none _ _, show HT.sIx ns.length ns.length (some 63) = min 63 ns.length from HT.sIx_nat ns.length ns.length 63]
  rw [List.drop_zero, Nat.sub_zero, ← List.map_take]
  congr 1
  rw [Nat.min_comm, List.take_eq_take_iff]
  omega
theorem p_law_deck (ds : List D) (M : MS) (Φ : DQ) (h : sp_law_deck ds M Φ noX) : t_law_deck { nx := fun _ M' => Φ .non M', rt := Φ } (startD 2 ds) M := by
  obtain ⟨ns, rfl, h⟩ := h
  simp only [t_law_deck, dLcM, sSeq, sRet, sRetN, sNext, sIf, sAsg, sPar, sPar3, sSetI, sAug, sAugI, sDrop, sBreak, sCont, dOp, dUn, dCons, dNil, dFn, dC, dTup, dLst, dLstM, dIf, dTest, dTru, dAnd, dOr, dNot, dAndV, dOrV, dNotE, dChain, dSl, dNoPart, dPart, dSeq, dEnum, dZip, dRng1, dRng2, dYes, dCall, dMt, dVar, dDic0, dDic1, Pat.put, Pat.puts, List.getElem?_cons_zero, List.getElem?_cons_succ, List.set_cons_zero, List.set_cons_succ, startD, List.map_cons, List.map_nil, List.cons_append, List.nil_append, List.length_cons, List.length_nil, List.replicate_succ, List.replicate_zero, Nat.reduceSub, Nat.reduceAdd, Nat.zero_add, wipeD, keyD, rSl, seqA]
  rw [cutD63]
  refine lcW_map (fun d => match d with | .int i => some (.int (if i < 0 then -i else i)) | d => some d) _ trivial (by simp; omega) (fun d hd => ?_) ?_
  · obtain ⟨i, _, rfl⟩ := List.mem_map.mp hd
    refine ⟨_, rfl, fun acc Nx hl q => ?_⟩
    simp only [sSeq, sRet, sRetN, sNext, sIf, sAsg, sPar, sPar3, sSetI, sAug, sAugI, sDrop, sBreak, sCont, dOp, dUn, dCons, dNil, dFn, dC, dTup, dLst, dLstM, dIf, dTest, dTru, dAnd, dOr, dNot, dAndV, dOrV, dNotE, dChain, dSl, dNoPart, dPart, dSeq, dEnum, dZip, dRng1, dRng2, dYes, dCall, dMt, dVar, dDic0, dDic1, Pat.put, Pat.puts, List.getElem?_cons_zero, List.getElem?_cons_succ, List.set_cons_zero, List.set_cons_succ, startD, List.map_cons, List.map_nil, List.cons_append, List.nil_append, List.length_cons, List.length_nil, List.replicate_succ, List.replicate_zero, Nat.reduceSub, Nat.reduceAdd, Nat.zero_add, wipeD, keyD, rAbs, if_true]
    exact ⟨hl, q⟩
  · intro c hc
    refine ⟨by decide, fun p hp => ?_⟩
    have hpc : p ≠ c := fun e => by subst e; rw [MS.put_same] at hp; cases hp
    rw [MS.put_ne hpc] at hp
    refine h p c _ hp hc ⟨hpc, 0, (ns.take 63).map fun i => if i < 0 then -i else i, MS.put_same, ?_, by decide, by decide, by simp; omega, fun x hx => ?_⟩ fun b h1 h2 h3 => ?_
    · rw [MS.put_ne (Ne.symm hpc), MS.put_same]
      congr 2
      rw [List.filterMap_map, List.map_map]
      exact (List.filterMap_eq_map (f := fun i : Int => D.int (if i < 0 then -i else i)) ▸ rfl)
    · obtain ⟨i, _, rfl⟩ := List.mem_map.mp hx
      split <;> omega
    · rw [MS.put_ne h1, MS.put_ne h2]
theorem draw_out {a c : Addr} {M M' : MS} {n : Int} {cells' : List Int} {k : Nat} (hac : a ≠ c) (hn0 : 0 ≤ n) (hn : n + ((k + 1 : Nat) : Int) ≤ 2 ^ 40) (h1 : M'.map a = some (.lst [.ref c, .int (n + 1)])) (h2 : M'.map c = some (.lst (cells'.map D.int))) (h3 : cells'.length ≤ 63) (h4 : ∀ x ∈ cells', 0 ≤ x)
    (h5 : ∀ b, b ≠ a → b ≠ c → M'.map b = M.map b) : Dk M' a c k ∧ Kp a c M M' :=
  ⟨⟨hac, n + 1, cells', h1, h2, by omega, by omega, h3, h4⟩, fun b x y _ => h5 b x y⟩
theorem mix_ok {x n l : Int} {M : MS} {Φ : DQ} (hx : 0 ≤ x) (hn0 : 0 ≤ n) (hn : n ≤ 2 ^ 40) (hl1 : 1 ≤ l) (h : ∀ r : Int, 0 ≤ r → r < l → Φ (.int r) M) :
    rMod (.int x) (.int 2147483587) M fun u M => rMul (.int 7919) (.int n) M fun v M => rAdd u v M fun w M => rAdd w (.int 1) M fun t M => rPow t (.int 5) M fun t M => rMod t (.int 2147483647) M fun t M => rDiv t (.int 7) M fun t M => rMod t (.int l) M Φ := by
  refine rMod_i (by decide) (rMul_i (.inl (by decide)) (rAdd_i (rAdd_i ?_)))
  have b1 : 0 ≤ x % 2147483587 := Int.emod_nonneg _ (by decide)
  have b2 : x % 2147483587 < 2147483587 := Int.emod_lt_of_pos _ (by decide)
  refine rPow_i ⟨by decide, by decide, by omega⟩ (rMod_i (by decide) (rDiv_i (by decide) (by decide) (rMod_i (by omega) ?_)))
  exact h _ (Int.emod_nonneg _ (by omega)) (Int.emod_lt_of_pos _ (by omega))
theorem p_law_draw (ds : List D) (M : MS) (Φ : DQ) (h : sp_law_draw ds M Φ noX) : t_law_draw { nx := fun _ M' => Φ .non M', rt := Φ } (startD 4 ds) M := by
  obtain ⟨a, c, k, l, rfl, hl1, hl2, hD, h⟩ := h
  obtain ⟨hac, n, cells, ha, hc, hn0, hn, hlen, hpos⟩ := hD
  simp only [t_law_draw, sSeq, sRet, sRetN, sNext, sIf, sAsg, sPar, sPar3, sSetI, sAug, sAugI, sDrop, sBreak, sCont, dOp, dUn, dCons, dNil, dFn, dC, dTup, dLst, dLstM, dIf, dTest, dTru, dAnd, dOr, dNot, dAndV, dOrV, dNotE, dChain, dSl, dNoPart, dPart, dSeq, dEnum, dZip, dRng1, dRng2, dYes, dCall, dMt, dVar, dDic0, dDic1, Pat.put, Pat.puts, List.getElem?_cons_zero, List.getElem?_cons_succ, List.set_cons_zero, List.set_cons_succ, startD, List.map_cons, List.map_nil, List.cons_append, List.nil_append, List.length_cons, List.length_nil, List.replicate_succ, List.replicate_zero, Nat.reduceSub, Nat.reduceAdd, Nat.zero_add, wipeD, keyD]
  refine rIx_seq (seqA_ref ha) (d := .int n) (by rw [at1]; rfl) (rAdd_i ?_)
  refine rSet_ref (n := 1) ha rfl ?_
  have ea : (M.put a (.lst [.ref c, .int (n + 1)])).map a = some (.lst [.ref c, .int (n + 1)]) := MS.put_same
  have ec : (M.put a (.lst [.ref c, .int (n + 1)])).map c = some (.lst (cells.map D.int)) := by rw [MS.put_ne (Ne.symm hac)]; exact hc
  have eb : ∀ b, b ≠ a → b ≠ c → (M.put a (.lst [.ref c, .int (n + 1)])).map b = M.map b := fun b x _ => MS.put_ne x
  show rNeg (.int 1) (M.put a (.lst [.ref c, .int (n + 1)])) _
  generalize M.put a (.lst [.ref c, .int (n + 1)]) = M1 at ea ec eb ⊢
  refine rNeg_i ⟨by decide, ?_⟩
  refine rIx_seq (seqA_ref ea) (d := .ref c) (by rw [at0]; rfl) ?_
  refine rLen_seq (fun z e => nomatch e) (seqA_ref ec) ?_
  simp only [List.length_map, rGt, rCmp]
  have tail : ∀ x : Int, 0 ≤ x → rMod (.int x) (.int 2147483587) M1 fun x M1 => rIx (.ref a) (.int 1) M1 fun y M2 => rMul (.int 7919) y M2 fun y M2 => rAdd x y M2 fun x M1 => rAdd x (.int 1) M1 fun x M1 => rPow x (.int 5) M1 fun x M1 => rMod x (.int 2147483647) M1 fun x M1 => rDiv x (.int 7) M1 fun x M1 => rMod x (.int l) M1 Φ := fun x hx => by
    have q := mix_ok (M := M1) (Φ := Φ) (l := l) (n := n + 1) hx (by omega) (by omega) hl1 fun r r0 r1 => by
      obtain ⟨d1, d2⟩ := draw_out hac hn0 hn ea ec hlen hpos eb
      exact h r M1 d1 d2 r0 r1
    refine ⟨by decide, rIx_seq (seqA_ref ea) (d := .int (n + 1)) (by rw [at1]; rfl) q.2⟩
  by_cases h0 : cells.length = 0
  · rw [if_neg (by rw [h0]; decide)]
    refine rPow_i ⟨by decide, by decide, by decide⟩ (rCmp_i ?_)
    dsimp only
    rw [if_neg (by decide)]
    exact tail 0 (by decide)
  · rw [if_pos (decide_eq_true (by omega))]
    refine rIx_seq (seqA_ref ea) (d := .int (n + 1)) (by rw [at1]; rfl) ?_
    refine rIx_seq (seqA_ref ea) (d := .ref c) (by rw [at0]; rfl) ?_
    refine rLen_seq (fun z e => nomatch e) (seqA_ref ec) ?_
    rw [List.length_map]
    refine rMod_i (by omega) ?_
    refine rIx_seq (seqA_ref ea) (d := .ref c) (by rw [at0]; rfl) ?_
    have m0 : 0 ≤ (n + 1) % (cells.length : Int) := Int.emod_nonneg _ (by omega)
    have m1 : (n + 1) % (cells.length : Int) < (cells.length : Int) := Int.emod_lt_of_pos _ (by omega)
    generalize hi : (n + 1) % (cells.length : Int) = i at m0 m1 ⊢
    have hj : i.toNat < cells.length := by omega
    have gx : cells[i.toNat]? = some cells[i.toNat] := List.getElem?_eq_getElem hj
    generalize hx : cells[i.toNat] = x at gx
    have px : 0 ≤ x := hpos x (hx ▸ List.getElem_mem hj)
    refine rIx_seq (seqA_ref ec) (d := .int x) (by rw [atI_t _ _ m0, List.getElem?_map, gx]; rfl) ?_
    refine rPow_i ⟨by decide, by decide, by decide⟩ (rCmp_i ?_)
    dsimp only
    split
    · refine rDiv_i (by omega) (by omega) ?_
      refine rIx_seq (seqA_ref ea) (d := .ref c) (by rw [at0]; rfl) ?_
      refine rSet_ref (n := i.toNat) ec (by rw [List.length_map]; exact ixN_t _ _ m0 m1) ?_
      refine rMod_i (by omega) ?_
      obtain ⟨d1, d2⟩ := draw_out (M := M) (M' := M1.put c (.lst ((cells.map D.int).set i.toNat (.int (x / l))))) (cells' := cells.set i.toNat (x / l)) hac hn0 hn (by rw [MS.put_ne hac]; exact ea) (by rw [MS.put_same, ← List.map_set]) (by rw [List.length_set]; exact hlen)
        (fun y hy => by
          rcases List.mem_or_eq_of_mem_set hy with z | z
          · exact hpos y z
          · rw [z]; exact Int.ediv_nonneg px (by omega)) (fun b x y => by rw [MS.put_ne y]; exact eb b x y)
      exact h _ _ d1 d2 (Int.emod_nonneg _ (by omega)) (Int.emod_lt_of_pos _ (by omega))
    · exact tail x px
end DL

namespace DL
open PySem PySem.Spec PyProof.Rows L2

/-! ### numbers, rows -/
def numD (d : D) (lo hi : Int) : Bool := match d with
  | .int i => decide (lo ≤ i) && decide (i ≤ hi)
  | _ => false
def sp_is_number : DSp := fun ds M Φ _ => ∃ d lo hi, ds = [d, .int lo, .int hi] ∧ still d = true ∧ Φ (.bl (numD d lo hi)) M
abbrev sp_law_is_number := sp_is_number
def t_is_number : DS := (sSeq (sRet (dAndV (dFn rIsi (dCons (dVar 0) (dCons (dC (.ty .int)) dNil))) (dAndV (dNotE (dFn rIsi (dCons (dVar 0) (dCons (dC (.ty .bool)) dNil)))) (dChain rLe rLe (dVar 1) (dVar 0) (dVar 2))))) sNext)
def t_law_is_number : DS := (sSeq (sRet (dAndV (dFn rIsi (dCons (dVar 0) (dCons (dC (.ty .int)) dNil))) (dAndV (dNotE (dFn rIsi (dCons (dVar 0) (dCons (dC (.ty .bool)) dNil)))) (dChain rLe rLe (dVar 1) (dVar 0) (dVar 2))))) sNext)
theorem run_num {d : D} {lo hi : Int} {M : MS} {Φ : DQ} (hd : still d = true) (q : Φ (.bl (numD d lo hi)) M) :
    dAndV (dFn rIsi (dCons (dVar 0) (dCons (dC (.ty .int)) dNil))) (dAndV (dNotE (dFn rIsi (dCons (dVar 0) (dCons (dC (.ty .bool)) dNil)))) (dChain rLe rLe (dVar 1) (dVar 0) (dVar 2))) [some d, some (.int lo), some (.int hi)] M Φ := by
  simp only [sSeq, sRet, sRetN, sNext, sIf, sAsg, sPar, sPar3, sSetI, sAug, sAugI, sDrop, sBreak, sCont, dOp, dUn, dCons, dNil, dFn, dC, dTup, dLst, dLstM, dIf, dTest, dTru, dAnd, dOr, dNot, dAndV, dOrV, dNotE, dChain, dSl, dNoPart, dPart, dSeq, dEnum, dZip, dRng1, dRng2, dYes, dCall, dMt, dVar, dDic0, dDic1, Pat.put, Pat.puts, List.getElem?_cons_zero, List.getElem?_cons_succ, List.set_cons_zero, List.set_cons_succ, startD, List.map_cons, List.map_nil, List.cons_append, List.nil_append, List.length_cons, List.length_nil, List.replicate_succ, List.replicate_zero, Nat.reduceSub, Nat.reduceAdd, Nat.zero_add, wipeD, keyD, rIsi]
  cases d with
  | int i =>
    simp only [tyD]
    refine ⟨by decide, ?_⟩
    simp only [show isaT .int .int = true from rfl, if_true]
    refine ⟨by decide, ?_⟩
    simp only [show isaT .int .bool = false from rfl, Bool.not_false, if_true, rLe, rCmp]
    by_cases h : lo ≤ i
    · rw [if_pos (decide_eq_true h)]
      simpa only [numD, decide_eq_true h, Bool.true_and] using q
    · rw [if_neg (by simpa using h)]
      simpa only [numD, decide_eq_false h, Bool.false_and] using q
  | bl b =>
    simp only [tyD]
    refine ⟨by decide, ?_⟩
    simp only [show isaT .bool .int = true from rfl, if_true]
    refine ⟨by decide, ?_⟩
    simp only [show isaT .bool .bool = true from rfl, Bool.not_true, Bool.false_eq_true, if_false]
    exact q
  | ref a => simp [still] at hd
  | scr a => simp [still] at hd
  | ty a => simp [still] at hd
  | _ =>
    simp only [tyD]
    refine ⟨by decide, ?_⟩
    first
      | (rw [show isaT .none .int = false from rfl, if_neg Bool.false_ne_true]; exact q)
      | (rw [show isaT .str .int = false from rfl, if_neg Bool.false_ne_true]; exact q)
      | (rw [show isaT .tuple .int = false from rfl, if_neg Bool.false_ne_true]; exact q)
      | (rw [show isaT .list .int = false from rfl, if_neg Bool.false_ne_true]; exact q)
      | (rw [show isaT .dict .int = false from rfl, if_neg Bool.false_ne_true]; exact q)
theorem p_is_number (ds : List D) (M : MS) (Φ : DQ) (h : sp_is_number ds M Φ noX) : t_is_number { nx := fun _ M' => Φ .non M', rt := Φ } (startD 3 ds) M := by
  obtain ⟨d, lo, hi, rfl, hd, q⟩ := h
  exact run_num hd q
theorem p_law_is_number (ds : List D) (M : MS) (Φ : DQ) (h : sp_law_is_number ds M Φ noX) : t_law_is_number { nx := fun _ M' => Φ .non M', rt := Φ } (startD 3 ds) M := by
  obtain ⟨d, lo, hi, rfl, hd, q⟩ := h
  exact run_num hd q

/-! ### the first error of a row -/
def errs : Int → List D → D
  | _, [] => .non
  | c, x :: xs => if numD x 0 50 = true then errs (c + 1) xs else .tup [.int c, .str "chairs"]
def errD (d : D) : D := match d with
  | .tup xs => if 2 ≤ xs.length ∧ xs.length ≤ 10 then errs 0 xs else .tup [.non, .str "row"]
  | _ => .tup [.non, .str "row"]
def sp_row_error : DSp := fun ds M Φ _ => ∃ d, ds = [d] ∧ still d = true ∧ Φ (errD d) M
abbrev sp_law_error := sp_row_error
def sp_is_row : DSp := fun ds M Φ _ => ∃ d, ds = [d] ∧ still d = true ∧ Φ (.bl (isN (errD d))) M
def t_row_error : DS := (sSeq (sIf (dOr (dNot (dTru (dFn rIsi (dCons (dVar 0) (dCons (dC (.ty .tuple)) dNil))))) (dNot (dTest (dChain rLe rLe (dC (.int 2)) (dFn rLen (dCons (dVar 0) dNil)) (dC (.int 10)))))) (sSeq (sRet (dTup (dCons (dC .non) (dCons (dC (.str "row")) dNil)))) sNext) sNext) (sSeq (sFor (dEnum 0 (dVar 0)) (.tp [(.nm 1), (.nm 2)]) (sSeq (sIf (dNot (dTru (dCall 3 sp_is_number (dCons (dVar 2) (dCons (dC (.int 0)) (dCons (dC (.int 50)) dNil)))))) (sSeq (sRet (dTup (dCons (dVar 1) (dCons (dC (.str "chairs")) dNil)))) sNext) sNext) sNext)) (sSeq (sRet (dC .non)) sNext)))
def t_law_error : DS := (sSeq (sIf (dOr (dNot (dTru (dFn rIsi (dCons (dVar 0) (dCons (dC (.ty .tuple)) dNil))))) (dOr (dTest (dOp rLt (dFn rLen (dCons (dVar 0) dNil)) (dC (.int 2)))) (dTest (dOp rGt (dFn rLen (dCons (dVar 0) dNil)) (dC (.int 10)))))) (sSeq (sRet (dTup (dCons (dC .non) (dCons (dC (.str "row")) dNil)))) sNext) sNext) (sSeq (sAsg (dLc (dRng1 (dFn rLen (dCons (dVar 0) dNil))) (.nm 2) [2] (dNot (dTru (dCall 3 sp_law_is_number (dCons (dOp rIx (dVar 0) (dVar 2)) (dCons (dC (.int 0)) (dCons (dC (.int 50)) dNil)))))) (dVar 2)) (.nm 1)) (sSeq (sRet (dIf (dTest (dOp rEq (dVar 1) (dLst dNil))) (dC .non) (dTup (dCons (dOp rIx (dVar 1) (dC (.int 0))) (dCons (dC (.str "chairs")) dNil))))) sNext)))
def t_is_row : DS := (sSeq (sRet (dOp (rIs false) (dCall 1 sp_row_error (dCons (dVar 0) dNil)) (dC .non))) sNext)
theorem stills_get {xs : List D} (h : stills xs = true) : ∀ {x : D}, x ∈ xs → still x = true := by
  induction xs with
  | nil => intro x hx; cases hx
  | cons y ys ih =>
    intro x hx
    simp only [stills, Bool.and_eq_true] at h
    rcases List.mem_cons.mp hx with rfl | hx
    · exact h.1
    · exact ih h.2 hx
theorem p_row_error (ds : List D) (M : MS) (Φ : DQ) (h : sp_row_error ds M Φ noX) : t_row_error { nx := fun _ M' => Φ .non M', rt := Φ } (startD 3 ds) M := by
  obtain ⟨d, rfl, hd, q⟩ := h
  simp only [t_row_error, sSeq, sRet, sRetN, sNext, sIf, sAsg, sPar, sPar3, sSetI, sAug, sAugI, sDrop, sBreak, sCont, dOp, dUn, dCons, dNil, dFn, dC, dTup, dLst, dLstM, dIf, dTest, dTru, dAnd, dOr, dNot, dAndV, dOrV, dNotE, dChain, dSl, dNoPart, dPart, dSeq, dEnum, dZip, dRng1, dRng2, dYes, dCall, dMt, dVar, dDic0, dDic1, Pat.put, Pat.puts, List.getElem?_cons_zero, List.getElem?_cons_succ, List.set_cons_zero, List.set_cons_succ, startD, List.map_cons, List.map_nil, List.cons_append, List.nil_append, List.length_cons, List.length_nil, List.replicate_succ, List.replicate_zero, Nat.reduceSub, Nat.reduceAdd, Nat.zero_add, wipeD, keyD]
  refine rIsi_tup hd ?_
  simp only [truD]
  cases d with
  | tup xs =>
    simp only [isTup, Bool.not_true, Bool.false_eq_true, if_false, rLen, seqA, rLe, rCmp]
    simp only [errD] at q
    have hs : stills xs = true := by simpa only [still] using hd
    by_cases h1 : 2 ≤ xs.length
    · rw [if_pos (decide_eq_true (by omega))]
      by_cases h2 : xs.length ≤ 10
      · rw [if_pos ⟨h1, h2⟩] at q
        simp only [decide_eq_true (show ((xs.length : Nat) : Int) ≤ 10 by omega), Bool.not_true, Bool.false_eq_true, if_false, sFor, dEnum, dVar, List.getElem?_cons_zero, seqA]
        suffices H : ∀ (ys : List D) (c : Int) (r1 r2 : Option D), stills ys = true → Φ (errs c ys) M → forW (fun _ => True) (.tp [.nm 1, .nm 2]) (sSeq (sIf (dNot (dTru (dCall 3 sp_is_number (dCons (dVar 2) (dCons (dC (.int 0)) (dCons (dC (.int 50)) dNil)))))) (sSeq (sRet (dTup (dCons (dVar 1) (dCons (dC (.str "chairs")) dNil)))) sNext) sNext) sNext)
          { nx := fun ρ M => Φ .non M, rt := Φ } (enumD c ys) [some (.tup xs), r1, r2] M by
          exact H xs 0 none none hs q
        intro ys
        induction ys with
        | nil => intro c r1 r2 _ q; exact ⟨trivial, q⟩
        | cons y ys ih =>
          intro c r1 r2 hy q
          simp only [stills, Bool.and_eq_true] at hy
          refine ⟨trivial, ?_⟩
          simp only [sSeq, sRet, sRetN, sNext, sIf, sAsg, sPar, sPar3, sSetI, sAug, sAugI, sDrop, sBreak, sCont, dOp, dUn, dCons, dNil, dFn, dC, dTup, dLst, dLstM, dIf, dTest, dTru, dAnd, dOr, dNot, dAndV, dOrV, dNotE, dChain, dSl, dNoPart, dPart, dSeq, dEnum, dZip, dRng1, dRng2, dYes, dCall, dMt, dVar, dDic0, dDic1, Pat.put, Pat.puts, List.getElem?_cons_zero, List.getElem?_cons_succ, List.set_cons_zero, List.set_cons_succ, startD, List.map_cons, List.map_nil, List.cons_append, List.nil_append, List.length_cons, List.length_nil, List.replicate_succ, List.replicate_zero, Nat.reduceSub, Nat.reduceAdd, Nat.zero_add, wipeD, keyD]
          refine ⟨trivial, y, 0, 50, rfl, hy.1, ?_⟩
          simp only [truD]
          simp only [errs] at q
          cases hn : numD y 0 50 with
          | true => rw [hn, if_pos rfl] at q; rw [if_neg (by decide)]; exact ih _ _ _ hy.2 q
          | false => rw [hn, if_neg Bool.false_ne_true] at q; rw [if_pos (by decide)]; exact ⟨by decide, q⟩
      · rw [if_neg (fun z => h2 z.2)] at q
        simp only [decide_eq_false (show ¬ ((xs.length : Nat) : Int) ≤ 10 by omega), Bool.not_false, if_true]
        exact ⟨by decide, q⟩
    · rw [if_neg (fun z => h1 z.1)] at q
      rw [if_neg (by simp; omega)]
      simp only [Bool.not_false, if_true]
      exact ⟨by decide, q⟩
  | _ => exact ⟨by decide, q⟩
theorem p_is_row (ds : List D) (M : MS) (Φ : DQ) (h : sp_is_row ds M Φ noX) : t_is_row { nx := fun _ M' => Φ .non M', rt := Φ } (startD 1 ds) M := by
  obtain ⟨d, rfl, hd, q⟩ := h
  simp only [t_is_row, sSeq, sRet, sRetN, sNext, sIf, sAsg, sPar, sPar3, sSetI, sAug, sAugI, sDrop, sBreak, sCont, dOp, dUn, dCons, dNil, dFn, dC, dTup, dLst, dLstM, dIf, dTest, dTru, dAnd, dOr, dNot, dAndV, dOrV, dNotE, dChain, dSl, dNoPart, dPart, dSeq, dEnum, dZip, dRng1, dRng2, dYes, dCall, dMt, dVar, dDic0, dDic1, Pat.put, Pat.puts, List.getElem?_cons_zero, List.getElem?_cons_succ, List.set_cons_zero, List.set_cons_succ, startD, List.map_cons, List.map_nil, List.cons_append, List.nil_append, List.length_cons, List.length_nil, List.replicate_succ, List.replicate_zero, Nat.reduceSub, Nat.reduceAdd, Nat.zero_add, wipeD, keyD]
  exact ⟨trivial, d, rfl, hd, q⟩
/-! the law's own: the places of the wrong ones -/
def wrongI : Int → List D → List Int
  | _, [] => []
  | c, x :: xs => if numD x 0 50 = true then wrongI (c + 1) xs else c :: wrongI (c + 1) xs
theorem errs_wrong : ∀ (xs : List D) (c : Int), errs c xs = match wrongI c xs with
    | [] => .non
    | k :: _ => .tup [.int k, .str "chairs"]
  | [], _ => rfl
  | x :: xs, c => by
    simp only [errs, wrongI]
    cases numD x 0 50 with
    | true => simp only [if_true]; exact errs_wrong xs (c + 1)
    | false => simp only [Bool.false_eq_true, if_false]
theorem rangeD_succ (lo : Int) (n : Nat) : rangeD lo (n + 1) = .int lo :: rangeD (lo + 1) n := by
  unfold rangeD
  rw [List.range_succ_eq_map, List.map_cons, List.map_map]
  congr 1
  · simp
  · refine List.map_congr_left fun i _ => ?_
    simp only [Function.comp]
    congr 1
    omega
theorem rangeD_length (lo : Int) (n : Nat) : (rangeD lo n).length = n := by simp [rangeD]
theorem rangeD_mem {lo : Int} {n : Nat} {d : D} (h : d ∈ rangeD lo n) : ∃ i : Int, d = .int i ∧ lo ≤ i ∧ i < lo + n := by
  obtain ⟨k, hk, rfl⟩ := List.mem_map.mp h
  have := List.mem_range.mp hk
  exact ⟨_, rfl, by omega, by omega⟩
def wrongF (xs : List D) (d : D) : Option D := match d with
  | .int i => (match xs[i.toNat]? with
    | some x => if numD x 0 50 = true then none else some d
    | none => none)
  | _ => none
theorem wrong_eq (xs : List D) : ∀ (ys pre : List D), xs = pre ++ ys → (rangeD (pre.length : Nat) ys.length).filterMap (wrongF xs) = (wrongI (pre.length : Nat) ys).map D.int
  | [], pre, _ => rfl
  | y :: ys, pre, e => by
    have ih := wrong_eq xs ys (pre ++ [y]) (by rw [e]; simp)
    rw [List.length_append, List.length_cons, List.length_nil, Nat.zero_add] at ih
    rw [List.length_cons, rangeD_succ, List.filterMap_cons]
    have e1 : ((pre.length + 1 : Nat) : Int) = (pre.length : Int) + 1 := by omega
    rw [e1] at ih
    have g : xs[((pre.length : Nat) : Int).toNat]? = some y := by
      rw [e, Int.toNat_natCast, List.getElem?_append_right (Nat.le_refl _)]; simp
    have fe : wrongF xs (.int (pre.length : Nat)) = if numD y 0 50 = true then none else some (.int (pre.length : Nat)) := by
      unfold wrongF
      dsimp only
      rw [g]
    rw [fe]
    simp only [wrongI]
    cases numD y 0 50 with
    | true => simp only [if_true]; exact ih
    | false => simp only [Bool.false_eq_true, if_false, List.map_cons]; rw [ih]
theorem plains_ints : ∀ ns : List Int, plains (ns.map D.int) = true
  | [] => rfl
  | n :: ns => by simp only [List.map_cons, plains, plain, plains_ints ns, Bool.and_self]
theorem deps_ints : ∀ ns : List Int, deps (ns.map D.int) = 0
  | [] => rfl
  | n :: ns => by simp only [List.map_cons, deps, dep, deps_ints ns, Nat.max_self]
theorem p_law_error (ds : List D) (M : MS) (Φ : DQ) (h : sp_law_error ds M Φ noX) : t_law_error { nx := fun _ M' => Φ .non M', rt := Φ } (startD 3 ds) M := by
  obtain ⟨d, rfl, hd, q⟩ := h
  simp only [t_law_error, sSeq, sRet, sRetN, sNext, sIf, sAsg, sPar, sPar3, sSetI, sAug, sAugI, sDrop, sBreak, sCont, dOp, dUn, dCons, dNil, dFn, dC, dTup, dLst, dLstM, dIf, dTest, dTru, dAnd, dOr, dNot, dAndV, dOrV, dNotE, dChain, dSl, dNoPart, dPart, dSeq, dEnum, dZip, dRng1, dRng2, dYes, dCall, dMt, dVar, dDic0, dDic1, Pat.put, Pat.puts, List.getElem?_cons_zero, List.getElem?_cons_succ, List.set_cons_zero, List.set_cons_succ, startD, List.map_cons, List.map_nil, List.cons_append, List.nil_append, List.length_cons, List.length_nil, List.replicate_succ, List.replicate_zero, Nat.reduceSub, Nat.reduceAdd, Nat.zero_add, wipeD, keyD]
  refine rIsi_tup hd ?_
  simp only [truD]
  cases d with
  | tup xs =>
    simp only [isTup, Bool.not_true, Bool.false_eq_true, if_false, rLen, seqA, rLt, rGt, rCmp]
    simp only [errD] at q
    have hs : stills xs = true := by simpa only [still] using hd
    by_cases h1 : 2 ≤ xs.length
    · simp only [decide_eq_false (show ¬ ((xs.length : Nat) : Int) < 2 by omega), Bool.false_eq_true, if_false]
      by_cases h2 : xs.length ≤ 10
      · rw [if_pos ⟨h1, h2⟩, errs_wrong] at q
        simp only [decide_eq_false (show ¬ (10 : Int) < ((xs.length : Nat) : Int) by omega), Bool.false_eq_true, if_false, dLc, sSeq, sRet, sRetN, sNext, sIf, sAsg, sPar, sPar3, sSetI, sAug, sAugI, sDrop, sBreak, sCont, dOp, dUn, dCons, dNil, dFn, dC, dTup, dLst, dLstM, dIf, dTest, dTru, dAnd, dOr, dNot, dAndV, dOrV, dNotE, dChain, dSl, dNoPart, dPart, dSeq, dEnum, dZip, dRng1, dRng2, dYes, dCall, dMt, dVar, dDic0, dDic1, Pat.put, Pat.puts, List.getElem?_cons_zero, List.getElem?_cons_succ, List.set_cons_zero, List.set_cons_succ, startD, List.map_cons, List.map_nil, List.cons_append, List.nil_append, List.length_cons, List.length_nil, List.replicate_succ, List.replicate_zero, Nat.reduceSub, Nat.reduceAdd, Nat.zero_add, wipeD, keyD, rLen, seqA]
        refine ⟨by omega, by omega, ?_⟩
        refine lcW_map (wrongF xs) _ trivial (by rw [rangeD_length]; omega) (fun x hx => ?_) ?_
        · obtain ⟨i, rfl, i0, i1⟩ := rangeD_mem hx
          refine ⟨_, rfl, fun acc Nx hl k => ?_⟩
          simp only [sSeq, sRet, sRetN, sNext, sIf, sAsg, sPar, sPar3, sSetI, sAug, sAugI, sDrop, sBreak, sCont, dOp, dUn, dCons, dNil, dFn, dC, dTup, dLst, dLstM, dIf, dTest, dTru, dAnd, dOr, dNot, dAndV, dOrV, dNotE, dChain, dSl, dNoPart, dPart, dSeq, dEnum, dZip, dRng1, dRng2, dYes, dCall, dMt, dVar, dDic0, dDic1, Pat.put, Pat.puts, List.getElem?_cons_zero, List.getElem?_cons_succ, List.set_cons_zero, List.set_cons_succ, startD, List.map_cons, List.map_nil, List.cons_append, List.nil_append, List.length_cons, List.length_nil, List.replicate_succ, List.replicate_zero, Nat.reduceSub, Nat.reduceAdd, Nat.zero_add, wipeD, keyD]
          have hi : i.toNat < xs.length := by omega
          have g : xs[i.toNat]? = some xs[i.toNat] := List.getElem?_eq_getElem hi
          refine rIx_seq (x := .tup xs) rfl (d := xs[i.toNat]) (by rw [atI_t _ _ i0, g]) ⟨trivial, _, 0, 50, rfl, stills_get hs (List.getElem_mem hi), ?_⟩
          simp only [truD]
          have fe : wrongF xs (.int i) = if numD xs[i.toNat] 0 50 = true then none else some (.int i) := by
            unfold wrongF
            dsimp only
            rw [g]
          rw [fe] at k
          cases hn : numD xs[i.toNat] 0 50 with
          | true =>
            rw [hn, if_pos rfl] at k
            rw [if_neg (by decide)]
            simpa using k
          | false =>
            rw [hn, if_neg Bool.false_ne_true] at k
            rw [if_pos (by decide)]
            exact ⟨hl, by simpa using k⟩
        · have e := wrong_eq xs xs [] rfl
          have e' : (rangeD 0 (((xs.length : Nat) : Int)).toNat).filterMap (wrongF xs) = (wrongI 0 xs).map D.int := by
            rw [Int.toNat_natCast]; exact e
          rw [e']
          refine ⟨by decide, rEq_still (by simp only [plain]; exact plains_ints _) (by simp only [dep, deps_ints]; decide) rfl (by decide) ?_⟩
          dsimp only
          cases hw : wrongI 0 xs with
          | nil =>
            rw [hw] at q
            rw [if_pos (by rfl)]
            exact q
          | cons k ks =>
            rw [hw] at q
            rw [if_neg (by simp only [List.map_cons, eqd, eqds]; decide)]
            exact rIx_seq (x := .lst (D.int k :: ks.map D.int)) rfl (d := .int k) (by rw [at0]; rfl) ⟨by decide, q⟩
      · rw [if_neg (fun z => h2 z.2)] at q
        simp only [decide_eq_true (show (10 : Int) < ((xs.length : Nat) : Int) by omega), if_true]
        exact ⟨by decide, q⟩
    · rw [if_neg (fun z => h1 z.1)] at q
      simp only [decide_eq_true (show ((xs.length : Nat) : Int) < 2 by omega), if_true]
      exact ⟨by decide, q⟩
  | _ => exact ⟨by decide, q⟩
end DL

namespace DL
open PySem PySem.Spec PyProof.Rows L2

theorem use_draw {M : MS} {Φ : DQ} {a c : Addr} {k : Nat} {l : Int} (hD : Dk M a c (k + 1)) (h1 : 1 ≤ l) (h2 : l < 2 ^ 30) (h : ∀ (r : Int) M', Dk M' a c k → Kp a c M M' → 0 ≤ r → r < l → Φ (.int r) M') : True ∧ sp_law_draw [.ref a, .int l] M Φ noX :=
  ⟨trivial, a, c, k, l, rfl, h1, h2, hD, h⟩
def sp_law_same : DSp := fun ds M Φ _ => ∃ x y w, ds = [x, y] ∧ Fine x w ∧ Fine y w ∧ w ≤ 16000000 ∧ Φ (.bl (rpr x == rpr y)) M
def intsIn (ns : List Int) (hi : Int) : Prop := ∀ n ∈ ns, 0 ≤ n ∧ n ≤ hi
def sp_law_row : DSp := fun ds M Φ _ => ∃ (a c : Addr) (k : Nat) (m h : Int), ds = [.ref a, .int m, .int h] ∧ 2 ≤ m ∧ m ≤ 10 ∧ 0 ≤ h ∧ h < 1000 ∧ Dk M a c (k + 30) ∧
  ∀ (ns : List Int) M', Dk M' a c k → Kp a c M M' → 2 ≤ ns.length → (ns.length : Int) ≤ m → intsIn ns h → Φ (.tup (ns.map D.int)) M'
def t_law_same : DS := (sSeq (sRet (dOp rEq (dFn rRepr (dCons (dVar 0) dNil)) (dFn rRepr (dCons (dVar 1) dNil)))) sNext)
def t_law_row : DS := (sSeq (sAsg (dOp rIx (dLst (dCons (dOp rAdd (dC (.int 2)) (dCall 2 sp_law_draw (dCons (dVar 0) (dCons (dOp rSub (dVar 1) (dC (.int 1))) dNil)))) (dCons (dVar 1) dNil))) (dCall 2 sp_law_draw (dCons (dVar 0) (dCons (dC (.int 2)) dNil)))) (.nm 3)) (sSeq (sRet (dFn rTuple (dCons (dLc (dRng1 (dVar 3)) (.nm 4) [4] dYes (dOp rMul (dCall 2 sp_law_draw (dCons (dVar 0) (dCons (dOp rAdd (dVar 2) (dC (.int 1))) dNil))) (dOp rIx (dLst (dCons (dC (.int 1)) (dCons (dC (.int 0)) (dCons (dFn rInt (dCons (dOp rEq (dVar 4) (dC (.int 0))) dNil)) dNil)))) (dCall 2 sp_law_draw (dCons (dVar 0) (dCons (dC (.int 3)) dNil)))))) dNil))) sNext))
theorem p_law_same (ds : List D) (M : MS) (Φ : DQ) (h : sp_law_same ds M Φ noX) : t_law_same { nx := fun _ M' => Φ .non M', rt := Φ } (startD 2 ds) M := by
  obtain ⟨x, y, w, rfl, hx, hy, hw, q⟩ := h
  simp only [t_law_same, sSeq, sRet, sRetN, sNext, sIf, sAsg, sPar, sPar3, sSetI, sAug, sAugI, sDrop, sBreak, sCont, dOp, dUn, dCons, dNil, dFn, dC, dTup, dLst, dLstM, dIf, dTest, dTru, dAnd, dOr, dNot, dAndV, dOrV, dNotE, dChain, dSl, dNoPart, dPart, dSeq, dEnum, dZip, dRng1, dRng2, dYes, dCall, dMt, dVar, dDic0, dDic1, Pat.put, Pat.puts, List.getElem?_cons_zero, List.getElem?_cons_succ, List.set_cons_zero, List.set_cons_succ, startD, List.map_cons, List.map_nil, List.cons_append, List.nil_append, List.length_cons, List.length_nil, List.replicate_succ, List.replicate_zero, Nat.reduceSub, Nat.reduceAdd, Nat.zero_add, wipeD, keyD]
  exact repr_fine hx hw (repr_fine hy hw (rEq_s q))
theorem p_law_row (ds : List D) (M : MS) (Φ : DQ) (h : sp_law_row ds M Φ noX) : t_law_row { nx := fun _ M' => Φ .non M', rt := Φ } (startD 5 ds) M := by
  obtain ⟨a, c, k, m, hi, rfl, hm1, hm2, hh1, hh2, hD, h⟩ := h
  simp only [t_law_row, sSeq, sRet, sRetN, sNext, sIf, sAsg, sPar, sPar3, sSetI, sAug, sAugI, sDrop, sBreak, sCont, dOp, dUn, dCons, dNil, dFn, dC, dTup, dLst, dLstM, dIf, dTest, dTru, dAnd, dOr, dNot, dAndV, dOrV, dNotE, dChain, dSl, dNoPart, dPart, dSeq, dEnum, dZip, dRng1, dRng2, dYes, dCall, dMt, dVar, dDic0, dDic1, Pat.put, Pat.puts, List.getElem?_cons_zero, List.getElem?_cons_succ, List.set_cons_zero, List.set_cons_succ, startD, List.map_cons, List.map_nil, List.cons_append, List.nil_append, List.length_cons, List.length_nil, List.replicate_succ, List.replicate_zero, Nat.reduceSub, Nat.reduceAdd, Nat.zero_add, wipeD, keyD]
  refine rSub_i ?_
  refine use_draw (hD : Dk M a c (k + 29 + 1)) (by omega) (by omega) fun r M1 hD1 hK1 r0 r1 => rAdd_i ?_
  refine ⟨by decide, ?_⟩
  refine use_draw (hD1 : Dk M1 a c (k + 28 + 1)) (by decide) (by decide) fun r' M2 hD2 hK2 r0' r1' => ?_
  obtain ⟨n, hn1, hn2, hn⟩ : ∃ n : Int, 2 ≤ n ∧ n ≤ m ∧ atI [D.int (2 + r), D.int m] r' = some (.int n) := by
    by_cases h0 : r' = 0
    · subst h0
      exact ⟨2 + r, by omega, by omega, by rw [at0]; rfl⟩
    · obtain rfl : r' = 1 := by omega
      exact ⟨m, by omega, by omega, by rw [at1]; rfl⟩
  refine rIx_seq (x := .lst _) rfl hn ?_
  simp only [dLc, sSeq, sRet, sRetN, sNext, sIf, sAsg, sPar, sPar3, sSetI, sAug, sAugI, sDrop, sBreak, sCont, dOp, dUn, dCons, dNil, dFn, dC, dTup, dLst, dLstM, dIf, dTest, dTru, dAnd, dOr, dNot, dAndV, dOrV, dNotE, dChain, dSl, dNoPart, dPart, dSeq, dEnum, dZip, dRng1, dRng2, dYes, dCall, dMt, dVar, dDic0, dDic1, Pat.put, Pat.puts, List.getElem?_cons_zero, List.getElem?_cons_succ, List.set_cons_zero, List.set_cons_succ, startD, List.map_cons, List.map_nil, List.cons_append, List.nil_append, List.length_cons, List.length_nil, List.replicate_succ, List.replicate_zero, Nat.reduceSub, Nat.reduceAdd, Nat.zero_add, wipeD, keyD]
  refine ⟨by omega, by omega, ?_⟩
  refine lcW_inv (fun ds acc M' => ∃ ns : List Int, acc = ns.map D.int ∧ Dk M' a c (k + 2 * ds.length) ∧ Kp a c M M' ∧ intsIn ns hi ∧ ns.length + ds.length = n.toNat ∧ ∀ d ∈ ds, ∃ i : Int, d = .int i) (fun _ _ _ _ => trivial) (fun acc M' q => ?_) (fun d ds acc M' Nx q nx => ?_) _ _ _
    ⟨[], rfl, hD2.mono (by rw [rangeD_length]; omega), hK1.trans hK2, fun _ z => by (cases z), by rw [rangeD_length]; simp, fun d hd => by obtain ⟨i, e, _⟩ := rangeD_mem hd; exact ⟨i, e⟩⟩
  · obtain ⟨ns, rfl, q1, q2, q3, q4, _⟩ := q
    simp only [rTuple, seqA]
    have q4' : ns.length = n.toNat := by simpa using q4
    exact h ns M' (q1.mono (by simp)) q2 (by omega) (by omega) q3
  · obtain ⟨ns, rfl, q1, q2, q3, q4, q5⟩ := q
    obtain ⟨i, rfl⟩ := q5 d (List.mem_cons_self ..)
    refine ⟨_, rfl, ?_⟩
    simp only [sSeq, sRet, sRetN, sNext, sIf, sAsg, sPar, sPar3, sSetI, sAug, sAugI, sDrop, sBreak, sCont, dOp, dUn, dCons, dNil, dFn, dC, dTup, dLst, dLstM, dIf, dTest, dTru, dAnd, dOr, dNot, dAndV, dOrV, dNotE, dChain, dSl, dNoPart, dPart, dSeq, dEnum, dZip, dRng1, dRng2, dYes, dCall, dMt, dVar, dDic0, dDic1, Pat.put, Pat.puts, List.getElem?_cons_zero, List.getElem?_cons_succ, List.set_cons_zero, List.set_cons_succ, startD, List.map_cons, List.map_nil, List.cons_append, List.nil_append, List.length_cons, List.length_nil, List.replicate_succ, List.replicate_zero, Nat.reduceSub, Nat.reduceAdd, Nat.zero_add, wipeD, keyD, if_true]
    have q4' : ns.length + (ds.length + 1) = n.toNat := by simpa using q4
    refine rAdd_i ?_
    refine use_draw (k := k + 2 * ds.length + 1) (q1.mono (by simp; omega)) (by omega) (by omega) fun r3 M3 hD3 hK3 s0 s1 => rEq_i ?_
    simp only [rInt]
    refine ⟨by decide, ?_⟩
    refine use_draw hD3 (by decide) (by decide) fun r4 M4 hD4 hK4 t0 t1 => ?_
    obtain ⟨e, he1, he2, he⟩ : ∃ e : Int, 0 ≤ e ∧ e ≤ 1 ∧ atI [D.int 1, D.int 0, D.int (b2 (i == 0))] r4 = some (.int e) := by
      by_cases h0 : r4 = 0
      · subst h0; exact ⟨1, by decide, by decide, by rw [at0]; rfl⟩
      · by_cases h1 : r4 = 1
        · subst h1; exact ⟨0, by decide, by decide, by rw [at1]; rfl⟩
        · obtain rfl : r4 = 2 := by omega
          refine ⟨b2 (i == 0), ?_, ?_, by rw [at2]; rfl⟩ <;> cases (i == 0) <;> decide
    refine rIx_seq (x := .lst _) rfl he (rMul_i (.inl (by omega)) ⟨by simp; omega, nx _ _ ⟨ns ++ [r3 * e], by simp, hD4, (q2.trans hK3).trans hK4, fun x hx => ?_, by simp; omega, fun d hd => q5 d (List.mem_cons_of_mem _ hd)⟩⟩)
    rcases List.mem_append.mp hx with z | z
    · exact q3 x z
    · rw [List.mem_singleton.mp z]
      have : e = 0 ∨ e = 1 := by omega
      rcases this with rfl | rfl
      · simp; omega
      · simp; omega
end DL

namespace DL
open PySem PySem.Spec PyProof.Rows L2

/-! ### odd values -/
def odds : List D := [.non, .bl true, .bl false, .int (-1), .int 0, .int 1, .int 10, .int 50, .int 51, .int (10 ^ 39), .str "", .str "0", .tup [], .lst [], .dic [] [], .tup [.int 0], .lst [.int 0, .int 1], .tup [.bl true], .tup [.int 0, .int 1],
  .tup [.tup [.int 0, .int 1]], .tup [.tup []], .tup [.int 1, .int 0], .tup [.int 0, .int 0], .dic [.inr "a"] [.int 0]]
def fineB (d : D) (n w : Nat) : Bool := still d && decide (dep d ≤ n) && okl d && decide (wt d ≤ w) && (!hasDic d || noLst d)
theorem fine_of {d : D} {n w : Nat} (h : fineB d n w = true) (hn : n ≤ 30) : Fine d w := by
  unfold fineB at h
  simp only [Bool.and_eq_true, decide_eq_true_eq, Bool.or_eq_true, Bool.not_eq_true'] at h
  obtain ⟨⟨⟨⟨h1, h2⟩, h3⟩, h4⟩, h5⟩ := h
  exact ⟨h1, by omega, h3, h4, fun z => h5.resolve_left (by rw [z]; simp)⟩
theorem odds_all : (odds.all fun d => fineB d 3 10000) = true := by decide +kernel
theorem odds_fine {d : D} (h : d ∈ odds) : fineB d 3 10000 = true := List.all_eq_true.mp odds_all d h
def sp_law_odd : DSp := fun ds M Φ _ => ∃ (a c : Addr) (k : Nat), ds = [.ref a] ∧ Dk M a c (k + 1) ∧ ∀ (d : D) M', Dk M' a c k → Kp a c M M' → d ∈ odds → Φ d M'
def t_law_odd : DS := (sSeq (sAsg (dLst (dCons (dC .non) (dCons (dC (.bl true)) (dCons (dC (.bl false)) (dCons (dUn rNeg (dC (.int 1))) (dCons (dC (.int 0)) (dCons (dC (.int 1)) (dCons (dC (.int 10)) (dCons (dC (.int 50)) (dCons (dC (.int 51)) (dCons (dOp rPow (dC (.int 10)) (dC (.int 39))) (dCons (dC (.str "")) (dCons (dC (.str "0")) (dCons (dTup dNil) (dCons (dLst dNil) (dCons dDic0 (dCons (dTup (dCons (dC (.int 0)) dNil)) (dCons (dLst (dCons (dC (.int 0)) (dCons (dC (.int 1)) dNil))) (dCons (dTup (dCons (dC (.bl true)) dNil)) (dCons (dTup (dCons (dC (.int 0)) (dCons (dC (.int 1)) dNil))) dNil)))))))))))))))))))) (.nm 1)) (sSeq (sRet (dOp rIx (dOp rAdd (dVar 1) (dLst (dCons (dTup (dCons (dTup (dCons (dC (.int 0)) (dCons (dC (.int 1)) dNil))) dNil)) (dCons (dTup (dCons (dTup dNil) dNil)) (dCons (dTup (dCons (dC (.int 1)) (dCons (dC (.int 0)) dNil))) (dCons (dTup (dCons (dC (.int 0)) (dCons (dC (.int 0)) dNil))) (dCons (dDic1 (dC (.str "a")) (dC (.int 0))) dNil))))))) (dCall 2 sp_law_draw (dCons (dVar 0) (dCons (dC (.int 24)) dNil))))) sNext))
theorem p_law_odd (ds : List D) (M : MS) (Φ : DQ) (h : sp_law_odd ds M Φ noX) : t_law_odd { nx := fun _ M' => Φ .non M', rt := Φ } (startD 2 ds) M := by
  obtain ⟨a, c, k, rfl, hD, h⟩ := h
  simp only [t_law_odd, sSeq, sRet, sRetN, sNext, sIf, sAsg, sPar, sPar3, sSetI, sAug, sAugI, sDrop, sBreak, sCont, dOp, dUn, dCons, dNil, dFn, dC, dTup, dLst, dLstM, dIf, dTest, dTru, dAnd, dOr, dNot, dAndV, dOrV, dNotE, dChain, dSl, dNoPart, dPart, dSeq, dEnum, dZip, dRng1, dRng2, dYes, dCall, dMt, dVar, dDic0, dDic1, Pat.put, Pat.puts, List.getElem?_cons_zero, List.getElem?_cons_succ, List.set_cons_zero, List.set_cons_succ, startD, List.map_cons, List.map_nil, List.cons_append, List.nil_append, List.length_cons, List.length_nil, List.replicate_succ, List.replicate_zero, Nat.reduceSub, Nat.reduceAdd, Nat.zero_add, wipeD, keyD, rNeg, rPow, rAdd, seqL, Nat.reduceLeDiff, true_and, show CPow 10 39 from ⟨by decide, by decide, by decide⟩]
  refine ⟨a, c, k, 24, rfl, by decide, by decide, hD, fun r M1 hD1 hK1 r0 r1 => ?_⟩
  have hr : r.toNat < odds.length := by
    have : odds.length = 24 := rfl
    omega
  exact rIx_seq (x := .lst odds) rfl (d := odds[r.toNat]) (by rw [atI_t _ _ r0, List.getElem?_eq_getElem hr]) (h _ _ hD1 hK1 (List.getElem_mem hr))

/-! ### lists of fine ones -/
structure FL (xs : List D) (n w : Nat) : Prop where
  st : stills xs = true
  dp : deps xs ≤ n
  ok : okls xs = true
  wt : wts xs ≤ w
  dc : hasDics xs = true → noLsts xs = true
structure Ne (xs : List D) : Prop where
  nl : noLsts xs = true
  nd : hasDics xs = false
theorem stills_app : ∀ xs ys : List D, stills (xs ++ ys) = (stills xs && stills ys)
  | [], _ => by simp [stills]
  | x :: xs, ys => by simp only [List.cons_append, stills, stills_app xs ys, Bool.and_assoc]
theorem deps_app : ∀ xs ys : List D, deps (xs ++ ys) = max (deps xs) (deps ys)
  | [], _ => by simp [deps]
  | x :: xs, ys => by simp only [List.cons_append, deps, deps_app xs ys, Nat.max_assoc]
theorem okls_app : ∀ xs ys : List D, okls (xs ++ ys) = (okls xs && okls ys)
  | [], _ => by simp [okls]
  | x :: xs, ys => by simp only [List.cons_append, okls, okls_app xs ys, Bool.and_assoc]
theorem wts_app : ∀ xs ys : List D, wts (xs ++ ys) = wts xs + wts ys
  | [], _ => by simp [wts]
  | x :: xs, ys => by simp only [List.cons_append, wts, wts_app xs ys]; omega
theorem hasDics_app : ∀ xs ys : List D, hasDics (xs ++ ys) = (hasDics xs || hasDics ys)
  | [], _ => by simp [hasDics]
  | x :: xs, ys => by simp only [List.cons_append, hasDics, hasDics_app xs ys, Bool.or_assoc]
theorem noLsts_app : ∀ xs ys : List D, noLsts (xs ++ ys) = (noLsts xs && noLsts ys)
  | [], _ => by simp [noLsts]
  | x :: xs, ys => by simp only [List.cons_append, noLsts, noLsts_app xs ys, Bool.and_assoc]
theorem FL.app {xs ys : List D} {n w w' : Nat} (h : FL xs n w) (h' : FL ys n w') (hn : Ne xs ∨ Ne ys) : FL (xs ++ ys) n (w + w') := by
  refine ⟨by rw [stills_app, h.st, h'.st]; rfl, by rw [deps_app]; have := h.dp; have := h'.dp; omega, by rw [okls_app, h.ok, h'.ok]; rfl, by rw [wts_app]; have := h.wt; have := h'.wt; omega, fun z => ?_⟩
  rw [hasDics_app] at z
  rw [noLsts_app]
  rcases hn with e | e
  · rw [e.nd, Bool.false_or] at z
    rw [e.nl, h'.dc z]; rfl
  · rw [e.nd, Bool.or_false] at z
    rw [e.nl, h.dc z]; rfl
theorem Ne.app {xs ys : List D} (h : Ne xs) (h' : Ne ys) : Ne (xs ++ ys) := ⟨by rw [noLsts_app, h.nl, h'.nl]; rfl, by rw [hasDics_app, h.nd, h'.nd]; rfl⟩
theorem FL.one {x : D} {n w : Nat} (h : fineB x n w = true) : FL [x] n (w + 2) := by
  unfold fineB at h
  simp only [Bool.and_eq_true, decide_eq_true_eq, Bool.or_eq_true, Bool.not_eq_true'] at h
  obtain ⟨⟨⟨⟨h1, h2⟩, h3⟩, h4⟩, h5⟩ := h
  exact ⟨by simp [stills, h1], by simp [deps]; omega, by simp [okls, h3], by simp only [wts]; omega, fun z => by simp [hasDics] at z; simp [noLsts]; exact h5.resolve_left (by simp [z])⟩
theorem FL.two {x : D} {n w : Nat} (h : fineB x n w = true) : FL [x, x] n (w + w + 4) := by
  unfold fineB at h
  simp only [Bool.and_eq_true, decide_eq_true_eq, Bool.or_eq_true, Bool.not_eq_true'] at h
  obtain ⟨⟨⟨⟨h1, h2⟩, h3⟩, h4⟩, h5⟩ := h
  exact ⟨by simp [stills, h1], by simp [deps]; omega, by simp [okls, h3], by simp only [wts]; omega, fun z => by simp [hasDics] at z; simp [noLsts]; exact h5.resolve_left (by simp [z])⟩
theorem FL.mono {xs : List D} {n w n' w' : Nat} (h : FL xs n w) (hn : n ≤ n') (hw : w ≤ w') : FL xs n' w' := ⟨h.st, Nat.le_trans h.dp hn, h.ok, Nat.le_trans h.wt hw, h.dc⟩
theorem FL.tup {xs : List D} {n w : Nat} (h : FL xs n w) : fineB (.tup xs) (n + 1) (w + 3) = true := by
  unfold fineB
  simp only [still, dep, okl, DL.wt, hasDic, noLst, h.st, h.ok, Bool.and_eq_true, decide_eq_true_eq, Bool.or_eq_true, Bool.not_eq_true']
  refine ⟨⟨⟨⟨trivial, decide_eq_true (by have := h.dp; omega)⟩, trivial⟩, decide_eq_true (by have := h.wt; omega)⟩, ?_⟩
  cases e : hasDics xs with
  | false => exact .inl rfl
  | true => exact .inr (h.dc e)
theorem FL.lst {xs : List D} {n w : Nat} (h : FL xs n w) (hd : hasDics xs = false) : fineB (.lst xs) (n + 1) (w + 3) = true := by
  unfold fineB
  simp only [still, dep, okl, DL.wt, hasDic, h.st, h.ok, hd, Bool.and_eq_true, decide_eq_true_eq, Bool.or_eq_true, Bool.not_eq_true']
  exact ⟨⟨⟨⟨trivial, decide_eq_true (by have := h.dp; omega)⟩, trivial⟩, decide_eq_true (by have := h.wt; omega)⟩, .inl trivial⟩
theorem small_log {n : Int} (h0 : 0 ≤ n) (h : n < 2 ^ 200) : n.natAbs.log2 < 1920 := by
  by_cases z : n.natAbs = 0
  · rw [z]; decide
  · have : n.natAbs < 2 ^ 1920 := Nat.lt_of_lt_of_le (show n.natAbs < 2 ^ 200 by omega) (Nat.pow_le_pow_right (by decide) (by decide))
    exact (Nat.log2_lt z).mpr this
theorem FL.ints {h : Int} (hh : h < 2 ^ 200) : ∀ {ns : List Int}, intsIn ns h → FL (ns.map D.int) 0 (1923 * ns.length) ∧ Ne (ns.map D.int)
  | [], _ => ⟨⟨rfl, Nat.le_refl _, rfl, Nat.le_refl _, fun _ => rfl⟩, ⟨rfl, rfl⟩⟩
  | n :: ns, q => by
    obtain ⟨i1, i2⟩ := FL.ints hh (ns := ns) fun x hx => q x (List.mem_cons_of_mem _ hx)
    obtain ⟨q1, q2⟩ := q n (List.mem_cons_self ..)
    refine ⟨⟨by simp only [List.map_cons, stills, still, i1.st, Bool.and_self], ?_, ?_, ?_, ?_⟩, ⟨?_, ?_⟩⟩
    · simp only [List.map_cons, deps, dep]; have := i1.dp; omega
    · simp only [List.map_cons, okls, okl, i1.ok, Bool.and_true, decide_eq_true_eq]; exact small_log q1 (by omega)
    · simp only [List.map_cons, wts, DL.wt, List.length_cons]; have := i1.wt; omega
    · intro _; simp only [List.map_cons, noLsts, noLst, i2.nl, Bool.and_self]
    · simp only [List.map_cons, noLsts, noLst, i2.nl, Bool.and_self]
    · simp only [List.map_cons, hasDics, hasDic, i2.nd, Bool.or_self]
theorem fineB_mono {d : D} {n w n' w' : Nat} (h : fineB d n w = true) (hn : n ≤ n') (hw : w ≤ w') : fineB d n' w' = true := by
  unfold fineB at *
  simp only [Bool.and_eq_true, decide_eq_true_eq] at *
  exact ⟨⟨⟨⟨h.1.1.1.1, by omega⟩, h.1.1.2⟩, by omega⟩, h.2⟩
theorem fineB_int {i : Int} (h0 : -(2 ^ 200) < i) (h1 : i < 2 ^ 200) : fineB (.int i) 0 1921 = true := by
  have : i.natAbs.log2 < 1920 := by
    have := small_log (n := i.natAbs) (by omega) (by omega)
    simpa using this
  simp [fineB, still, dep, okl, wt, hasDic, this]
theorem fineB_bl {b : Bool} : fineB (.bl b) 0 1921 = true := by cases b <;> rfl
theorem fineB_still {d : D} {n w : Nat} (h : fineB d n w = true) : still d = true := by
  unfold fineB at h
  simp only [Bool.and_eq_true] at h
  exact h.1.1.1.1
end DL

namespace DL
open PySem PySem.Spec PyProof.Rows L2

theorem use_odd {M : MS} {Φ : DQ} {a c : Addr} {k : Nat} (hD : Dk M a c (k + 1)) (h : ∀ (d : D) M', Dk M' a c k → Kp a c M M' → d ∈ odds → Φ d M') : True ∧ sp_law_odd [.ref a] M Φ noX := ⟨trivial, a, c, k, rfl, hD, h⟩
/-- a cut of numbers are some of them -/
theorem cut_ints (ns : List Int) (lo hi : Option Int) : ∃ ms : List Int, cutD (ns.map D.int) lo hi = ms.map D.int ∧ (∀ x ∈ ms, x ∈ ns) ∧ ms.length ≤ ns.length := by
  unfold cutD
  rw [← List.map_drop, ← List.map_take]
  exact ⟨_, rfl, fun x hx => List.mem_of_mem_drop (List.mem_of_mem_take hx), by rw [List.length_take, List.length_drop]; omega⟩
theorem cut71 (a b c d e f g : D) : cutD [a, b, c, d, e, f, g] none (some 1) = [a] := rfl
theorem intsIn.sub {ns ms : List Int} {h : Int} (q : intsIn ns h) (s : ∀ x ∈ ms, x ∈ ns) : intsIn ms h := fun x hx => q x (s x hx)
def sp_law_changed : DSp := fun ds M Φ _ => ∃ (a c : Addr) (k : Nat) (ns : List Int), ds = [.ref a, .tup (ns.map D.int)] ∧ 2 ≤ ns.length ∧ ns.length ≤ 10 ∧ intsIn ns 1000 ∧ Dk M a c (k + 4) ∧
  ∀ (d : D) M', Dk M' a c k → Kp a c M M' → fineB d 8 300000 = true → Φ d M'
def t_law_changed : DS := (sSeq (sPar 2 3 (dCons (dCall 2 sp_law_draw (dCons (dVar 0) (dCons (dFn rLen (dCons (dVar 1) dNil)) dNil))) (dCons (dCall 1 sp_law_odd (dCons (dVar 0) dNil)) dNil))) (sSeq (sAsg (dOp rIx (dLst (dCons (dVar 3) (dCons (dC (.int 51)) (dCons (dC (.int 50)) (dCons (dUn rNeg (dC (.int 1))) (dCons (dTup (dCons (dOp rIx (dVar 1) (dVar 2)) dNil)) (dCons (dOp rEq (dOp rIx (dVar 1) (dVar 2)) (dC (.int 1))) dNil))))))) (dCall 2 sp_law_draw (dCons (dVar 0) (dCons (dC (.int 6)) dNil)))) (.nm 4)) (sSeq (sPar3 5 6 7 (dCons (dSl (dVar 1) dNoPart (dPart (dVar 2))) (dCons (dSl (dVar 1) (dPart (dOp rAdd (dVar 2) (dC (.int 1)))) dNoPart) (dCons (dOp rMul (dVar 1) (dC (.int 6))) dNil)))) (sSeq (sAsg (dLst (dCons (dOp rAdd (dOp rAdd (dVar 5) (dTup (dCons (dVar 4) dNil))) (dVar 6)) (dCons (dOp rAdd (dOp rAdd (dVar 5) (dTup (dCons (dVar 4) dNil))) (dSl (dVar 1) (dPart (dVar 2)) dNoPart)) (dCons (dOp rAdd (dVar 5) (dVar 6)) (dCons (dFn rList (dCons (dVar 1) dNil)) (dCons (dTup (dCons (dVar 1) dNil)) (dCons (dSl (dVar 1) dNoPart (dPart (dC (.int 1)))) (dCons (dVar 3) dNil)))))))) (.nm 8)) (sSeq (sRet (dOp rIx (dOp rAdd (dOp rAdd (dOp rMul (dSl (dVar 8) dNoPart (dPart (dC (.int 1)))) (dC (.int 4))) (dVar 8)) (dLst (dCons (dSl (dVar 7) dNoPart (dPart (dC (.int 10)))) (dCons (dSl (dVar 7) dNoPart (dPart (dC (.int 11)))) (dCons (dOp rAdd (dOp rAdd (dVar 5) (dTup (dCons (dVar 4) (dCons (dVar 4) dNil)))) (dVar 6)) dNil))))) (dCall 2 sp_law_draw (dCons (dVar 0) (dCons (dC (.int 14)) dNil))))) sNext)))))
theorem p_law_changed (ds : List D) (M : MS) (Φ : DQ) (h : sp_law_changed ds M Φ noX) : t_law_changed { nx := fun _ M' => Φ .non M', rt := Φ } (startD 9 ds) M := by
  obtain ⟨a, c, k, ns, rfl, hl1, hl2, hi, hD, h⟩ := h
  simp only [t_law_changed, sSeq, sRet, sRetN, sNext, sIf, sAsg, sPar, sPar3, sSetI, sAug, sAugI, sDrop, sBreak, sCont, dOp, dUn, dCons, dNil, dFn, dC, dTup, dLst, dLstM, dIf, dTest, dTru, dAnd, dOr, dNot, dAndV, dOrV, dNotE, dChain, dSl, dNoPart, dPart, dSeq, dEnum, dZip, dRng1, dRng2, dYes, dCall, dMt, dVar, dDic0, dDic1, Pat.put, Pat.puts, List.getElem?_cons_zero, List.getElem?_cons_succ, List.set_cons_zero, List.set_cons_succ, startD, List.map_cons, List.map_nil, List.cons_append, List.nil_append, List.length_cons, List.length_nil, List.replicate_succ, List.replicate_zero, Nat.reduceSub, Nat.reduceAdd, Nat.zero_add, wipeD, keyD, rLen, seqA, List.length_map]
  refine use_draw (hD : Dk M a c (k + 3 + 1)) (by omega) (by omega) fun at0' M1 hD1 hK1 t0 t1 => ?_
  refine use_odd hD1 fun strange M2 hD2 hK2 hodd => ?_
  dsimp only
  have hs := odds_fine hodd
  obtain ⟨x, hx⟩ : ∃ x : Int, ns[at0'.toNat]? = some x := ⟨_, List.getElem?_eq_getElem (show at0'.toNat < ns.length by omega)⟩
  have hxi := hi x (List.mem_of_getElem? hx)
  have ex : atI (ns.map D.int) at0' = some (.int x) := by rw [atI_t _ _ t0, List.getElem?_map, hx]; rfl
  refine rNeg_i (rIx_seq (x := .tup _) rfl ex ⟨by decide, rIx_seq (x := .tup _) rfl ex (rEq_i ⟨by decide, ?_⟩)⟩)
  refine use_draw hD2 (by decide) (by decide) fun r3 M3 hD3 hK3 u0 u1 => ?_
  obtain ⟨new, hn, fn⟩ : ∃ new, atI [strange, .int 51, .int 50, .int (-1), .tup [.int x], .bl (x == 1)] r3 = some new ∧ fineB new 4 20000 = true := by
    have hr : r3 = 0 ∨ r3 = 1 ∨ r3 = 2 ∨ r3 = 3 ∨ r3 = 4 ∨ r3 = 5 := by omega
    rcases hr with rfl | rfl | rfl | rfl | rfl | rfl
    · exact ⟨_, by rw [at0]; rfl, fineB_mono hs (by decide) (by decide)⟩
    · exact ⟨_, by rw [at1]; rfl, by decide +kernel⟩
    · exact ⟨_, by rw [at2]; rfl, by decide +kernel⟩
    · exact ⟨_, by rw [at3]; rfl, by decide +kernel⟩
    · exact ⟨_, by rw [at4]; rfl, fineB_mono (FL.tup (FL.one (fineB_int (i := x) (by omega) (by omega)))) (by decide) (by decide)⟩
    · exact ⟨_, by rw [at5]; rfl, fineB_mono fineB_bl (by decide) (by decide)⟩
  refine rIx_seq (x := .lst _) rfl hn ?_
  simp only [sSeq, sRet, sRetN, sNext, sIf, sAsg, sPar, sPar3, sSetI, sAug, sAugI, sDrop, sBreak, sCont, dOp, dUn, dCons, dNil, dFn, dC, dTup, dLst, dLstM, dIf, dTest, dTru, dAnd, dOr, dNot, dAndV, dOrV, dNotE, dChain, dSl, dNoPart, dPart, dSeq, dEnum, dZip, dRng1, dRng2, dYes, dCall, dMt, dVar, dDic0, dDic1, Pat.put, Pat.puts, List.getElem?_cons_zero, List.getElem?_cons_succ, List.set_cons_zero, List.set_cons_succ, startD, List.map_cons, List.map_nil, List.cons_append, List.nil_append, List.length_cons, List.length_nil, List.replicate_succ, List.replicate_zero, Nat.reduceSub, Nat.reduceAdd, Nat.zero_add, wipeD, keyD, rSl, rAdd, rMul, rList, seqA]
  obtain ⟨hd, e1, s1, l1⟩ := cut_ints ns none (some at0')
  obtain ⟨tl, e2, s2, l2⟩ := cut_ints ns (some (at0' + 1)) none
  obtain ⟨tl2, e3, s3, l3⟩ := cut_ints ns (some at0') none
  obtain ⟨h1, e4, s4, l4⟩ := cut_ints ns none (some 1)
  rw [e1, e2, e3, e4]
  have efl : (List.replicate (6 : Int).toNat (ns.map D.int)).flatten = (List.replicate 6 ns).flatten.map D.int := by
    rw [List.map_flatten, List.map_replicate]; rfl
  rw [efl]
  obtain ⟨m1, e5, s5, l5⟩ := cut_ints (List.replicate 6 ns).flatten none (some 10)
  obtain ⟨m2, e6, s6, l6⟩ := cut_ints (List.replicate 6 ns).flatten none (some 11)
  rw [e5, e6]
  have h6 : ∀ y ∈ (List.replicate 6 ns).flatten, y ∈ ns := fun y hy => by
    obtain ⟨l, h1, h2⟩ := List.mem_flatten.mp hy
    rw [(List.mem_replicate.mp h1).2] at h2
    exact h2
  have len6 : (List.replicate 6 ns).flatten.length = 6 * ns.length := by
    rw [List.length_flatten, List.map_replicate, List.sum_replicate_nat]
  have b200 : (1000 : Int) < 2 ^ 200 := by decide
  have I : ∀ (ms : List Int), (∀ y ∈ ms, y ∈ ns) → ms.length ≤ 60 → FL (ms.map D.int) 4 120000 ∧ Ne (ms.map D.int) := fun ms hm hl => by
    obtain ⟨q1, q2⟩ := FL.ints b200 (hi.sub hm)
    exact ⟨q1.mono (by decide) (by omega), q2⟩
  obtain ⟨f1, n1⟩ := I hd s1 (by omega)
  obtain ⟨f2, n2⟩ := I tl s2 (by omega)
  obtain ⟨f3, n3⟩ := I tl2 s3 (by omega)
  obtain ⟨f4, n4⟩ := I h1 s4 (by omega)
  obtain ⟨f5, n5⟩ := I m1 (fun y hy => h6 y (s5 y hy)) (by omega)
  obtain ⟨f6, n6⟩ := I m2 (fun y hy => h6 y (s6 y hy)) (by omega)
  obtain ⟨f0, n0⟩ := I ns (fun y hy => hy) (by omega)
  have hne : ns.map D.int ≠ [] := fun z => by
    have := congrArg List.length z
    simp at this
    rw [this] at hl1
    exact absurd hl1 (by decide)
  simp only [seqL, cut71, show (4 : Int).toNat = 4 from rfl, List.replicate_succ, List.replicate_zero, List.flatten_cons, List.flatten_nil, List.append_nil, List.cons_append, List.nil_append, List.length_append, List.length_map, List.length_cons, List.length_nil]
  refine ⟨by decide, by decide, by omega, by decide, by omega, by omega, by decide, by omega, by omega, by omega, by decide, by decide, by decide, by decide, by decide, by decide, by decide, by omega, by omega, by decide, by decide, ?_⟩
  refine use_draw hD3 (by decide) (by decide) fun r4 M4 hD4 hK4 v0 v1 => ?_
  generalize hL : ([_, _, _, _, _, _, _, _, _, _, _, _, _, _] : List D) = L
  have hl : L.length = 14 := by rw [← hL]; rfl
  have hr : r4.toNat < L.length := by omega
  refine rIx_seq (x := .lst L) rfl (d := L[r4.toNat]) (by rw [atI_t _ _ v0, List.getElem?_eq_getElem hr]) (h _ _ hD4 (((hK1.trans hK2).trans hK3).trans hK4) ?_)
  have hm := List.getElem_mem hr
  generalize L[r4.toNat] = d at hm ⊢
  rw [← hL] at hm
  have g1 := FL.one fn
  have g2 := FL.two fn
  have t1 := FL.tup ((f1.app g1 (.inl n1)).app f2 (.inr n2))
  have t2 := FL.tup ((f1.app g1 (.inl n1)).app f3 (.inr n3))
  have t3 := FL.tup (f1.app f2 (.inl n1))
  have t4 := FL.lst f0 n0.nd
  have t5 := FL.tup (FL.one (FL.tup f0))
  have t6 := FL.tup f4
  have t7 := FL.tup f5
  have t8 := FL.tup f6
  have t9 := FL.tup ((f1.app g2 (.inl n1)).app f2 (.inr n2))
  simp only [List.mem_cons, List.not_mem_nil, or_false] at hm
  rcases hm with rfl | rfl | rfl | rfl | rfl | rfl | rfl | rfl | rfl | rfl | rfl | rfl | rfl | rfl
  all_goals first
    | exact fineB_mono t1 (by decide) (by decide)
    | exact fineB_mono t2 (by decide) (by decide)
    | exact fineB_mono t3 (by decide) (by decide)
    | exact fineB_mono t4 (by decide) (by decide)
    | exact fineB_mono t5 (by decide) (by decide)
    | exact fineB_mono t6 (by decide) (by decide)
    | exact fineB_mono t7 (by decide) (by decide)
    | exact fineB_mono t8 (by decide) (by decide)
    | exact fineB_mono t9 (by decide) (by decide)
    | exact fineB_mono hs (by decide) (by decide)
end DL

namespace DL
open PySem PySem.Spec PyProof.Rows L2

theorem fm_some {α β : Type} (f : α → β) : ∀ l : List α, l.filterMap (fun d => some (f d)) = l.map f
  | [] => rfl
  | x :: l => by rw [List.filterMap_cons, List.map_cons, fm_some f l]

/-! ### ways, walkers -/
def isW (st : Int) (d : D) : Bool := match d with
  | .tup xs => (match xs with
    | [x, y] => numD y 1 (st - 1) && (match y with
      | .int j => numD x 0 (j - 1)
      | _ => false)
    | _ => false)
  | _ => false
def areW (st : Int) (d : D) : Bool := match d with
  | .tup ws => decide (ws.length ≤ 40) && ws.all (isW st)
  | _ => false
def sp_is_way : DSp := fun ds M Φ _ => ∃ st d, ds = [.int st, d] ∧ still d = true ∧ Φ (.bl (isW st d)) M
def sp_are_walkers : DSp := fun ds M Φ _ => ∃ st d, ds = [.int st, d] ∧ still d = true ∧ Φ (.bl (areW st d)) M
abbrev sp_law_are_right := sp_are_walkers
def t_is_way : DS := (sSeq (sIf (dOr (dNot (dTru (dFn rIsi (dCons (dVar 1) (dCons (dC (.ty .tuple)) dNil))))) (dTest (dOp rNe (dFn rLen (dCons (dVar 1) dNil)) (dC (.int 2))))) (sSeq (sRet (dC (.bl false))) sNext) sNext) (sSeq (sRet (dAndV (dCall 3 sp_is_number (dCons (dOp rIx (dVar 1) (dC (.int 1))) (dCons (dC (.int 1)) (dCons (dOp rSub (dVar 0) (dC (.int 1))) dNil)))) (dCall 3 sp_is_number (dCons (dOp rIx (dVar 1) (dC (.int 0))) (dCons (dC (.int 0)) (dCons (dOp rSub (dOp rIx (dVar 1) (dC (.int 1))) (dC (.int 1))) dNil)))))) sNext))
def t_are_walkers : DS := (sSeq (sIf (dOr (dNot (dTru (dFn rIsi (dCons (dVar 1) (dCons (dC (.ty .tuple)) dNil))))) (dTest (dOp rGt (dFn rLen (dCons (dVar 1) dNil)) (dC (.int 40))))) (sSeq (sRet (dC (.bl false))) sNext) sNext) (sSeq (sRet (dFn rAll (dCons (dLc (dSeq (dVar 1)) (.nm 2) [2] dYes (dCall 2 sp_is_way (dCons (dVar 0) (dCons (dVar 2) dNil)))) dNil))) sNext))
def t_law_are_right : DS := (sSeq (sIf (dOr (dNot (dTru (dFn rIsi (dCons (dVar 1) (dCons (dC (.ty .tuple)) dNil))))) (dTest (dOp rGt (dFn rLen (dCons (dVar 1) dNil)) (dC (.int 40))))) (sSeq (sRet (dC (.bl false))) sNext) sNext) (sSeq (sFor (dSeq (dVar 1)) (.nm 2) (sSeq (sIf (dOr (dNot (dTru (dFn rIsi (dCons (dVar 2) (dCons (dC (.ty .tuple)) dNil))))) (dTest (dOp rNe (dFn rLen (dCons (dVar 2) dNil)) (dC (.int 2))))) (sSeq (sRet (dC (.bl false))) sNext) sNext) (sSeq (sIf (dOr (dTest (dOp rNe (dLc (dSeq (dVar 2)) (.nm 3) [3] (dNot (dTru (dCall 3 sp_law_is_number (dCons (dVar 3) (dCons (dC (.int 0)) (dCons (dOp rSub (dVar 0) (dC (.int 1))) dNil)))))) (dVar 3)) (dLst dNil))) (dTest (dOp rGe (dOp rIx (dVar 2) (dC (.int 0))) (dOp rIx (dVar 2) (dC (.int 1)))))) (sSeq (sRet (dC (.bl false))) sNext) sNext) sNext))) (sSeq (sRet (dC (.bl true))) sNext)))
theorem p_is_way (ds : List D) (M : MS) (Φ : DQ) (h : sp_is_way ds M Φ noX) : t_is_way { nx := fun _ M' => Φ .non M', rt := Φ } (startD 2 ds) M := by
  obtain ⟨st, d, rfl, hd, q⟩ := h
  simp only [t_is_way, sSeq, sRet, sRetN, sNext, sIf, sAsg, sPar, sPar3, sSetI, sAug, sAugI, sDrop, sBreak, sCont, dOp, dUn, dCons, dNil, dFn, dC, dTup, dLst, dLstM, dIf, dTest, dTru, dAnd, dOr, dNot, dAndV, dOrV, dNotE, dChain, dSl, dNoPart, dPart, dSeq, dEnum, dZip, dRng1, dRng2, dYes, dCall, dMt, dVar, dDic0, dDic1, Pat.put, Pat.puts, List.getElem?_cons_zero, List.getElem?_cons_succ, List.set_cons_zero, List.set_cons_succ, startD, List.map_cons, List.map_nil, List.cons_append, List.nil_append, List.length_cons, List.length_nil, List.replicate_succ, List.replicate_zero, Nat.reduceSub, Nat.reduceAdd, Nat.zero_add, wipeD, keyD]
  refine rIsi_tup hd ?_
  simp only [truD]
  cases d with
  | tup xs =>
    simp only [isTup, Bool.not_true, Bool.false_eq_true, if_false, rLen, seqA]
    refine rNe_i ?_
    dsimp only
    have hs : stills xs = true := by simpa only [still] using hd
    match xs, hs, q with
    | [x, y], hs, q =>
      simp only [stills, Bool.and_eq_true] at hs
      simp only [List.length_cons, List.length_nil]
      rw [if_neg (by decide)]
      refine rIx_seq (x := .tup [x, y]) rfl (d := y) (by rw [at1]; rfl) (rSub_i ⟨trivial, y, 1, st - 1, rfl, hs.2.1, ?_⟩)
      simp only [isW] at q
      cases hy : numD y 1 (st - 1) with
      | false =>
        rw [hy, Bool.false_and] at q
        simp only [Bool.false_eq_true, if_false]
        exact q
      | true =>
        rw [hy, Bool.true_and] at q
        simp only [if_true]
        cases y with
        | int j =>
          refine rIx_seq (x := .tup [x, .int j]) rfl (d := x) (by rw [at0]; rfl) (rIx_seq (x := .tup [x, .int j]) rfl (d := .int j) (by rw [at1]; rfl) (rSub_i ⟨trivial, x, 0, j - 1, rfl, hs.1, q⟩))
        | _ => simp [numD] at hy
    | [], _, q =>
      rw [if_pos (by decide)]
      exact q
    | [x], _, q =>
      rw [if_pos (by simp)]
      exact q
    | x :: y :: z :: r, _, q =>
      rw [if_pos (by simp; omega)]
      exact q
  | _ => exact q
theorem p_are_walkers (ds : List D) (M : MS) (Φ : DQ) (h : sp_are_walkers ds M Φ noX) : t_are_walkers { nx := fun _ M' => Φ .non M', rt := Φ } (startD 3 ds) M := by
  obtain ⟨st, d, rfl, hd, q⟩ := h
  simp only [t_are_walkers, sSeq, sRet, sRetN, sNext, sIf, sAsg, sPar, sPar3, sSetI, sAug, sAugI, sDrop, sBreak, sCont, dOp, dUn, dCons, dNil, dFn, dC, dTup, dLst, dLstM, dIf, dTest, dTru, dAnd, dOr, dNot, dAndV, dOrV, dNotE, dChain, dSl, dNoPart, dPart, dSeq, dEnum, dZip, dRng1, dRng2, dYes, dCall, dMt, dVar, dDic0, dDic1, Pat.put, Pat.puts, List.getElem?_cons_zero, List.getElem?_cons_succ, List.set_cons_zero, List.set_cons_succ, startD, List.map_cons, List.map_nil, List.cons_append, List.nil_append, List.length_cons, List.length_nil, List.replicate_succ, List.replicate_zero, Nat.reduceSub, Nat.reduceAdd, Nat.zero_add, wipeD, keyD]
  refine rIsi_tup hd ?_
  simp only [truD]
  cases d with
  | tup ws =>
    simp only [isTup, Bool.not_true, Bool.false_eq_true, if_false, rLen, seqA, rGt, rCmp]
    have hs : stills ws = true := by simpa only [still] using hd
    simp only [areW] at q
    by_cases hl : ws.length ≤ 40
    · rw [if_neg (by simp; omega)]
      rw [decide_eq_true hl, Bool.true_and] at q
      simp only [dLc, sSeq, sRet, sRetN, sNext, sIf, sAsg, sPar, sPar3, sSetI, sAug, sAugI, sDrop, sBreak, sCont, dOp, dUn, dCons, dNil, dFn, dC, dTup, dLst, dLstM, dIf, dTest, dTru, dAnd, dOr, dNot, dAndV, dOrV, dNotE, dChain, dSl, dNoPart, dPart, dSeq, dEnum, dZip, dRng1, dRng2, dYes, dCall, dMt, dVar, dDic0, dDic1, Pat.put, Pat.puts, List.getElem?_cons_zero, List.getElem?_cons_succ, List.set_cons_zero, List.set_cons_succ, startD, List.map_cons, List.map_nil, List.cons_append, List.nil_append, List.length_cons, List.length_nil, List.replicate_succ, List.replicate_zero, Nat.reduceSub, Nat.reduceAdd, Nat.zero_add, wipeD, keyD, seqA]
      refine lcW_map (fun d => some (.bl (isW st d))) ws trivial (by omega) (fun x hx => ⟨_, rfl, fun acc Nx hn k => ?_⟩) ?_
      · simp only [sSeq, sRet, sRetN, sNext, sIf, sAsg, sPar, sPar3, sSetI, sAug, sAugI, sDrop, sBreak, sCont, dOp, dUn, dCons, dNil, dFn, dC, dTup, dLst, dLstM, dIf, dTest, dTru, dAnd, dOr, dNot, dAndV, dOrV, dNotE, dChain, dSl, dNoPart, dPart, dSeq, dEnum, dZip, dRng1, dRng2, dYes, dCall, dMt, dVar, dDic0, dDic1, Pat.put, Pat.puts, List.getElem?_cons_zero, List.getElem?_cons_succ, List.set_cons_zero, List.set_cons_succ, startD, List.map_cons, List.map_nil, List.cons_append, List.nil_append, List.length_cons, List.length_nil, List.replicate_succ, List.replicate_zero, Nat.reduceSub, Nat.reduceAdd, Nat.zero_add, wipeD, keyD, if_true]
        exact ⟨trivial, st, x, rfl, stills_get hs hx, hn, k⟩
      · have e : ws.filterMap (fun d => some (D.bl (isW st d))) = (ws.map (isW st)).map D.bl := by
          rw [fm_some, List.map_map]
          rfl
        rw [e]
        simp only [rAll, seqL, Option.bind_some, asBls_map]
        have e2 : (ws.map (isW st)).all id = ws.all (isW st) := by rw [List.all_map]; rfl
        rw [e2]
        exact q
    · rw [if_pos (by simp; omega)]
      rw [decide_eq_false hl, Bool.false_and] at q
      exact q
  | _ => exact q
def badI (st : Int) (xs : List D) : List D := xs.filter fun x => !numD x 0 (st - 1)
theorem numD_int {x : D} {lo hi : Int} (h : numD x lo hi = true) : ∃ i, x = .int i ∧ lo ≤ i ∧ i ≤ hi := by
  cases x with
  | int i =>
    simp only [numD, Bool.and_eq_true, decide_eq_true_eq] at h
    exact ⟨i, rfl, h.1, h.2⟩
  | _ => simp [numD] at h
theorem isW_two (st : Int) (x y : D) : isW st (.tup [x, y]) = ((badI st [x, y]).isEmpty && (match x, y with
    | .int i, .int j => decide (i < j)
    | _, _ => false)) := by
  simp only [isW]
  have e : (badI st [x, y]).isEmpty = (numD x 0 (st - 1) && numD y 0 (st - 1)) := by
    unfold badI
    cases hx : numD x 0 (st - 1) <;> cases hy : numD y 0 (st - 1) <;> simp [List.filter_cons, hx, hy]
  rw [e]
  cases x with
  | int i =>
    cases y with
    | int j =>
      rw [Bool.eq_iff_iff]
      simp only [numD, Bool.and_eq_true, decide_eq_true_eq]
      omega
    | _ => simp [numD]
  | _ => cases y <;> simp [numD]
theorem p_law_are_right (ds : List D) (M : MS) (Φ : DQ) (h : sp_law_are_right ds M Φ noX) : t_law_are_right { nx := fun _ M' => Φ .non M', rt := Φ } (startD 4 ds) M := by
  obtain ⟨st, d, rfl, hd, q⟩ := h
  simp only [t_law_are_right, sSeq, sRet, sRetN, sNext, sIf, sAsg, sPar, sPar3, sSetI, sAug, sAugI, sDrop, sBreak, sCont, dOp, dUn, dCons, dNil, dFn, dC, dTup, dLst, dLstM, dIf, dTest, dTru, dAnd, dOr, dNot, dAndV, dOrV, dNotE, dChain, dSl, dNoPart, dPart, dSeq, dEnum, dZip, dRng1, dRng2, dYes, dCall, dMt, dVar, dDic0, dDic1, Pat.put, Pat.puts, List.getElem?_cons_zero, List.getElem?_cons_succ, List.set_cons_zero, List.set_cons_succ, startD, List.map_cons, List.map_nil, List.cons_append, List.nil_append, List.length_cons, List.length_nil, List.replicate_succ, List.replicate_zero, Nat.reduceSub, Nat.reduceAdd, Nat.zero_add, wipeD, keyD]
  refine rIsi_tup hd ?_
  simp only [truD]
  cases d with
  | tup ws =>
    simp only [isTup, Bool.not_true, Bool.false_eq_true, if_false, rLen, seqA, rGt, rCmp]
    have hs : stills ws = true := by simpa only [still] using hd
    simp only [areW] at q
    by_cases hl : ws.length ≤ 40
    · rw [if_neg (by simp; omega)]
      rw [decide_eq_true hl, Bool.true_and] at q
      simp only [sFor, dSeq, sSeq, sRet, sRetN, sNext, sIf, sAsg, sPar, sPar3, sSetI, sAug, sAugI, sDrop, sBreak, sCont, dOp, dUn, dCons, dNil, dFn, dC, dTup, dLst, dLstM, dIf, dTest, dTru, dAnd, dOr, dNot, dAndV, dOrV, dNotE, dChain, dSl, dNoPart, dPart, dSeq, dEnum, dZip, dRng1, dRng2, dYes, dCall, dMt, dVar, dDic0, dDic1, Pat.put, Pat.puts, List.getElem?_cons_zero, List.getElem?_cons_succ, List.set_cons_zero, List.set_cons_succ, startD, List.map_cons, List.map_nil, List.cons_append, List.nil_append, List.length_cons, List.length_nil, List.replicate_succ, List.replicate_zero, Nat.reduceSub, Nat.reduceAdd, Nat.zero_add, wipeD, keyD, seqA]
      refine forW_inv (fun ds' ρ M' => M' = M ∧ (∃ r2 r3, ρ = [some (.int st), some (.tup ws), r2, r3]) ∧ stills ds' = true ∧ Φ (.bl (ds'.all (isW st))) M) (fun _ _ _ _ => trivial) (fun ρ M' q => ?_) (fun d ds' ρ M' Nx q nx => ?_) ws _ M ⟨rfl, ⟨_, _, rfl⟩, hs, q⟩
      · obtain ⟨rfl, _, _, q⟩ := q
        exact q
      · obtain ⟨rfl, ⟨r2, r3, rfl⟩, hds, q⟩ := q
        simp only [stills, Bool.and_eq_true] at hds
        refine ⟨_, rfl, ?_⟩
        simp only [sSeq, sRet, sRetN, sNext, sIf, sAsg, sPar, sPar3, sSetI, sAug, sAugI, sDrop, sBreak, sCont, dOp, dUn, dCons, dNil, dFn, dC, dTup, dLst, dLstM, dIf, dTest, dTru, dAnd, dOr, dNot, dAndV, dOrV, dNotE, dChain, dSl, dNoPart, dPart, dSeq, dEnum, dZip, dRng1, dRng2, dYes, dCall, dMt, dVar, dDic0, dDic1, Pat.put, Pat.puts, List.getElem?_cons_zero, List.getElem?_cons_succ, List.set_cons_zero, List.set_cons_succ, startD, List.map_cons, List.map_nil, List.cons_append, List.nil_append, List.length_cons, List.length_nil, List.replicate_succ, List.replicate_zero, Nat.reduceSub, Nat.reduceAdd, Nat.zero_add, wipeD, keyD]
        refine rIsi_tup hds.1 ?_
        simp only [truD]
        cases d with
        | tup xs =>
          simp only [isTup, Bool.not_true, Bool.false_eq_true, if_false, rLen, seqA]
          refine rNe_i ?_
          dsimp only
          have hx : stills xs = true := by simpa only [still] using hds.1
          match xs, hx, q with
          | [x, y], hx, q =>
            simp only [stills, Bool.and_eq_true] at hx
            simp only [List.length_cons, List.length_nil]
            rw [if_neg (by decide)]
            simp only [dLc, sSeq, sRet, sRetN, sNext, sIf, sAsg, sPar, sPar3, sSetI, sAug, sAugI, sDrop, sBreak, sCont, dOp, dUn, dCons, dNil, dFn, dC, dTup, dLst, dLstM, dIf, dTest, dTru, dAnd, dOr, dNot, dAndV, dOrV, dNotE, dChain, dSl, dNoPart, dPart, dSeq, dEnum, dZip, dRng1, dRng2, dYes, dCall, dMt, dVar, dDic0, dDic1, Pat.put, Pat.puts, List.getElem?_cons_zero, List.getElem?_cons_succ, List.set_cons_zero, List.set_cons_succ, startD, List.map_cons, List.map_nil, List.cons_append, List.nil_append, List.length_cons, List.length_nil, List.replicate_succ, List.replicate_zero, Nat.reduceSub, Nat.reduceAdd, Nat.zero_add, wipeD, keyD, seqA]
            rw [List.all_cons, isW_two] at q
            refine lcW_map (fun e => if numD e 0 (st - 1) = true then none else some e) [x, y] trivial (by simp) (fun e he => ⟨_, rfl, fun acc Nx hn k => ?_⟩) ?_
            · have se : still e = true := by
                simp only [List.mem_cons, List.not_mem_nil, or_false] at he
                rcases he with rfl | rfl
                · exact hx.1
                · exact hx.2.1
              simp only [sSeq, sRet, sRetN, sNext, sIf, sAsg, sPar, sPar3, sSetI, sAug, sAugI, sDrop, sBreak, sCont, dOp, dUn, dCons, dNil, dFn, dC, dTup, dLst, dLstM, dIf, dTest, dTru, dAnd, dOr, dNot, dAndV, dOrV, dNotE, dChain, dSl, dNoPart, dPart, dSeq, dEnum, dZip, dRng1, dRng2, dYes, dCall, dMt, dVar, dDic0, dDic1, Pat.put, Pat.puts, List.getElem?_cons_zero, List.getElem?_cons_succ, List.set_cons_zero, List.set_cons_succ, startD, List.map_cons, List.map_nil, List.cons_append, List.nil_append, List.length_cons, List.length_nil, List.replicate_succ, List.replicate_zero, Nat.reduceSub, Nat.reduceAdd, Nat.zero_add, wipeD, keyD]
              refine rSub_i ⟨trivial, e, 0, st - 1, rfl, se, ?_⟩
              simp only [truD]
              cases hnum : numD e 0 (st - 1) with
              | true =>
                rw [hnum, if_pos rfl] at k
                rw [if_neg (by decide)]
                simpa using k
              | false =>
                rw [hnum, if_neg Bool.false_ne_true] at k
                rw [if_pos (by decide)]
                exact ⟨hn, by simpa using k⟩
            · have eb : [x, y].filterMap (fun e => if numD e 0 (st - 1) = true then none else some e) = badI st [x, y] := by
                unfold badI
                cases h1 : numD x 0 (st - 1) <;> cases h2 : numD y 0 (st - 1) <;> simp [List.filterMap_cons, List.filter_cons, h1, h2]
              rw [eb]
              refine ⟨by decide, ?_⟩
              cases hb : badI st [x, y] with
              | cons b bs =>
                rw [hb] at q
                refine rNe_len (xs := b :: bs) (ys := []) rfl rfl (by simp) ?_
                simp only [if_true]
                simpa using q
              | nil =>
                rw [hb] at q
                refine rNe_still rfl (by decide) rfl (by decide) ?_
                dsimp only
                rw [if_neg (by decide)]
                have h1 : numD x 0 (st - 1) = true := by
                  cases h1 : numD x 0 (st - 1) with
                  | true => rfl
                  | false => simp [badI, List.filter_cons, h1] at hb
                have h2 : numD y 0 (st - 1) = true := by
                  cases h2 : numD y 0 (st - 1) with
                  | true => rfl
                  | false => simp [badI, List.filter_cons, h1, h2] at hb
                obtain ⟨i, rfl, _, _⟩ := numD_int h1
                obtain ⟨j, rfl, _, _⟩ := numD_int h2
                refine rIx_seq (x := .tup [.int i, .int j]) rfl (d := .int i) (by rw [at0]; rfl) ?_
                refine rIx_seq (x := .tup [.int i, .int j]) rfl (d := .int j) (by rw [at1]; rfl) ?_
                refine rCmp_i ?_
                dsimp only
                by_cases hij : i < j
                · rw [if_neg (by simp; omega)]
                  refine nx _ _ ⟨rfl, ⟨_, _, rfl⟩, hds.2, ?_⟩
                  simpa [hij] using q
                · rw [if_pos (by simp; omega)]
                  simpa [hij] using q
          | [], _, q =>
            rw [if_pos (by decide)]
            simpa [isW] using q
          | [x], _, q =>
            rw [if_pos (by simp)]
            simpa [isW] using q
          | x :: y :: z :: r, _, q =>
            rw [if_pos (by simp; omega)]
            simpa [isW] using q
        | _ => simpa [isTup, isW] using q
    · rw [if_pos (by simp; omega)]
      rw [decide_eq_false hl, Bool.false_and] at q
      exact q
  | _ => exact q
end DL

namespace DL
open PySem PySem.Spec PyProof.Rows L2

/-! ### drawn walkers -/
def wayD (w : Int × Int) : D := .tup [.int w.1, .int w.2]
def waysIn (ws : List (Int × Int)) (st : Int) : Prop := ∀ w ∈ ws, 0 ≤ w.1 ∧ w.1 < w.2 ∧ w.2 ≤ st - 1
def sp_law_walkers : DSp := fun ds M Φ _ => ∃ (a c : Addr) (k : Nat) (st most : Int), ds = [.ref a, .int st, .int most] ∧ 2 ≤ st ∧ st ≤ 1000 ∧ 0 ≤ most ∧ most ≤ 1000 ∧ Dk M a c (k + 3 * most.toNat + 2) ∧
  ∀ (ws : List (Int × Int)) M', Dk M' a c k → Kp a c M M' → (ws.length : Int) ≤ most → waysIn ws st → Φ (.tup (ws.map wayD)) M'
def t_law_walkers : DS := (sSeq (sAsg (dLstM dNil) (.nm 3)) (sSeq (sFor (dRng1 (dOp rIx (dLst (dCons (dCall 2 sp_law_draw (dCons (dVar 0) (dCons (dOp rAdd (dVar 2) (dC (.int 1))) dNil))) (dCons (dVar 2) dNil))) (dCall 2 sp_law_draw (dCons (dVar 0) (dCons (dC (.int 2)) dNil))))) (.nm 4) (sSeq (sAsg (dCall 2 sp_law_draw (dCons (dVar 0) (dCons (dOp rSub (dVar 1) (dC (.int 1))) dNil))) (.nm 5)) (sSeq (sAsg (dOp rAdd (dOp rAdd (dVar 5) (dC (.int 1))) (dCall 2 sp_law_draw (dCons (dVar 0) (dCons (dOp rSub (dOp rSub (dVar 1) (dC (.int 1))) (dVar 5)) dNil)))) (.nm 6)) (sSeq (sDrop (dMt rApp (dVar 3) (dCons (dOp rIx (dLst (dCons (dTup (dCons (dVar 5) (dCons (dVar 6) dNil))) (dCons (dTup (dCons (dVar 5) (dCons (dOp rAdd (dVar 5) (dC (.int 1))) dNil))) (dCons (dTup (dCons (dC (.int 0)) (dCons (dVar 6) dNil))) (dCons (dTup (dCons (dC (.int 0)) (dCons (dOp rSub (dVar 1) (dC (.int 1))) dNil))) dNil))))) (dCall 2 sp_law_draw (dCons (dVar 0) (dCons (dC (.int 4)) dNil)))) dNil))) sNext)))) (sSeq (sRet (dFn rTuple (dCons (dVar 3) dNil))) sNext)))
theorem Kp.keep {a c p : Addr} {M M' : MS} {o : MO} (h : Kp a c M M') (pa : p ≠ a) (pc : p ≠ c) (e : M.map p = some o) : M'.map p = some o := (h p pa pc (by rw [e]; simp)).trans e
theorem Kp.put {a c p : Addr} {M0 M : MS} {o : MO} (h : Kp a c M0 M) (hp : M0.map p = none) : Kp a c M0 (M.put p o) := fun b h1 h2 h3 => by
  rw [MS.put_ne (fun e => by subst e; exact h3 hp)]
  exact h b h1 h2 h3
theorem p_law_walkers (ds : List D) (M : MS) (Φ : DQ) (h : sp_law_walkers ds M Φ noX) : t_law_walkers { nx := fun _ M' => Φ .non M', rt := Φ } (startD 7 ds) M := by
  obtain ⟨a, c, k, st, most, rfl, hs1, hs2, hm1, hm2, hD, h⟩ := h
  simp only [t_law_walkers, sSeq, sRet, sRetN, sNext, sIf, sAsg, sPar, sPar3, sSetI, sAug, sAugI, sDrop, sBreak, sCont, dOp, dUn, dCons, dNil, dFn, dC, dTup, dLst, dLstM, dIf, dTest, dTru, dAnd, dOr, dNot, dAndV, dOrV, dNotE, dChain, dSl, dNoPart, dPart, dSeq, dEnum, dZip, dRng1, dRng2, dYes, dCall, dMt, dVar, dDic0, dDic1, Pat.put, Pat.puts, List.getElem?_cons_zero, List.getElem?_cons_succ, List.set_cons_zero, List.set_cons_succ, startD, List.map_cons, List.map_nil, List.cons_append, List.nil_append, List.length_cons, List.length_nil, List.replicate_succ, List.replicate_zero, Nat.reduceSub, Nat.reduceAdd, Nat.zero_add, wipeD, keyD]
  refine ⟨by decide, fun p hp => ?_⟩
  have pa := hD.a_ne hp
  have pc := hD.c_ne hp
  simp only [sFor, dRng1, sSeq, sRet, sRetN, sNext, sIf, sAsg, sPar, sPar3, sSetI, sAug, sAugI, sDrop, sBreak, sCont, dOp, dUn, dCons, dNil, dFn, dC, dTup, dLst, dLstM, dIf, dTest, dTru, dAnd, dOr, dNot, dAndV, dOrV, dNotE, dChain, dSl, dNoPart, dPart, dSeq, dEnum, dZip, dRng1, dRng2, dYes, dCall, dMt, dVar, dDic0, dDic1, Pat.put, Pat.puts, List.getElem?_cons_zero, List.getElem?_cons_succ, List.set_cons_zero, List.set_cons_succ, startD, List.map_cons, List.map_nil, List.cons_append, List.nil_append, List.length_cons, List.length_nil, List.replicate_succ, List.replicate_zero, Nat.reduceSub, Nat.reduceAdd, Nat.zero_add, wipeD, keyD]
  refine rAdd_i ?_
  refine use_draw (k := k + 3 * most.toNat + 1) (hD.put pa pc) (by omega) (by omega) fun r1 M1 hD1 hK1 u0 u1 => ⟨by decide, ?_⟩
  refine use_draw hD1 (by decide) (by decide) fun r2 M2 hD2 hK2 v0 v1 => ?_
  obtain ⟨n, hn, n0, n1⟩ : ∃ n : Int, atI [D.int r1, D.int most] r2 = some (.int n) ∧ 0 ≤ n ∧ n ≤ most := by
    by_cases h0 : r2 = 0
    · subst h0; exact ⟨r1, by rw [at0]; rfl, u0, by omega⟩
    · obtain rfl : r2 = 1 := by omega
      exact ⟨most, by rw [at1]; rfl, hm1, Int.le_refl _⟩
  refine rIx_seq (x := .lst _) rfl hn ⟨by omega, by omega, ?_⟩
  have K0 : Kp a c M M2 := ((Kp.new hp).trans hK1).trans hK2
  have ep : M2.map p = some (.lst []) := (hK1.trans hK2).keep pa pc MS.put_same
  refine forW_inv (fun ds' ρ M' => ∃ (ws : List (Int × Int)) (r4 r5 r6 : Option D), ρ = [some (.ref a), some (.int st), some (.int most), some (.ref p), r4, r5, r6] ∧ M'.map p = some (.lst (ws.map wayD)) ∧ Dk M' a c (k + 3 * ds'.length) ∧ Kp a c M M' ∧ waysIn ws st ∧ ws.length + ds'.length = n.toNat)
    (fun _ _ _ _ => trivial) (fun ρ M' q => ?_) (fun d ds' ρ M' Nx q nx => ?_) _ _ _ ⟨[], none, none, none, rfl, ep, hD2.mono (by rw [rangeD_length]; omega), K0, (fun _ z => absurd z List.not_mem_nil), by rw [rangeD_length]; simp⟩
  · obtain ⟨ws, r4, r5, r6, rfl, e, q1, q2, q3, q4⟩ := q
    simp only [sSeq, sRet, sRetN, sNext, sIf, sAsg, sPar, sPar3, sSetI, sAug, sAugI, sDrop, sBreak, sCont, dOp, dUn, dCons, dNil, dFn, dC, dTup, dLst, dLstM, dIf, dTest, dTru, dAnd, dOr, dNot, dAndV, dOrV, dNotE, dChain, dSl, dNoPart, dPart, dSeq, dEnum, dZip, dRng1, dRng2, dYes, dCall, dMt, dVar, dDic0, dDic1, Pat.put, Pat.puts, List.getElem?_cons_zero, List.getElem?_cons_succ, List.set_cons_zero, List.set_cons_succ, startD, List.map_cons, List.map_nil, List.cons_append, List.nil_append, List.length_cons, List.length_nil, List.replicate_succ, List.replicate_zero, Nat.reduceSub, Nat.reduceAdd, Nat.zero_add, wipeD, keyD, rTuple, seqA, e]
    refine h ws M' (q1.mono (by simp)) q2 ?_ q3
    have : ws.length = n.toNat := by simpa using q4
    omega
  · obtain ⟨ws, r4, r5, r6, rfl, e, q1, q2, q3, q4⟩ := q
    have q4' : ws.length + (ds'.length + 1) = n.toNat := by simpa using q4
    refine ⟨_, rfl, ?_⟩
    simp only [sSeq, sRet, sRetN, sNext, sIf, sAsg, sPar, sPar3, sSetI, sAug, sAugI, sDrop, sBreak, sCont, dOp, dUn, dCons, dNil, dFn, dC, dTup, dLst, dLstM, dIf, dTest, dTru, dAnd, dOr, dNot, dAndV, dOrV, dNotE, dChain, dSl, dNoPart, dPart, dSeq, dEnum, dZip, dRng1, dRng2, dYes, dCall, dMt, dVar, dDic0, dDic1, Pat.put, Pat.puts, List.getElem?_cons_zero, List.getElem?_cons_succ, List.set_cons_zero, List.set_cons_succ, startD, List.map_cons, List.map_nil, List.cons_append, List.nil_append, List.length_cons, List.length_nil, List.replicate_succ, List.replicate_zero, Nat.reduceSub, Nat.reduceAdd, Nat.zero_add, wipeD, keyD]
    refine rSub_i ?_
    refine use_draw (k := k + 3 * ds'.length + 2) (q1.mono (by simp; omega)) (by omega) (by omega) fun f M3 hD3 hK3 w0 w1 => rAdd_i (rSub_i (rSub_i ?_))
    refine use_draw hD3 (by omega) (by omega) fun g M4 hD4 hK4 x0 x1 => ?_
    refine rAdd_i ?_
    have e4 := (hK3.trans hK4).keep pa pc e
    simp only [isL, e4]
    refine ⟨trivial, by decide, rAdd_i ⟨by decide, by decide, rSub_i ⟨by decide, by decide, ?_⟩⟩⟩
    refine use_draw hD4 (by decide) (by decide) fun r M5 hD5 hK5 y0 y1 => ?_
    have e5 := hK5.keep pa pc e4
    obtain ⟨w, hw, hin⟩ : ∃ w : Int × Int, atI [D.tup [.int f, .int (f + 1 + g)], D.tup [.int f, .int (f + 1)], D.tup [.int 0, .int (f + 1 + g)], D.tup [.int 0, .int (st - 1)]] r = some (wayD w) ∧ (0 ≤ w.1 ∧ w.1 < w.2 ∧ w.2 ≤ st - 1) := by
      have hr : r = 0 ∨ r = 1 ∨ r = 2 ∨ r = 3 := by omega
      rcases hr with rfl | rfl | rfl | rfl
      · exact ⟨(f, f + 1 + g), by rw [at0]; rfl, w0, by show f < f + 1 + g; omega, by show f + 1 + g ≤ _; omega⟩
      · exact ⟨(f, f + 1), by rw [at1]; rfl, w0, by show f < f + 1; omega, by show f + 1 ≤ _; omega⟩
      · exact ⟨(0, f + 1 + g), by rw [at2]; rfl, Int.le_refl _, by show 0 < f + 1 + g; omega, by show f + 1 + g ≤ _; omega⟩
      · exact ⟨(0, st - 1), by rw [at3]; rfl, Int.le_refl _, by show 0 < st - 1; omega, by show st - 1 ≤ _; omega⟩
    refine rIx_seq (x := .lst _) rfl hw ?_
    simp only [rApp, e5]
    refine ⟨by rw [List.length_map]; omega, nx _ _ ⟨ws ++ [w], _, _, _, rfl, by rw [MS.put_same]; simp, hD5.put pa pc, (((q2.trans hK3).trans hK4).trans hK5).put hp, fun x hx => ?_, by simp; omega⟩⟩
    rcases List.mem_append.mp hx with z | z
    · exact q3 x z
    · rw [List.mem_singleton.mp z]; exact hin
end DL

namespace DL
open PySem PySem.Spec PyProof.Rows L2

/-! ### lists all of whose items are fine and plain of kind -/
def AllF (xs : List D) (n w : Nat) : Prop := ∀ x ∈ xs, fineB x n w = true ∧ noLst x = true ∧ hasDic x = false
theorem AllF.sub {xs ys : List D} {n w : Nat} (h : AllF xs n w) (s : ∀ y ∈ ys, y ∈ xs) : AllF ys n w := fun y hy => h y (s y hy)
theorem AllF.app {xs ys : List D} {n w : Nat} (h : AllF xs n w) (h' : AllF ys n w) : AllF (xs ++ ys) n w := fun y hy => (List.mem_append.mp hy).elim (h y) (h' y)
theorem AllF.fl : ∀ {xs : List D} {n w : Nat}, AllF xs n w → FL xs n ((w + 2) * xs.length) ∧ Ne xs
  | [], n, w, _ => ⟨⟨rfl, Nat.zero_le _, rfl, Nat.zero_le _, fun _ => rfl⟩, ⟨rfl, rfl⟩⟩
  | x :: xs, n, w, h => by
    obtain ⟨i1, i2⟩ := AllF.fl (xs := xs) (n := n) (w := w) fun y hy => h y (List.mem_cons_of_mem _ hy)
    obtain ⟨h1, h2, h3⟩ := h x (List.mem_cons_self ..)
    have f := FL.one h1
    have nx : Ne [x] := ⟨by simp [noLsts, h2], by simp [hasDics, h3]⟩
    refine ⟨?_, nx.app i2⟩
    have := f.app i1 (.inl nx)
    refine this.mono (Nat.le_refl _) ?_
    rw [List.length_cons, Nat.mul_succ]
    omega
theorem AllF.flL {xs : List D} {n w n' w' : Nat} (h : AllF xs n w) (hn : n ≤ n') (L : Nat) (hl : xs.length ≤ L) (hw : (w + 2) * L ≤ w') : FL xs n' w' ∧ Ne xs := by
  obtain ⟨i1, i2⟩ := h.fl
  exact ⟨i1.mono hn (Nat.le_trans (Nat.mul_le_mul_left _ hl) hw), i2⟩
theorem cut_mem {xs : List D} {lo hi : Option Int} {x : D} (h : x ∈ cutD xs lo hi) : x ∈ xs := by
  unfold cutD at h
  exact List.mem_of_mem_drop (List.mem_of_mem_take h)
theorem cut_len (xs : List D) (lo hi : Option Int) : (cutD xs lo hi).length ≤ xs.length := by
  unfold cutD
  rw [List.length_take, List.length_drop]
  omega
theorem AllF.cut {xs : List D} {n w : Nat} (h : AllF xs n w) (lo hi : Option Int) : AllF (cutD xs lo hi) n w := h.sub fun _ hy => cut_mem hy
theorem allF_int {i : Int} (h0 : -(2 ^ 200) < i) (h1 : i < 2 ^ 200) : fineB (.int i) 0 1921 = true ∧ noLst (.int i) = true ∧ hasDic (.int i) = false := ⟨fineB_int h0 h1, rfl, rfl⟩
theorem way_fine {w : Int × Int} (h0 : 0 ≤ w.1) (h1 : w.1 < 2 ^ 100) (h2 : 0 ≤ w.2) (h3 : w.2 < 2 ^ 100) : fineB (wayD w) 1 3849 = true ∧ noLst (wayD w) = true ∧ hasDic (wayD w) = false := by
  refine ⟨?_, rfl, rfl⟩
  have := FL.app (FL.one (fineB_int (i := w.1) (by omega) (by omega))) (FL.one (fineB_int (i := w.2) (by omega) (by omega))) (.inl ⟨rfl, rfl⟩)
  exact FL.tup this
theorem ways_allF {ws : List (Int × Int)} {st : Int} (h : waysIn ws st) (hs : st ≤ 1000) : AllF (ws.map wayD) 1 3849 := fun x hx => by
  obtain ⟨w, hw, rfl⟩ := List.mem_map.mp hx
  obtain ⟨h1, h2, h3⟩ := h w hw
  exact way_fine h1 (by omega) (by omega) (by omega)
theorem cut61 (a b c d e f : D) : cutD [a, b, c, d, e, f] none (some 1) = [a] := rfl
theorem rIx_any {L : List D} {r : Int} {M : MS} {Φ : DQ} (h0 : 0 ≤ r) (h1 : r < L.length) (q : ∀ d ∈ L, Φ d M) : rIx (.lst L) (.int r) M Φ := by
  have hr : r.toNat < L.length := by omega
  exact rIx_seq (x := .lst L) rfl (d := L[r.toNat]) (by rw [atI_t _ _ h0, List.getElem?_eq_getElem hr]) (q _ (List.getElem_mem hr))
theorem flat_sub {xs : List D} {k : Nat} : ∀ y ∈ (List.replicate k xs).flatten, y ∈ xs := fun y hy => by
  obtain ⟨l, h1, h2⟩ := List.mem_flatten.mp hy
  rw [(List.mem_replicate.mp h1).2] at h2
  exact h2
theorem cut_take {xs : List D} (k : Nat) : (cutD xs none (some (k : Int))).length ≤ k := by
  unfold cutD
  rw [List.length_take, show HT.sIx xs.length xs.length (some (k : Int)) = min k xs.length from HT.sIx_nat xs.length xs.length k]
  omega
def sp_law_changed_v2 : DSp := fun ds M Φ _ => ∃ (a c : Addr) (k : Nat) (st : Int) (ws : List (Int × Int)), ds = [.ref a, .tup (ws.map wayD)] ∧ st ≤ 1000 ∧ waysIn ws st ∧ ws.length ≤ 40 ∧ Dk M a c (k + 6) ∧
  ∀ (d : D) M', Dk M' a c k → Kp a c M M' → fineB d 10 600000 = true → Φ d M'
def t_law_changed_v2 : DS := (sSeq (sPar3 2 3 4 (dCons (dCall 2 sp_law_draw (dCons (dVar 0) (dCons (dOp rAdd (dFn rLen (dCons (dVar 1) dNil)) (dC (.int 1))) dNil))) (dCons (dCall 2 sp_law_draw (dCons (dVar 0) (dCons (dC (.int 2)) dNil))) (dCons (dCall 1 sp_law_odd (dCons (dVar 0) dNil)) dNil)))) (sSeq (sAsg (dOp rIx (dOp rAdd (dVar 1) (dTup (dCons (dTup (dCons (dC (.int 0)) (dCons (dC (.int 1)) dNil))) dNil))) (dVar 2)) (.nm 5)) (sSeq (sAsg (dOp rIx (dLst (dCons (dVar 4) (dCons (dC (.int 10)) (dCons (dOp rIx (dVar 5) (dOp rSub (dC (.int 1)) (dVar 3))) (dCons (dUn rNeg (dC (.int 1))) (dCons (dOp rEq (dOp rIx (dVar 5) (dVar 3)) (dC (.int 1))) dNil)))))) (dCall 2 sp_law_draw (dCons (dVar 0) (dCons (dC (.int 5)) dNil)))) (.nm 6)) (sSeq (sAsg (dLst (dCons (dOp rAdd (dOp rAdd (dSl (dVar 5) dNoPart (dPart (dVar 3))) (dTup (dCons (dVar 6) dNil))) (dSl (dVar 5) (dPart (dOp rAdd (dVar 3) (dC (.int 1)))) dNoPart)) (dCons (dRev (dVar 5)) (dCons (dFn rList (dCons (dVar 5) dNil)) (dCons (dSl (dVar 5) dNoPart (dPart (dC (.int 1)))) (dCons (dOp rAdd (dVar 5) (dTup (dCons (dC (.int 1)) dNil))) (dCons (dVar 4) dNil))))))) (.nm 7)) (sSeq (sAsg (dOp rIx (dOp rAdd (dOp rMul (dSl (dVar 7) dNoPart (dPart (dC (.int 1)))) (dC (.int 3))) (dVar 7)) (dCall 2 sp_law_draw (dCons (dVar 0) (dCons (dC (.int 9)) dNil)))) (.nm 8)) (sSeq (sPar 9 10 (dCons (dSl (dVar 1) dNoPart (dPart (dVar 2))) (dCons (dSl (dVar 1) (dPart (dOp rAdd (dVar 2) (dC (.int 1)))) dNoPart) dNil))) (sSeq (sAsg (dOp rMul (dOp rAdd (dVar 1) (dTup (dCons (dVar 5) dNil))) (dC (.int 41))) (.nm 11)) (sSeq (sAsg (dLst (dCons (dOp rAdd (dOp rAdd (dVar 9) (dTup (dCons (dVar 8) dNil))) (dVar 10)) (dCons (dOp rAdd (dOp rAdd (dVar 9) (dTup (dCons (dVar 8) dNil))) (dSl (dVar 1) (dPart (dVar 2)) dNoPart)) (dCons (dOp rAdd (dVar 9) (dVar 10)) (dCons (dFn rList (dCons (dVar 1) dNil)) (dCons (dTup (dCons (dVar 1) dNil)) (dCons (dVar 4) dNil))))))) (.nm 12)) (sSeq (sRet (dOp rIx (dOp rAdd (dOp rAdd (dOp rMul (dSl (dVar 12) dNoPart (dPart (dC (.int 1)))) (dC (.int 3))) (dVar 12)) (dLst (dCons (dSl (dVar 11) dNoPart (dPart (dC (.int 40)))) (dCons (dSl (dVar 11) dNoPart (dPart (dC (.int 41)))) dNil)))) (dCall 2 sp_law_draw (dCons (dVar 0) (dCons (dC (.int 11)) dNil))))) sNext)))))))))
theorem p_law_changed_v2 (ds : List D) (M : MS) (Φ : DQ) (h : sp_law_changed_v2 ds M Φ noX) : t_law_changed_v2 { nx := fun _ M' => Φ .non M', rt := Φ } (startD 13 ds) M := by
  obtain ⟨a, c, k, st, ws, rfl, hst, hw, hl, hD, h⟩ := h
  simp only [t_law_changed_v2, sSeq, sRet, sRetN, sNext, sIf, sAsg, sPar, sPar3, sSetI, sAug, sAugI, sDrop, sBreak, sCont, dOp, dUn, dCons, dNil, dFn, dC, dTup, dLst, dLstM, dIf, dTest, dTru, dAnd, dOr, dNot, dAndV, dOrV, dNotE, dChain, dSl, dNoPart, dPart, dSeq, dEnum, dZip, dRng1, dRng2, dYes, dCall, dMt, dVar, dDic0, dDic1, Pat.put, Pat.puts, List.getElem?_cons_zero, List.getElem?_cons_succ, List.set_cons_zero, List.set_cons_succ, startD, List.map_cons, List.map_nil, List.cons_append, List.nil_append, List.length_cons, List.length_nil, List.replicate_succ, List.replicate_zero, Nat.reduceSub, Nat.reduceAdd, Nat.zero_add, wipeD, keyD, rLen, seqA, List.length_map]
  refine rAdd_i ?_
  refine use_draw (hD : Dk M a c (k + 5 + 1)) (by omega) (by omega) fun at' M1 hD1 hK1 t0 t1 => ?_
  refine use_draw hD1 (by decide) (by decide) fun j M2 hD2 hK2 j0 j1 => ?_
  refine use_odd hD2 fun strange M3 hD3 hK3 hodd => ⟨by decide, ?_⟩
  have hs := odds_fine hodd
  have AW := ways_allF hw hst
  generalize hW : ws.map wayD = W at AW ⊢
  have hWl : W.length ≤ 40 := by rw [← hW, List.length_map]; exact hl
  simp only [rAdd]
  refine ⟨by decide, by rw [List.length_cons, List.length_nil]; omega, ?_⟩
  obtain ⟨w, ew, w1, w2, w3, w4⟩ : ∃ w : Int × Int, atI (W ++ [.tup [.int 0, .int 1]]) at' = some (wayD w) ∧ 0 ≤ w.1 ∧ w.1 < 2 ^ 100 ∧ 0 ≤ w.2 ∧ w.2 < 2 ^ 100 := by
    rw [atI_t _ _ t0, ← hW]
    have e : ws.map wayD ++ [D.tup [.int 0, .int 1]] = (ws ++ [(0, 1)]).map wayD := by rw [List.map_append]; rfl
    have hlt : at'.toNat < (ws ++ [((0 : Int), (1 : Int))]).length := by rw [List.length_append, List.length_cons, List.length_nil]; omega
    rw [e, List.getElem?_map, List.getElem?_eq_getElem hlt]
    have hm := List.getElem_mem hlt
    generalize (ws ++ [((0 : Int), (1 : Int))])[at'.toNat] = w at hm ⊢
    refine ⟨w, rfl, ?_⟩
    rcases List.mem_append.mp hm with z | z
    · obtain ⟨x1, x2, x3⟩ := hw w z
      exact ⟨x1, by omega, by omega, by omega⟩
    · rw [List.mem_singleton.mp z]
      exact ⟨by decide, by decide, by decide, by decide⟩
  refine rIx_seq (x := .tup _) rfl ew ?_
  obtain ⟨u, eu, u0, u1⟩ : ∃ u : Int, atI [D.int w.1, D.int w.2] (1 - j) = some (.int u) ∧ 0 ≤ u ∧ u < 2 ^ 100 := by
    by_cases z : j = 0
    · subst z; exact ⟨w.2, by rw [show (1 : Int) - 0 = 1 by decide, at1]; rfl, w3, w4⟩
    · obtain rfl : j = 1 := by omega
      exact ⟨w.1, by rw [show (1 : Int) - 1 = 0 by decide, at0]; rfl, w1, w2⟩
  obtain ⟨v, ev, v0, v1⟩ : ∃ u : Int, atI [D.int w.1, D.int w.2] j = some (.int u) ∧ 0 ≤ u ∧ u < 2 ^ 100 := by
    by_cases z : j = 0
    · subst z; exact ⟨w.1, by rw [at0]; rfl, w1, w2⟩
    · obtain rfl : j = 1 := by omega
      exact ⟨w.2, by rw [at1]; rfl, w3, w4⟩
  refine rSub_i (rIx_seq (x := .tup [.int w.1, .int w.2]) rfl eu (rNeg_i (rIx_seq (x := .tup [.int w.1, .int w.2]) rfl ev (rEq_i ⟨by decide, ?_⟩))))
  refine use_draw hD3 (by decide) (by decide) fun r M4 hD4 hK4 x0 x1 => ?_
  obtain ⟨part, hn, fn⟩ : ∃ part, atI [strange, .int 10, .int u, .int (-1), .bl (v == 1)] r = some part ∧ fineB part 3 10000 = true := by
    have hr : r = 0 ∨ r = 1 ∨ r = 2 ∨ r = 3 ∨ r = 4 := by omega
    rcases hr with rfl | rfl | rfl | rfl | rfl
    · exact ⟨_, by rw [at0]; rfl, hs⟩
    · exact ⟨_, by rw [at1]; rfl, by decide +kernel⟩
    · exact ⟨_, by rw [at2]; rfl, fineB_mono (fineB_int (by omega) (by omega)) (by decide) (by decide)⟩
    · exact ⟨_, by rw [at3]; rfl, by decide +kernel⟩
    · exact ⟨_, by rw [at4]; rfl, fineB_mono fineB_bl (by decide) (by decide)⟩
  refine rIx_seq (x := .lst _) rfl hn ?_
  have AI : AllF [D.int w.1, D.int w.2] 0 1921 := fun x hx => by
    simp only [List.mem_cons, List.not_mem_nil, or_false] at hx
    rcases hx with rfl | rfl
    · exact allF_int (by omega) (by omega)
    · exact allF_int (by omega) (by omega)
  simp only [wayD, rSl, rAdd, dRev, sSeq, sRet, sRetN, sNext, sIf, sAsg, sPar, sPar3, sSetI, sAug, sAugI, sDrop, sBreak, sCont, dOp, dUn, dCons, dNil, dFn, dC, dTup, dLst, dLstM, dIf, dTest, dTru, dAnd, dOr, dNot, dAndV, dOrV, dNotE, dChain, dSl, dNoPart, dPart, dSeq, dEnum, dZip, dRng1, dRng2, dYes, dCall, dMt, dVar, dDic0, dDic1, Pat.put, Pat.puts, List.getElem?_cons_zero, List.getElem?_cons_succ, List.set_cons_zero, List.set_cons_succ, startD, List.map_cons, List.map_nil, List.cons_append, List.nil_append, List.length_cons, List.length_nil, List.replicate_succ, List.replicate_zero, Nat.reduceSub, Nat.reduceAdd, Nat.zero_add, wipeD, keyD, rList, seqA]
  obtain ⟨c1, n1⟩ := (AI.cut none (some j)).flL (n' := 3) (w' := 4000) (by decide) 2 (cut_len _ _ _) (by decide)
  obtain ⟨c2, n2⟩ := (AI.cut (some (j + 1)) none).flL (n' := 3) (w' := 4000) (by decide) 2 (cut_len _ _ _) (by decide)
  obtain ⟨c3, n3⟩ := (AI.cut none (some 1)).flL (n' := 3) (w' := 4000) (by decide) 2 (cut_len _ _ _) (by decide)
  obtain ⟨c4, n4⟩ := AI.flL (n' := 3) (w' := 4000) (by decide) 2 (Nat.le_refl 2) (by decide)
  obtain ⟨c5, n5⟩ := (AI.sub (ys := [D.int w.1, D.int w.2].reverse) fun y hy => List.mem_reverse.mp hy).flL (n' := 3) (w' := 4000) (by decide) 2 (by simp) (by decide)
  have l1 := cut_len [D.int w.1, D.int w.2] none (some j)
  have l2 := cut_len [D.int w.1, D.int w.2] (some (j + 1)) none
  have b0 := FL.tup ((c1.app (FL.one fn) (.inl n1)).app c2 (.inr n2))
  have b1 := FL.tup c5
  have b2 := FL.lst c4 n4.nd
  have b3 := FL.tup c3
  have b4 := FL.tup (c4.app (FL.one (x := D.int 1) (n := 3) (w := 1921) (by decide +kernel)) (.inl n4))
  generalize cutD [D.int w.1, D.int w.2] none (some j) = C1 at l1 b0 ⊢
  generalize cutD [D.int w.1, D.int w.2] (some (j + 1)) none = C2 at l2 b0 ⊢
  generalize cutD [D.int w.1, D.int w.2] none (some 1) = C3 at b3 ⊢
  have hbent : ∀ d ∈ ([D.tup (C1 ++ [part] ++ C2), D.tup [D.int w.1, D.int w.2].reverse, D.lst [D.int w.1, D.int w.2], D.tup C3, D.tup [D.int w.1, D.int w.2, D.int 1], strange] : List D), fineB d 5 30000 = true := fun d hd => by
    simp only [List.mem_cons, List.not_mem_nil, or_false] at hd
    rcases hd with rfl | rfl | rfl | rfl | rfl | rfl
    · exact fineB_mono b0 (by decide) (by decide)
    · exact fineB_mono b1 (by decide) (by decide)
    · exact fineB_mono b2 (by decide) (by decide)
    · exact fineB_mono b3 (by decide) (by decide)
    · exact fineB_mono b4 (by decide) (by decide)
    · exact fineB_mono hs (by decide) (by decide)
  simp only [seqL, rMul, cut61, show (3 : Int).toNat = 3 from rfl, List.replicate_succ, List.replicate_zero, List.flatten_cons, List.flatten_nil, List.append_nil, List.cons_append, List.nil_append, List.length_append, List.length_cons, List.length_nil]
  have l1' : C1.length ≤ 2 := l1
  have l2' : C2.length ≤ 2 := l2
  refine ⟨by decide, by omega, by omega, by decide, by decide, by decide, by decide, by decide, by decide, by decide, ?_⟩
  refine use_draw hD4 (by decide) (by decide) fun r2 M5 hD5 hK5 y0 y1 => ?_
  refine rIx_any y0 (by simpa using y1) fun new hnew => ?_
  have fnew : fineB new 5 30000 = true := hbent new (by
    simp only [List.mem_cons, List.not_mem_nil, or_false] at hnew ⊢
    rcases hnew with z | z | z | z | z | z | z | z | z <;> simp [z])
  have AMo : AllF (W ++ [D.tup [.int w.1, .int w.2]]) 1 3849 := AW.app fun x hx => by
    rw [List.mem_singleton.mp hx]
    exact way_fine (w := w) w1 w2 w3 w4
  have gl1 := cut_len W none (some at')
  have gl2 := cut_len W (some (at' + 1)) none
  have gl3 := cut_len W (some at') none
  obtain ⟨g1, m1⟩ := (AW.cut none (some at')).flL (n' := 5) (w' := 160000) (by decide) 40 (by omega) (by decide)
  obtain ⟨g2, m2⟩ := (AW.cut (some (at' + 1)) none).flL (n' := 5) (w' := 160000) (by decide) 40 (by omega) (by decide)
  obtain ⟨g3, m3⟩ := (AW.cut (some at') none).flL (n' := 5) (w' := 160000) (by decide) 40 (by omega) (by decide)
  obtain ⟨g4, m4⟩ := AW.flL (n' := 5) (w' := 160000) (by decide) 40 hWl (by decide)
  have f0 := FL.tup ((g1.app (FL.one fnew) (.inl m1)).app g2 (.inr m2))
  have f1 := FL.tup ((g1.app (FL.one fnew) (.inl m1)).app g3 (.inr m3))
  have f2 := FL.tup (g1.app g2 (.inl m1))
  have f3 := FL.lst g4 m4.nd
  have f4 := FL.tup (FL.one (FL.tup g4))
  generalize cutD W none (some at') = H1 at gl1 f0 f1 f2 ⊢
  generalize cutD W (some (at' + 1)) none = H2 at gl2 f0 f2 ⊢
  generalize cutD W (some at') none = H3 at gl3 f1 ⊢
  refine ⟨by decide, by omega, by decide, by decide, by omega, by decide, by omega, by omega, by decide, by omega, by omega, by omega, by decide, by decide, by decide, by decide, by decide, by decide, by decide, by decide, ?_⟩
  refine use_draw hD5 (by decide) (by decide) fun r3 M6 hD6 hK6 z0 z1 => ?_
  refine rIx_any z0 (by simpa using z1) fun d hd => h d _ hD6 (((((hK1.trans hK2).trans hK3).trans hK4).trans hK5).trans hK6) ?_
  have AM : AllF (List.replicate (41 : Int).toNat (W ++ [D.tup [.int w.1, .int w.2]])).flatten 1 3849 := AMo.sub flat_sub
  generalize (List.replicate (41 : Int).toNat (W ++ [D.tup [D.int w.1, D.int w.2]])).flatten = MO at hd AM
  obtain ⟨g5, _⟩ := (AM.cut none (some 40)).flL (n' := 5) (w' := 160000) (by decide) 40 (cut_take 40) (by decide)
  obtain ⟨g6, _⟩ := (AM.cut none (some 41)).flL (n' := 5) (w' := 160000) (by decide) 41 (cut_take 41) (by decide)
  have f5 := FL.tup g5
  have f6 := FL.tup g6
  simp only [List.mem_cons, List.not_mem_nil, or_false] at hd
  rcases hd with rfl | rfl | rfl | rfl | rfl | rfl | rfl | rfl | rfl | rfl | rfl
  all_goals first
    | exact fineB_mono f0 (by decide) (by decide)
    | exact fineB_mono f1 (by decide) (by decide)
    | exact fineB_mono f2 (by decide) (by decide)
    | exact fineB_mono f3 (by decide) (by decide)
    | exact fineB_mono f4 (by decide) (by decide)
    | exact fineB_mono f5 (by decide) (by decide)
    | exact fineB_mono f6 (by decide) (by decide)
    | exact fineB_mono hs (by decide) (by decide)
end DL

namespace DL
open PySem PySem.Spec PyProof.Rows L2

/-! ### chairs carried -/
def Ext (M M' : MS) : Prop := ∀ b, M.map b ≠ none → M'.map b = M.map b
theorem Ext.refl {M : MS} : Ext M M := fun _ _ => rfl
theorem Ext.trans {M M1 M2 : MS} (h : Ext M M1) (h' : Ext M1 M2) : Ext M M2 := fun b hb => by rw [h' b (by rw [h b hb]; exact hb), h b hb]
theorem Ext.new {M : MS} {p : Addr} {o : MO} (hp : M.map p = none) : Ext M (M.put p o) := fun b hb => MS.put_ne fun e => by subst e; exact hb hp
theorem Ext.put {M0 M : MS} {p : Addr} {o : MO} (h : Ext M0 M) (hp : M0.map p = none) : Ext M0 (M.put p o) := fun b hb => by
  rw [MS.put_ne (fun e => by subst e; exact hb hp)]; exact h b hb
theorem Ext.kp {M M' : MS} {a c : Addr} (h : Ext M M') : Kp a c M M' := fun b _ _ hb => h b hb
theorem Ext.dk {M M' : MS} {a c : Addr} {k : Nat} (h : Ext M M') (hD : Dk M a c k) : Dk M' a c k := by
  obtain ⟨n, cells, h1, h2, h3⟩ := hD.ex
  exact ⟨hD.ne, n, cells, by rw [h a (by rw [h1]; simp)]; exact h1, by rw [h c (by rw [h2]; simp)]; exact h2, h3⟩
def step (ns : List Int) (s : Nat) : List Int := (ns.set s (ns.getD s 0 - 1)).set (s + 1) (ns.getD (s + 1) 0 + 1)
def after : List Int → Bool → List Nat → List Int × Bool
  | ns, ok, [] => (ns, ok)
  | ns, ok, s :: ss => after (step ns s) (ok && decide (0 < ns.getD s 0)) ss
def stD (ss : List Nat) : D := .tup (ss.map fun s => D.int (s : Nat))
def stOk (n : Nat) (ss : List Nat) : Prop := ∀ s ∈ ss, s + 1 < n
theorem step_len (ns : List Int) (s : Nat) : (step ns s).length = ns.length := by simp [step]
theorem after_len : ∀ (ss : List Nat) (ns : List Int) (ok : Bool), (after ns ok ss).1.length = ns.length
  | [], _, _ => rfl
  | s :: ss, ns, ok => by rw [after, after_len ss, step_len]
theorem after_snoc : ∀ (ss : List Nat) (ns : List Int) (ok : Bool) (s : Nat), after ns ok (ss ++ [s]) = (step (after ns ok ss).1 s, (after ns ok ss).2 && decide (0 < (after ns ok ss).1.getD s 0))
  | [], _, _, _ => rfl
  | x :: ss, ns, ok, s => by rw [List.cons_append, after, after, after_snoc ss]
theorem step_get {ns : List Int} {s : Nat} (h : s + 1 < ns.length) (i : Nat) : (step ns s).getD i 0 = ns.getD i 0 - (if i = s then 1 else 0) + (if i = s + 1 then 1 else 0) := by
  unfold step
  simp only [List.getD_eq_getElem?_getD, List.getElem?_set, List.length_set]
  by_cases h1 : i = s
  · subst h1
    rw [if_neg (by omega), if_pos rfl, if_pos (by omega), if_pos rfl, if_neg (by omega)]
    simp
  · by_cases h2 : i = s + 1
    · subst h2
      rw [if_pos rfl, if_pos h, if_neg (by omega), if_pos rfl]
      simp
    · rw [if_neg (by omega), if_neg (by omega), if_neg h1, if_neg h2]
      simp
theorem after_get : ∀ (ss : List Nat) (ns : List Int) (ok : Bool), stOk ns.length ss → ∀ i, (after ns ok ss).1.getD i 0 = ns.getD i 0 - (ss.count i : Nat) + ((ss.map (· + 1)).count i : Nat)
  | [], ns, ok, _, i => by simp [after]
  | s :: ss, ns, ok, h, i => by
    have hs := h s (List.mem_cons_self ..)
    rw [after, after_get ss _ _ (fun x hx => by rw [step_len]; exact h x (List.mem_cons_of_mem _ hx)), step_get hs, List.map_cons, List.count_cons, List.count_cons]
    by_cases h1 : i = s
    · subst h1; simp; omega
    · by_cases h2 : i = s + 1
      · subst h2; simp; omega
      · have e1 : (s == i) = false := by simp; omega
        have e2 : (s + 1 == i) = false := by simp; omega
        rw [e1, e2, if_neg h1, if_neg h2]
        simp
theorem get_ints {ns : List Int} {i : Nat} (h : i < ns.length) : (ns.map D.int)[i]? = some (.int (ns.getD i 0)) := by
  rw [List.getElem?_map, List.getElem?_eq_getElem h]
  simp [List.getD_eq_getElem?_getD, h]
theorem set_ints (ns : List Int) (i : Nat) (x : Int) : (ns.map D.int).set i (.int x) = (ns.set i x).map D.int := by rw [List.map_set]
def sp_chairs_after : DSp := fun ds M Φ _ => ∃ (ns : List Int) (ss : List Nat), ds = [.tup (ns.map D.int), stD ss] ∧ stOk ns.length ss ∧ ∀ M', Ext M M' → Φ (.tup [.tup ((after ns true ss).1.map D.int), .bl (after ns true ss).2]) M'
def t_chairs_after : DS := (sSeq (sPar 2 3 (dCons (dFn rListM (dCons (dVar 0) dNil)) (dCons (dC (.bl true)) dNil))) (sSeq (sFor (dSeq (dVar 1)) (.nm 4) (sSeq (sAsg (dAndV (dVar 3) (dOp rGt (dOp rIx (dVar 2) (dVar 4)) (dC (.int 0)))) (.nm 3)) (sSeq (sAugI (dVar 2) (dVar 4) (dC (.int 1)) (fun i j => i - j)) (sSeq (sAugI (dVar 2) (dOp rAdd (dVar 4) (dC (.int 1))) (dC (.int 1)) (fun i j => i + j)) sNext)))) (sSeq (sRet (dTup (dCons (dFn rTuple (dCons (dVar 2) dNil)) (dCons (dVar 3) dNil)))) sNext)))
theorem rGet_ref {M : MS} {Φ : DQ} {p : Addr} {ds : List D} {i : Int} {d : D} (h : M.map p = some (.lst ds)) (e : atI ds i = some d) (q : Φ d M) : rGet (.ref p) (.int i) M Φ := by
  unfold rGet
  simp only [seqL, h, e]
  exact q
theorem rIp_i {f : Int → Int → Int} {i j : Int} {M : MS} {Φ : DQ} (q : Φ (.int (f i j)) M) : rIp f (.int i) (.int j) M Φ := q
theorem atI_ints {ns : List Int} {s : Nat} (h : s < ns.length) : atI (ns.map D.int) (s : Nat) = some (.int (ns.getD s 0)) := by rw [atI_n, get_ints h]
theorem ixN_nat' {n s : Nat} (h : s < n) : ixN n (s : Nat) = some s := by
  have := ixN_t n (s : Nat) (by omega) (by omega)
  simpa using this
/-- found[s] -= 1; found[s + 1] += 1 -/
theorem run_move {M : MS} {Q : MS → Prop} {p : Addr} {ns : List Int} {s : Nat} (h : M.map p = some (.lst (ns.map D.int))) (hs : s + 1 < ns.length) (q : ∀ M', M'.map p = some (.lst ((step ns s).map D.int)) → (∀ b, b ≠ p → M'.map b = M.map b) → Q M') :
    rGet (.ref p) (.int s) M fun y M3 => rIp (fun i j => i - j) y (.int 1) M3 fun w M5 => rSet (.ref p) (.int s) w M5 fun M6 => rAdd (.int s) (.int 1) M6 fun z M7 => rGet (.ref p) z M7 fun y M8 => rIp (fun i j => i + j) y (.int 1) M8 fun w M9 => rSet (.ref p) z w M9 Q := by
  refine rGet_ref h (atI_ints (by omega)) (rIp_i (rSet_ref h (by rw [List.length_map]; exact ixN_nat' (by omega)) (rAdd_i ?_)))
  rw [set_ints]
  have e1 : (M.put p (.lst ((ns.set s (ns.getD s 0 - 1)).map D.int))).map p = some (.lst ((ns.set s (ns.getD s 0 - 1)).map D.int)) := MS.put_same
  have hs1 : ((s : Int) + 1) = ((s + 1 : Nat) : Int) := by omega
  rw [hs1]
  refine rGet_ref e1 (atI_ints (by rw [List.length_set]; exact hs)) (rIp_i (rSet_ref e1 (by rw [List.length_map, List.length_set]; exact ixN_nat' hs) ?_))
  rw [set_ints]
  refine q _ ?_ fun b hb => by rw [MS.put_ne hb, MS.put_ne hb]
  rw [MS.put_same]
  unfold step
  have e2 : (ns.set s (ns.getD s 0 - 1)).getD (s + 1) 0 = ns.getD (s + 1) 0 := by
    simp only [List.getD_eq_getElem?_getD, List.getElem?_set]
    rw [if_neg (by omega)]
  rw [e2]
theorem p_chairs_after (ds : List D) (M : MS) (Φ : DQ) (h : sp_chairs_after ds M Φ noX) : t_chairs_after { nx := fun _ M' => Φ .non M', rt := Φ } (startD 5 ds) M := by
  obtain ⟨ns, ss, rfl, hss, h⟩ := h
  simp only [t_chairs_after, sSeq, sRet, sRetN, sNext, sIf, sAsg, sPar, sPar3, sSetI, sAug, sAugI, sDrop, sBreak, sCont, dOp, dUn, dCons, dNil, dFn, dC, dTup, dLst, dLstM, dIf, dTest, dTru, dAnd, dOr, dNot, dAndV, dOrV, dNotE, dChain, dSl, dNoPart, dPart, dSeq, dEnum, dZip, dRng1, dRng2, dYes, dCall, dMt, dVar, dDic0, dDic1, Pat.put, Pat.puts, List.getElem?_cons_zero, List.getElem?_cons_succ, List.set_cons_zero, List.set_cons_succ, startD, List.map_cons, List.map_nil, List.cons_append, List.nil_append, List.length_cons, List.length_nil, List.replicate_succ, List.replicate_zero, Nat.reduceSub, Nat.reduceAdd, Nat.zero_add, wipeD, keyD, rListM, seqA]
  intro p hp
  simp only [sFor, dSeq, sSeq, sRet, sRetN, sNext, sIf, sAsg, sPar, sPar3, sSetI, sAug, sAugI, sDrop, sBreak, sCont, dOp, dUn, dCons, dNil, dFn, dC, dTup, dLst, dLstM, dIf, dTest, dTru, dAnd, dOr, dNot, dAndV, dOrV, dNotE, dChain, dSl, dNoPart, dPart, dSeq, dEnum, dZip, dRng1, dRng2, dYes, dCall, dMt, dVar, dDic0, dDic1, Pat.put, Pat.puts, List.getElem?_cons_zero, List.getElem?_cons_succ, List.set_cons_zero, List.set_cons_succ, startD, List.map_cons, List.map_nil, List.cons_append, List.nil_append, List.length_cons, List.length_nil, List.replicate_succ, List.replicate_zero, Nat.reduceSub, Nat.reduceAdd, Nat.zero_add, wipeD, keyD, stD, seqA]
  refine forW_inv (fun ds' ρ M' => ∃ (ms : List Int) (ok : Bool) (rest : List Nat) (r4 : Option D), ρ = [some (.tup (ns.map D.int)), some (.tup (ss.map fun s => D.int (s : Nat))), some (.ref p), some (.bl ok), r4] ∧ ds' = rest.map (fun s => D.int (s : Nat)) ∧ M'.map p = some (.lst (ms.map D.int)) ∧ ms.length = ns.length ∧ Ext M M' ∧ stOk ns.length rest ∧ after ms ok rest = after ns true ss)
    (fun _ _ _ _ => trivial) (fun ρ M' q => ?_) (fun d ds' ρ M' Nx q nx => ?_) _ _ _ ⟨ns, true, ss, none, rfl, rfl, MS.put_same, rfl, Ext.new hp, hss, rfl⟩
  · obtain ⟨ms, ok, rest, r4, rfl, e, q1, q2, q3, q4, q5⟩ := q
    obtain rfl : rest = [] := by
      cases rest with
      | nil => rfl
      | cons _ _ => cases e
    simp only [sSeq, sRet, sRetN, sNext, sIf, sAsg, sPar, sPar3, sSetI, sAug, sAugI, sDrop, sBreak, sCont, dOp, dUn, dCons, dNil, dFn, dC, dTup, dLst, dLstM, dIf, dTest, dTru, dAnd, dOr, dNot, dAndV, dOrV, dNotE, dChain, dSl, dNoPart, dPart, dSeq, dEnum, dZip, dRng1, dRng2, dYes, dCall, dMt, dVar, dDic0, dDic1, Pat.put, Pat.puts, List.getElem?_cons_zero, List.getElem?_cons_succ, List.set_cons_zero, List.set_cons_succ, startD, List.map_cons, List.map_nil, List.cons_append, List.nil_append, List.length_cons, List.length_nil, List.replicate_succ, List.replicate_zero, Nat.reduceSub, Nat.reduceAdd, Nat.zero_add, wipeD, keyD, rTuple, seqA, q1]
    refine ⟨by decide, ?_⟩
    have := h M' q3
    rw [← q5] at this
    exact this
  · obtain ⟨ms, ok, rest, r4, rfl, e, q1, q2, q3, q4, q5⟩ := q
    cases rest with
    | nil => cases e
    | cons s rest =>
      rw [List.map_cons] at e
      injection e with e1 e2
      subst e1 e2
      have hs := q4 s (List.mem_cons_self ..)
      refine ⟨_, rfl, ?_⟩
      simp only [sSeq, sRet, sRetN, sNext, sIf, sAsg, sPar, sPar3, sSetI, sAug, sAugI, sDrop, sBreak, sCont, dOp, dUn, dCons, dNil, dFn, dC, dTup, dLst, dLstM, dIf, dTest, dTru, dAnd, dOr, dNot, dAndV, dOrV, dNotE, dChain, dSl, dNoPart, dPart, dSeq, dEnum, dZip, dRng1, dRng2, dYes, dCall, dMt, dVar, dDic0, dDic1, Pat.put, Pat.puts, List.getElem?_cons_zero, List.getElem?_cons_succ, List.set_cons_zero, List.set_cons_succ, startD, List.map_cons, List.map_nil, List.cons_append, List.nil_append, List.length_cons, List.length_nil, List.replicate_succ, List.replicate_zero, Nat.reduceSub, Nat.reduceAdd, Nat.zero_add, wipeD, keyD]
      have go : ∀ ok' : Bool, ok' = (ok && decide (0 < ms.getD s 0)) → rGet (.ref p) (.int s) M' fun y M3 => rIp (fun i j => i - j) y (.int 1) M3 fun w M5 => rSet (.ref p) (.int s) w M5 fun M6 => rAdd (.int s) (.int 1) M6 fun z M7 => rGet (.ref p) z M7 fun y M8 => rIp (fun i j => i + j) y (.int 1) M8 fun w M9 => rSet (.ref p) z w M9 fun M10 =>
          Nx [some (.tup (ns.map D.int)), some (.tup (ss.map fun s => D.int (s : Nat))), some (.ref p), some (.bl ok'), some (.int s)] M10 := fun ok' hok => by
        refine run_move q1 (by rw [q2]; exact hs) fun M6 e6 k6 => nx _ _ ⟨step ms s, ok', rest, _, rfl, rfl, e6, by rw [step_len, q2], fun b hb => ?_, fun x hx => q4 x (List.mem_cons_of_mem _ hx), ?_⟩
        · have hbp : b ≠ p := fun z => by subst z; exact hb hp
          rw [k6 b hbp]
          exact q3 b hb
        · rw [hok]; exact q5
      cases ok with
      | true =>
        simp only [if_true]
        refine rIx_seq (seqA_ref q1) (atI_ints (by rw [q2]; omega)) (rCmp_i ?_)
        exact go _ (by simp)
      | false =>
        simp only [Bool.false_eq_true, if_false]
        exact go _ (by simp)
end DL

namespace DL
open PySem PySem.Spec PyProof.Rows L2

/-! ### plans -/
def afters (ns : List Int) : List (List Nat) → List Int
  | [] => ns
  | ss :: ps => afters (after ns true ss).1 ps
def planStOk (n : Nat) (ps : List (List Nat)) : Prop := ∀ ss ∈ ps, stOk n ss
theorem afters_len : ∀ (ps : List (List Nat)) (ns : List Int), (afters ns ps).length = ns.length
  | [], _ => rfl
  | ss :: ps, ns => by rw [afters, afters_len ps, after_len]
theorem afters_snoc : ∀ (ps : List (List Nat)) (ns : List Int) (ss : List Nat), afters ns (ps ++ [ss]) = (after (afters ns ps) true ss).1
  | [], _, _ => rfl
  | x :: ps, ns, ss => by rw [List.cons_append, afters, afters, afters_snoc ps]
def planD (ps : List (List Nat)) : D := .tup (ps.map stD)
def sp_row_after : DSp := fun ds M Φ _ => ∃ (ns : List Int) (w : D) (ps : List (List Nat)), ds = [.tup (ns.map D.int), w, planD ps] ∧ planStOk ns.length ps ∧ ∀ M', Ext M M' → Φ (.tup ((afters ns ps).map D.int)) M'
def t_row_after : DS := (sSeq (sAsg (dVar 0) (.nm 3)) (sSeq (sFor (dSeq (dVar 2)) (.nm 4) (sSeq (sAsg (dCall 2 sp_chairs_after (dCons (dVar 3) (dCons (dVar 4) dNil))) (.tp [(.nm 3), (.nm 5)])) sNext)) (sSeq (sRet (dVar 3)) sNext)))
theorem p_row_after (ds : List D) (M : MS) (Φ : DQ) (h : sp_row_after ds M Φ noX) : t_row_after { nx := fun _ M' => Φ .non M', rt := Φ } (startD 6 ds) M := by
  obtain ⟨ns, w, ps, rfl, hps, h⟩ := h
  simp only [t_row_after, sSeq, sRet, sRetN, sNext, sIf, sAsg, sPar, sPar3, sSetI, sAug, sAugI, sDrop, sBreak, sCont, dOp, dUn, dCons, dNil, dFn, dC, dTup, dLst, dLstM, dIf, dTest, dTru, dAnd, dOr, dNot, dAndV, dOrV, dNotE, dChain, dSl, dNoPart, dPart, dSeq, dEnum, dZip, dRng1, dRng2, dYes, dCall, dMt, dVar, dDic0, dDic1, Pat.put, Pat.puts, List.getElem?_cons_zero, List.getElem?_cons_succ, List.set_cons_zero, List.set_cons_succ, startD, List.map_cons, List.map_nil, List.cons_append, List.nil_append, List.length_cons, List.length_nil, List.replicate_succ, List.replicate_zero, Nat.reduceSub, Nat.reduceAdd, Nat.zero_add, wipeD, keyD, sFor, planD, seqA]
  refine forW_inv (fun ds' ρ M' => ∃ (ms : List Int) (rest : List (List Nat)) (r4 r5 : Option D), ρ = [some (.tup (ns.map D.int)), some w, some (.tup (ps.map stD)), some (.tup (ms.map D.int)), r4, r5] ∧ ds' = rest.map stD ∧ ms.length = ns.length ∧ Ext M M' ∧ planStOk ns.length rest ∧ afters ms rest = afters ns ps)
    (fun _ _ _ _ => trivial) (fun ρ M' q => ?_) (fun d ds' ρ M' Nx q nx => ?_) _ _ _ ⟨ns, ps, none, none, rfl, rfl, rfl, Ext.refl, hps, rfl⟩
  · obtain ⟨ms, rest, r4, r5, rfl, e, q2, q3, q4, q5⟩ := q
    obtain rfl : rest = [] := by
      cases rest with
      | nil => rfl
      | cons _ _ => cases e
    simp only [sSeq, sRet, sRetN, sNext, sIf, sAsg, sPar, sPar3, sSetI, sAug, sAugI, sDrop, sBreak, sCont, dOp, dUn, dCons, dNil, dFn, dC, dTup, dLst, dLstM, dIf, dTest, dTru, dAnd, dOr, dNot, dAndV, dOrV, dNotE, dChain, dSl, dNoPart, dPart, dSeq, dEnum, dZip, dRng1, dRng2, dYes, dCall, dMt, dVar, dDic0, dDic1, Pat.put, Pat.puts, List.getElem?_cons_zero, List.getElem?_cons_succ, List.set_cons_zero, List.set_cons_succ, startD, List.map_cons, List.map_nil, List.cons_append, List.nil_append, List.length_cons, List.length_nil, List.replicate_succ, List.replicate_zero, Nat.reduceSub, Nat.reduceAdd, Nat.zero_add, wipeD, keyD]
    have := h M' q3
    rw [← q5] at this
    exact this
  · obtain ⟨ms, rest, r4, r5, rfl, e, q2, q3, q4, q5⟩ := q
    cases rest with
    | nil => cases e
    | cons s rest =>
      rw [List.map_cons] at e
      injection e with e1 e2
      subst e1 e2
      refine ⟨_, rfl, ?_⟩
      simp only [sSeq, sRet, sRetN, sNext, sIf, sAsg, sPar, sPar3, sSetI, sAug, sAugI, sDrop, sBreak, sCont, dOp, dUn, dCons, dNil, dFn, dC, dTup, dLst, dLstM, dIf, dTest, dTru, dAnd, dOr, dNot, dAndV, dOrV, dNotE, dChain, dSl, dNoPart, dPart, dSeq, dEnum, dZip, dRng1, dRng2, dYes, dCall, dMt, dVar, dDic0, dDic1, Pat.put, Pat.puts, List.getElem?_cons_zero, List.getElem?_cons_succ, List.set_cons_zero, List.set_cons_succ, startD, List.map_cons, List.map_nil, List.cons_append, List.nil_append, List.length_cons, List.length_nil, List.replicate_succ, List.replicate_zero, Nat.reduceSub, Nat.reduceAdd, Nat.zero_add, wipeD, keyD]
      refine ⟨trivial, ms, s, rfl, by rw [q2]; exact q4 s (List.mem_cons_self ..), fun M6 x6 => ?_⟩
      simp only [sSeq, sRet, sRetN, sNext, sIf, sAsg, sPar, sPar3, sSetI, sAug, sAugI, sDrop, sBreak, sCont, dOp, dUn, dCons, dNil, dFn, dC, dTup, dLst, dLstM, dIf, dTest, dTru, dAnd, dOr, dNot, dAndV, dOrV, dNotE, dChain, dSl, dNoPart, dPart, dSeq, dEnum, dZip, dRng1, dRng2, dYes, dCall, dMt, dVar, dDic0, dDic1, Pat.put, Pat.puts, List.getElem?_cons_zero, List.getElem?_cons_succ, List.set_cons_zero, List.set_cons_succ, startD, List.map_cons, List.map_nil, List.cons_append, List.nil_append, List.length_cons, List.length_nil, List.replicate_succ, List.replicate_zero, Nat.reduceSub, Nat.reduceAdd, Nat.zero_add, wipeD, keyD]
      exact nx _ _ ⟨(after ms true s).1, rest, _, _, rfl, rfl, by rw [after_len, q2], q3.trans x6, fun x hx => q4 x (List.mem_cons_of_mem _ hx), q5⟩

/-! ### drawn plans are possible -/
/-- ascending, within the way -/
def inWay (w : Int × Int) (ss : List Nat) : Prop := ss.Pairwise (· < ·) ∧ ∀ s ∈ ss, w.1 ≤ (s : Int) ∧ (s : Int) < w.2
def PlanOf : List Int → List (Int × Int) → List (List Nat) → Prop
  | _, [], [] => True
  | ns, w :: ws, ss :: ps => inWay w ss ∧ (after ns true ss).2 = true ∧ PlanOf (after ns true ss).1 ws ps
  | _, _, _ => False
theorem PlanOf.snoc : ∀ {ws : List (Int × Int)} {ps : List (List Nat)} {ns : List Int} {w : Int × Int} {ss : List Nat}, PlanOf ns ws ps → inWay w ss → (after (afters ns ps) true ss).2 = true → PlanOf ns (ws ++ [w]) (ps ++ [ss])
  | [], [], _, _, _, _, h1, h2 => ⟨h1, h2, trivial⟩
  | _ :: ws, _ :: ps, ns, w, ss, h, h1, h2 => ⟨h.1, h.2.1, PlanOf.snoc h.2.2 h1 h2⟩
  | [], _ :: _, _, _, _, h, _, _ => h.elim
  | _ :: _, [], _, _, _, h, _, _ => h.elim
theorem PlanOf.len : ∀ {ws : List (Int × Int)} {ps : List (List Nat)} {ns : List Int}, PlanOf ns ws ps → ps.length = ws.length
  | [], [], _, _ => rfl
  | _ :: ws, _ :: ps, ns, h => by rw [List.length_cons, List.length_cons, PlanOf.len h.2.2]
  | [], _ :: _, _, h => h.elim
  | _ :: _, [], _, h => h.elim
theorem PlanOf.st : ∀ {ws : List (Int × Int)} {ps : List (List Nat)} {ns : List Int}, PlanOf ns ws ps → waysIn ws (ns.length : Nat) → planStOk ns.length ps
  | [], [], _, _, _ => fun _ h => absurd h List.not_mem_nil
  | w :: ws, ss :: ps, ns, h, hw => fun x hx => by
    rcases List.mem_cons.mp hx with rfl | hx
    · intro s hs
      have h1 := h.1.2 s hs
      have h2 := hw w (List.mem_cons_self ..)
      omega
    · have := PlanOf.st (ns := (after ns true ss).1) h.2.2 (by rw [after_len]; exact fun y hy => hw y (List.mem_cons_of_mem _ hy)) x hx
      rwa [after_len] at this
  | [], _ :: _, _, h, _ => h.elim
  | _ :: _, [], _, h, _ => h.elim
def sp_law_plan : DSp := fun ds M Φ _ => ∃ (a c : Addr) (k : Nat) (ns : List Int) (ws : List (Int × Int)), ds = [.ref a, .tup (ns.map D.int), .tup (ws.map wayD)] ∧ waysIn ws (ns.length : Nat) ∧ ns.length ≤ 10 ∧ ws.length ≤ 1000 ∧ Dk M a c (k + 10 * ws.length + 1) ∧
  ∀ (ps : List (List Nat)) M', Dk M' a c k → Kp a c M M' → PlanOf ns ws ps → Φ (planD ps) M'
def t_law_plan : DS := (sSeq (sPar3 3 4 5 (dCons (dTup dNil) (dCons (dFn rListM (dCons (dVar 1) dNil)) (dCons (dCall 2 sp_law_draw (dCons (dVar 0) (dCons (dC (.int 4)) dNil))) dNil)))) (sSeq (sFor (dSeq (dVar 2)) (.tp [(.nm 6), (.nm 7)]) (sSeq (sAsg (dTup dNil) (.nm 8)) (sSeq (sFor (dRng2 (dVar 6) (dVar 7)) (.nm 9) (sSeq (sIf (dAnd (dTest (dOp rGt (dOp rIx (dVar 4) (dVar 9)) (dC (.int 0)))) (dTest (dOp rEq (dCall 2 sp_law_draw (dCons (dVar 0) (dCons (dOp rAdd (dVar 5) (dC (.int 1))) dNil))) (dC (.int 0))))) (sSeq (sAsg (dOp rAdd (dVar 8) (dTup (dCons (dVar 9) dNil))) (.nm 8)) (sSeq (sSetI (dOp rSub (dOp rIx (dVar 4) (dVar 9)) (dC (.int 1))) (dVar 4) (dVar 9)) (sSeq (sSetI (dOp rAdd (dOp rIx (dVar 4) (dOp rAdd (dVar 9) (dC (.int 1)))) (dC (.int 1))) (dVar 4) (dOp rAdd (dVar 9) (dC (.int 1)))) sNext))) sNext) sNext)) (sSeq (sAsg (dOp rAdd (dVar 3) (dTup (dCons (dVar 8) dNil))) (.nm 3)) sNext)))) (sSeq (sRet (dVar 3)) sNext)))
theorem p_law_plan (ds : List D) (M : MS) (Φ : DQ) (h : sp_law_plan ds M Φ noX) : t_law_plan { nx := fun _ M' => Φ .non M', rt := Φ } (startD 10 ds) M := by
  obtain ⟨a, c, k, ns, ws, rfl, hws, hl1, hl2, hD, h⟩ := h
  simp only [t_law_plan, sSeq, sRet, sRetN, sNext, sIf, sAsg, sPar, sPar3, sSetI, sAug, sAugI, sDrop, sBreak, sCont, dOp, dUn, dCons, dNil, dFn, dC, dTup, dLst, dLstM, dIf, dTest, dTru, dAnd, dOr, dNot, dAndV, dOrV, dNotE, dChain, dSl, dNoPart, dPart, dSeq, dEnum, dZip, dRng1, dRng2, dYes, dCall, dMt, dVar, dDic0, dDic1, Pat.put, Pat.puts, List.getElem?_cons_zero, List.getElem?_cons_succ, List.set_cons_zero, List.set_cons_succ, startD, List.map_cons, List.map_nil, List.cons_append, List.nil_append, List.length_cons, List.length_nil, List.replicate_succ, List.replicate_zero, Nat.reduceSub, Nat.reduceAdd, Nat.zero_add, wipeD, keyD, rListM, seqA]
  refine ⟨by decide, fun p hp => ?_⟩
  have pa := hD.a_ne hp
  have pc := hD.c_ne hp
  refine use_draw (k := k + 10 * ws.length) (hD.put pa pc) (by decide) (by decide) fun lazy M1 hD1 hK1 u0 u1 => ?_
  simp only [sFor, sSeq, sRet, sRetN, sNext, sIf, sAsg, sPar, sPar3, sSetI, sAug, sAugI, sDrop, sBreak, sCont, dOp, dUn, dCons, dNil, dFn, dC, dTup, dLst, dLstM, dIf, dTest, dTru, dAnd, dOr, dNot, dAndV, dOrV, dNotE, dChain, dSl, dNoPart, dPart, dSeq, dEnum, dZip, dRng1, dRng2, dYes, dCall, dMt, dVar, dDic0, dDic1, Pat.put, Pat.puts, List.getElem?_cons_zero, List.getElem?_cons_succ, List.set_cons_zero, List.set_cons_succ, startD, List.map_cons, List.map_nil, List.cons_append, List.nil_append, List.length_cons, List.length_nil, List.replicate_succ, List.replicate_zero, Nat.reduceSub, Nat.reduceAdd, Nat.zero_add, wipeD, keyD, seqA]
  refine forW_inv (fun ds' ρ M' => ∃ (ps : List (List Nat)) (done rest : List (Int × Int)) (r6 r7 r8 r9 : Option D), ρ = [some (.ref a), some (.tup (ns.map D.int)), some (.tup (ws.map wayD)), some (planD ps), some (.ref p), some (.int lazy), r6, r7, r8, r9] ∧ ds' = rest.map wayD ∧ ws = done ++ rest ∧ M'.map p = some (.lst ((afters ns ps).map D.int)) ∧ Dk M' a c (k + 10 * rest.length) ∧ Kp a c M M' ∧ PlanOf ns done ps)
    (fun _ _ _ _ => trivial) (fun ρ M' q => ?_) (fun d ds' ρ M' Nx q nx => ?_) _ _ _ ⟨[], [], ws, none, none, none, none, rfl, rfl, rfl, hK1.keep pa pc MS.put_same, hD1, (Kp.new hp).trans hK1, trivial⟩
  · obtain ⟨ps, done, rest, r6, r7, r8, r9, rfl, e, q1, q2, q3, q4, q5⟩ := q
    obtain rfl : rest = [] := by
      cases rest with
      | nil => rfl
      | cons _ _ => cases e
    rw [List.append_nil] at q1
    subst q1
    simp only [sSeq, sRet, sRetN, sNext, sIf, sAsg, sPar, sPar3, sSetI, sAug, sAugI, sDrop, sBreak, sCont, dOp, dUn, dCons, dNil, dFn, dC, dTup, dLst, dLstM, dIf, dTest, dTru, dAnd, dOr, dNot, dAndV, dOrV, dNotE, dChain, dSl, dNoPart, dPart, dSeq, dEnum, dZip, dRng1, dRng2, dYes, dCall, dMt, dVar, dDic0, dDic1, Pat.put, Pat.puts, List.getElem?_cons_zero, List.getElem?_cons_succ, List.set_cons_zero, List.set_cons_succ, startD, List.map_cons, List.map_nil, List.cons_append, List.nil_append, List.length_cons, List.length_nil, List.replicate_succ, List.replicate_zero, Nat.reduceSub, Nat.reduceAdd, Nat.zero_add, wipeD, keyD]
    exact h ps M' q3 q4 q5
  · obtain ⟨ps, done, rest, r6, r7, r8, r9, rfl, e, q1, q2, q3, q4, q5⟩ := q
    cases rest with
    | nil => cases e
    | cons w rest =>
      rw [List.map_cons] at e
      injection e with e1 e2
      subst e1 e2
      have hw := hws w (by rw [q1]; simp)
      refine ⟨_, rfl, ?_⟩
      simp only [sSeq, sRet, sRetN, sNext, sIf, sAsg, sPar, sPar3, sSetI, sAug, sAugI, sDrop, sBreak, sCont, dOp, dUn, dCons, dNil, dFn, dC, dTup, dLst, dLstM, dIf, dTest, dTru, dAnd, dOr, dNot, dAndV, dOrV, dNotE, dChain, dSl, dNoPart, dPart, dSeq, dEnum, dZip, dRng1, dRng2, dYes, dCall, dMt, dVar, dDic0, dDic1, Pat.put, Pat.puts, List.getElem?_cons_zero, List.getElem?_cons_succ, List.set_cons_zero, List.set_cons_succ, startD, List.map_cons, List.map_nil, List.cons_append, List.nil_append, List.length_cons, List.length_nil, List.replicate_succ, List.replicate_zero, Nat.reduceSub, Nat.reduceAdd, Nat.zero_add, wipeD, keyD, dRng2]
      refine ⟨by decide, by omega, ?_⟩
      refine forW_inv (fun ds' ρ M6 => ∃ (ss : List Nat) (r9 : Option D), ρ = [some (.ref a), some (.tup (ns.map D.int)), some (.tup (ws.map wayD)), some (planD ps), some (.ref p), some (.int lazy), some (.int w.1), some (.int w.2), some (stD ss), r9] ∧ M6.map p = some (.lst ((after (afters ns ps) true ss).1.map D.int)) ∧ (after (afters ns ps) true ss).2 = true ∧ Dk M6 a c (k + 10 * rest.length + ds'.length) ∧ Kp a c M M6 ∧ inWay w ss ∧ ds'.length ≤ 9 ∧ ss.length + ds'.length ≤ 9 ∧ (∃ i : Int, w.1 ≤ i ∧ ds' = rangeD i ds'.length ∧ i + ds'.length = w.2 ∧ ∀ s ∈ ss, (s : Int) < i))
        (fun _ _ _ _ => trivial) (fun ρ M6 q => ?_) (fun d3 ds3 ρ M6 Nx6 q nx6 => ?_) _ _ _ ⟨[], r9, rfl, q2, rfl, q3.mono (by rw [rangeD_length, List.length_cons]; omega), q4, ⟨List.Pairwise.nil, fun _ z => absurd z List.not_mem_nil⟩, by rw [rangeD_length]; omega, by rw [rangeD_length]; simp; omega, w.1, Int.le_refl _, by rw [rangeD_length], by rw [rangeD_length]; omega, fun _ z => absurd z List.not_mem_nil⟩
      · obtain ⟨ss, r9, rfl, e1, e2, e3, e4, e5, _⟩ := q
        simp only [sSeq, sRet, sRetN, sNext, sIf, sAsg, sPar, sPar3, sSetI, sAug, sAugI, sDrop, sBreak, sCont, dOp, dUn, dCons, dNil, dFn, dC, dTup, dLst, dLstM, dIf, dTest, dTru, dAnd, dOr, dNot, dAndV, dOrV, dNotE, dChain, dSl, dNoPart, dPart, dSeq, dEnum, dZip, dRng1, dRng2, dYes, dCall, dMt, dVar, dDic0, dDic1, Pat.put, Pat.puts, List.getElem?_cons_zero, List.getElem?_cons_succ, List.set_cons_zero, List.set_cons_succ, startD, List.map_cons, List.map_nil, List.cons_append, List.nil_append, List.length_cons, List.length_nil, List.replicate_succ, List.replicate_zero, Nat.reduceSub, Nat.reduceAdd, Nat.zero_add, wipeD, keyD, planD, rAdd]
        refine ⟨by decide, ?_, ?_⟩
        · rw [List.length_map, q5.len]
          have : done.length ≤ ws.length := by rw [q1]; simp
          omega
        · have ep : planD (ps ++ [ss]) = .tup (ps.map stD ++ [stD ss]) := by simp [planD]
          exact nx _ _ ⟨ps ++ [ss], done ++ [w], rest, some (.int w.1), some (.int w.2), some (stD ss), r9, by rw [ep], rfl, by rw [q1]; simp, by rw [afters_snoc]; exact e1, e3.mono (by simp), e4, q5.snoc e5 e2⟩
      · obtain ⟨ss, r9, rfl, e1, e2, e3, e4, e5, e6, e7, i, i0, i1, i2, i3⟩ := q
        rw [List.length_cons] at i1 i2 e3 e6 e7
        rw [rangeD_succ] at i1
        injection i1 with i1 i1'
        subst i1
        obtain ⟨s, rfl⟩ : ∃ s : Nat, i = (s : Nat) := ⟨i.toNat, by omega⟩
        have hal : (after (afters ns ps) true ss).1.length = ns.length := by rw [after_len, afters_len]
        have hsl : s + 1 < ns.length := by omega
        refine ⟨_, rfl, ?_⟩
        simp only [sSeq, sRet, sRetN, sNext, sIf, sAsg, sPar, sPar3, sSetI, sAug, sAugI, sDrop, sBreak, sCont, dOp, dUn, dCons, dNil, dFn, dC, dTup, dLst, dLstM, dIf, dTest, dTru, dAnd, dOr, dNot, dAndV, dOrV, dNotE, dChain, dSl, dNoPart, dPart, dSeq, dEnum, dZip, dRng1, dRng2, dYes, dCall, dMt, dVar, dDic0, dDic1, Pat.put, Pat.puts, List.getElem?_cons_zero, List.getElem?_cons_succ, List.set_cons_zero, List.set_cons_succ, startD, List.map_cons, List.map_nil, List.cons_append, List.nil_append, List.length_cons, List.length_nil, List.replicate_succ, List.replicate_zero, Nat.reduceSub, Nat.reduceAdd, Nat.zero_add, wipeD, keyD]
        refine rIx_seq (seqA_ref e1) (atI_ints (by rw [hal]; omega)) (rCmp_i ?_)
        have skip : ∀ M7, Dk M7 a c (k + 10 * rest.length + ds3.length) → Kp a c M6 M7 → Nx6 [some (.ref a), some (.tup (ns.map D.int)), some (.tup (ws.map wayD)), some (planD ps), some (.ref p), some (.int lazy), some (.int w.1), some (.int w.2), some (stD ss), some (.int s)] M7 := fun M7 d7 k7 =>
          nx6 _ _ ⟨ss, _, rfl, k7.keep pa pc e1, e2, d7, e4.trans k7, e5, by omega, by omega, (s : Int) + 1, by omega, by rw [← i1'], by omega, fun x hx => by have := i3 x hx; omega⟩
        dsimp only
        by_cases hpos : 0 < (after (afters ns ps) true ss).1.getD s 0
        · rw [if_pos (decide_eq_true hpos)]
          refine rAdd_i ?_
          refine use_draw (k := k + 10 * rest.length + ds3.length) (e3.mono (by omega)) (by omega) (by omega) fun r M7 d7 k7 v0 v1 => rEq_i ?_
          dsimp only
          by_cases hr : r = 0
          · subst hr
            rw [if_pos (by decide)]
            have e7' := k7.keep pa pc e1
            refine ⟨by decide, rAdd_t (xs := ss.map fun s => D.int (s : Nat)) (by rw [List.length_map, List.length_cons, List.length_nil]; omega) ?_⟩
            have hss : stD (ss ++ [s]) = .tup (ss.map (fun s => D.int (s : Nat)) ++ [.int s]) := by simp [stD]
            refine rIx_seq (seqA_ref e7') (atI_ints (by rw [hal]; omega)) (rSub_i (rSet_ref e7' (by rw [List.length_map, hal]; exact ixN_nat' (by omega)) ?_))
            rw [set_ints]
            have f1 : (M7.put p (.lst (((after (afters ns ps) true ss).1.set s ((after (afters ns ps) true ss).1.getD s 0 - 1)).map D.int))).map p = some (.lst (((after (afters ns ps) true ss).1.set s ((after (afters ns ps) true ss).1.getD s 0 - 1)).map D.int)) := MS.put_same
            have hs1 : ((s : Int) + 1) = ((s + 1 : Nat) : Int) := by omega
            refine rAdd_i ?_
            rw [hs1]
            refine rIx_seq (seqA_ref f1) (atI_ints (by rw [List.length_set, hal]; omega)) (rAdd_i (rAdd_i ?_))
            rw [hs1]
            refine rSet_ref f1 (by rw [List.length_map, List.length_set, hal]; exact ixN_nat' (by omega)) ?_
            rw [set_ints]
            refine nx6 _ _ ⟨ss ++ [s], _, by rw [hss], ?_, ?_, (d7.put pa pc).put pa pc, ((e4.trans k7).put hp).put hp, ⟨?_, ?_⟩, by omega, by rw [List.length_append, List.length_cons, List.length_nil]; omega, (s : Int) + 1, by omega, by rw [← i1'], by omega, ?_⟩
            · rw [MS.put_same, after_snoc]
              unfold step
              have e2 : ((after (afters ns ps) true ss).1.set s ((after (afters ns ps) true ss).1.getD s 0 - 1)).getD (s + 1) 0 = (after (afters ns ps) true ss).1.getD (s + 1) 0 := by
                simp only [List.getD_eq_getElem?_getD, List.getElem?_set]
                rw [if_neg (by omega)]
              rw [e2]
            · rw [after_snoc, e2]
              simp only [Bool.true_and, decide_eq_true_eq]
              exact hpos
            · rw [List.pairwise_append]
              refine ⟨e5.1, List.pairwise_singleton _ _, fun x hx y hy => ?_⟩
              rw [List.mem_singleton.mp hy]
              have := i3 x hx
              omega
            · intro x hx
              rcases List.mem_append.mp hx with z | z
              · exact e5.2 x z
              · rw [List.mem_singleton.mp z]; omega
            · intro x hx
              rcases List.mem_append.mp hx with z | z
              · have := i3 x z; omega
              · rw [List.mem_singleton.mp z]; omega
          · rw [if_neg (by simpa using hr)]
            exact skip M7 d7 k7
        · rw [if_neg (by simpa using hpos)]
          first
            | exact skip M6 (e3.mono (by omega)) Kp.refl
            | (rw [if_neg Bool.false_ne_true]; exact skip M6 (e3.mono (by omega)) Kp.refl)
end DL

namespace DL
open PySem PySem.Spec PyProof.Rows L2

/-! ### the law's own sums -/
def hasI (j : Int) (ss : List Nat) : Bool := ss.any fun s => ((s : Nat) : Int) == j
def goneN (j : Int) (ps : List (List Nat)) : Nat := (ps.filter (hasI j)).length
theorem hasI_mem {j : Int} {ss : List Nat} : hasI j ss = true ↔ ∃ s ∈ ss, (s : Int) = j := by simp [hasI]
theorem count_hasI {i : Nat} {ss : List Nat} (h : ss.Nodup) : ss.count i = if hasI (i : Nat) ss = true then 1 else 0 := by
  rw [h.count]
  have : (i ∈ ss) ↔ hasI (i : Nat) ss = true := by
    rw [hasI_mem]
    exact ⟨fun h => ⟨i, h, rfl⟩, fun ⟨s, hs, e⟩ => by have : s = i := by omega
                                                      rw [← this]; exact hs⟩
  simp only [this]
theorem count_hasI1 {i : Nat} {ss : List Nat} (h : ss.Nodup) : (ss.map (· + 1)).count i = if hasI ((i : Nat) - 1) ss = true then 1 else 0 := by
  have h' : (ss.map (· + 1)).Nodup := List.Pairwise.map _ (fun a b hab => by simp; exact hab) h
  rw [h'.count]
  have : (i ∈ ss.map (· + 1)) ↔ hasI ((i : Nat) - 1) ss = true := by
    rw [hasI_mem, List.mem_map]
    exact ⟨fun ⟨s, hs, e⟩ => ⟨s, hs, by omega⟩, fun ⟨s, hs, e⟩ => ⟨s, hs, by omega⟩⟩
  simp only [this]
theorem afters_get : ∀ (ps : List (List Nat)) (ns : List Int), planStOk ns.length ps → (∀ ss ∈ ps, ss.Nodup) → ∀ i : Nat, (afters ns ps).getD i 0 = ns.getD i 0 - (goneN (i : Nat) ps : Nat) + (goneN ((i : Nat) - 1) ps : Nat)
  | [], ns, _, _, i => by simp [afters, goneN]
  | ss :: ps, ns, h, hn, i => by
    have h1 := h ss (List.mem_cons_self ..)
    have h2 := hn ss (List.mem_cons_self ..)
    rw [afters, afters_get ps _ (by rw [after_len]; exact fun x hx => h x (List.mem_cons_of_mem _ hx)) (fun x hx => hn x (List.mem_cons_of_mem _ hx)), after_get _ _ _ h1, count_hasI h2, count_hasI1 h2]
    unfold goneN
    rw [List.filter_cons, List.filter_cons]
    cases hasI (i : Nat) ss <;> cases hasI ((i : Nat) - 1) ss <;> simp <;> omega
theorem in_st {j : Int} {ss : List Nat} {M : MS} {Φ : DQ} (q : Φ (.bl (hasI j ss)) M) : rIn false (.int j) (stD ss) M Φ := by
  unfold rIn stD
  simp only [seqA]
  refine ⟨rfl, ?_, ?_⟩
  · rw [List.all_map]; exact List.all_eq_true.mpr fun _ _ => rfl
  · simp only [Bool.false_eq_true, if_false]
    have : inD (.int j) (ss.map fun s => D.int (s : Nat)) = hasI j ss := by
      unfold inD hasI
      rw [List.any_map]
      rfl
    rw [this]; exact q
def sp_law_k03 : DSp := fun ds M Φ _ => ∃ ns : List Int, ds = [.scr ns] ∧ ∀ M', Φ (.bl true) M'
def t_law_k03 : DS := (sSeq (sAsg (dCall 1 sp_law_deck (dCons (dVar 0) dNil)) (.nm 1)) (sSeq (sFor (dRng1 (dC (.int 9))) (.nm 2) (sSeq (sAsg (dCall 3 sp_law_row (dCons (dVar 1) (dCons (dOp rIx (dLst (dCons (dC (.int 10)) (dCons (dC (.int 3)) (dCons (dC (.int 6)) dNil)))) (dOp rMod (dVar 2) (dC (.int 3)))) (dCons (dOp rIx (dLst (dCons (dC (.int 4)) (dCons (dC (.int 1)) (dCons (dC (.int 50)) dNil)))) (dOp rDiv (dVar 2) (dC (.int 3)))) dNil)))) (.nm 3)) (sSeq (sAsg (dCall 3 sp_law_walkers (dCons (dVar 1) (dCons (dFn rLen (dCons (dVar 3) dNil)) (dCons (dOp rIx (dLst (dCons (dC (.int 40)) (dCons (dC (.int 3)) (dCons (dC (.int 8)) dNil)))) (dOp rMod (dVar 2) (dC (.int 3)))) dNil)))) (.nm 4)) (sSeq (sFor (dSeq (dOp rAdd (dLc (dRng1 (dC (.int 3))) (.nm 12) [12] dYes (dCall 3 sp_law_plan (dCons (dVar 1) (dCons (dVar 3) (dCons (dVar 4) dNil))))) (dLst (dCons (dOp rMul (dTup (dCons (dTup dNil) dNil)) (dFn rLen (dCons (dVar 4) dNil))) dNil)))) (.nm 5) (sSeq (sPar 6 7 (dCons (dFn rRepr (dCons (dLst (dCons (dVar 3) (dCons (dVar 4) (dCons (dVar 5) dNil)))) dNil)) (dCons (dTup dNil) dNil))) (sSeq (sFor (dRng1 (dFn rLen (dCons (dVar 3) dNil))) (.nm 8) (sSeq (sAsg (dFn rLen (dCons (dLc (dSeq (dVar 5)) (.nm 14) [14] (dTest (dOp (rIn false) (dVar 8) (dVar 14))) (dC (.int 1))) dNil)) (.nm 9)) (sSeq (sAsg (dFn rLen (dCons (dLc (dSeq (dVar 5)) (.nm 14) [14] (dTest (dOp (rIn false) (dOp rSub (dVar 8) (dC (.int 1))) (dVar 14))) (dC (.int 1))) dNil)) (.nm 10)) (sSeq (sAsg (dOp rAdd (dVar 7) (dTup (dCons (dOp rAdd (dOp rSub (dOp rIx (dVar 3) (dVar 8)) (dVar 9)) (dVar 10)) dNil))) (.nm 7)) sNext)))) (sSeq (sAsg (dLc (dRng1 (dC (.int 2))) (.nm 13) [13] dYes (dCall 3 sp_row_after (dCons (dVar 3) (dCons (dVar 4) (dCons (dVar 5) dNil))))) (.nm 11)) (sSeq (sIf (dOr (dNot (dTru (dCall 2 sp_law_same (dCons (dVar 11) (dCons (dLst (dCons (dVar 7) (dCons (dVar 7) dNil))) dNil))))) (dTest (dOp rNe (dFn rRepr (dCons (dLst (dCons (dVar 3) (dCons (dVar 4) (dCons (dVar 5) dNil)))) dNil)) (dVar 6)))) (sSeq (sRet (dC (.bl false))) sNext) sNext) sNext))))) sNext)))) (sSeq (sRet (dOp rEq (dCall 3 sp_row_after (dCons (dTup (dCons (dC (.int 50)) (dCons (dC (.int 50)) dNil))) (dCons (dOp rMul (dTup (dCons (dTup (dCons (dC (.int 0)) (dCons (dC (.int 1)) dNil))) dNil)) (dC (.int 2))) (dCons (dTup (dCons (dTup (dCons (dC (.int 0)) dNil)) (dCons (dTup (dCons (dC (.int 0)) dNil)) dNil))) dNil)))) (dTup (dCons (dC (.int 48)) (dCons (dC (.int 52)) dNil))))) sNext)))
structure Pl (n : Nat) (ps : List (List Nat)) : Prop where
  st : planStOk n ps
  nd : ∀ ss ∈ ps, ss.Nodup
  ln : ∀ ss ∈ ps, ss.length ≤ 10
theorem nodup_le {n : Nat} {ss : List Nat} (h : ss.Pairwise (· < ·)) (hb : ∀ s ∈ ss, s < n) : ss.length ≤ n := by
  have : ss.Sublist (List.range n) ∨ True := .inr trivial
  suffices H : ∀ (l : List Nat) (a : Nat), l.Pairwise (· < ·) → (∀ x ∈ l, a ≤ x ∧ x < n) → a + l.length ≤ max a n by
    have := H ss 0 h fun x hx => ⟨Nat.zero_le _, hb x hx⟩
    omega
  intro l
  induction l with
  | nil => intro a _ _; simp; omega
  | cons x l ih =>
    intro a hp hx
    rw [List.pairwise_cons] at hp
    obtain ⟨h1, h2⟩ := hx x (List.mem_cons_self ..)
    have := ih (x + 1) hp.2 fun y hy => ⟨hp.1 y hy, (hx y (List.mem_cons_of_mem _ hy)).2⟩
    rw [List.length_cons]
    omega
theorem PlanOf.pl : ∀ {ws : List (Int × Int)} {ps : List (List Nat)} {ns : List Int}, PlanOf ns ws ps → ∀ ss ∈ ps, ss.Pairwise (· < ·)
  | [], [], _, _ => fun _ h => absurd h List.not_mem_nil
  | w :: ws, ss :: ps, ns, h => fun x hx => by
    rcases List.mem_cons.mp hx with rfl | hx
    · exact h.1.1
    · exact PlanOf.pl h.2.2 x hx
  | [], _ :: _, _, h => h.elim
  | _ :: _, [], _, h => h.elim
theorem PlanOf.toPl {ws : List (Int × Int)} {ps : List (List Nat)} {ns : List Int} (h : PlanOf ns ws ps) (hw : waysIn ws (ns.length : Nat)) (hn : ns.length ≤ 10) : Pl ns.length ps :=
  ⟨h.st hw, fun ss hs => (h.pl ss hs).imp fun h => Nat.ne_of_lt h, fun ss hs => by
    have := nodup_le (n := ns.length) (h.pl ss hs) fun s hm => by have := h.st hw ss hs s hm; omega
    omega⟩
theorem st_fine {n : Nat} {ss : List Nat} (h : stOk n ss) (hn : n ≤ 1000) (hl : ss.length ≤ 10) : fineB (stD ss) 1 19233 = true ∧ noLst (stD ss) = true ∧ hasDic (stD ss) = false := by
  have A : AllF (ss.map fun s => D.int (s : Nat)) 0 1921 := fun x hx => by
    obtain ⟨s, hs, rfl⟩ := List.mem_map.mp hx
    have := h s hs
    exact allF_int (by omega) (by omega)
  obtain ⟨f, n1⟩ := A.flL (n' := 0) (w' := 19230) (by decide) 10 (by rw [List.length_map]; exact hl) (by decide)
  refine ⟨FL.tup f, ?_, ?_⟩
  · simp only [stD, noLst, n1.nl]
  · simp only [stD, hasDic, n1.nd]
theorem plan_fine {n : Nat} {ps : List (List Nat)} (h : Pl n ps) (hn : n ≤ 1000) (hl : ps.length ≤ 40) : fineB (planD ps) 2 800000 = true := by
  have A : AllF (ps.map stD) 1 19233 := fun x hx => by
    obtain ⟨s, hs, rfl⟩ := List.mem_map.mp hx
    exact st_fine (h.st s hs) hn (h.ln s hs)
  obtain ⟨f, n1⟩ := A.flL (n' := 1) (w' := 790000) (by decide) 40 (by rw [List.length_map]; exact hl) (by decide)
  exact fineB_mono (FL.tup f) (by decide) (by decide)
theorem fine3 {x y z : D} {n w : Nat} (hx : fineB x n w = true) (hy : fineB y n w = true) (hz : fineB z n w = true) (dx : hasDic x = false) (dy : hasDic y = false) (dz : hasDic z = false) : fineB (.lst [x, y, z]) (n + 1) (3 * w + 10) = true := by
  have f : ∀ {d : D}, fineB d n w = true → FL [d] n (w + 2) := FL.one
  have hx' := hx; have hy' := hy; have hz' := hz
  unfold fineB at hx' hy' hz'
  simp only [Bool.and_eq_true, decide_eq_true_eq] at hx' hy' hz'
  refine fineB_mono (FL.lst (xs := [x, y, z]) (n := n) (w := 3 * w + 6) ⟨?_, ?_, ?_, ?_, ?_⟩ (by simp [hasDics, dx, dy, dz])) (Nat.le_refl _) (by omega)
  · simp [stills, hx'.1.1.1.1, hy'.1.1.1.1, hz'.1.1.1.1]
  · simp only [deps]; omega
  · simp [okls, hx'.1.1.2, hy'.1.1.2, hz'.1.1.2]
  · simp only [wts]; omega
  · simp [hasDics, dx, dy, dz]
theorem row_fine {ns : List Int} {h : Int} (hi : intsIn ns h) (hh : h < 2 ^ 200) (hl : ns.length ≤ 100) : fineB (.tup (ns.map D.int)) 1 200000 = true ∧ hasDic (.tup (ns.map D.int)) = false := by
  obtain ⟨f, n1⟩ := FL.ints hh hi
  exact ⟨fineB_mono (FL.tup f) (by decide) (by omega), by simp only [hasDic, n1.nd]⟩
theorem ints_fine {ns : List Int} (hi : ∀ x ∈ ns, -(2 ^ 200) < x ∧ x < 2 ^ 200) (hl : ns.length ≤ 100) : fineB (.tup (ns.map D.int)) 1 200000 = true ∧ hasDic (.tup (ns.map D.int)) = false := by
  have A : AllF (ns.map D.int) 0 1921 := fun x hx => by
    obtain ⟨s, hs, rfl⟩ := List.mem_map.mp hx
    exact allF_int (hi s hs).1 (hi s hs).2
  obtain ⟨f, n1⟩ := A.flL (n' := 0) (w' := 192300) (by decide) 100 (by rw [List.length_map]; exact hl) (by decide)
  exact ⟨fineB_mono (FL.tup f) (by decide) (by decide), by simp only [hasDic, n1.nd]⟩
theorem ways_tup {ws : List (Int × Int)} {st : Int} (h : waysIn ws st) (hs : st ≤ 1000) (hl : ws.length ≤ 40) : fineB (.tup (ws.map wayD)) 2 200000 = true ∧ hasDic (.tup (ws.map wayD)) = false := by
  obtain ⟨f, n1⟩ := (ways_allF h hs).flL (n' := 1) (w' := 160000) (by decide) 40 (by rw [List.length_map]; exact hl) (by decide)
  exact ⟨fineB_mono (FL.tup f) (by decide) (by decide), by simp only [hasDic, n1.nd]⟩
theorem planD_dic (ps : List (List Nat)) : hasDic (planD ps) = false := by
  have h1 : ∀ ss : List Nat, hasDics (ss.map fun s => D.int (s : Nat)) = false := fun ss => by
    induction ss with
    | nil => rfl
    | cons s ss ih => simp only [List.map_cons, hasDics, hasDic, ih, Bool.or_self]
  have h2 : hasDics (ps.map stD) = false := by
    induction ps with
    | nil => rfl
    | cons s ss ih => simp only [List.map_cons, hasDics, stD, hasDic, h1, ih, Bool.or_self]
  simp only [planD, hasDic, h2]
theorem flat_replicate1 {α : Type} (x : α) : ∀ n : Nat, (List.replicate n [x]).flatten = List.replicate n x
  | 0 => rfl
  | n + 1 => by rw [List.replicate_succ, List.flatten_cons, flat_replicate1 x n, List.replicate_succ]; rfl
theorem plan0 (n : Nat) : D.tup (List.replicate n [D.tup []]).flatten = planD (List.replicate n []) := by
  rw [flat_replicate1, planD, List.map_replicate]
  rfl
theorem pl0 (n m : Nat) : Pl n (List.replicate m []) :=
  ⟨fun ss h => by rw [(List.mem_replicate.mp h).2]; exact fun _ z => absurd z List.not_mem_nil, fun ss h => by rw [(List.mem_replicate.mp h).2]; exact List.nodup_nil, fun ss h => by rw [(List.mem_replicate.mp h).2]; decide⟩
end DL

namespace DL
open PySem PySem.Spec PyProof.Rows L2

def dueI (row : List Int) (ps : List (List Nat)) (j : Nat) : Int := row.getD j 0 - (goneN (j : Nat) ps : Nat) + (goneN ((j : Nat) - 1) ps : Nat)
theorem due_eq {row : List Int} {ps : List (List Nat)} (h : Pl row.length ps) : (List.range row.length).map (dueI row ps) = afters row ps := by
  refine List.ext_getElem? fun i => ?_
  by_cases hi : i < row.length
  · have hi2 : i < (afters row ps).length := by rw [afters_len]; exact hi
    have := afters_get ps row h.st h.nd i
    rw [List.getElem?_map, List.getElem?_range hi, List.getElem?_eq_getElem hi2]
    simp only [Option.map_some]
    rw [List.getD_eq_getElem?_getD, List.getElem?_eq_getElem hi2] at this
    simp only [Option.getD_some] at this
    rw [this]
    rfl
  · rw [List.getElem?_eq_none (by simpa using hi), List.getElem?_eq_none (by rw [afters_len]; omega)]
theorem goneN_le (j : Int) (ps : List (List Nat)) : goneN j ps ≤ ps.length := List.length_filter_le _ _
def fgone (z : Int) (d : D) : Option D := match d with
  | .tup xs => if inD (.int z) xs = true then some (D.int 1) else none
  | _ => none
theorem fgone_st (z : Int) (ss : List Nat) : fgone z (stD ss) = if hasI z ss = true then some (.int 1) else none := by
  have e : inD (.int z) (ss.map fun s => D.int (s : Nat)) = hasI z ss := by
    unfold inD hasI
    rw [List.any_map]
    rfl
  unfold fgone stD
  dsimp only
  rw [e]
theorem cnt_run {j : Int} : ∀ {ps : List (List Nat)}, ((ps.map stD).filterMap (fgone j)).length = goneN j ps
  | [] => rfl
  | ss :: ps => by
    have ih := cnt_run (j := j) (ps := ps)
    rw [List.map_cons, List.filterMap_cons, fgone_st]
    unfold goneN at ih ⊢
    rw [List.filter_cons]
    cases hasI j ss with
    | true => simp only [if_true, List.length_cons]; rw [← ih]
    | false => simp only [Bool.false_eq_true, if_false]; rw [← ih]
theorem p_law_k03 (ds : List D) (M : MS) (Φ : DQ) (h : sp_law_k03 ds M Φ noX) : t_law_k03 { nx := fun _ M' => Φ .non M', rt := Φ } (startD 15 ds) M := by
  obtain ⟨ns, rfl, h⟩ := h
  simp only [t_law_k03, sSeq, sRet, sRetN, sNext, sIf, sAsg, sPar, sPar3, sSetI, sAug, sAugI, sDrop, sBreak, sCont, dOp, dUn, dCons, dNil, dFn, dC, dTup, dLst, dLstM, dIf, dTest, dTru, dAnd, dOr, dNot, dAndV, dOrV, dNotE, dChain, dSl, dNoPart, dPart, dSeq, dEnum, dZip, dRng1, dRng2, dYes, dCall, dMt, dVar, dDic0, dDic1, Pat.put, Pat.puts, List.getElem?_cons_zero, List.getElem?_cons_succ, List.set_cons_zero, List.set_cons_succ, startD, List.map_cons, List.map_nil, List.cons_append, List.nil_append, List.length_cons, List.length_nil, List.replicate_succ, List.replicate_zero, Nat.reduceSub, Nat.reduceAdd, Nat.zero_add, wipeD, keyD]
  refine ⟨trivial, ns, rfl, fun a c M0 _ _ hD0 _ => ?_⟩
  simp only [sFor, dRng1, dC]
  refine ⟨by decide, by decide, ?_⟩
  refine forW_inv (fun ds ρ M => (∃ r2 r3 r4 r5 r6 r7 r8 r9 r10 r11 r12 r13 r14, ρ = [some (.scr ns), some (.ref a), r2, r3, r4, r5, r6, r7, r8, r9, r10, r11, r12, r13, r14]) ∧ Dk M a c (2000 * ds.length) ∧ ∀ d ∈ ds, ∃ i : Int, d = .int i ∧ 0 ≤ i ∧ i < 9) (fun _ _ _ _ => trivial) (fun ρ M' q => ?_) (fun d ds ρ M' Nx q nx => ?_) _ _ _
    ⟨⟨_, _, _, _, _, _, _, _, _, _, _, _, _, rfl⟩, hD0.mono (by rw [rangeD_length]; decide), fun d hd => by obtain ⟨i, e, h1, h2⟩ := rangeD_mem hd; exact ⟨i, e, h1, by simpa using h2⟩⟩
  · obtain ⟨⟨r2, r3, r4, r5, r6, r7, r8, r9, r10, r11, r12, r13, r14, rfl⟩, hD, _⟩ := q
    simp only [sSeq, sRet, sRetN, sNext, sIf, sAsg, sPar, sPar3, sSetI, sAug, sAugI, sDrop, sBreak, sCont, dOp, dUn, dCons, dNil, dFn, dC, dTup, dLst, dLstM, dIf, dTest, dTru, dAnd, dOr, dNot, dAndV, dOrV, dNotE, dChain, dSl, dNoPart, dPart, dSeq, dEnum, dZip, dRng1, dRng2, dYes, dCall, dMt, dVar, dDic0, dDic1, Pat.put, Pat.puts, List.getElem?_cons_zero, List.getElem?_cons_succ, List.set_cons_zero, List.set_cons_succ, startD, List.map_cons, List.map_nil, List.cons_append, List.nil_append, List.length_cons, List.length_nil, List.replicate_succ, List.replicate_zero, Nat.reduceSub, Nat.reduceAdd, Nat.zero_add, wipeD, keyD, rMul]
    refine ⟨by decide, by decide, by decide, by decide, by decide, by decide, by decide, by decide, by decide, trivial, [50, 50], _, [[0], [0]], rfl, ?_, fun M'' _ => ⟨by decide, rEq_still (by decide +kernel) (by decide +kernel) (by decide +kernel) (by decide +kernel) ?_⟩⟩
    · intro ss hs s hm
      simp only [List.mem_cons, List.not_mem_nil, or_false, or_self] at hs
      subst hs
      rw [List.mem_singleton.mp hm]
      decide
    · have e : eqd (.tup ((afters [50, 50] [[0], [0]]).map D.int)) (.tup [.int 48, .int 52]) = true := by decide +kernel
      rw [e]
      exact h M''
  obtain ⟨⟨r2, r3, r4, r5, r6, r7, r8, r9, r10, r11, r12, r13, r14, rfl⟩, hD, hds⟩ := q
  obtain ⟨i, rfl, hi0, hi9⟩ := hds d (List.mem_cons_self ..)
  refine ⟨_, rfl, ?_⟩
  simp only [sSeq, sRet, sRetN, sNext, sIf, sAsg, sPar, sPar3, sSetI, sAug, sAugI, sDrop, sBreak, sCont, dOp, dUn, dCons, dNil, dFn, dC, dTup, dLst, dLstM, dIf, dTest, dTru, dAnd, dOr, dNot, dAndV, dOrV, dNotE, dChain, dSl, dNoPart, dPart, dSeq, dEnum, dZip, dRng1, dRng2, dYes, dCall, dMt, dVar, dDic0, dDic1, Pat.put, Pat.puts, List.getElem?_cons_zero, List.getElem?_cons_succ, List.set_cons_zero, List.set_cons_succ, startD, List.map_cons, List.map_nil, List.cons_append, List.nil_append, List.length_cons, List.length_nil, List.replicate_succ, List.replicate_zero, Nat.reduceSub, Nat.reduceAdd, Nat.zero_add, wipeD, keyD]
  have hm0 : 0 ≤ i % 3 := Int.emod_nonneg _ (by decide)
  have hm1 : i % 3 < 3 := Int.emod_lt_of_pos _ (by decide)
  obtain ⟨m, em, m1, m2⟩ : ∃ m : Int, atI [D.int 10, D.int 3, D.int 6] (i % 3) = some (.int m) ∧ 2 ≤ m ∧ m ≤ 10 := by
    have hr : i % 3 = 0 ∨ i % 3 = 1 ∨ i % 3 = 2 := by omega
    rcases hr with e | e | e <;> rw [e]
    · exact ⟨10, by rw [at0]; rfl, by decide, by decide⟩
    · exact ⟨3, by rw [at1]; rfl, by decide, by decide⟩
    · exact ⟨6, by rw [at2]; rfl, by decide, by decide⟩
  obtain ⟨hh, eh, h1, h2⟩ : ∃ m : Int, atI [D.int 4, D.int 1, D.int 50] (i / 3) = some (.int m) ∧ 0 ≤ m ∧ m < 1000 := by
    have hr : i / 3 = 0 ∨ i / 3 = 1 ∨ i / 3 = 2 := by omega
    rcases hr with e | e | e <;> rw [e]
    · exact ⟨4, by rw [at0]; rfl, by decide, by decide⟩
    · exact ⟨1, by rw [at1]; rfl, by decide, by decide⟩
    · exact ⟨50, by rw [at2]; rfl, by decide, by decide⟩
  obtain ⟨mo, eo, o1, o2⟩ : ∃ m : Int, atI [D.int 40, D.int 3, D.int 8] (i % 3) = some (.int m) ∧ 0 ≤ m ∧ m ≤ 40 := by
    have hr : i % 3 = 0 ∨ i % 3 = 1 ∨ i % 3 = 2 := by omega
    rcases hr with e | e | e <;> rw [e]
    · exact ⟨40, by rw [at0]; rfl, by decide, by decide⟩
    · exact ⟨3, by rw [at1]; rfl, by decide, by decide⟩
    · exact ⟨8, by rw [at2]; rfl, by decide, by decide⟩
  refine ⟨by decide, rMod_i (by decide) ?_⟩
  refine rIx_seq (x := .lst _) rfl em ⟨by decide, rDiv_i (by decide) (by decide) ?_⟩
  refine rIx_seq (x := .lst _) rfl eh ⟨trivial, ?_⟩
  have hD' : Dk M' a c (2000 * ds.length + 1900 + 30) := hD.mono (by rw [List.length_cons]; omega)
  refine ⟨a, c, _, m, hh, rfl, m1, m2, h1, h2, hD', fun row M1 hD1 hK1 l1 l2 hrow => ?_⟩
  simp only [rLen, seqA, List.length_map]
  refine ⟨by decide, rMod_i (by decide) ?_⟩
  refine rIx_seq (x := .lst _) rfl eo ⟨trivial, ?_⟩
  refine ⟨a, c, 2000 * ds.length + 1300, row.length, mo, rfl, by omega, by omega, o1, by omega, hD1.mono (by omega), fun ws M2 hD2 hK2 hwl hws => ?_⟩
  have hwl' : ws.length ≤ 40 := by omega
  simp only [dLc, sSeq, sRet, sRetN, sNext, sIf, sAsg, sPar, sPar3, sSetI, sAug, sAugI, sDrop, sBreak, sCont, dOp, dUn, dCons, dNil, dFn, dC, dTup, dLst, dLstM, dIf, dTest, dTru, dAnd, dOr, dNot, dAndV, dOrV, dNotE, dChain, dSl, dNoPart, dPart, dSeq, dEnum, dZip, dRng1, dRng2, dYes, dCall, dMt, dVar, dDic0, dDic1, Pat.put, Pat.puts, List.getElem?_cons_zero, List.getElem?_cons_succ, List.set_cons_zero, List.set_cons_succ, startD, List.map_cons, List.map_nil, List.cons_append, List.nil_append, List.length_cons, List.length_nil, List.replicate_succ, List.replicate_zero, Nat.reduceSub, Nat.reduceAdd, Nat.zero_add, wipeD, keyD, sFor]
  refine ⟨by decide, by decide, ?_⟩
  refine lcW_inv (fun ds' acc M3 => Dk M3 a c (2000 * ds.length + 401 * ds'.length) ∧ acc.length + ds'.length = 3 ∧ ∀ d ∈ acc, ∃ ps, d = planD ps ∧ Pl row.length ps ∧ ps.length = ws.length) (fun _ _ _ _ => trivial) (fun acc M3 q => ?_) (fun d' ds' acc M3 Nx3 q nx3 => ?_) _ _ _
    ⟨hD2.mono (by rw [rangeD_length]; show 2000 * ds.length + 401 * 3 ≤ _; omega), by rw [rangeD_length]; rfl, fun _ z => by cases z⟩
  · obtain ⟨q1, q2, q3⟩ := q
    have q2' : acc.length = 3 := by simpa using q2
    simp only [rLen, seqA, List.length_map, rMul, rAdd, seqL]
    refine ⟨by decide, by decide, by omega, by omega, by decide, by decide, by rw [q2', List.length_cons, List.length_nil]; decide, ?_⟩
    rw [plan0]
    refine forW_inv (fun ds' ρ M4 => (∃ r5 r6 r7 r8 r9 r10 r11 r12 r13 r14, ρ = [some (.scr ns), some (.ref a), some (.int i), some (.tup (row.map D.int)), some (.tup (ws.map wayD)), r5, r6, r7, r8, r9, r10, r11, r12, r13, r14]) ∧ Dk M4 a c (2000 * ds.length) ∧ ∀ d ∈ ds', ∃ ps, d = planD ps ∧ Pl row.length ps ∧ ps.length = ws.length) (fun _ _ _ _ => trivial) (fun ρ M4 q => ?_) (fun d'' ds'' ρ M4 Nx4 q nx4 => ?_) _ _ _
      ⟨⟨_, _, _, _, _, _, _, _, _, _, rfl⟩, q1.mono (by simp), fun d hd => by
        rcases List.mem_append.mp hd with z | z
        · exact q3 d z
        · rw [List.mem_singleton.mp z]
          exact ⟨_, rfl, pl0 _ _, by rw [List.length_replicate]; omega⟩⟩
    · obtain ⟨⟨r5, r6, r7, r8, r9, r10, r11, r12, r13, r14, rfl⟩, qD, _⟩ := q
      exact nx _ _ ⟨⟨_, _, _, _, _, _, _, _, _, _, _, _, _, rfl⟩, qD, fun d hd => hds d (List.mem_cons_of_mem _ hd)⟩
    · obtain ⟨⟨r5, r6, r7, r8, r9, r10, r11, r12, r13, r14, rfl⟩, qD, hf⟩ := q
      obtain ⟨ps, rfl, hpl, hpn⟩ := hf d'' (List.mem_cons_self ..)
      obtain ⟨fr, dr⟩ := row_fine hrow (by omega) (by omega)
      obtain ⟨fw, dw⟩ := ways_tup hws (by omega) hwl'
      have fp := plan_fine hpl (by omega) (by omega)
      have F3 := fine_of (fine3 (fineB_mono fr (by decide) (by decide)) (fineB_mono fw (by decide) (by decide)) fp dr dw (planD_dic ps)) (by decide)
      refine ⟨_, rfl, ?_⟩
      simp only [sSeq, sRet, sRetN, sNext, sIf, sAsg, sPar, sPar3, sSetI, sAug, sAugI, sDrop, sBreak, sCont, dOp, dUn, dCons, dNil, dFn, dC, dTup, dLst, dLstM, dIf, dTest, dTru, dAnd, dOr, dNot, dAndV, dOrV, dNotE, dChain, dSl, dNoPart, dPart, dSeq, dEnum, dZip, dRng1, dRng2, dYes, dCall, dMt, dVar, dDic0, dDic1, Pat.put, Pat.puts, List.getElem?_cons_zero, List.getElem?_cons_succ, List.set_cons_zero, List.set_cons_succ, startD, List.map_cons, List.map_nil, List.cons_append, List.nil_append, List.length_cons, List.length_nil, List.replicate_succ, List.replicate_zero, Nat.reduceSub, Nat.reduceAdd, Nat.zero_add, wipeD, keyD]
      refine ⟨by decide, repr_fine F3 (by decide) ⟨by decide, ?_⟩⟩
      simp only [sFor, dRng1, sSeq, sRet, sRetN, sNext, sIf, sAsg, sPar, sPar3, sSetI, sAug, sAugI, sDrop, sBreak, sCont, dOp, dUn, dCons, dNil, dFn, dC, dTup, dLst, dLstM, dIf, dTest, dTru, dAnd, dOr, dNot, dAndV, dOrV, dNotE, dChain, dSl, dNoPart, dPart, dSeq, dEnum, dZip, dRng1, dRng2, dYes, dCall, dMt, dVar, dDic0, dDic1, Pat.put, Pat.puts, List.getElem?_cons_zero, List.getElem?_cons_succ, List.set_cons_zero, List.set_cons_succ, startD, List.map_cons, List.map_nil, List.cons_append, List.nil_append, List.length_cons, List.length_nil, List.replicate_succ, List.replicate_zero, Nat.reduceSub, Nat.reduceAdd, Nat.zero_add, wipeD, keyD, rLen, seqA, List.length_map]
      refine ⟨by omega, by omega, ?_⟩
      refine forW_inv (fun ds3 ρ M5 => ∃ (j : Nat) (r8 r9 r10 r11 r12 r13 r14 : Option D), ρ = [some (.scr ns), some (.ref a), some (.int i), some (.tup (row.map D.int)), some (.tup (ws.map wayD)), some (planD ps), some (.str (rpr (.lst [.tup (row.map D.int), .tup (ws.map wayD), planD ps]))), some (.tup (((List.range j).map (dueI row ps)).map D.int)), r8, r9, r10, r11, r12, r13, r14] ∧ M5 = M4 ∧ ds3 = rangeD (j : Nat) ds3.length ∧ j + ds3.length = row.length)
        (fun _ _ _ _ => trivial) (fun ρ M5 q => ?_) (fun d3 ds3 ρ M5 Nx5 q nx5 => ?_) _ _ _ ⟨0, _, _, _, _, _, _, _, rfl, rfl, by rw [rangeD_length]; rfl, by rw [rangeD_length]; simp⟩
      · obtain ⟨j, r8, r9, r10, r11, r12, r13, r14, rfl, rfl, _, ej⟩ := q
        obtain rfl : j = row.length := by simpa using ej
        rw [due_eq hpl]
        simp only [dLc, sSeq, sRet, sRetN, sNext, sIf, sAsg, sPar, sPar3, sSetI, sAug, sAugI, sDrop, sBreak, sCont, dOp, dUn, dCons, dNil, dFn, dC, dTup, dLst, dLstM, dIf, dTest, dTru, dAnd, dOr, dNot, dAndV, dOrV, dNotE, dChain, dSl, dNoPart, dPart, dSeq, dEnum, dZip, dRng1, dRng2, dYes, dCall, dMt, dVar, dDic0, dDic1, Pat.put, Pat.puts, List.getElem?_cons_zero, List.getElem?_cons_succ, List.set_cons_zero, List.set_cons_succ, startD, List.map_cons, List.map_nil, List.cons_append, List.nil_append, List.length_cons, List.length_nil, List.replicate_succ, List.replicate_zero, Nat.reduceSub, Nat.reduceAdd, Nat.zero_add, wipeD, keyD]
        have hal : (afters row ps).length = row.length := afters_len ps row
        have hbd : ∀ x ∈ afters row ps, -(2 ^ 200) < x ∧ x < 2 ^ 200 := fun x hx => by
          rw [← due_eq hpl] at hx
          obtain ⟨j, hj, rfl⟩ := List.mem_map.mp hx
          have hj' := List.mem_range.mp hj
          have g1 := goneN_le (j : Nat) ps
          have g2 := goneN_le ((j : Nat) - 1) ps
          have hb : 0 ≤ row.getD j 0 ∧ row.getD j 0 ≤ hh := by
            rw [List.getD_eq_getElem?_getD, List.getElem?_eq_getElem hj']
            exact hrow _ (List.getElem_mem hj')
          unfold dueI
          omega
        obtain ⟨fa, da⟩ := ints_fine hbd (by omega)
        have fa2 := fine_of (FL.lst (FL.two fa) (by simp [hasDics, da])) (by decide)
        refine ⟨by decide, by decide, lcW_inv (fun ds6 acc M6 => Dk M6 a c (2000 * ds.length) ∧ acc ++ List.replicate ds6.length (.tup ((afters row ps).map D.int)) = [.tup ((afters row ps).map D.int), .tup ((afters row ps).map D.int)]) (fun _ _ _ _ => trivial) (fun acc M6 q => ?_) (fun d6 ds6 acc M6 Nx6 q nx6 => ?_) _ _ _ ⟨qD, by rw [rangeD_length]; rfl⟩⟩
        · obtain ⟨q6, e6⟩ := q
          rw [List.length_nil, List.replicate_zero, List.append_nil] at e6
          subst e6
          refine ⟨by decide, trivial, _, _, _, rfl, fa2, fa2, by decide, ?_⟩
          simp only [dTru, truD, BEq.rfl, Bool.not_true, Bool.false_eq_true, if_false]
          refine ⟨by decide, repr_fine F3 (by decide) (rNe_s ?_)⟩
          simp only [BEq.rfl, Bool.not_true, Bool.false_eq_true, if_false]
          exact nx4 _ _ ⟨⟨_, _, _, _, _, _, _, _, _, _, rfl⟩, q6, fun d hd => hf d (List.mem_cons_of_mem _ hd)⟩
        · obtain ⟨q6, e6⟩ := q
          refine ⟨_, rfl, ?_⟩
          simp only [sSeq, sRet, sRetN, sNext, sIf, sAsg, sPar, sPar3, sSetI, sAug, sAugI, sDrop, sBreak, sCont, dOp, dUn, dCons, dNil, dFn, dC, dTup, dLst, dLstM, dIf, dTest, dTru, dAnd, dOr, dNot, dAndV, dOrV, dNotE, dChain, dSl, dNoPart, dPart, dSeq, dEnum, dZip, dRng1, dRng2, dYes, dCall, dMt, dVar, dDic0, dDic1, Pat.put, Pat.puts, List.getElem?_cons_zero, List.getElem?_cons_succ, List.set_cons_zero, List.set_cons_succ, startD, List.map_cons, List.map_nil, List.cons_append, List.nil_append, List.length_cons, List.length_nil, List.replicate_succ, List.replicate_zero, Nat.reduceSub, Nat.reduceAdd, Nat.zero_add, wipeD, keyD, if_true]
          refine ⟨trivial, row, _, ps, rfl, hpl.st, fun M7 x7 => ⟨?_, nx6 _ _ ⟨x7.dk q6, ?_⟩⟩⟩
          · have := congrArg List.length e6
            simp at this
            omega
          · rw [List.length_cons, List.replicate_succ] at e6
            rw [← e6]
            simp
      · obtain ⟨j, r8, r9, r10, r11, r12, r13, r14, rfl, rfl, e3, ej⟩ := q
        rw [List.length_cons] at e3 ej
        rw [rangeD_succ] at e3
        injection e3 with e3 e3'
        subst e3
        refine ⟨_, rfl, ?_⟩
        simp only [sSeq, sRet, sRetN, sNext, sIf, sAsg, sPar, sPar3, sSetI, sAug, sAugI, sDrop, sBreak, sCont, dOp, dUn, dCons, dNil, dFn, dC, dTup, dLst, dLstM, dIf, dTest, dTru, dAnd, dOr, dNot, dAndV, dOrV, dNotE, dChain, dSl, dNoPart, dPart, dSeq, dEnum, dZip, dRng1, dRng2, dYes, dCall, dMt, dVar, dDic0, dDic1, Pat.put, Pat.puts, List.getElem?_cons_zero, List.getElem?_cons_succ, List.set_cons_zero, List.set_cons_succ, startD, List.map_cons, List.map_nil, List.cons_append, List.nil_append, List.length_cons, List.length_nil, List.replicate_succ, List.replicate_zero, Nat.reduceSub, Nat.reduceAdd, Nat.zero_add, wipeD, keyD, dLc, planD, seqA]
        have hpl40 : (ps.map stD).length ≤ 100000 := by rw [List.length_map]; omega
        refine lcW_map (fgone (j : Nat)) _ trivial hpl40 (fun x hx => ?_) ?_
        · obtain ⟨ss, _, rfl⟩ := List.mem_map.mp hx
          refine ⟨_, rfl, fun acc Nx hl q => ?_⟩
          simp only [sSeq, sRet, sRetN, sNext, sIf, sAsg, sPar, sPar3, sSetI, sAug, sAugI, sDrop, sBreak, sCont, dOp, dUn, dCons, dNil, dFn, dC, dTup, dLst, dLstM, dIf, dTest, dTru, dAnd, dOr, dNot, dAndV, dOrV, dNotE, dChain, dSl, dNoPart, dPart, dSeq, dEnum, dZip, dRng1, dRng2, dYes, dCall, dMt, dVar, dDic0, dDic1, Pat.put, Pat.puts, List.getElem?_cons_zero, List.getElem?_cons_succ, List.set_cons_zero, List.set_cons_succ, startD, List.map_cons, List.map_nil, List.cons_append, List.nil_append, List.length_cons, List.length_nil, List.replicate_succ, List.replicate_zero, Nat.reduceSub, Nat.reduceAdd, Nat.zero_add, wipeD, keyD]
          refine in_st ?_
          rw [fgone_st] at q
          dsimp only
          cases hh : hasI (j : Nat) ss with
          | true => rw [hh, if_pos rfl] at q; rw [if_pos rfl]; exact ⟨hl, by simpa using q⟩
          | false => rw [hh, if_neg Bool.false_ne_true] at q; rw [if_neg Bool.false_ne_true]; simpa using q
        refine rLen_seq (fun z e => nomatch e) rfl ?_
        rw [cnt_run]
        refine lcW_map (fgone ((j : Nat) - 1)) _ trivial hpl40 (fun x hx => ?_) ?_
        · obtain ⟨ss, _, rfl⟩ := List.mem_map.mp hx
          refine ⟨_, rfl, fun acc Nx hl q => ?_⟩
          simp only [sSeq, sRet, sRetN, sNext, sIf, sAsg, sPar, sPar3, sSetI, sAug, sAugI, sDrop, sBreak, sCont, dOp, dUn, dCons, dNil, dFn, dC, dTup, dLst, dLstM, dIf, dTest, dTru, dAnd, dOr, dNot, dAndV, dOrV, dNotE, dChain, dSl, dNoPart, dPart, dSeq, dEnum, dZip, dRng1, dRng2, dYes, dCall, dMt, dVar, dDic0, dDic1, Pat.put, Pat.puts, List.getElem?_cons_zero, List.getElem?_cons_succ, List.set_cons_zero, List.set_cons_succ, startD, List.map_cons, List.map_nil, List.cons_append, List.nil_append, List.length_cons, List.length_nil, List.replicate_succ, List.replicate_zero, Nat.reduceSub, Nat.reduceAdd, Nat.zero_add, wipeD, keyD]
          refine rSub_i (in_st ?_)
          rw [fgone_st] at q
          dsimp only
          cases hh : hasI ((j : Nat) - 1) ss with
          | true => rw [hh, if_pos rfl] at q; rw [if_pos rfl]; exact ⟨hl, by simpa using q⟩
          | false => rw [hh, if_neg Bool.false_ne_true] at q; rw [if_neg Bool.false_ne_true]; simpa using q
        refine rLen_seq (fun z e => nomatch e) rfl ?_
        rw [cnt_run]
        refine rIx_seq (x := .tup _) rfl (atI_ints (by omega)) (rSub_i (rAdd_i ⟨by decide, rAdd_t (by simp; omega) ?_⟩))
        have e5 : (D.tup (((List.range (j + 1)).map (dueI row ps)).map D.int)) = .tup (((List.range j).map (dueI row ps)).map D.int ++ [.int (row.getD j 0 - (goneN (j : Nat) ps : Nat) + (goneN ((j : Nat) - 1) ps : Nat))]) := by
          rw [List.range_succ, List.map_append, List.map_append]
          rfl
        exact nx5 _ _ ⟨j + 1, _, _, _, _, _, _, _, by rw [e5]; rfl, rfl, e3'.trans (by rw [show ((j : Nat) : Int) + 1 = ((j + 1 : Nat) : Int) by omega]), by omega⟩
  · obtain ⟨q1, q2, q3⟩ := q
    have q2' : acc.length + (ds'.length + 1) = 3 := by simpa using q2
    refine ⟨_, rfl, ?_⟩
    simp only [sSeq, sRet, sRetN, sNext, sIf, sAsg, sPar, sPar3, sSetI, sAug, sAugI, sDrop, sBreak, sCont, dOp, dUn, dCons, dNil, dFn, dC, dTup, dLst, dLstM, dIf, dTest, dTru, dAnd, dOr, dNot, dAndV, dOrV, dNotE, dChain, dSl, dNoPart, dPart, dSeq, dEnum, dZip, dRng1, dRng2, dYes, dCall, dMt, dVar, dDic0, dDic1, Pat.put, Pat.puts, List.getElem?_cons_zero, List.getElem?_cons_succ, List.set_cons_zero, List.set_cons_succ, startD, List.map_cons, List.map_nil, List.cons_append, List.nil_append, List.length_cons, List.length_nil, List.replicate_succ, List.replicate_zero, Nat.reduceSub, Nat.reduceAdd, Nat.zero_add, wipeD, keyD, if_true]
    refine ⟨trivial, a, c, 2000 * ds.length + 401 * ds'.length, row, ws, rfl, by exact hws, by omega, by omega, q1.mono (by rw [List.length_cons]; omega), fun ps M5 hD5 hK5 hpo => ⟨by omega, nx3 _ _ ⟨hD5, by simp; omega, fun x hx => ?_⟩⟩⟩
    rcases List.mem_append.mp hx with z | z
    · exact q3 x z
    · exact ⟨ps, List.mem_singleton.mp z, hpo.toPl hws (by omega), hpo.len⟩
end DL

namespace DL
open PySem PySem.Spec PyProof.Rows L2

/-! ### the deck of 60 numbers and its draws -/
abbrev sp_law_deck_v2 := sp_law_deck
abbrev sp_law_draw_v2 := sp_law_draw
def t_law_deck_v2 : DS := (sSeq (sRet (dLstM (dCons (dLcM (dSeq (dSl (dVar 0) dNoPart (dPart (dC (.int 60))))) (.nm 1) [1] dYes (dFn rAbs (dCons (dVar 1) dNil))) (dCons (dC (.int 0)) dNil)))) sNext)
def t_law_draw_v2 : DS := (sSeq (sSetI (dOp rAdd (dOp rIx (dVar 0) (dC (.int 1))) (dC (.int 1))) (dVar 0) (dC (.int 1))) (sSeq (sAsg (dOp rMod (dOp rIx (dVar 0) (dC (.int 1))) (dFn rMax (dCons (dC (.int 1)) (dCons (dFn rLen (dCons (dOp rIx (dVar 0) (dC (.int 0))) dNil)) dNil)))) (.nm 2)) (sSeq (sAsg (dOp rIx (dOp rAdd (dOp rIx (dVar 0) (dC (.int 0))) (dLst (dCons (dC (.int 0)) dNil))) (dVar 2)) (.nm 3)) (sSeq (sIf (dTest (dOp rGe (dVar 3) (dOp rPow (dC (.int 10)) (dC (.int 18))))) (sSeq (sSetI (dOp rDiv (dVar 3) (dVar 1)) (dOp rIx (dVar 0) (dC (.int 0))) (dVar 2)) (sSeq (sRet (dOp rMod (dVar 3) (dVar 1))) sNext)) sNext) (sSeq (sAsg (dOp rMod (dOp rPow (dOp rAdd (dOp rAdd (dOp rMod (dVar 3) (dC (.int 2147483563))) (dOp rMul (dC (.int 104729)) (dOp rIx (dVar 0) (dC (.int 1))))) (dC (.int 7))) (dC (.int 4))) (dC (.int 2147483629))) (.nm 4)) (sSeq (sRet (dOp rMod (dOp rAdd (dOp rDiv (dVar 4) (dC (.int 8))) (dOp rMul (dC (.int 31)) (dOp rIx (dVar 0) (dC (.int 1))))) (dVar 1))) sNext))))))
theorem cutDk (k : Nat) (ns : List Int) : cutD (ns.map D.int) none (some (k : Int)) = (ns.take k).map D.int := by
  unfold cutD
  rw [List.length_map, show HT.sIx ns.length 0 none = 0 from HT.sIx_none _ _, show HT.sIx ns.length ns.length (some (k : Int)) = min k ns.length from HT.sIx_nat ns.length ns.length k]
  rw [List.drop_zero, Nat.sub_zero, ← List.map_take]
  congr 1
  rw [Nat.min_comm, List.take_eq_take_iff]
  omega
theorem p_law_deck_v2 (ds : List D) (M : MS) (Φ : DQ) (h : sp_law_deck_v2 ds M Φ noX) : t_law_deck_v2 { nx := fun _ M' => Φ .non M', rt := Φ } (startD 2 ds) M := by
  obtain ⟨ns, rfl, h⟩ := h
  simp only [t_law_deck_v2, dLcM, sSeq, sRet, sRetN, sNext, sIf, sAsg, sPar, sPar3, sSetI, sAug, sAugI, sDrop, sBreak, sCont, dOp, dUn, dCons, dNil, dFn, dC, dTup, dLst, dLstM, dIf, dTest, dTru, dAnd, dOr, dNot, dAndV, dOrV, dNotE, dChain, dSl, dNoPart, dPart, dSeq, dEnum, dZip, dRng1, dRng2, dYes, dCall, dMt, dVar, dDic0, dDic1, Pat.put, Pat.puts, List.getElem?_cons_zero, List.getElem?_cons_succ, List.set_cons_zero, List.set_cons_succ, startD, List.map_cons, List.map_nil, List.cons_append, List.nil_append, List.length_cons, List.length_nil, List.replicate_succ, List.replicate_zero, Nat.reduceSub, Nat.reduceAdd, Nat.zero_add, wipeD, keyD, rSl, seqA]
  rw [show (some (60 : Int)) = some ((60 : Nat) : Int) from rfl, cutDk]
  refine lcW_map (fun d => match d with | .int i => some (.int (if i < 0 then -i else i)) | d => some d) _ trivial (by simp; omega) (fun d hd => ?_) ?_
  · obtain ⟨i, _, rfl⟩ := List.mem_map.mp hd
    refine ⟨_, rfl, fun acc Nx hl q => ?_⟩
    simp only [sSeq, sRet, sRetN, sNext, sIf, sAsg, sPar, sPar3, sSetI, sAug, sAugI, sDrop, sBreak, sCont, dOp, dUn, dCons, dNil, dFn, dC, dTup, dLst, dLstM, dIf, dTest, dTru, dAnd, dOr, dNot, dAndV, dOrV, dNotE, dChain, dSl, dNoPart, dPart, dSeq, dEnum, dZip, dRng1, dRng2, dYes, dCall, dMt, dVar, dDic0, dDic1, Pat.put, Pat.puts, List.getElem?_cons_zero, List.getElem?_cons_succ, List.set_cons_zero, List.set_cons_succ, startD, List.map_cons, List.map_nil, List.cons_append, List.nil_append, List.length_cons, List.length_nil, List.replicate_succ, List.replicate_zero, Nat.reduceSub, Nat.reduceAdd, Nat.zero_add, wipeD, keyD, rAbs, if_true]
    exact ⟨hl, q⟩
  · intro c hc
    refine ⟨by decide, fun p hp => ?_⟩
    have hpc : p ≠ c := fun e => by subst e; rw [MS.put_same] at hp; cases hp
    rw [MS.put_ne hpc] at hp
    refine h p c _ hp hc ⟨hpc, 0, (ns.take 60).map fun i => if i < 0 then -i else i, MS.put_same, ?_, by decide, by decide, by simp; omega, fun x hx => ?_⟩ fun b h1 h2 h3 => ?_
    · rw [MS.put_ne (Ne.symm hpc), MS.put_same]
      congr 2
      rw [List.filterMap_map, List.map_map]
      exact (List.filterMap_eq_map (f := fun i : Int => D.int (if i < 0 then -i else i)) ▸ rfl)
    · obtain ⟨i, _, rfl⟩ := List.mem_map.mp hx
      split <;> omega
    · rw [MS.put_ne h1, MS.put_ne h2]
theorem p_law_draw_v2 (ds : List D) (M : MS) (Φ : DQ) (h : sp_law_draw_v2 ds M Φ noX) : t_law_draw_v2 { nx := fun _ M' => Φ .non M', rt := Φ } (startD 5 ds) M := by
  obtain ⟨a, c, k, l, rfl, hl1, hl2, hD, h⟩ := h
  obtain ⟨hac, n, cells, ha, hc, hn0, hn, hlen, hpos⟩ := hD
  simp only [t_law_draw_v2, sSeq, sRet, sRetN, sNext, sIf, sAsg, sPar, sPar3, sSetI, sAug, sAugI, sDrop, sBreak, sCont, dOp, dUn, dCons, dNil, dFn, dC, dTup, dLst, dLstM, dIf, dTest, dTru, dAnd, dOr, dNot, dAndV, dOrV, dNotE, dChain, dSl, dNoPart, dPart, dSeq, dEnum, dZip, dRng1, dRng2, dYes, dCall, dMt, dVar, dDic0, dDic1, Pat.put, Pat.puts, List.getElem?_cons_zero, List.getElem?_cons_succ, List.set_cons_zero, List.set_cons_succ, startD, List.map_cons, List.map_nil, List.cons_append, List.nil_append, List.length_cons, List.length_nil, List.replicate_succ, List.replicate_zero, Nat.reduceSub, Nat.reduceAdd, Nat.zero_add, wipeD, keyD]
  refine rIx_seq (seqA_ref ha) (d := .int n) (by rw [at1]; rfl) (rAdd_i ?_)
  refine rSet_ref (n := 1) ha rfl ?_
  have ea : (M.put a (.lst [.ref c, .int (n + 1)])).map a = some (.lst [.ref c, .int (n + 1)]) := MS.put_same
  have ec : (M.put a (.lst [.ref c, .int (n + 1)])).map c = some (.lst (cells.map D.int)) := by rw [MS.put_ne (Ne.symm hac)]; exact hc
  have eb : ∀ b, b ≠ a → b ≠ c → (M.put a (.lst [.ref c, .int (n + 1)])).map b = M.map b := fun b x _ => MS.put_ne x
  show rIx (.ref a) (.int 1) (M.put a (.lst [.ref c, .int (n + 1)])) _
  generalize M.put a (.lst [.ref c, .int (n + 1)]) = M1 at ea ec eb ⊢
  refine rIx_seq (seqA_ref ea) (d := .int (n + 1)) (by rw [at1]; rfl) ?_
  refine rIx_seq (seqA_ref ea) (d := .ref c) (by rw [at0]; rfl) ?_
  refine rLen_seq (fun z e => nomatch e) (seqA_ref ec) ?_
  rw [List.length_map]
  refine rMax2 (rMod_i (by omega) ?_)
  have m0 : 0 ≤ (n + 1) % (max 1 ((cells.length : Nat) : Int)) := Int.emod_nonneg _ (by omega)
  have m1 : (n + 1) % (max 1 ((cells.length : Nat) : Int)) < max 1 ((cells.length : Nat) : Int) := Int.emod_lt_of_pos _ (by omega)
  generalize (n + 1) % (max 1 ((cells.length : Nat) : Int)) = i at m0 m1 ⊢
  refine rIx_seq (seqA_ref ea) (d := .ref c) (by rw [at0]; rfl) ?_
  obtain ⟨x, gx, px, hx⟩ : ∃ x : Int, atI (cells.map D.int ++ [D.int 0]) i = some (.int x) ∧ 0 ≤ x ∧ (i.toNat < cells.length ∨ x = 0) := by
    rw [atI_t _ _ m0]
    by_cases hj : i.toNat < cells.length
    · refine ⟨cells[i.toNat], ?_, hpos _ (List.getElem_mem hj), .inl hj⟩
      rw [List.getElem?_append_left (by simpa using hj), List.getElem?_map, List.getElem?_eq_getElem hj]
      rfl
    · refine ⟨0, ?_, Int.le_refl _, .inr rfl⟩
      have e0 : i.toNat = 0 := by omega
      have e1 : cells.length = 0 := by omega
      rw [e0, List.eq_nil_of_length_eq_zero e1]
      rfl
  refine ⟨by decide, rAdd_r (xs := cells.map D.int) (by simp only [seqL, ec]) rfl (by rw [List.length_map, List.length_cons, List.length_nil]; omega) ?_⟩
  refine rIx_seq (x := .lst _) rfl gx (rPow_i ⟨by decide, by decide, by decide⟩ (rCmp_i ?_))
  dsimp only
  split
  · rename_i hbig
    have hj : i.toNat < cells.length := by
      rcases hx with z | z
      · exact z
      · subst z; exact absurd hbig (by decide)
    refine rDiv_i (by omega) (by omega) ?_
    refine rIx_seq (seqA_ref ea) (d := .ref c) (by rw [at0]; rfl) ?_
    refine rSet_ref (n := i.toNat) ec (by rw [List.length_map]; exact ixN_t _ _ m0 (by omega)) ?_
    refine rMod_i (by omega) ?_
    obtain ⟨d1, d2⟩ := draw_out (M := M) (M' := M1.put c (.lst ((cells.map D.int).set i.toNat (.int (x / l))))) (cells' := cells.set i.toNat (x / l)) hac hn0 hn (by rw [MS.put_ne hac]; exact ea) (by rw [MS.put_same, ← List.map_set]) (by rw [List.length_set]; exact hlen)
      (fun y hy => by
        rcases List.mem_or_eq_of_mem_set hy with z | z
        · exact hpos y z
        · rw [z]; exact Int.ediv_nonneg px (by omega)) (fun b x y => by rw [MS.put_ne y]; exact eb b x y)
    exact h _ _ d1 d2 (Int.emod_nonneg _ (by omega)) (Int.emod_lt_of_pos _ (by omega))
  · refine rMod_i (by decide) (rIx_seq (seqA_ref ea) (d := .int (n + 1)) (by rw [at1]; rfl) (rMul_i (.inl (by decide)) (rAdd_i (rAdd_i ?_))))
    have b1 : 0 ≤ x % 2147483563 := Int.emod_nonneg _ (by decide)
    have b2 : x % 2147483563 < 2147483563 := Int.emod_lt_of_pos _ (by decide)
    refine rPow_i ⟨by decide, by decide, by omega⟩ (rMod_i (by decide) (rDiv_i (by decide) (by decide) (rIx_seq (seqA_ref ea) (d := .int (n + 1)) (by rw [at1]; rfl) (rMul_i (.inl (by decide)) (rAdd_i (rMod_i (by omega) ?_))))))
    obtain ⟨d1, d2⟩ := draw_out hac hn0 hn ea ec hlen hpos eb
    exact h _ M1 d1 d2 (Int.emod_nonneg _ (by omega)) (Int.emod_lt_of_pos _ (by omega))
end DL

namespace DL
open PySem PySem.Spec PyProof.Rows L2

/-! ### drawn rows and walkers, the other way -/
def sp_law_row_v2 : DSp := fun ds M Φ _ => ∃ (a c : Addr) (k : Nat) (st most : Int), ds = [.ref a, .int st, .int most] ∧ 2 ≤ st ∧ st ≤ 1000 ∧ 0 ≤ most ∧ most < 1000 ∧ Dk M a c (k + 2 * st.toNat + 2) ∧
  ∀ (ns : List Int) M', Dk M' a c k → Kp a c M M' → 2 ≤ ns.length → (ns.length : Int) ≤ st → intsIn ns (max 3 most) → Φ (.tup (ns.map D.int)) M'
def sp_law_walkers_v2 : DSp := fun ds M Φ _ => ∃ (a c : Addr) (k : Nat) (st most : Int), ds = [.ref a, .int st, .int most] ∧ 2 ≤ st ∧ st ≤ 1000 ∧ 0 ≤ most ∧ most ≤ 1000 ∧ Dk M a c (k + 2 * most.toNat + 2) ∧
  ∀ (ws : List (Int × Int)) M', Dk M' a c k → Kp a c M M' → (ws.length : Int) ≤ most → waysIn ws st → Φ (.tup (ws.map wayD)) M'
def t_law_row_v2 : DS := (sSeq (sPar 3 4 (dCons (dOp rIx (dLst (dCons (dC (.int 1)) (dCons (dC (.int 3)) (dCons (dVar 2) dNil)))) (dCall 2 sp_law_draw_v2 (dCons (dVar 0) (dCons (dC (.int 3)) dNil)))) (dCons (dLstM dNil) dNil))) (sSeq (sFor (dRng1 (dOp rAdd (dC (.int 2)) (dCall 2 sp_law_draw_v2 (dCons (dVar 0) (dCons (dOp rSub (dVar 1) (dC (.int 1))) dNil))))) (.nm 5) (sSeq (sDrop (dMt rApp (dVar 4) (dCons (dOp rMul (dCall 2 sp_law_draw_v2 (dCons (dVar 0) (dCons (dOp rAdd (dVar 3) (dC (.int 1))) dNil))) (dFn rInt (dCons (dOp rGt (dCall 2 sp_law_draw_v2 (dCons (dVar 0) (dCons (dC (.int 3)) dNil))) (dC (.int 0))) dNil))) dNil))) sNext)) (sSeq (sRet (dFn rTuple (dCons (dVar 4) dNil))) sNext)))
def t_law_walkers_v2 : DS := (sSeq (sPar 3 4 (dCons (dCall 2 sp_law_draw_v2 (dCons (dVar 0) (dCons (dC (.int 3)) dNil))) (dCons (dLstM dNil) dNil))) (sSeq (sFor (dRng1 (dCall 2 sp_law_draw_v2 (dCons (dVar 0) (dCons (dOp rAdd (dVar 2) (dC (.int 1))) dNil)))) (.nm 5) (sSeq (sAsg (dCall 2 sp_law_draw_v2 (dCons (dVar 0) (dCons (dOp rSub (dVar 1) (dC (.int 1))) dNil))) (.nm 6)) (sSeq (sAsg (dOp rSub (dOp rSub (dVar 1) (dC (.int 1))) (dVar 6)) (.nm 7)) (sSeq (sDrop (dMt rApp (dVar 4) (dCons (dTup (dCons (dVar 6) (dCons (dOp rAdd (dOp rAdd (dVar 6) (dC (.int 1))) (dOp rIx (dLst (dCons (dCall 2 sp_law_draw_v2 (dCons (dVar 0) (dCons (dVar 7) dNil))) (dCons (dC (.int 0)) (dCons (dOp rSub (dVar 7) (dC (.int 1))) dNil)))) (dVar 3))) dNil))) dNil))) sNext)))) (sSeq (sRet (dFn rTuple (dCons (dVar 4) dNil))) sNext)))
theorem rApp_ref {M : MS} {Φ : DQ} {p : Addr} {ds : List D} {y : D} (h : M.map p = some (.lst ds)) (hl : ds.length < 100000) (q : Φ .non (M.put p (.lst (ds ++ [y])))) : rApp (.ref p) [y] M Φ := by
  unfold rApp
  simp only [h]
  exact ⟨hl, q⟩
theorem isL_ref {M : MS} {p : Addr} {ds : List D} (h : M.map p = some (.lst ds)) : isL M (.ref p) := by simp only [isL, h]
theorem p_law_row_v2 (ds : List D) (M : MS) (Φ : DQ) (h : sp_law_row_v2 ds M Φ noX) : t_law_row_v2 { nx := fun _ M' => Φ .non M', rt := Φ } (startD 6 ds) M := by
  obtain ⟨a, c, k, st, most, rfl, hs1, hs2, hm1, hm2, hD, h⟩ := h
  simp only [t_law_row_v2, sSeq, sRet, sRetN, sNext, sIf, sAsg, sPar, sPar3, sSetI, sAug, sAugI, sDrop, sBreak, sCont, dOp, dUn, dCons, dNil, dFn, dC, dTup, dLst, dLstM, dIf, dTest, dTru, dAnd, dOr, dNot, dAndV, dOrV, dNotE, dChain, dSl, dNoPart, dPart, dSeq, dEnum, dZip, dRng1, dRng2, dYes, dCall, dMt, dVar, dDic0, dDic1, Pat.put, Pat.puts, List.getElem?_cons_zero, List.getElem?_cons_succ, List.set_cons_zero, List.set_cons_succ, startD, List.map_cons, List.map_nil, List.cons_append, List.nil_append, List.length_cons, List.length_nil, List.replicate_succ, List.replicate_zero, Nat.reduceSub, Nat.reduceAdd, Nat.zero_add, wipeD, keyD]
  refine ⟨by decide, ?_⟩
  refine use_draw (k := k + 2 * st.toNat + 1) hD (by decide) (by decide) fun r M1 hD1 hK1 u0 u1 => ?_
  obtain ⟨top, et, t0, t1⟩ : ∃ m : Int, atI [D.int 1, D.int 3, D.int most] r = some (.int m) ∧ 0 ≤ m ∧ m ≤ max 3 most := by
    have hr : r = 0 ∨ r = 1 ∨ r = 2 := by omega
    rcases hr with rfl | rfl | rfl
    · exact ⟨1, by rw [at0]; rfl, by decide, by omega⟩
    · exact ⟨3, by rw [at1]; rfl, by decide, by omega⟩
    · exact ⟨most, by rw [at2]; rfl, hm1, by omega⟩
  refine rIx_seq (x := .lst _) rfl et ⟨by decide, fun p hp => ?_⟩
  have pa := hD1.a_ne hp
  have pc := hD1.c_ne hp
  simp only [sFor, dRng1, sSeq, sRet, sRetN, sNext, sIf, sAsg, sPar, sPar3, sSetI, sAug, sAugI, sDrop, sBreak, sCont, dOp, dUn, dCons, dNil, dFn, dC, dTup, dLst, dLstM, dIf, dTest, dTru, dAnd, dOr, dNot, dAndV, dOrV, dNotE, dChain, dSl, dNoPart, dPart, dSeq, dEnum, dZip, dRng1, dRng2, dYes, dCall, dMt, dVar, dDic0, dDic1, Pat.put, Pat.puts, List.getElem?_cons_zero, List.getElem?_cons_succ, List.set_cons_zero, List.set_cons_succ, startD, List.map_cons, List.map_nil, List.cons_append, List.nil_append, List.length_cons, List.length_nil, List.replicate_succ, List.replicate_zero, Nat.reduceSub, Nat.reduceAdd, Nat.zero_add, wipeD, keyD]
  refine rSub_i ?_
  refine use_draw (k := k + 2 * st.toNat) (hD1.put pa pc) (by omega) (by omega) fun n M2 hD2 hK2 v0 v1 => rAdd_i ⟨by omega, by omega, ?_⟩
  refine forW_inv (fun ds' ρ M' => ∃ (ns : List Int) (r5 : Option D), ρ = [some (.ref a), some (.int st), some (.int most), some (.int top), some (.ref p), r5] ∧ M'.map p = some (.lst (ns.map D.int)) ∧ Dk M' a c (k + 2 * ds'.length) ∧ Kp a c M1 M' ∧ intsIn ns (max 3 most) ∧ ns.length + ds'.length = (2 + n).toNat)
    (fun _ _ _ _ => trivial) (fun ρ M' q => ?_) (fun d ds' ρ M' Nx q nx => ?_) _ _ _ ⟨[], none, rfl, hK2.keep pa pc MS.put_same, hD2.mono (by rw [rangeD_length]; omega), (Kp.new hp).trans hK2, fun _ z => absurd z List.not_mem_nil, by rw [rangeD_length]; simp⟩
  · obtain ⟨ns, r5, rfl, e, q1, q2, q3, q4⟩ := q
    have q4' : ns.length = (2 + n).toNat := by simpa using q4
    simp only [sSeq, sRet, sRetN, sNext, sIf, sAsg, sPar, sPar3, sSetI, sAug, sAugI, sDrop, sBreak, sCont, dOp, dUn, dCons, dNil, dFn, dC, dTup, dLst, dLstM, dIf, dTest, dTru, dAnd, dOr, dNot, dAndV, dOrV, dNotE, dChain, dSl, dNoPart, dPart, dSeq, dEnum, dZip, dRng1, dRng2, dYes, dCall, dMt, dVar, dDic0, dDic1, Pat.put, Pat.puts, List.getElem?_cons_zero, List.getElem?_cons_succ, List.set_cons_zero, List.set_cons_succ, startD, List.map_cons, List.map_nil, List.cons_append, List.nil_append, List.length_cons, List.length_nil, List.replicate_succ, List.replicate_zero, Nat.reduceSub, Nat.reduceAdd, Nat.zero_add, wipeD, keyD, rTuple, seqA, e]
    refine h ns M' (q1.mono (by simp)) (hK1.trans q2) (by omega) (by omega) q3
  · obtain ⟨ns, r5, rfl, e, q1, q2, q3, q4⟩ := q
    have q4' : ns.length + (ds'.length + 1) = (2 + n).toNat := by simpa using q4
    refine ⟨_, rfl, ?_⟩
    simp only [sSeq, sRet, sRetN, sNext, sIf, sAsg, sPar, sPar3, sSetI, sAug, sAugI, sDrop, sBreak, sCont, dOp, dUn, dCons, dNil, dFn, dC, dTup, dLst, dLstM, dIf, dTest, dTru, dAnd, dOr, dNot, dAndV, dOrV, dNotE, dChain, dSl, dNoPart, dPart, dSeq, dEnum, dZip, dRng1, dRng2, dYes, dCall, dMt, dVar, dDic0, dDic1, Pat.put, Pat.puts, List.getElem?_cons_zero, List.getElem?_cons_succ, List.set_cons_zero, List.set_cons_succ, startD, List.map_cons, List.map_nil, List.cons_append, List.nil_append, List.length_cons, List.length_nil, List.replicate_succ, List.replicate_zero, Nat.reduceSub, Nat.reduceAdd, Nat.zero_add, wipeD, keyD]
    refine ⟨isL_ref e, rAdd_i ?_⟩
    refine use_draw (k := k + 2 * ds'.length + 1) (q1.mono (by rw [List.length_cons]; omega)) (by omega) (by omega) fun x M3 hD3 hK3 w0 w1 => ?_
    refine use_draw hD3 (by decide) (by decide) fun y M4 hD4 hK4 x0 x1 => rCmp_i ?_
    simp only [rInt]
    refine rMul_i (.inl (by omega)) ?_
    have e4 := (hK3.trans hK4).keep pa pc e
    refine rApp_ref e4 (by rw [List.length_map]; omega) (nx _ _ ⟨ns ++ [x * b2 (decide (0 < y))], _, rfl, by rw [MS.put_same]; simp, hD4.put pa pc, ((q2.trans hK3).trans hK4).put hp, fun z hz => ?_, by simp; omega⟩)
    rcases List.mem_append.mp hz with z' | z'
    · exact q3 z z'
    · rw [List.mem_singleton.mp z']
      cases decide (0 < y) with
      | true => simp [b2]; omega
      | false => simp [b2]; omega
theorem p_law_walkers_v2 (ds : List D) (M : MS) (Φ : DQ) (h : sp_law_walkers_v2 ds M Φ noX) : t_law_walkers_v2 { nx := fun _ M' => Φ .non M', rt := Φ } (startD 8 ds) M := by
  obtain ⟨a, c, k, st, most, rfl, hs1, hs2, hm1, hm2, hD, h⟩ := h
  simp only [t_law_walkers_v2, sSeq, sRet, sRetN, sNext, sIf, sAsg, sPar, sPar3, sSetI, sAug, sAugI, sDrop, sBreak, sCont, dOp, dUn, dCons, dNil, dFn, dC, dTup, dLst, dLstM, dIf, dTest, dTru, dAnd, dOr, dNot, dAndV, dOrV, dNotE, dChain, dSl, dNoPart, dPart, dSeq, dEnum, dZip, dRng1, dRng2, dYes, dCall, dMt, dVar, dDic0, dDic1, Pat.put, Pat.puts, List.getElem?_cons_zero, List.getElem?_cons_succ, List.set_cons_zero, List.set_cons_succ, startD, List.map_cons, List.map_nil, List.cons_append, List.nil_append, List.length_cons, List.length_nil, List.replicate_succ, List.replicate_zero, Nat.reduceSub, Nat.reduceAdd, Nat.zero_add, wipeD, keyD]
  refine use_draw (k := k + 2 * most.toNat + 1) hD (by decide) (by decide) fun way M1 hD1 hK1 u0 u1 => ⟨by decide, fun p hp => ?_⟩
  have pa := hD1.a_ne hp
  have pc := hD1.c_ne hp
  simp only [sFor, dRng1, sSeq, sRet, sRetN, sNext, sIf, sAsg, sPar, sPar3, sSetI, sAug, sAugI, sDrop, sBreak, sCont, dOp, dUn, dCons, dNil, dFn, dC, dTup, dLst, dLstM, dIf, dTest, dTru, dAnd, dOr, dNot, dAndV, dOrV, dNotE, dChain, dSl, dNoPart, dPart, dSeq, dEnum, dZip, dRng1, dRng2, dYes, dCall, dMt, dVar, dDic0, dDic1, Pat.put, Pat.puts, List.getElem?_cons_zero, List.getElem?_cons_succ, List.set_cons_zero, List.set_cons_succ, startD, List.map_cons, List.map_nil, List.cons_append, List.nil_append, List.length_cons, List.length_nil, List.replicate_succ, List.replicate_zero, Nat.reduceSub, Nat.reduceAdd, Nat.zero_add, wipeD, keyD]
  refine rAdd_i ?_
  refine use_draw (k := k + 2 * most.toNat) (hD1.put pa pc) (by omega) (by omega) fun n M2 hD2 hK2 v0 v1 => ⟨by omega, by omega, ?_⟩
  refine forW_inv (fun ds' ρ M' => ∃ (ws : List (Int × Int)) (r5 r6 r7 : Option D), ρ = [some (.ref a), some (.int st), some (.int most), some (.int way), some (.ref p), r5, r6, r7] ∧ M'.map p = some (.lst (ws.map wayD)) ∧ Dk M' a c (k + 2 * ds'.length) ∧ Kp a c M1 M' ∧ waysIn ws st ∧ ws.length + ds'.length = n.toNat)
    (fun _ _ _ _ => trivial) (fun ρ M' q => ?_) (fun d ds' ρ M' Nx q nx => ?_) _ _ _ ⟨[], none, none, none, rfl, hK2.keep pa pc MS.put_same, hD2.mono (by rw [rangeD_length]; omega), (Kp.new hp).trans hK2, fun _ z => absurd z List.not_mem_nil, by rw [rangeD_length]; simp⟩
  · obtain ⟨ws, r5, r6, r7, rfl, e, q1, q2, q3, q4⟩ := q
    have q4' : ws.length = n.toNat := by simpa using q4
    simp only [sSeq, sRet, sRetN, sNext, sIf, sAsg, sPar, sPar3, sSetI, sAug, sAugI, sDrop, sBreak, sCont, dOp, dUn, dCons, dNil, dFn, dC, dTup, dLst, dLstM, dIf, dTest, dTru, dAnd, dOr, dNot, dAndV, dOrV, dNotE, dChain, dSl, dNoPart, dPart, dSeq, dEnum, dZip, dRng1, dRng2, dYes, dCall, dMt, dVar, dDic0, dDic1, Pat.put, Pat.puts, List.getElem?_cons_zero, List.getElem?_cons_succ, List.set_cons_zero, List.set_cons_succ, startD, List.map_cons, List.map_nil, List.cons_append, List.nil_append, List.length_cons, List.length_nil, List.replicate_succ, List.replicate_zero, Nat.reduceSub, Nat.reduceAdd, Nat.zero_add, wipeD, keyD, rTuple, seqA, e]
    refine h ws M' (q1.mono (by simp)) (hK1.trans q2) (by omega) q3
  · obtain ⟨ws, r5, r6, r7, rfl, e, q1, q2, q3, q4⟩ := q
    have q4' : ws.length + (ds'.length + 1) = n.toNat := by simpa using q4
    refine ⟨_, rfl, ?_⟩
    simp only [sSeq, sRet, sRetN, sNext, sIf, sAsg, sPar, sPar3, sSetI, sAug, sAugI, sDrop, sBreak, sCont, dOp, dUn, dCons, dNil, dFn, dC, dTup, dLst, dLstM, dIf, dTest, dTru, dAnd, dOr, dNot, dAndV, dOrV, dNotE, dChain, dSl, dNoPart, dPart, dSeq, dEnum, dZip, dRng1, dRng2, dYes, dCall, dMt, dVar, dDic0, dDic1, Pat.put, Pat.puts, List.getElem?_cons_zero, List.getElem?_cons_succ, List.set_cons_zero, List.set_cons_succ, startD, List.map_cons, List.map_nil, List.cons_append, List.nil_append, List.length_cons, List.length_nil, List.replicate_succ, List.replicate_zero, Nat.reduceSub, Nat.reduceAdd, Nat.zero_add, wipeD, keyD]
    refine rSub_i ?_
    refine use_draw (k := k + 2 * ds'.length + 1) (q1.mono (by rw [List.length_cons]; omega)) (by omega) (by omega) fun f M3 hD3 hK3 w0 w1 => rSub_i (rSub_i ?_)
    have e3 := hK3.keep pa pc e
    refine ⟨isL_ref e3, rAdd_i ?_⟩
    refine use_draw hD3 (by omega) (by omega) fun g M4 hD4 hK4 x0 x1 => rSub_i ⟨by decide, ?_⟩
    have e4 := hK4.keep pa pc e3
    obtain ⟨z, ez, z0, z1⟩ : ∃ m : Int, atI [D.int g, D.int 0, D.int (st - 1 - f - 1)] way = some (.int m) ∧ 0 ≤ m ∧ m ≤ st - 1 - f - 1 := by
      have hr : way = 0 ∨ way = 1 ∨ way = 2 := by omega
      rcases hr with rfl | rfl | rfl
      · exact ⟨g, by rw [at0]; rfl, x0, by omega⟩
      · exact ⟨0, by rw [at1]; rfl, by decide, by omega⟩
      · exact ⟨st - 1 - f - 1, by rw [at2]; rfl, by omega, by omega⟩
    refine rIx_seq (x := .lst _) rfl ez (rAdd_i ⟨by decide, ?_⟩)
    refine rApp_ref e4 (by rw [List.length_map]; omega) (nx _ _ ⟨ws ++ [(f, f + 1 + z)], _, _, _, rfl, by rw [MS.put_same]; simp [wayD], hD4.put pa pc, ((q2.trans hK3).trans hK4).put hp, fun x hx => ?_, by simp; omega⟩)
    rcases List.mem_append.mp hx with z' | z'
    · exact q3 x z'
    · rw [List.mem_singleton.mp z']
      exact ⟨w0, by show f < f + 1 + z; omega, by show f + 1 + z ≤ _; omega⟩
end DL

namespace DL
open PySem PySem.Spec PyProof.Rows L2

/-! ### needs -/
def nd : List Int → Int
  | [] => 0
  | d :: ds => max 0 (d + nd ds)
def needs : List Int → List Int
  | [] => []
  | d :: ds => nd (d :: ds) :: needs ds
def difs (rs ws : List Int) : List Int := (rs.zip ws).map fun p => p.2 - p.1
def pairD (p : Int × Int) : D := .tup [.int p.1, .int p.2]
theorem zipD_ints : ∀ rs ws : List Int, zipD (rs.map D.int) (ws.map D.int) = (rs.zip ws).map pairD
  | [], _ => by simp [zipD]
  | _ :: _, [] => by simp [zipD]
  | r :: rs, w :: ws => by simp only [List.map_cons, zipD, List.zip_cons_cons, zipD_ints rs ws]; rfl
theorem zip_rev {rs ws : List Int} (h : rs.length = ws.length) : rs.reverse.zip ws.reverse = (rs.zip ws).reverse := by
  simp only [List.zip_eq_zipWith]
  exact (List.reverse_zipWith h).symm
def sp_needs_of : DSp := fun ds M Φ _ => ∃ (rs ws : List Int), ds = [.tup (rs.map D.int), .tup (ws.map D.int)] ∧ rs.length = ws.length ∧ rs.length ≤ 1000 ∧ ∀ M', Ext M M' → Φ (.tup ((needs (difs rs ws)).map D.int)) M'
def t_needs_of : DS := (sSeq (sPar 2 3 (dCons (dLstM dNil) (dCons (dC (.int 0)) dNil))) (sSeq (sFor (dZip (dRev (dVar 0)) (dRev (dVar 1))) (.tp [(.nm 4), (.nm 5)]) (sSeq (sAsg (dFn rMax (dCons (dC (.int 0)) (dCons (dOp rSub (dOp rAdd (dVar 3) (dVar 5)) (dVar 4)) dNil))) (.nm 3)) (sSeq (sDrop (dMt rApp (dVar 2) (dCons (dVar 3) dNil))) sNext))) (sSeq (sRet (dFn rTuple (dCons (dRev (dVar 2)) dNil))) sNext)))
theorem p_needs_of (ds : List D) (M : MS) (Φ : DQ) (h : sp_needs_of ds M Φ noX) : t_needs_of { nx := fun _ M' => Φ .non M', rt := Φ } (startD 6 ds) M := by
  obtain ⟨rs, ws, rfl, hl, hl2, h⟩ := h
  simp only [t_needs_of, sSeq, sRet, sRetN, sNext, sIf, sAsg, sPar, sPar3, sSetI, sAug, sAugI, sDrop, sBreak, sCont, dOp, dUn, dCons, dNil, dFn, dC, dTup, dLst, dLstM, dIf, dTest, dTru, dAnd, dOr, dNot, dAndV, dOrV, dNotE, dChain, dSl, dNoPart, dPart, dSeq, dEnum, dZip, dRng1, dRng2, dYes, dCall, dMt, dVar, dDic0, dDic1, Pat.put, Pat.puts, List.getElem?_cons_zero, List.getElem?_cons_succ, List.set_cons_zero, List.set_cons_succ, startD, List.map_cons, List.map_nil, List.cons_append, List.nil_append, List.length_cons, List.length_nil, List.replicate_succ, List.replicate_zero, Nat.reduceSub, Nat.reduceAdd, Nat.zero_add, wipeD, keyD]
  refine ⟨by decide, fun p hp => ?_⟩
  simp only [sFor, sSeq, sRet, sRetN, sNext, sIf, sAsg, sPar, sPar3, sSetI, sAug, sAugI, sDrop, sBreak, sCont, dOp, dUn, dCons, dNil, dFn, dC, dTup, dLst, dLstM, dIf, dTest, dTru, dAnd, dOr, dNot, dAndV, dOrV, dNotE, dChain, dSl, dNoPart, dPart, dSeq, dEnum, dZip, dRng1, dRng2, dYes, dCall, dMt, dVar, dDic0, dDic1, Pat.put, Pat.puts, List.getElem?_cons_zero, List.getElem?_cons_succ, List.set_cons_zero, List.set_cons_succ, startD, List.map_cons, List.map_nil, List.cons_append, List.nil_append, List.length_cons, List.length_nil, List.replicate_succ, List.replicate_zero, Nat.reduceSub, Nat.reduceAdd, Nat.zero_add, wipeD, keyD, dRev, seqA]
  rw [← List.map_reverse, ← List.map_reverse, zipD_ints, zip_rev hl]
  refine forW_inv (fun ds' ρ M' => ∃ (done rest : List (Int × Int)) (r4 r5 : Option D), ρ = [some (.tup (rs.map D.int)), some (.tup (ws.map D.int)), some (.ref p), some (.int (nd ((done.reverse).map fun p => p.2 - p.1))), r4, r5] ∧ ds' = rest.map pairD ∧ (rs.zip ws).reverse = done ++ rest ∧ M'.map p = some (.lst ((needs ((done.reverse).map fun p => p.2 - p.1)).reverse.map D.int)) ∧ Ext M M')
    (fun _ _ _ _ => ⟨trivial, trivial⟩) (fun ρ M' q => ?_) (fun d ds' ρ M' Nx q nx => ?_) _ _ _ ⟨[], (rs.zip ws).reverse, none, none, rfl, rfl, rfl, MS.put_same, Ext.new hp⟩
  · obtain ⟨done, rest, r4, r5, rfl, e, q1, q2, q3⟩ := q
    obtain rfl : rest = [] := by
      cases rest with
      | nil => rfl
      | cons _ _ => cases e
    rw [List.append_nil] at q1
    subst q1
    simp only [sSeq, sRet, sRetN, sNext, sIf, sAsg, sPar, sPar3, sSetI, sAug, sAugI, sDrop, sBreak, sCont, dOp, dUn, dCons, dNil, dFn, dC, dTup, dLst, dLstM, dIf, dTest, dTru, dAnd, dOr, dNot, dAndV, dOrV, dNotE, dChain, dSl, dNoPart, dPart, dSeq, dEnum, dZip, dRng1, dRng2, dYes, dCall, dMt, dVar, dDic0, dDic1, Pat.put, Pat.puts, List.getElem?_cons_zero, List.getElem?_cons_succ, List.set_cons_zero, List.set_cons_succ, startD, List.map_cons, List.map_nil, List.cons_append, List.nil_append, List.length_cons, List.length_nil, List.replicate_succ, List.replicate_zero, Nat.reduceSub, Nat.reduceAdd, Nat.zero_add, wipeD, keyD, dRev, rTuple, seqA, q2]
    rw [← List.map_reverse, List.reverse_reverse, List.reverse_reverse]
    exact h M' q3
  · obtain ⟨done, rest, r4, r5, rfl, e, q1, q2, q3⟩ := q
    cases rest with
    | nil => cases e
    | cons w rest =>
      rw [List.map_cons] at e
      injection e with e1 e2
      subst e1 e2
      refine ⟨_, rfl, ?_⟩
      simp only [sSeq, sRet, sRetN, sNext, sIf, sAsg, sPar, sPar3, sSetI, sAug, sAugI, sDrop, sBreak, sCont, dOp, dUn, dCons, dNil, dFn, dC, dTup, dLst, dLstM, dIf, dTest, dTru, dAnd, dOr, dNot, dAndV, dOrV, dNotE, dChain, dSl, dNoPart, dPart, dSeq, dEnum, dZip, dRng1, dRng2, dYes, dCall, dMt, dVar, dDic0, dDic1, Pat.put, Pat.puts, List.getElem?_cons_zero, List.getElem?_cons_succ, List.set_cons_zero, List.set_cons_succ, startD, List.map_cons, List.map_nil, List.cons_append, List.nil_append, List.length_cons, List.length_nil, List.replicate_succ, List.replicate_zero, Nat.reduceSub, Nat.reduceAdd, Nat.zero_add, wipeD, keyD]
      refine rAdd_i (rSub_i (rMax2 ?_))
      have en : ((done ++ [w]).reverse).map (fun p : Int × Int => p.2 - p.1) = (w.2 - w.1) :: (done.reverse).map fun p => p.2 - p.1 := by rw [List.reverse_append]; rfl
      have e3 : max 0 (nd ((done.reverse).map fun p => p.2 - p.1) + w.2 - w.1) = nd (((done ++ [w]).reverse).map fun p : Int × Int => p.2 - p.1) := by
        rw [en, nd]
        congr 1
        omega
      rw [e3]
      refine ⟨isL_ref q2, rApp_ref q2 ?_ ?_⟩
      · rw [List.length_map, List.length_reverse]
        have hn : ∀ l : List Int, (needs l).length = l.length := fun l => by
          induction l with
          | nil => rfl
          | cons x l ih => simp [needs, ih]
        rw [hn, List.length_map, List.length_reverse]
        have := congrArg List.length q1
        simp at this
        omega
      · refine nx _ _ ⟨done ++ [w], rest, _, _, rfl, rfl, by rw [q1]; simp, ?_, q3.put hp⟩
        rw [MS.put_same, en]
        simp [needs]

/-! ### the law's own need: the greatest sum -/
def psum : Int → List Int → List Int
  | _, [] => []
  | a, d :: ds => (a + d) :: psum (a + d) ds
theorem foldl_max_max (r : List Int) : ∀ x y : Int, r.foldl max (max x y) = max x (r.foldl max y) := by
  induction r with
  | nil => intro x y; rfl
  | cons z r ih => intro x y; simp only [List.foldl_cons]; rw [show max (max x y) z = max x (max y z) by omega, ih]
theorem psum_nd : ∀ (ds : List Int) (a : Int), mxI (a :: psum a ds) = a + nd ds
  | [], a => by simp [mxI, psum, nd]
  | d :: ds, a => by
    have ih := psum_nd ds (a + d)
    simp only [mxI] at ih ⊢
    simp only [psum, List.foldl_cons, nd]
    rw [foldl_max_max, ih]
    omega
def sp_law_need : DSp := fun ds M Φ _ => ∃ (rs ws : List Int) (b : Nat), ds = [.tup (rs.map D.int), .tup (ws.map D.int), .int b] ∧ rs.length = ws.length ∧ b ≤ rs.length ∧ rs.length ≤ 1000 ∧ ∀ M', Ext M M' → Φ (.int (nd ((difs rs ws).drop b))) M'
def t_law_need : DS := (sSeq (sAsg (dLstM (dCons (dC (.int 0)) dNil)) (.nm 3)) (sSeq (sFor (dRng2 (dVar 2) (dFn rLen (dCons (dVar 0) dNil))) (.nm 4) (sSeq (sDrop (dMt rApp (dVar 3) (dCons (dOp rSub (dOp rAdd (dOp rIx (dVar 3) (dUn rNeg (dC (.int 1)))) (dOp rIx (dVar 1) (dVar 4))) (dOp rIx (dVar 0) (dVar 4))) dNil))) sNext)) (sSeq (sRet (dFn rMaxA (dCons (dVar 3) dNil))) sNext)))
theorem psum_snoc : ∀ (ds : List Int) (a d : Int), psum a (ds ++ [d]) = psum a ds ++ [a + ds.sum + d]
  | [], a, d => by simp [psum]
  | x :: ds, a, d => by
    simp only [List.cons_append, psum, psum_snoc ds (a + x) d, List.sum_cons]
    rw [show a + x + ds.sum + d = a + (x + ds.sum) + d by omega]
theorem last_psum : ∀ (ds : List Int) (a : Int), (a :: psum a ds).getLast? = some (a + ds.sum)
  | [], a => by simp [psum]
  | d :: ds, a => by
    simp only [psum]
    rw [List.getLast?_cons_cons, last_psum ds (a + d), List.sum_cons]
    congr 1
    omega
theorem atI_m1 {α : Type} {xs : List α} {v : α} (h : xs.getLast? = some v) : atI xs (-1) = some v := by
  obtain ⟨ys, rfl⟩ := List.getLast?_eq_some_iff.mp h
  exact atI_last ys v
theorem p_law_need (ds : List D) (M : MS) (Φ : DQ) (h : sp_law_need ds M Φ noX) : t_law_need { nx := fun _ M' => Φ .non M', rt := Φ } (startD 5 ds) M := by
  obtain ⟨rs, ws, b, rfl, hl, hb, hl2, h⟩ := h
  simp only [t_law_need, sSeq, sRet, sRetN, sNext, sIf, sAsg, sPar, sPar3, sSetI, sAug, sAugI, sDrop, sBreak, sCont, dOp, dUn, dCons, dNil, dFn, dC, dTup, dLst, dLstM, dIf, dTest, dTru, dAnd, dOr, dNot, dAndV, dOrV, dNotE, dChain, dSl, dNoPart, dPart, dSeq, dEnum, dZip, dRng1, dRng2, dYes, dCall, dMt, dVar, dDic0, dDic1, Pat.put, Pat.puts, List.getElem?_cons_zero, List.getElem?_cons_succ, List.set_cons_zero, List.set_cons_succ, startD, List.map_cons, List.map_nil, List.cons_append, List.nil_append, List.length_cons, List.length_nil, List.replicate_succ, List.replicate_zero, Nat.reduceSub, Nat.reduceAdd, Nat.zero_add, wipeD, keyD]
  refine ⟨by decide, fun p hp => ?_⟩
  simp only [sFor, dRng2, sSeq, sRet, sRetN, sNext, sIf, sAsg, sPar, sPar3, sSetI, sAug, sAugI, sDrop, sBreak, sCont, dOp, dUn, dCons, dNil, dFn, dC, dTup, dLst, dLstM, dIf, dTest, dTru, dAnd, dOr, dNot, dAndV, dOrV, dNotE, dChain, dSl, dNoPart, dPart, dSeq, dEnum, dZip, dRng1, dRng2, dYes, dCall, dMt, dVar, dDic0, dDic1, Pat.put, Pat.puts, List.getElem?_cons_zero, List.getElem?_cons_succ, List.set_cons_zero, List.set_cons_succ, startD, List.map_cons, List.map_nil, List.cons_append, List.nil_append, List.length_cons, List.length_nil, List.replicate_succ, List.replicate_zero, Nat.reduceSub, Nat.reduceAdd, Nat.zero_add, wipeD, keyD]
  refine rLen_seq (fun z e => nomatch e) rfl ?_
  rw [List.length_map]
  have hdl : (difs rs ws).length = rs.length := by simp [difs, hl]
  refine ⟨by omega, ?_⟩
  refine forW_inv (fun ds' ρ M' => ∃ (j : Nat) (r4 : Option D), ρ = [some (.tup (rs.map D.int)), some (.tup (ws.map D.int)), some (.int (b : Nat)), some (.ref p), r4] ∧ ds' = rangeD ((b + j : Nat) : Int) ds'.length ∧ b + j + ds'.length = rs.length ∧ M'.map p = some (.lst ((0 :: psum 0 (((difs rs ws).drop b).take j)).map D.int)) ∧ Ext M M')
    (fun _ _ _ _ => trivial) (fun ρ M' q => ?_) (fun d ds' ρ M' Nx q nx => ?_) _ _ _ ⟨0, none, rfl, by rw [rangeD_length]; rfl, by rw [rangeD_length]; omega, MS.put_same, Ext.new hp⟩
  · obtain ⟨j, r4, rfl, _, e2, q2, q3⟩ := q
    have e2' : b + j = rs.length := by simpa using e2
    simp only [sSeq, sRet, sRetN, sNext, sIf, sAsg, sPar, sPar3, sSetI, sAug, sAugI, sDrop, sBreak, sCont, dOp, dUn, dCons, dNil, dFn, dC, dTup, dLst, dLstM, dIf, dTest, dTru, dAnd, dOr, dNot, dAndV, dOrV, dNotE, dChain, dSl, dNoPart, dPart, dSeq, dEnum, dZip, dRng1, dRng2, dYes, dCall, dMt, dVar, dDic0, dDic1, Pat.put, Pat.puts, List.getElem?_cons_zero, List.getElem?_cons_succ, List.set_cons_zero, List.set_cons_succ, startD, List.map_cons, List.map_nil, List.cons_append, List.nil_append, List.length_cons, List.length_nil, List.replicate_succ, List.replicate_zero, Nat.reduceSub, Nat.reduceAdd, Nat.zero_add, wipeD, keyD]
    have et : ((difs rs ws).drop b).take j = (difs rs ws).drop b := List.take_of_length_le (by rw [List.length_drop, hdl]; omega)
    rw [et] at q2
    unfold rMaxA
    simp only [seqA, q2, Option.bind_some, asInts_map]
    refine ⟨by simp, ?_⟩
    rw [psum_nd, Int.zero_add]
    exact h M' q3
  · obtain ⟨j, r4, rfl, e1, e2, q2, q3⟩ := q
    rw [List.length_cons, rangeD_succ] at e1
    injection e1 with e1 e1'
    subst e1
    rw [List.length_cons] at e2
    refine ⟨_, rfl, ?_⟩
    simp only [sSeq, sRet, sRetN, sNext, sIf, sAsg, sPar, sPar3, sSetI, sAug, sAugI, sDrop, sBreak, sCont, dOp, dUn, dCons, dNil, dFn, dC, dTup, dLst, dLstM, dIf, dTest, dTru, dAnd, dOr, dNot, dAndV, dOrV, dNotE, dChain, dSl, dNoPart, dPart, dSeq, dEnum, dZip, dRng1, dRng2, dYes, dCall, dMt, dVar, dDic0, dDic1, Pat.put, Pat.puts, List.getElem?_cons_zero, List.getElem?_cons_succ, List.set_cons_zero, List.set_cons_succ, startD, List.map_cons, List.map_nil, List.cons_append, List.nil_append, List.length_cons, List.length_nil, List.replicate_succ, List.replicate_zero, Nat.reduceSub, Nat.reduceAdd, Nat.zero_add, wipeD, keyD]
    refine ⟨isL_ref q2, rNeg_i ?_⟩
    have hlt : b + j < rs.length := by omega
    have hlt2 : b + j < ws.length := by omega
    refine rIx_seq (seqA_ref q2) (d := .int (0 + (((difs rs ws).drop b).take j).sum)) (atI_m1 (by rw [List.getLast?_map, last_psum]; rfl)) ?_
    refine rIx_seq (x := .tup _) rfl (atI_ints hlt2) (rAdd_i (rIx_seq (x := .tup _) rfl (atI_ints hlt) (rSub_i ?_)))
    have hj : j < ((difs rs ws).drop b).length := by rw [List.length_drop, hdl]; omega
    have ed : ((difs rs ws).drop b)[j]? = some (ws.getD (b + j) 0 - rs.getD (b + j) 0) := by
      rw [List.getElem?_drop]
      unfold difs
      rw [List.getElem?_map, List.getElem?_zip_eq_some (z := (rs[b + j], ws[b + j])) |>.mpr ⟨List.getElem?_eq_getElem hlt, List.getElem?_eq_getElem hlt2⟩]
      simp [List.getD_eq_getElem?_getD, List.getElem?_eq_getElem hlt, List.getElem?_eq_getElem hlt2]
    refine rApp_ref q2 ?_ (nx _ _ ⟨j + 1, _, rfl, e1'.trans (by congr 1), by omega, ?_, q3.put hp⟩)
    · have hp : ∀ (l : List Int) (a : Int), (psum a l).length = l.length := fun l => by
        induction l with
        | nil => intro a; rfl
        | cons x l ih => intro a; simp [psum, ih]
      rw [List.length_map, List.length_cons, hp, List.length_take]
      omega
    · rw [MS.put_same, List.take_add_one, ed]
      simp only [Option.toList]
      rw [psum_snoc]
      simp
      omega
end DL

namespace DL
open PySem PySem.Spec PyProof.Rows L2

/-! ### who carries whatever can be carried -/
def goW (st : List Int × List Int) (s : Nat) : List Int × List Int :=
  if 0 < st.1.getD s 0 then (step st.1 s, st.2.set s (st.2.getD s 0 + 1)) else st
def wayL (w : Int × Int) : List Nat := (List.range (w.2 - w.1).toNat).map (w.1.toNat + ·)
def carriedL (row : List Int) (ws : List (Int × Int)) : List Int × List Int :=
  ws.foldl (fun st w => (wayL w).foldl goW st) (row, List.replicate (row.length - 1) 0)
theorem goW_len (st : List Int × List Int) (s : Nat) : (goW st s).1.length = st.1.length ∧ (goW st s).2.length = st.2.length := by
  unfold goW
  split
  · exact ⟨step_len _ _, by simp⟩
  · exact ⟨rfl, rfl⟩
theorem goWs_len : ∀ (l : List Nat) (st : List Int × List Int), (l.foldl goW st).1.length = st.1.length ∧ (l.foldl goW st).2.length = st.2.length
  | [], _ => ⟨rfl, rfl⟩
  | s :: l, st => by
    rw [List.foldl_cons]
    obtain ⟨h1, h2⟩ := goWs_len l (goW st s)
    obtain ⟨h3, h4⟩ := goW_len st s
    exact ⟨h1.trans h3, h2.trans h4⟩
theorem carr_len : ∀ (ws : List (Int × Int)) (st : List Int × List Int), (ws.foldl (fun st w => (wayL w).foldl goW st) st).1.length = st.1.length ∧ (ws.foldl (fun st w => (wayL w).foldl goW st) st).2.length = st.2.length
  | [], _ => ⟨rfl, rfl⟩
  | w :: ws, st => by
    rw [List.foldl_cons]
    obtain ⟨h1, h2⟩ := carr_len ws ((wayL w).foldl goW st)
    obtain ⟨h3, h4⟩ := goWs_len (wayL w) st
    exact ⟨h1.trans h3, h2.trans h4⟩
def nonneg (ns : List Int) : Prop := ∀ i, 0 ≤ ns.getD i 0
theorem step_nn {ns : List Int} {s : Nat} (h : nonneg ns) (hp : 0 < ns.getD s 0) (hs : s + 1 < ns.length) : nonneg (step ns s) := fun i => by
  rw [step_get hs]
  have h1 := h i
  by_cases e1 : i = s
  · subst e1
    rw [if_pos rfl, if_neg (by omega)]
    omega
  · rw [if_neg e1]
    split <;> omega
theorem step_sum {ns : List Int} {s : Nat} (hs : s + 1 < ns.length) : (step ns s).sum = ns.sum := by
  have hset : ∀ (l : List Int) (i : Nat) (x : Int), i < l.length → (l.set i x).sum = l.sum - l.getD i 0 + x := by
    intro l
    induction l with
    | nil => intro i x h; simp at h
    | cons y l ih =>
      intro i x h
      cases i with
      | zero => simp; omega
      | succ i =>
        have := ih i x (by simpa using h)
        simp only [List.set_cons_succ, List.sum_cons, this, List.getD_cons_succ]
        omega
  unfold step
  rw [hset _ _ _ (by rw [List.length_set]; exact hs), hset _ _ _ (by omega)]
  have e2 : (ns.set s (ns.getD s 0 - 1)).getD (s + 1) 0 = ns.getD (s + 1) 0 := by
    simp only [List.getD_eq_getElem?_getD, List.getElem?_set]
    rw [if_neg (by omega)]
  rw [e2]
  omega
def sp_law_carried : DSp := fun ds M Φ _ => ∃ (row : List Int) (ws : List (Int × Int)), ds = [.tup (row.map D.int), .tup (ws.map wayD)] ∧ waysIn ws (row.length : Nat) ∧ 1 ≤ row.length ∧ row.length ≤ 1000 ∧
  ∀ p M', M.map p = none → Ext M M' → M'.map p = some (.lst ((carriedL row ws).2.map D.int)) → Φ (.lst [.ref p, .tup ((carriedL row ws).1.map D.int)]) M'
def t_law_carried : DS := (sSeq (sPar 2 3 (dCons (dFn rListM (dCons (dVar 0) dNil)) (dCons (dOp rMulM (dLst (dCons (dC (.int 0)) dNil)) (dOp rSub (dFn rLen (dCons (dVar 0) dNil)) (dC (.int 1)))) dNil))) (sSeq (sFor (dSeq (dVar 1)) (.tp [(.nm 4), (.nm 5)]) (sSeq (sFor (dRng2 (dVar 4) (dVar 5)) (.nm 6) (sSeq (sIf (dTest (dOp rGt (dOp rIx (dVar 2) (dVar 6)) (dC (.int 0)))) (sSeq (sSetI (dOp rSub (dOp rIx (dVar 2) (dVar 6)) (dC (.int 1))) (dVar 2) (dVar 6)) (sSeq (sSetI (dOp rAdd (dOp rIx (dVar 2) (dOp rAdd (dVar 6) (dC (.int 1)))) (dC (.int 1))) (dVar 2) (dOp rAdd (dVar 6) (dC (.int 1)))) (sSeq (sSetI (dOp rAdd (dOp rIx (dVar 3) (dVar 6)) (dC (.int 1))) (dVar 3) (dVar 6)) sNext))) sNext) sNext)) sNext)) (sSeq (sRet (dLst (dCons (dVar 3) (dCons (dFn rTuple (dCons (dVar 2) dNil)) dNil)))) sNext)))
theorem p_law_carried (ds : List D) (M : MS) (Φ : DQ) (h : sp_law_carried ds M Φ noX) : t_law_carried { nx := fun _ M' => Φ .non M', rt := Φ } (startD 7 ds) M := by
  obtain ⟨row, ws, rfl, hws, hr1, hr2, h⟩ := h
  simp only [t_law_carried, sSeq, sRet, sRetN, sNext, sIf, sAsg, sPar, sPar3, sSetI, sAug, sAugI, sDrop, sBreak, sCont, dOp, dUn, dCons, dNil, dFn, dC, dTup, dLst, dLstM, dIf, dTest, dTru, dAnd, dOr, dNot, dAndV, dOrV, dNotE, dChain, dSl, dNoPart, dPart, dSeq, dEnum, dZip, dRng1, dRng2, dYes, dCall, dMt, dVar, dDic0, dDic1, Pat.put, Pat.puts, List.getElem?_cons_zero, List.getElem?_cons_succ, List.set_cons_zero, List.set_cons_succ, startD, List.map_cons, List.map_nil, List.cons_append, List.nil_append, List.length_cons, List.length_nil, List.replicate_succ, List.replicate_zero, Nat.reduceSub, Nat.reduceAdd, Nat.zero_add, wipeD, keyD, rListM, seqA]
  intro p hp
  refine ⟨by decide, rLen_seq (fun z e => nomatch e) rfl (rSub_i ?_)⟩
  unfold rMulM
  simp only [seqL, List.length_map]
  refine ⟨by omega, by omega, by rw [List.length_cons, List.length_nil]; omega, fun f hf => ?_⟩
  have hfp : f ≠ p := fun e => by subst e; rw [MS.put_same] at hf; cases hf
  rw [MS.put_ne hfp] at hf
  have ez : (List.replicate ((row.length : Nat) - 1 : Int).toNat [D.int 0]).flatten = (List.replicate (row.length - 1) (0 : Int)).map D.int := by
    rw [flat_replicate1, List.map_replicate, show ((row.length : Nat) - 1 : Int).toNat = row.length - 1 by omega]
  rw [ez]
  simp only [sFor, sSeq, sRet, sRetN, sNext, sIf, sAsg, sPar, sPar3, sSetI, sAug, sAugI, sDrop, sBreak, sCont, dOp, dUn, dCons, dNil, dFn, dC, dTup, dLst, dLstM, dIf, dTest, dTru, dAnd, dOr, dNot, dAndV, dOrV, dNotE, dChain, dSl, dNoPart, dPart, dSeq, dEnum, dZip, dRng1, dRng2, dYes, dCall, dMt, dVar, dDic0, dDic1, Pat.put, Pat.puts, List.getElem?_cons_zero, List.getElem?_cons_succ, List.set_cons_zero, List.set_cons_succ, startD, List.map_cons, List.map_nil, List.cons_append, List.nil_append, List.length_cons, List.length_nil, List.replicate_succ, List.replicate_zero, Nat.reduceSub, Nat.reduceAdd, Nat.zero_add, wipeD, keyD, seqA]
  refine forW_inv (fun ds' ρ M' => ∃ (st : List Int × List Int) (rest : List (Int × Int)) (r4 r5 r6 : Option D), ρ = [some (.tup (row.map D.int)), some (.tup (ws.map wayD)), some (.ref p), some (.ref f), r4, r5, r6] ∧ ds' = rest.map wayD ∧ waysIn rest (row.length : Nat) ∧ rest.foldl (fun st w => (wayL w).foldl goW st) st = carriedL row ws ∧ st.1.length = row.length ∧ st.2.length = row.length - 1 ∧ M'.map p = some (.lst (st.1.map D.int)) ∧ M'.map f = some (.lst (st.2.map D.int)) ∧ Ext M M')
    (fun _ _ _ _ => trivial) (fun ρ M' q => ?_) (fun d ds' ρ M' Nx q nx => ?_) _ _ _ ⟨(row, List.replicate (row.length - 1) 0), ws, none, none, none, rfl, rfl, hws, rfl, rfl, by simp, by rw [MS.put_ne (Ne.symm hfp), MS.put_same], MS.put_same, ((Ext.new hp).put hf)⟩
  · obtain ⟨st, rest, r4, r5, r6, rfl, e, q0, q1, q2, q3, q4, q5, q6⟩ := q
    obtain rfl : rest = [] := by
      cases rest with
      | nil => rfl
      | cons _ _ => cases e
    simp only [sSeq, sRet, sRetN, sNext, sIf, sAsg, sPar, sPar3, sSetI, sAug, sAugI, sDrop, sBreak, sCont, dOp, dUn, dCons, dNil, dFn, dC, dTup, dLst, dLstM, dIf, dTest, dTru, dAnd, dOr, dNot, dAndV, dOrV, dNotE, dChain, dSl, dNoPart, dPart, dSeq, dEnum, dZip, dRng1, dRng2, dYes, dCall, dMt, dVar, dDic0, dDic1, Pat.put, Pat.puts, List.getElem?_cons_zero, List.getElem?_cons_succ, List.set_cons_zero, List.set_cons_succ, startD, List.map_cons, List.map_nil, List.cons_append, List.nil_append, List.length_cons, List.length_nil, List.replicate_succ, List.replicate_zero, Nat.reduceSub, Nat.reduceAdd, Nat.zero_add, wipeD, keyD, rTuple, seqA, q4]
    have q1' : st = carriedL row ws := q1
    refine ⟨by decide, ?_⟩
    rw [q1']
    exact h f M' hf q6 (by rw [q5, q1'])
  · obtain ⟨st, rest, r4, r5, r6, rfl, e, q0, q1, q2, q3, q4, q5, q6⟩ := q
    cases rest with
    | nil => cases e
    | cons w rest =>
      rw [List.map_cons] at e
      injection e with e1 e2
      subst e1 e2
      obtain ⟨w1, w2, w3⟩ := q0 w (List.mem_cons_self ..)
      refine ⟨_, rfl, ?_⟩
      simp only [sFor, sSeq, sRet, sRetN, sNext, sIf, sAsg, sPar, sPar3, sSetI, sAug, sAugI, sDrop, sBreak, sCont, dOp, dUn, dCons, dNil, dFn, dC, dTup, dLst, dLstM, dIf, dTest, dTru, dAnd, dOr, dNot, dAndV, dOrV, dNotE, dChain, dSl, dNoPart, dPart, dSeq, dEnum, dZip, dRng1, dRng2, dYes, dCall, dMt, dVar, dDic0, dDic1, Pat.put, Pat.puts, List.getElem?_cons_zero, List.getElem?_cons_succ, List.set_cons_zero, List.set_cons_succ, startD, List.map_cons, List.map_nil, List.cons_append, List.nil_append, List.length_cons, List.length_nil, List.replicate_succ, List.replicate_zero, Nat.reduceSub, Nat.reduceAdd, Nat.zero_add, wipeD, keyD, wayD, Pat.put, Pat.puts]
      refine ⟨by omega, ?_⟩
      refine forW_inv (fun ds3 ρ M6 => ∃ (st : List Int × List Int) (todo : List Nat) (r6 : Option D), ρ = [some (.tup (row.map D.int)), some (.tup (ws.map wayD)), some (.ref p), some (.ref f), some (.int w.1), some (.int w.2), r6] ∧ ds3 = todo.map (fun s => D.int (s : Nat)) ∧ (∀ s ∈ todo, s + 1 < row.length) ∧ rest.foldl (fun st w => (wayL w).foldl goW st) (todo.foldl goW st) = carriedL row ws ∧ st.1.length = row.length ∧ st.2.length = row.length - 1 ∧ M6.map p = some (.lst (st.1.map D.int)) ∧ M6.map f = some (.lst (st.2.map D.int)) ∧ Ext M M6)
        (fun _ _ _ _ => trivial) (fun ρ M6 q => ?_) (fun d3 ds3 ρ M6 Nx6 q nx6 => ?_) _ _ _ ⟨st, wayL w, r6, rfl, ?_, ?_, q1, q2, q3, q4, q5, q6⟩
      · obtain ⟨st, todo, r6, rfl, e, q0', q1, q2, q3, q4, q5, q6⟩ := q
        obtain rfl : todo = [] := by
          cases todo with
          | nil => rfl
          | cons _ _ => cases e
        exact nx _ _ ⟨st, rest, _, _, _, rfl, rfl, fun x hx => q0 x (List.mem_cons_of_mem _ hx), q1, q2, q3, q4, q5, q6⟩
      · obtain ⟨st, todo, r6, rfl, e, q0', q1, q2, q3, q4, q5, q6⟩ := q
        cases todo with
        | nil => cases e
        | cons s todo =>
          rw [List.map_cons] at e
          injection e with e1 e2
          subst e1 e2
          have hs := q0' s (List.mem_cons_self ..)
          refine ⟨_, rfl, ?_⟩
          simp only [sSeq, sRet, sRetN, sNext, sIf, sAsg, sPar, sPar3, sSetI, sAug, sAugI, sDrop, sBreak, sCont, dOp, dUn, dCons, dNil, dFn, dC, dTup, dLst, dLstM, dIf, dTest, dTru, dAnd, dOr, dNot, dAndV, dOrV, dNotE, dChain, dSl, dNoPart, dPart, dSeq, dEnum, dZip, dRng1, dRng2, dYes, dCall, dMt, dVar, dDic0, dDic1, Pat.put, Pat.puts, List.getElem?_cons_zero, List.getElem?_cons_succ, List.set_cons_zero, List.set_cons_succ, startD, List.map_cons, List.map_nil, List.cons_append, List.nil_append, List.length_cons, List.length_nil, List.replicate_succ, List.replicate_zero, Nat.reduceSub, Nat.reduceAdd, Nat.zero_add, wipeD, keyD]
          refine rIx_seq (seqA_ref q4) (atI_ints (by rw [q2]; omega)) (rCmp_i ?_)
          dsimp only
          by_cases hpos : 0 < st.1.getD s 0
          · rw [if_pos (decide_eq_true hpos)]
            refine rIx_seq (seqA_ref q4) (atI_ints (by rw [q2]; omega)) (rSub_i (rSet_ref q4 (by rw [List.length_map, q2]; exact ixN_nat' (by omega)) ?_))
            rw [set_ints]
            have f1 : (M6.put p (.lst ((st.1.set s (st.1.getD s 0 - 1)).map D.int))).map p = some (.lst ((st.1.set s (st.1.getD s 0 - 1)).map D.int)) := MS.put_same
            have hs1 : ((s : Int) + 1) = ((s + 1 : Nat) : Int) := by omega
            refine rAdd_i ?_
            rw [hs1]
            refine rIx_seq (seqA_ref f1) (atI_ints (by rw [List.length_set, q2]; omega)) (rAdd_i (rAdd_i ?_))
            rw [hs1]
            refine rSet_ref f1 (by rw [List.length_map, List.length_set, q2]; exact ixN_nat' (by omega)) ?_
            rw [set_ints]
            have f2 : ((M6.put p (.lst ((st.1.set s (st.1.getD s 0 - 1)).map D.int))).put p (.lst (((st.1.set s (st.1.getD s 0 - 1)).set (s + 1) ((st.1.set s (st.1.getD s 0 - 1)).getD (s + 1) 0 + 1)).map D.int))).map f = some (.lst (st.2.map D.int)) := by rw [MS.put_ne hfp, MS.put_ne hfp]; exact q5
            refine rIx_seq (seqA_ref f2) (atI_ints (by rw [q3]; omega)) (rAdd_i (rSet_ref f2 (by rw [List.length_map, q3]; exact ixN_nat' (by omega)) ?_))
            rw [set_ints]
            have e2 : (st.1.set s (st.1.getD s 0 - 1)).getD (s + 1) 0 = st.1.getD (s + 1) 0 := by
              simp only [List.getD_eq_getElem?_getD, List.getElem?_set]
              rw [if_neg (by omega)]
            rw [e2]
            refine nx6 _ _ ⟨goW st s, todo, _, rfl, rfl, fun x hx => q0' x (List.mem_cons_of_mem _ hx), q1, by rw [(goW_len st s).1, q2], by rw [(goW_len st s).2, q3], ?_, ?_, ((q6.put hp).put hp).put hf⟩
            · rw [MS.put_ne (Ne.symm hfp), MS.put_same]
              unfold goW
              rw [if_pos hpos]
              rfl
            · rw [MS.put_same]
              unfold goW
              rw [if_pos hpos]
          · rw [if_neg (by simpa using hpos)]
            have eg : goW st s = st := if_neg hpos
            exact nx6 _ _ ⟨st, todo, _, rfl, rfl, fun x hx => q0' x (List.mem_cons_of_mem _ hx), by rw [List.foldl_cons, eg] at q1; exact q1, q2, q3, q4, q5, q6⟩
      · unfold rangeD wayL
        rw [List.map_map]
        refine List.map_congr_left fun i _ => ?_
        simp only [Function.comp]
        congr 1
        omega
      · intro s hs
        obtain ⟨i, hi, rfl⟩ := List.mem_map.mp hs
        have := List.mem_range.mp hi
        omega
end DL

namespace DL
open PySem PySem.Spec PyProof.Rows L2

theorem le_sum : ∀ (ns : List Int), (∀ x ∈ ns, 0 ≤ x) → 0 ≤ ns.sum ∧ ∀ x ∈ ns, x ≤ ns.sum
  | [], _ => ⟨by simp, fun x h => absurd h List.not_mem_nil⟩
  | y :: ns, h => by
    obtain ⟨i1, i2⟩ := le_sum ns fun x hx => h x (List.mem_cons_of_mem _ hx)
    have hy := h y (List.mem_cons_self ..)
    rw [List.sum_cons]
    refine ⟨by omega, fun x hx => ?_⟩
    rcases List.mem_cons.mp hx with rfl | hx
    · omega
    · have := i2 x hx; omega
theorem nn_mem {ns : List Int} : nonneg ns ↔ ∀ x ∈ ns, 0 ≤ x := by
  constructor
  · intro h x hx
    obtain ⟨i, hi, e⟩ := List.mem_iff_getElem.mp hx
    have := h i
    rw [List.getD_eq_getElem?_getD, List.getElem?_eq_getElem hi] at this
    simp only [Option.getD_some] at this
    rw [← e]; exact this
  · intro h i
    rw [List.getD_eq_getElem?_getD]
    by_cases hi : i < ns.length
    · rw [List.getElem?_eq_getElem hi]; exact h _ (List.getElem_mem hi)
    · rw [List.getElem?_eq_none (by omega)]; exact Int.le_refl _
theorem goWs_nn {n : Nat} {S : Int} : ∀ (l : List Nat) (st : List Int × List Int), (∀ s ∈ l, s + 1 < n) → st.1.length = n → nonneg st.1 → st.1.sum = S → nonneg (l.foldl goW st).1 ∧ (l.foldl goW st).1.sum = S
  | [], st, _, _, h1, h2 => ⟨h1, h2⟩
  | s :: l, st, hl, hn, h1, h2 => by
    have hs := hl s (List.mem_cons_self ..)
    rw [List.foldl_cons]
    refine goWs_nn l _ (fun x hx => hl x (List.mem_cons_of_mem _ hx)) ((goW_len st s).1.trans hn) ?_ ?_
    · unfold goW
      split
      · rename_i hp; exact step_nn h1 hp (by omega)
      · exact h1
    · unfold goW
      split
      · rename_i hp; exact (step_sum (by omega)).trans h2
      · exact h2
theorem carr_nn {n : Nat} {S : Int} : ∀ (ws : List (Int × Int)) (st : List Int × List Int), waysIn ws (n : Nat) → st.1.length = n → nonneg st.1 → st.1.sum = S → nonneg (ws.foldl (fun st w => (wayL w).foldl goW st) st).1 ∧ (ws.foldl (fun st w => (wayL w).foldl goW st) st).1.sum = S
  | [], st, _, _, h1, h2 => ⟨h1, h2⟩
  | w :: ws, st, hw, hn, h1, h2 => by
    rw [List.foldl_cons]
    obtain ⟨w1, w2, w3⟩ := hw w (List.mem_cons_self ..)
    obtain ⟨g1, g2⟩ := goWs_nn (n := n) (wayL w) st (fun s hs => by
      obtain ⟨i, hi, rfl⟩ := List.mem_map.mp hs
      have := List.mem_range.mp hi
      omega) hn h1 h2
    exact carr_nn ws _ (fun x hx => hw x (List.mem_cons_of_mem _ hx)) ((goWs_len _ _).1.trans hn) g1 g2
theorem sum_le : ∀ (ns : List Int) (h : Int), intsIn ns h → ns.sum ≤ h * ns.length
  | [], h, _ => by simp
  | x :: ns, h, q => by
    have := sum_le ns h fun y hy => q y (List.mem_cons_of_mem _ hy)
    have hx := (q x (List.mem_cons_self ..)).2
    rw [List.sum_cons, List.length_cons]
    have e : h * ((ns.length + 1 : Nat) : Int) = h * ns.length + h := by rw [Int.natCast_succ, Int.mul_add, Int.mul_one]
    omega
theorem carried_ends {row : List Int} {ws : List (Int × Int)} {h : Int} (hw : waysIn ws (row.length : Nat)) (hr : intsIn row h) : (carriedL row ws).1.length = row.length ∧ ∀ x ∈ (carriedL row ws).1, 0 ≤ x ∧ x ≤ h * row.length := by
  obtain ⟨g1, g2⟩ := carr_nn (n := row.length) (S := row.sum) ws (row, List.replicate (row.length - 1) 0) hw rfl (nn_mem.mpr fun x hx => (hr x hx).1) rfl
  refine ⟨(carr_len ws _).1, fun x hx => ?_⟩
  have m := nn_mem.mp g1
  have h1 := (le_sum _ m).2 x hx
  have h2 := sum_le row h hr
  have h3 : (carriedL row ws).1.sum = row.sum := g2
  exact ⟨m x hx, by omega⟩
def sp_law_wants : DSp := fun ds M Φ _ => ∃ (a c : Addr) (k : Nat) (row : List Int) (ws : List (Int × Int)), ds = [.ref a, .tup (row.map D.int), .tup (ws.map wayD)] ∧ 2 ≤ row.length ∧ row.length ≤ 10 ∧ intsIn row 50 ∧ waysIn ws (row.length : Nat) ∧ Dk M a c (k + 3 * row.length + 4) ∧
  ∀ (us : List Int) M', Dk M' a c k → Kp a c M M' → us.length = row.length → intsIn us 1000 → Φ (.tup (us.map D.int)) M'
def t_law_wants : DS := (sSeq (sPar 3 4 (dCons (dOp rIx (dCall 2 sp_law_carried (dCons (dVar 1) (dCons (dVar 2) dNil))) (dC (.int 1))) (dCons (dCall 2 sp_law_draw_v2 (dCons (dVar 0) (dCons (dC (.int 5)) dNil))) dNil))) (sSeq (sAsg (dLstM dNil) (.nm 5)) (sSeq (sFor (dEnum 0 (dVar 3)) (.tp [(.nm 6), (.nm 7)]) (sSeq (sAsg (dLst (dCons (dVar 7) (dCons (dOp rMul (dVar 7) (dFn rInt (dCons (dOp rEq (dVar 6) (dOp rSub (dFn rLen (dCons (dVar 1) dNil)) (dC (.int 1)))) dNil))) (dCons (dOp rMul (dVar 7) (dCall 2 sp_law_draw_v2 (dCons (dVar 0) (dCons (dC (.int 2)) dNil)))) (dCons (dCall 2 sp_law_draw_v2 (dCons (dVar 0) (dCons (dOp rAdd (dVar 7) (dC (.int 2))) dNil))) dNil))))) (.nm 8)) (sSeq (sDrop (dMt rApp (dVar 5) (dCons (dOp rIx (dOp rAdd (dVar 8) (dLst (dCons (dCall 2 sp_law_draw_v2 (dCons (dVar 0) (dCons (dC (.int 4)) dNil))) dNil))) (dVar 4)) dNil))) sNext))) (sSeq (sAsg (dCall 2 sp_law_draw_v2 (dCons (dVar 0) (dCons (dFn rLen (dCons (dVar 1) dNil)) dNil))) (.nm 9)) (sSeq (sSetI (dFn rMin (dCons (dC (.int 500)) (dCons (dOp rAdd (dOp rIx (dVar 5) (dVar 9)) (dOp rMul (dCall 2 sp_law_draw_v2 (dCons (dVar 0) (dCons (dC (.int 3)) dNil))) (dFn rInt (dCons (dOp rEq (dCall 2 sp_law_draw_v2 (dCons (dVar 0) (dCons (dC (.int 3)) dNil))) (dC (.int 0))) dNil)))) dNil))) (dVar 5) (dVar 9)) (sSeq (sRet (dFn rTuple (dCons (dVar 5) dNil))) sNext))))))
theorem p_law_wants (ds : List D) (M : MS) (Φ : DQ) (h : sp_law_wants ds M Φ noX) : t_law_wants { nx := fun _ M' => Φ .non M', rt := Φ } (startD 10 ds) M := by
  obtain ⟨a, c, k, row, ws, rfl, hl1, hl2, hr, hw, hD, h⟩ := h
  simp only [t_law_wants, sSeq, sRet, sRetN, sNext, sIf, sAsg, sPar, sPar3, sSetI, sAug, sAugI, sDrop, sBreak, sCont, dOp, dUn, dCons, dNil, dFn, dC, dTup, dLst, dLstM, dIf, dTest, dTru, dAnd, dOr, dNot, dAndV, dOrV, dNotE, dChain, dSl, dNoPart, dPart, dSeq, dEnum, dZip, dRng1, dRng2, dYes, dCall, dMt, dVar, dDic0, dDic1, Pat.put, Pat.puts, List.getElem?_cons_zero, List.getElem?_cons_succ, List.set_cons_zero, List.set_cons_succ, startD, List.map_cons, List.map_nil, List.cons_append, List.nil_append, List.length_cons, List.length_nil, List.replicate_succ, List.replicate_zero, Nat.reduceSub, Nat.reduceAdd, Nat.zero_add, wipeD, keyD]
  refine ⟨trivial, row, ws, rfl, hw, by omega, by omega, fun p0 M1 hp0 x1 _ => ?_⟩
  obtain ⟨hel, heb⟩ := carried_ends hw hr
  have heb' : ∀ x ∈ (carriedL row ws).1, 0 ≤ x ∧ x ≤ 500 := fun x hx => ⟨(heb x hx).1, by have := (heb x hx).2; omega⟩
  generalize (carriedL row ws).1 = ends at hel heb' ⊢
  have hD1 := x1.dk hD
  refine rIx_seq (x := .lst _) rfl (d := .tup (ends.map D.int)) (by rw [at1]; rfl) ?_
  refine use_draw (k := k + 3 * row.length + 3) hD1 (by decide) (by decide) fun way M2 hD2 hK2 u0 u1 => ⟨by decide, fun p hp => ?_⟩
  have pa := hD2.a_ne hp
  have pc := hD2.c_ne hp
  have K2 : Kp a c M M2 := x1.kp.trans hK2
  simp only [sFor, sSeq, sRet, sRetN, sNext, sIf, sAsg, sPar, sPar3, sSetI, sAug, sAugI, sDrop, sBreak, sCont, dOp, dUn, dCons, dNil, dFn, dC, dTup, dLst, dLstM, dIf, dTest, dTru, dAnd, dOr, dNot, dAndV, dOrV, dNotE, dChain, dSl, dNoPart, dPart, dSeq, dEnum, dZip, dRng1, dRng2, dYes, dCall, dMt, dVar, dDic0, dDic1, Pat.put, Pat.puts, List.getElem?_cons_zero, List.getElem?_cons_succ, List.set_cons_zero, List.set_cons_succ, startD, List.map_cons, List.map_nil, List.cons_append, List.nil_append, List.length_cons, List.length_nil, List.replicate_succ, List.replicate_zero, Nat.reduceSub, Nat.reduceAdd, Nat.zero_add, wipeD, keyD, seqA]
  refine forW_inv (fun ds' ρ M' => ∃ (us : List Int) (j : Nat) (rest : List Int) (r6 r7 r8 r9 : Option D), ρ = [some (.ref a), some (.tup (row.map D.int)), some (.tup (ws.map wayD)), some (.tup (ends.map D.int)), some (.int way), some (.ref p), r6, r7, r8, r9] ∧ ds' = enumD (j : Nat) (rest.map D.int) ∧ us.length + rest.length = row.length ∧ (∀ x ∈ rest, 0 ≤ x ∧ x ≤ 500) ∧ M'.map p = some (.lst (us.map D.int)) ∧ Dk M' a c (k + 3 * rest.length + 3) ∧ Kp a c M2 M' ∧ intsIn us 900)
    (fun _ _ _ _ => trivial) (fun ρ M' q => ?_) (fun d ds' ρ M' Nx q nx => ?_) _ _ _ ⟨[], 0, ends, none, none, none, none, rfl, rfl, by simpa using hel, heb', MS.put_same, (hD2.put pa pc).mono (by rw [hel]; omega), Kp.new hp, fun _ z => absurd z List.not_mem_nil⟩
  · obtain ⟨us, j, rest, r6, r7, r8, r9, rfl, e, q0, q1, q2, q3, q4, q5⟩ := q
    obtain rfl : rest = [] := by
      cases rest with
      | nil => rfl
      | cons _ _ => cases e
    have q0' : us.length = row.length := by simpa using q0
    simp only [sSeq, sRet, sRetN, sNext, sIf, sAsg, sPar, sPar3, sSetI, sAug, sAugI, sDrop, sBreak, sCont, dOp, dUn, dCons, dNil, dFn, dC, dTup, dLst, dLstM, dIf, dTest, dTru, dAnd, dOr, dNot, dAndV, dOrV, dNotE, dChain, dSl, dNoPart, dPart, dSeq, dEnum, dZip, dRng1, dRng2, dYes, dCall, dMt, dVar, dDic0, dDic1, Pat.put, Pat.puts, List.getElem?_cons_zero, List.getElem?_cons_succ, List.set_cons_zero, List.set_cons_succ, startD, List.map_cons, List.map_nil, List.cons_append, List.nil_append, List.length_cons, List.length_nil, List.replicate_succ, List.replicate_zero, Nat.reduceSub, Nat.reduceAdd, Nat.zero_add, wipeD, keyD]
    refine rLen_seq (fun z e => nomatch e) rfl ?_
    rw [List.length_map]
    refine use_draw (k := k + 2) (q3.mono (by simp)) (by omega) (by omega) fun s M3 hD3 hK3 v0 v1 => ?_
    have e3 := hK3.keep pa pc q2
    obtain ⟨sn, rfl⟩ : ∃ n : Nat, s = (n : Nat) := ⟨s.toNat, by omega⟩
    refine rIx_seq (seqA_ref e3) (atI_ints (by omega)) ?_
    refine use_draw (k := k + 1) hD3 (by decide) (by decide) fun x M4 hD4 hK4 w0 w1 => ?_
    refine use_draw (k := k) hD4 (by decide) (by decide) fun y M5 hD5 hK5 x0 x1' => rEq_i ?_
    simp only [rInt]
    refine rMul_i (.inl (by omega)) (rAdd_i (rMin2 ?_))
    have e5 := (hK4.trans hK5).keep pa pc e3
    refine rSet_ref e5 (by rw [List.length_map]; exact ixN_nat' (by omega)) ?_
    rw [set_ints]
    simp only [rTuple, seqA, MS.put_same]
    refine h _ _ (hD5.put pa pc) (K2.trans ((((q4.trans hK3).trans hK4).trans hK5).put hp)) (by rw [List.length_set]; exact q0') fun z hz => ?_
    rcases List.mem_or_eq_of_mem_set hz with z' | z'
    · have := q5 z z'; omega
    · have hb : 0 ≤ us.getD sn 0 ∧ us.getD sn 0 ≤ 900 := by
        rw [List.getD_eq_getElem?_getD, List.getElem?_eq_getElem (show sn < us.length by omega)]
        exact q5 _ (List.getElem_mem _)
      rw [z']
      have hy : 0 ≤ x * b2 (y == 0) := by cases (y == 0) <;> simp [b2] <;> omega
      omega
  · obtain ⟨us, j, rest, r6, r7, r8, r9, rfl, e, q0, q1, q2, q3, q4, q5⟩ := q
    cases rest with
    | nil => cases e
    | cons n rest =>
      rw [List.map_cons, enumD] at e
      injection e with e1 e2
      subst e1 e2
      obtain ⟨n0, n1⟩ := q1 n (List.mem_cons_self ..)
      rw [List.length_cons] at q0 q3
      refine ⟨_, rfl, ?_⟩
      simp only [sSeq, sRet, sRetN, sNext, sIf, sAsg, sPar, sPar3, sSetI, sAug, sAugI, sDrop, sBreak, sCont, dOp, dUn, dCons, dNil, dFn, dC, dTup, dLst, dLstM, dIf, dTest, dTru, dAnd, dOr, dNot, dAndV, dOrV, dNotE, dChain, dSl, dNoPart, dPart, dSeq, dEnum, dZip, dRng1, dRng2, dYes, dCall, dMt, dVar, dDic0, dDic1, Pat.put, Pat.puts, List.getElem?_cons_zero, List.getElem?_cons_succ, List.set_cons_zero, List.set_cons_succ, startD, List.map_cons, List.map_nil, List.cons_append, List.nil_append, List.length_cons, List.length_nil, List.replicate_succ, List.replicate_zero, Nat.reduceSub, Nat.reduceAdd, Nat.zero_add, wipeD, keyD]
      refine rLen_seq (fun z e => nomatch e) rfl (rSub_i (rEq_i ?_))
      simp only [rInt]
      refine rMul_i (.inl (by omega)) ?_
      refine use_draw (k := k + 3 * rest.length + 5) (q3.mono (by omega)) (by decide) (by decide) fun x M3 hD3 hK3 v0 v1 => rMul_i (.inl (by omega)) (rAdd_i ?_)
      refine use_draw (k := k + 3 * rest.length + 4) hD3 (by omega) (by omega) fun y M4 hD4 hK4 w0 w1 => ⟨by decide, ?_⟩
      have e4 := (hK3.trans hK4).keep pa pc q2
      refine ⟨isL_ref e4, ?_⟩
      refine use_draw (k := k + 3 * rest.length + 3) hD4 (by decide) (by decide) fun z M5 hD5 hK5 x0 x1' => ⟨by decide, rAdd_l (by simp) ?_⟩
      have e5 := hK5.keep pa pc e4
      refine rIx_any u0 (by simp; omega) fun d hd => ?_
      obtain ⟨v, rfl, hv0, hv1⟩ : ∃ v : Int, d = .int v ∧ 0 ≤ v ∧ v ≤ 900 := by
        simp only [List.cons_append, List.nil_append, List.mem_cons, List.not_mem_nil, or_false] at hd
        rcases hd with rfl | rfl | rfl | rfl | rfl
        · exact ⟨n, rfl, n0, by omega⟩
        · have hb : ∀ bb : Bool, 0 ≤ n * b2 bb ∧ n * b2 bb ≤ 900 := fun bb => by cases bb <;> simp [b2] <;> omega
          exact ⟨_, rfl, (hb _).1, (hb _).2⟩
        · have hx : x = 0 ∨ x = 1 := by omega
          rcases hx with rfl | rfl <;> exact ⟨_, rfl, by omega, by omega⟩
        · exact ⟨y, rfl, w0, by omega⟩
        · exact ⟨z, rfl, x0, by omega⟩
      refine rApp_ref e5 (by rw [List.length_map]; omega) (nx _ _ ⟨us ++ [v], j + 1, rest, _, _, _, _, rfl, by congr 1, by simp; omega, fun x hx => q1 x (List.mem_cons_of_mem _ hx), by rw [MS.put_same]; simp, hD5.put pa pc, (((q4.trans hK3).trans hK4).trans hK5).put hp, fun x hx => ?_⟩)
      rcases List.mem_append.mp hx with z' | z'
      · exact q5 x z'
      · rw [List.mem_singleton.mp z']; exact ⟨hv0, hv1⟩
end DL

namespace DL
open PySem PySem.Spec PyProof.Rows L2

theorem needs_eq : ∀ l : List Int, needs l = (List.range l.length).map fun b => nd (l.drop b)
  | [] => rfl
  | d :: l => by
    rw [needs, needs_eq l, List.length_cons, List.range_succ_eq_map, List.map_cons, List.map_map]
    rfl
theorem nd_bound : ∀ (l : List Int) (B : Int), 0 ≤ B → (∀ x ∈ l, x ≤ B) → 0 ≤ nd l ∧ nd l ≤ B * l.length
  | [], B, hB, _ => by simp [nd]
  | d :: l, B, hB, h => by
    obtain ⟨h1, h2⟩ := nd_bound l B hB fun x hx => h x (List.mem_cons_of_mem _ hx)
    have hd := h d (List.mem_cons_self ..)
    rw [nd, List.length_cons]
    have e : B * ((l.length + 1 : Nat) : Int) = B * l.length + B := by rw [Int.natCast_succ, Int.mul_add, Int.mul_one]
    omega
theorem needs_len : ∀ l : List Int, (needs l).length = l.length
  | [] => rfl
  | d :: l => by simp [needs, needs_len l]
theorem difs_len {rs ws : List Int} (h : rs.length = ws.length) : (difs rs ws).length = rs.length := by simp [difs, h]
theorem difs_le {rs ws : List Int} {h : Int} (hr : ∀ x ∈ rs, 0 ≤ x) (hw : intsIn ws h) : ∀ x ∈ difs rs ws, x ≤ h := fun x hx => by
  obtain ⟨p, hp, rfl⟩ := List.mem_map.mp hx
  have h1 := hr p.1 (List.of_mem_zip hp).1
  have h2 := (hw p.2 (List.of_mem_zip hp).2).2
  omega
theorem fine2' {x y : D} {n w : Nat} (hx : fineB x n w = true) (hy : fineB y n w = true) (dx : hasDic x = false) (dy : hasDic y = false) : fineB (.lst [x, y]) (n + 1) (2 * w + 7) = true := by
  have hx' := hx; have hy' := hy
  unfold fineB at hx' hy'
  simp only [Bool.and_eq_true, decide_eq_true_eq] at hx' hy'
  refine fineB_mono (FL.lst (xs := [x, y]) (n := n) (w := 2 * w + 4) ⟨?_, ?_, ?_, ?_, ?_⟩ (by simp [hasDics, dx, dy])) (Nat.le_refl _) (by omega)
  · simp [stills, hx'.1.1.1.1, hy'.1.1.1.1]
  · simp only [deps]; omega
  · simp [okls, hx'.1.1.2, hy'.1.1.2]
  · simp only [wts]; omega
  · simp [hasDics, dx, dy]
def sp_law_k09 : DSp := fun ds M Φ _ => ∃ ns : List Int, ds = [.scr ns] ∧ ∀ M', Φ (.bl true) M'
def t_law_k09 : DS := (sSeq (sAsg (dCall 1 sp_law_deck_v2 (dCons (dVar 0) dNil)) (.nm 1)) (sSeq (sFor (dRng1 (dC (.int 20))) (.nm 2) (sSeq (sAsg (dCall 3 sp_law_row_v2 (dCons (dVar 1) (dCons (dC (.int 10)) (dCons (dC (.int 50)) dNil)))) (.nm 3)) (sSeq (sAsg (dCall 3 sp_law_wants (dCons (dVar 1) (dCons (dVar 3) (dCons (dCall 3 sp_law_walkers_v2 (dCons (dVar 1) (dCons (dFn rLen (dCons (dVar 3) dNil)) (dCons (dC (.int 40)) dNil)))) dNil)))) (.nm 4)) (sSeq (sIf (dTest (dOp rEq (dOp rMod (dVar 2) (dC (.int 3))) (dC (.int 0)))) (sSeq (sAsg (dFn rTuple (dCons (dLc (dSeq (dVar 3)) (.nm 9) [9] dYes (dCall 2 sp_law_draw_v2 (dCons (dVar 1) (dCons (dOp rIx (dLst (dCons (dC (.int 4)) (dCons (dC (.int 60)) (dCons (dC (.int 501)) dNil)))) (dOp rDiv (dOp rMod (dVar 2) (dC (.int 9))) (dC (.int 3)))) dNil)))) dNil)) (.nm 4)) sNext) sNext) (sSeq (sPar 5 6 (dCons (dFn rRepr (dCons (dLst (dCons (dVar 3) (dCons (dVar 4) dNil))) dNil)) (dCons (dFn rTuple (dCons (dLc (dRng1 (dFn rLen (dCons (dVar 3) dNil))) (.nm 10) [10] dYes (dCall 3 sp_law_need (dCons (dVar 3) (dCons (dVar 4) (dCons (dVar 10) dNil))))) dNil)) dNil))) (sSeq (sAsg (dLc (dRng1 (dC (.int 2))) (.nm 8) [8] dYes (dCall 2 sp_needs_of (dCons (dVar 3) (dCons (dVar 4) dNil)))) (.nm 7)) (sSeq (sIf (dOr (dTest (dOp rNe (dFn rRepr (dCons (dVar 7) dNil)) (dFn rRepr (dCons (dLst (dCons (dVar 6) (dCons (dVar 6) dNil))) dNil)))) (dTest (dOp rNe (dFn rRepr (dCons (dLst (dCons (dVar 3) (dCons (dVar 4) dNil))) dNil)) (dVar 5)))) (sSeq (sRet (dC (.bl false))) sNext) sNext) sNext))))))) (sSeq (sRet (dOp rEq (dCall 2 sp_needs_of (dCons (dOp rMul (dTup (dCons (dC (.int 0)) dNil)) (dC (.int 10))) (dCons (dOp rMul (dTup (dCons (dC (.int 500)) dNil)) (dC (.int 10))) dNil))) (dTup (dCons (dC (.int 5000)) (dCons (dC (.int 4500)) (dCons (dC (.int 4000)) (dCons (dC (.int 3500)) (dCons (dC (.int 3000)) (dCons (dC (.int 2500)) (dCons (dC (.int 2000)) (dCons (dC (.int 1500)) (dCons (dC (.int 1000)) (dCons (dC (.int 500)) dNil))))))))))))) sNext)))
theorem p_law_k09 (ds : List D) (M : MS) (Φ : DQ) (h : sp_law_k09 ds M Φ noX) : t_law_k09 { nx := fun _ M' => Φ .non M', rt := Φ } (startD 11 ds) M := by
  obtain ⟨ns, rfl, h⟩ := h
  simp only [t_law_k09, sSeq, sRet, sRetN, sNext, sIf, sAsg, sPar, sPar3, sSetI, sAug, sAugI, sDrop, sBreak, sCont, dOp, dUn, dCons, dNil, dFn, dC, dTup, dLst, dLstM, dIf, dTest, dTru, dAnd, dOr, dNot, dAndV, dOrV, dNotE, dChain, dSl, dNoPart, dPart, dSeq, dEnum, dZip, dRng1, dRng2, dYes, dCall, dMt, dVar, dDic0, dDic1, Pat.put, Pat.puts, List.getElem?_cons_zero, List.getElem?_cons_succ, List.set_cons_zero, List.set_cons_succ, startD, List.map_cons, List.map_nil, List.cons_append, List.nil_append, List.length_cons, List.length_nil, List.replicate_succ, List.replicate_zero, Nat.reduceSub, Nat.reduceAdd, Nat.zero_add, wipeD, keyD]
  refine ⟨trivial, ns, rfl, fun a c M0 _ _ hD0 _ => ?_⟩
  simp only [sFor, dRng1, dC]
  refine ⟨by decide, by decide, ?_⟩
  refine forW_inv (fun ds ρ M => (∃ r2 r3 r4 r5 r6 r7 r8 r9 r10, ρ = [some (.scr ns), some (.ref a), r2, r3, r4, r5, r6, r7, r8, r9, r10]) ∧ Dk M a c (200 * ds.length) ∧ ∀ d ∈ ds, ∃ i : Int, d = .int i ∧ 0 ≤ i) (fun _ _ _ _ => trivial) (fun ρ M' q => ?_) (fun d ds ρ M' Nx q nx => ?_) _ _ _
    ⟨⟨_, _, _, _, _, _, _, _, _, rfl⟩, hD0.mono (by rw [rangeD_length]; decide), fun d hd => by obtain ⟨i, e, h1, h2⟩ := rangeD_mem hd; exact ⟨i, e, h1⟩⟩
  · obtain ⟨⟨r2, r3, r4, r5, r6, r7, r8, r9, r10, rfl⟩, hD, _⟩ := q
    simp only [sSeq, sRet, sRetN, sNext, sIf, sAsg, sPar, sPar3, sSetI, sAug, sAugI, sDrop, sBreak, sCont, dOp, dUn, dCons, dNil, dFn, dC, dTup, dLst, dLstM, dIf, dTest, dTru, dAnd, dOr, dNot, dAndV, dOrV, dNotE, dChain, dSl, dNoPart, dPart, dSeq, dEnum, dZip, dRng1, dRng2, dYes, dCall, dMt, dVar, dDic0, dDic1, Pat.put, Pat.puts, List.getElem?_cons_zero, List.getElem?_cons_succ, List.set_cons_zero, List.set_cons_succ, startD, List.map_cons, List.map_nil, List.cons_append, List.nil_append, List.length_cons, List.length_nil, List.replicate_succ, List.replicate_zero, Nat.reduceSub, Nat.reduceAdd, Nat.zero_add, wipeD, keyD, rMul]
    refine ⟨by decide, by decide, by decide, by decide, by decide, by decide, by decide, by decide, trivial, List.replicate 10 0, List.replicate 10 500, rfl, rfl, by decide, fun M'' _ => ⟨by decide, rEq_still (by decide +kernel) (by decide +kernel) (by decide +kernel) (by decide +kernel) ?_⟩⟩
    have e : eqd (.tup ((needs (difs (List.replicate 10 0) (List.replicate 10 500))).map D.int)) (.tup [.int 5000, .int 4500, .int 4000, .int 3500, .int 3000, .int 2500, .int 2000, .int 1500, .int 1000, .int 500]) = true := by decide +kernel
    rw [e]
    exact h M''
  obtain ⟨⟨r2, r3, r4, r5, r6, r7, r8, r9, r10, rfl⟩, hD, hds⟩ := q
  obtain ⟨i, rfl, hi0⟩ := hds d (List.mem_cons_self ..)
  refine ⟨_, rfl, ?_⟩
  simp only [sSeq, sRet, sRetN, sNext, sIf, sAsg, sPar, sPar3, sSetI, sAug, sAugI, sDrop, sBreak, sCont, dOp, dUn, dCons, dNil, dFn, dC, dTup, dLst, dLstM, dIf, dTest, dTru, dAnd, dOr, dNot, dAndV, dOrV, dNotE, dChain, dSl, dNoPart, dPart, dSeq, dEnum, dZip, dRng1, dRng2, dYes, dCall, dMt, dVar, dDic0, dDic1, Pat.put, Pat.puts, List.getElem?_cons_zero, List.getElem?_cons_succ, List.set_cons_zero, List.set_cons_succ, startD, List.map_cons, List.map_nil, List.cons_append, List.nil_append, List.length_cons, List.length_nil, List.replicate_succ, List.replicate_zero, Nat.reduceSub, Nat.reduceAdd, Nat.zero_add, wipeD, keyD]
  have hD' : Dk M' a c (200 * ds.length + 170 + 2 * (10 : Int).toNat + 2) := hD.mono (by rw [List.length_cons]; show 200 * ds.length + 170 + 20 + 2 ≤ _; omega)
  refine ⟨trivial, a, c, _, 10, 50, rfl, by decide, by decide, by decide, by decide, hD', fun row M1 hD1 hK1 l1 l2 hrow => ?_⟩
  have hrow' : intsIn row 50 := hrow
  refine rLen_seq (fun z e => nomatch e) rfl ?_
  rw [List.length_map]
  have hD1' : Dk M1 a c (200 * ds.length + 80 + 2 * (40 : Int).toNat + 2) := hD1.mono (by show 200 * ds.length + 80 + 80 + 2 ≤ _; omega)
  refine ⟨trivial, a, c, _, row.length, 40, rfl, by omega, by omega, by decide, by decide, hD1', fun ws M2 hD2 hK2 hwl hws => ⟨trivial, a, c, 200 * ds.length + 20, row, ws, rfl, l1, by omega, hrow', hws, hD2.mono (by omega), fun us M3 hD3 hK3 hul hus => ?_⟩⟩
  -- the rest, for any wants
  have rest : ∀ (us : List Int) (M4 : MS), Dk M4 a c (200 * ds.length) → us.length = row.length → intsIn us 1000 →
      (2 ≤ 100000 ∧
      rRepr [D.lst [D.tup (List.map D.int row), D.tup (List.map D.int us)]] M4 fun x M1 =>
        dLc (dRng1 (dFn rLen (dCons (dVar 3) dNil))) (Pat.nm 10) [10] dYes (dCall 3 sp_law_need (dCons (dVar 3) (dCons (dVar 4) (dCons (dVar 10) dNil))))
          [some (D.scr ns), some (D.ref a), some (D.int i), some (D.tup (List.map D.int row)), some (D.tup (List.map D.int us)), r5, r6, r7, r8, r9, r10] M1 fun x_1 M1 =>
          rTuple [x_1] M1 fun x_2 M1 =>
            dLc (dRng1 (dC (D.int 2))) (Pat.nm 8) [8] dYes (dCall 2 sp_needs_of (dCons (dVar 3) (dCons (dVar 4) dNil)))
              [some (D.scr ns), some (D.ref a), some (D.int i), some (D.tup (List.map D.int row)), some (D.tup (List.map D.int us)), some x, some x_2, r7, r8, r9, r10] M1 fun x_3 M1 =>
              rRepr [x_3] M1 fun x_4 M1 =>
                2 ≤ 100000 ∧
                  rRepr [D.lst [x_2, x_2]] M1 fun y M2 =>
                    rNe x_4 y M2 fun x_5 M1 =>
                      match x_5 with
                      | D.bl b =>
                        if b = true then
                          if True then Φ (D.bl false) M1
                          else Nx [some (D.scr ns), some (D.ref a), some (D.int i), some (D.tup (List.map D.int row)), some (D.tup (List.map D.int us)), some x, some x_2, some x_3, r8, r9, r10] M1
                        else
                          2 ≤ 100000 ∧
                            rRepr [D.lst [D.tup (List.map D.int row), D.tup (List.map D.int us)]] M1 fun x_6 M1 =>
                              rNe x_6 x M1 fun x_7 M1 =>
                                match x_7 with
                                | D.bl b =>
                                  if b = true then Φ (D.bl false) M1
                                  else Nx [some (D.scr ns), some (D.ref a), some (D.int i), some (D.tup (List.map D.int row)), some (D.tup (List.map D.int us)), some x, some x_2, some x_3, r8, r9, r10] M1
                                | x => False
                      | x => False) := by
    intro us M4 hD4 hul hus
    obtain ⟨fr, dr⟩ := row_fine hrow' (by decide) (by omega)
    obtain ⟨fu, du⟩ := row_fine hus (by decide) (by omega)
    have F2 := fine_of (fine2' fr fu dr du) (by decide)
    have hdl : (difs row us).length = row.length := difs_len hul.symm
    obtain ⟨fn, dn⟩ : fineB (.tup ((needs (difs row us)).map D.int)) 1 200000 = true ∧ hasDic (.tup ((needs (difs row us)).map D.int)) = false := ints_fine (fun x hx => by
      rw [needs_eq] at hx
      obtain ⟨b, hb, rfl⟩ := List.mem_map.mp hx
      have hb' := List.mem_range.mp hb
      obtain ⟨b1, b2⟩ := nd_bound ((difs row us).drop b) 1000 (by decide) fun y hy => difs_le (fun z hz => (hrow' z hz).1) hus y (List.mem_of_mem_drop hy)
      have : ((difs row us).drop b).length ≤ 10 := by rw [List.length_drop, hdl]; omega
      omega) (by rw [needs_len, hdl]; omega)
    have F3 := fine_of (fine2' fn fn dn dn) (by decide)
    refine ⟨by decide, repr_fine F2 (by decide) ?_⟩
    simp only [dLc, sSeq, sRet, sRetN, sNext, sIf, sAsg, sPar, sPar3, sSetI, sAug, sAugI, sDrop, sBreak, sCont, dOp, dUn, dCons, dNil, dFn, dC, dTup, dLst, dLstM, dIf, dTest, dTru, dAnd, dOr, dNot, dAndV, dOrV, dNotE, dChain, dSl, dNoPart, dPart, dSeq, dEnum, dZip, dRng1, dRng2, dYes, dCall, dMt, dVar, dDic0, dDic1, Pat.put, Pat.puts, List.getElem?_cons_zero, List.getElem?_cons_succ, List.set_cons_zero, List.set_cons_succ, startD, List.map_cons, List.map_nil, List.cons_append, List.nil_append, List.length_cons, List.length_nil, List.replicate_succ, List.replicate_zero, Nat.reduceSub, Nat.reduceAdd, Nat.zero_add, wipeD, keyD, rLen, seqA, rTuple, List.length_map]
    refine ⟨by omega, by omega, ?_⟩
    refine lcW_inv (fun ds6 acc M6 => Dk M6 a c (200 * ds.length) ∧ ∃ b : Nat, ds6 = rangeD (b : Nat) ds6.length ∧ b + ds6.length = row.length ∧ acc = ((List.range b).map fun b => nd ((difs row us).drop b)).map D.int) (fun _ _ _ _ => trivial) (fun acc M6 q => ?_) (fun d6 ds6 acc M6 Nx6 q nx6 => ?_) _ _ _ ⟨hD4, 0, by rw [rangeD_length]; rfl, by rw [rangeD_length]; omega, rfl⟩
    · obtain ⟨q6, b, _, e2, rfl⟩ := q
      obtain rfl : b = row.length := by simpa using e2
      rw [← hdl, ← needs_eq]
      refine ⟨by decide, by decide, ?_⟩
      refine lcW_inv (fun ds7 acc M7 => Dk M7 a c (200 * ds.length) ∧ acc ++ List.replicate ds7.length (.tup ((needs (difs row us)).map D.int)) = [.tup ((needs (difs row us)).map D.int), .tup ((needs (difs row us)).map D.int)]) (fun _ _ _ _ => trivial) (fun acc M7 q => ?_) (fun d7 ds7 acc M7 Nx7 q nx7 => ?_) _ _ _ ⟨q6, by rw [rangeD_length]; rfl⟩
      · obtain ⟨q7, e7⟩ := q
        rw [List.length_nil, List.replicate_zero, List.append_nil] at e7
        subst e7
        refine repr_fine F3 (by decide) ⟨by decide, repr_fine F3 (by decide) (rNe_s ?_)⟩
        simp only [BEq.rfl, Bool.not_true, Bool.false_eq_true, if_false]
        refine ⟨by decide, repr_fine F2 (by decide) (rNe_s ?_)⟩
        simp only [BEq.rfl, Bool.not_true, Bool.false_eq_true, if_false]
        exact nx _ _ ⟨⟨_, _, _, _, _, _, _, _, _, rfl⟩, q7, fun d hd => hds d (List.mem_cons_of_mem _ hd)⟩
      · obtain ⟨q7, e7⟩ := q
        refine ⟨_, rfl, ?_⟩
        simp only [sSeq, sRet, sRetN, sNext, sIf, sAsg, sPar, sPar3, sSetI, sAug, sAugI, sDrop, sBreak, sCont, dOp, dUn, dCons, dNil, dFn, dC, dTup, dLst, dLstM, dIf, dTest, dTru, dAnd, dOr, dNot, dAndV, dOrV, dNotE, dChain, dSl, dNoPart, dPart, dSeq, dEnum, dZip, dRng1, dRng2, dYes, dCall, dMt, dVar, dDic0, dDic1, Pat.put, Pat.puts, List.getElem?_cons_zero, List.getElem?_cons_succ, List.set_cons_zero, List.set_cons_succ, startD, List.map_cons, List.map_nil, List.cons_append, List.nil_append, List.length_cons, List.length_nil, List.replicate_succ, List.replicate_zero, Nat.reduceSub, Nat.reduceAdd, Nat.zero_add, wipeD, keyD, if_true]
        refine ⟨trivial, row, us, rfl, hul.symm, by omega, fun M8 x8 => ⟨?_, nx7 _ _ ⟨x8.dk q7, ?_⟩⟩⟩
        · have := congrArg List.length e7
          simp at this
          omega
        · rw [List.length_cons, List.replicate_succ] at e7
          rw [← e7]
          simp
    · obtain ⟨q6, b, e1, e2, rfl⟩ := q
      rw [List.length_cons, rangeD_succ] at e1
      injection e1 with e1 e1'
      subst e1
      rw [List.length_cons] at e2
      refine ⟨_, rfl, ?_⟩
      simp only [sSeq, sRet, sRetN, sNext, sIf, sAsg, sPar, sPar3, sSetI, sAug, sAugI, sDrop, sBreak, sCont, dOp, dUn, dCons, dNil, dFn, dC, dTup, dLst, dLstM, dIf, dTest, dTru, dAnd, dOr, dNot, dAndV, dOrV, dNotE, dChain, dSl, dNoPart, dPart, dSeq, dEnum, dZip, dRng1, dRng2, dYes, dCall, dMt, dVar, dDic0, dDic1, Pat.put, Pat.puts, List.getElem?_cons_zero, List.getElem?_cons_succ, List.set_cons_zero, List.set_cons_succ, startD, List.map_cons, List.map_nil, List.cons_append, List.nil_append, List.length_cons, List.length_nil, List.replicate_succ, List.replicate_zero, Nat.reduceSub, Nat.reduceAdd, Nat.zero_add, wipeD, keyD, if_true]
      refine ⟨trivial, row, us, b, rfl, hul.symm, by omega, by omega, fun M8 x8 => ⟨by simp; omega, nx6 _ _ ⟨x8.dk q6, b + 1, e1'.trans (by congr 1), by omega, ?_⟩⟩⟩
      rw [List.range_succ, List.map_append, List.map_append]
      rfl
  refine rMod_i (by decide) (rEq_i ?_)
  dsimp only
  by_cases h3 : i % 3 = 0
  · rw [if_pos (by simpa using h3)]
    simp only [dLc, sSeq, sRet, sRetN, sNext, sIf, sAsg, sPar, sPar3, sSetI, sAug, sAugI, sDrop, sBreak, sCont, dOp, dUn, dCons, dNil, dFn, dC, dTup, dLst, dLstM, dIf, dTest, dTru, dAnd, dOr, dNot, dAndV, dOrV, dNotE, dChain, dSl, dNoPart, dPart, dSeq, dEnum, dZip, dRng1, dRng2, dYes, dCall, dMt, dVar, dDic0, dDic1, Pat.put, Pat.puts, List.getElem?_cons_zero, List.getElem?_cons_succ, List.set_cons_zero, List.set_cons_succ, startD, List.map_cons, List.map_nil, List.cons_append, List.nil_append, List.length_cons, List.length_nil, List.replicate_succ, List.replicate_zero, Nat.reduceSub, Nat.reduceAdd, Nat.zero_add, wipeD, keyD, seqA]
    have hm0 : 0 ≤ i % 9 := Int.emod_nonneg _ (by decide)
    have hm1 : i % 9 < 9 := Int.emod_lt_of_pos _ (by decide)
    obtain ⟨b, eb, b0, b1⟩ : ∃ m : Int, atI [D.int 4, D.int 60, D.int 501] (i % 9 / 3) = some (.int m) ∧ 1 ≤ m ∧ m ≤ 501 := by
      have hr : i % 9 / 3 = 0 ∨ i % 9 / 3 = 1 ∨ i % 9 / 3 = 2 := by omega
      rcases hr with e | e | e <;> rw [e]
      · exact ⟨4, by rw [at0]; rfl, by decide, by decide⟩
      · exact ⟨60, by rw [at1]; rfl, by decide, by decide⟩
      · exact ⟨501, by rw [at2]; rfl, by decide, by decide⟩
    refine lcW_inv (fun ds' acc M4 => ∃ vs : List Int, acc = vs.map D.int ∧ Dk M4 a c (200 * ds.length + ds'.length) ∧ intsIn vs 1000 ∧ vs.length + ds'.length = row.length) (fun _ _ _ _ => trivial) (fun acc M4 q => ?_) (fun d' ds' acc M4 Nx4 q nx4 => ?_) _ _ _ ⟨[], rfl, hD3.mono (by rw [List.length_map]; omega), fun _ z => absurd z List.not_mem_nil, by simp⟩
    · obtain ⟨vs, rfl, q1, q2, q3⟩ := q
      simp only [rTuple, seqA]
      exact rest vs M4 (q1.mono (by simp)) (by simpa using q3) q2
    · obtain ⟨vs, rfl, q1, q2, q3⟩ := q
      have q3' : vs.length + (ds'.length + 1) = row.length := by simpa using q3
      refine ⟨_, rfl, ?_⟩
      simp only [sSeq, sRet, sRetN, sNext, sIf, sAsg, sPar, sPar3, sSetI, sAug, sAugI, sDrop, sBreak, sCont, dOp, dUn, dCons, dNil, dFn, dC, dTup, dLst, dLstM, dIf, dTest, dTru, dAnd, dOr, dNot, dAndV, dOrV, dNotE, dChain, dSl, dNoPart, dPart, dSeq, dEnum, dZip, dRng1, dRng2, dYes, dCall, dMt, dVar, dDic0, dDic1, Pat.put, Pat.puts, List.getElem?_cons_zero, List.getElem?_cons_succ, List.set_cons_zero, List.set_cons_succ, startD, List.map_cons, List.map_nil, List.cons_append, List.nil_append, List.length_cons, List.length_nil, List.replicate_succ, List.replicate_zero, Nat.reduceSub, Nat.reduceAdd, Nat.zero_add, wipeD, keyD, if_true]
      refine ⟨by decide, rMod_i (by decide) (rDiv_i (by decide) (by decide) ?_)⟩
      refine rIx_seq (x := .lst _) rfl eb ?_
      refine use_draw (k := 200 * ds.length + ds'.length) (q1.mono (by rw [List.length_cons]; omega)) (by omega) (by omega) fun x M5 hD5 hK5 v0 v1 => ⟨by simp; omega, nx4 _ _ ⟨vs ++ [x], by simp, hD5, fun y hy => ?_, by simp; omega⟩⟩
      rcases List.mem_append.mp hy with z | z
      · exact q2 y z
      · rw [List.mem_singleton.mp z]; omega
  · rw [if_neg (by simpa using h3)]
    exact rest us M3 (hD3.mono (by omega)) hul hus
end DL

namespace DL
open PySem PySem.Spec PyProof.Rows L2

def sp_law_draw_v3 : DSp := sp_law_draw
def t_law_draw_v3 : DS := (sSeq (sSetI (dOp rAdd (dOp rIx (dVar 0) (dC (.int 1))) (dC (.int 1))) (dVar 0) (dC (.int 1))) (sSeq (sAsg (dC (.int 0)) (.nm 2)) (sSeq (sAsg (dUn rNeg (dC (.int 1))) (.nm 3)) (sSeq (sIf (dTest (dOp rGt (dFn rLen (dCons (dOp rIx (dVar 0) (dC (.int 0))) dNil)) (dC (.int 0)))) (sSeq (sAsg (dOp rMod (dOp rIx (dVar 0) (dC (.int 1))) (dFn rLen (dCons (dOp rIx (dVar 0) (dC (.int 0))) dNil))) (.nm 3)) (sSeq (sAsg (dOp rIx (dOp rIx (dVar 0) (dC (.int 0))) (dVar 3)) (.nm 2)) sNext)) sNext) (sSeq (sIf (dTest (dOp rGe (dVar 2) (dOp rPow (dC (.int 10)) (dC (.int 18))))) (sSeq (sSetI (dOp rDiv (dVar 2) (dVar 1)) (dOp rIx (dVar 0) (dC (.int 0))) (dVar 3)) (sSeq (sRet (dOp rMod (dVar 2) (dVar 1))) sNext)) sNext) (sSeq (sRet (dOp rMod (dOp rMod (dOp rPow (dOp rAdd (dOp rAdd (dOp rMod (dVar 2) (dC (.int 2147483587))) (dOp rMul (dC (.int 7919)) (dOp rIx (dVar 0) (dC (.int 1))))) (dC (.int 1))) (dC (.int 5))) (dC (.int 2147483647))) (dVar 1))) sNext))))))
theorem mix_ok3 {x n l : Int} {M : MS} {Φ : DQ} (hx : 0 ≤ x) (hn0 : 0 ≤ n) (hn : n ≤ 2 ^ 40) (hl1 : 1 ≤ l) (h : ∀ r : Int, 0 ≤ r → r < l → Φ (.int r) M) :
    rMod (.int x) (.int 2147483587) M fun u M => rMul (.int 7919) (.int n) M fun v M => rAdd u v M fun w M => rAdd w (.int 1) M fun t M => rPow t (.int 5) M fun t M => rMod t (.int 2147483647) M fun t M => rMod t (.int l) M Φ := by
  refine rMod_i (by decide) (rMul_i (.inl (by decide)) (rAdd_i (rAdd_i ?_)))
  have b1 : 0 ≤ x % 2147483587 := Int.emod_nonneg _ (by decide)
  have b2 : x % 2147483587 < 2147483587 := Int.emod_lt_of_pos _ (by decide)
  refine rPow_i ⟨by decide, by decide, by omega⟩ (rMod_i (by decide) (rMod_i (by omega) ?_))
  exact h _ (Int.emod_nonneg _ (by omega)) (Int.emod_lt_of_pos _ (by omega))
theorem p_law_draw_v3 (ds : List D) (M : MS) (Φ : DQ) (h : sp_law_draw_v3 ds M Φ noX) : t_law_draw_v3 { nx := fun _ M' => Φ .non M', rt := Φ } (startD 4 ds) M := by
  obtain ⟨a, c, k, l, rfl, hl1, hl2, hD, h⟩ := h
  obtain ⟨hac, n, cells, ha, hc, hn0, hn, hlen, hpos⟩ := hD
  simp only [t_law_draw_v3, sSeq, sRet, sRetN, sNext, sIf, sAsg, sPar, sPar3, sSetI, sAug, sAugI, sDrop, sBreak, sCont, dOp, dUn, dCons, dNil, dFn, dC, dTup, dLst, dLstM, dIf, dTest, dTru, dAnd, dOr, dNot, dAndV, dOrV, dNotE, dChain, dSl, dNoPart, dPart, dSeq, dEnum, dZip, dRng1, dRng2, dYes, dCall, dMt, dVar, dDic0, dDic1, put_nm, put_tp, puts_nil, puts_cons, List.getElem?_cons_zero, List.getElem?_cons_succ, List.set_cons_zero, List.set_cons_succ, startD, List.map_cons, List.map_nil, List.cons_append, List.nil_append, List.length_cons, List.length_nil, List.replicate_succ, List.replicate_zero, Nat.reduceSub, Nat.reduceAdd, Nat.zero_add, wipeD, keyD, gSeq, gPlain, gNil, gYield, gFor, dTupP, dRngP, dCallG, sForG, dLcG, GE.at, dTupRg, dStar]
  refine rIx_seq (seqA_ref ha) (d := .int n) (by rw [at1]; rfl) (rAdd_i ?_)
  refine rSet_ref (n := 1) ha rfl ?_
  have ea : (M.put a (.lst [.ref c, .int (n + 1)])).map a = some (.lst [.ref c, .int (n + 1)]) := MS.put_same
  have ec : (M.put a (.lst [.ref c, .int (n + 1)])).map c = some (.lst (cells.map D.int)) := by rw [MS.put_ne (Ne.symm hac)]; exact hc
  have eb : ∀ b, b ≠ a → b ≠ c → (M.put a (.lst [.ref c, .int (n + 1)])).map b = M.map b := fun b x _ => MS.put_ne x
  show rNeg (.int 1) (M.put a (.lst [.ref c, .int (n + 1)])) _
  generalize M.put a (.lst [.ref c, .int (n + 1)]) = M1 at ea ec eb ⊢
  refine rNeg_i ?_
  refine rIx_seq (seqA_ref ea) (d := .ref c) (by rw [at0]; rfl) ?_
  refine rLen_seq (fun z e => nomatch e) (seqA_ref ec) ?_
  simp only [List.length_map, rGt, rCmp]
  have tail : ∀ x : Int, 0 ≤ x → rMod (.int x) (.int 2147483587) M1 fun x M1 => rIx (.ref a) (.int 1) M1 fun y M2 => rMul (.int 7919) y M2 fun y M2 => rAdd x y M2 fun x M1 => rAdd x (.int 1) M1 fun x M1 => rPow x (.int 5) M1 fun x M1 => rMod x (.int 2147483647) M1 fun x M1 => rMod x (.int l) M1 Φ := fun x hx => by
    have q := mix_ok3 (M := M1) (Φ := Φ) (l := l) (n := n + 1) hx (by omega) (by omega) hl1 fun r r0 r1 => by
      obtain ⟨d1, d2⟩ := draw_out hac hn0 hn ea ec hlen hpos eb
      exact h r M1 d1 d2 r0 r1
    refine ⟨by decide, rIx_seq (seqA_ref ea) (d := .int (n + 1)) (by rw [at1]; rfl) q.2⟩
  by_cases h0 : cells.length = 0
  · rw [if_neg (by rw [h0]; decide)]
    refine rPow_i ⟨by decide, by decide, by decide⟩ (rCmp_i ?_)
    dsimp only
    rw [if_neg (by decide)]
    exact tail 0 (by decide)
  · rw [if_pos (decide_eq_true (by omega))]
    refine rIx_seq (seqA_ref ea) (d := .int (n + 1)) (by rw [at1]; rfl) ?_
    refine rIx_seq (seqA_ref ea) (d := .ref c) (by rw [at0]; rfl) ?_
    refine rLen_seq (fun z e => nomatch e) (seqA_ref ec) ?_
    rw [List.length_map]
    refine rMod_i (by omega) ?_
    refine rIx_seq (seqA_ref ea) (d := .ref c) (by rw [at0]; rfl) ?_
    have m0 : 0 ≤ (n + 1) % (cells.length : Int) := Int.emod_nonneg _ (by omega)
    have m1 : (n + 1) % (cells.length : Int) < (cells.length : Int) := Int.emod_lt_of_pos _ (by omega)
    generalize hi : (n + 1) % (cells.length : Int) = i at m0 m1 ⊢
    have hj : i.toNat < cells.length := by omega
    have gx : cells[i.toNat]? = some cells[i.toNat] := List.getElem?_eq_getElem hj
    generalize hx : cells[i.toNat] = x at gx
    have px : 0 ≤ x := hpos x (hx ▸ List.getElem_mem hj)
    refine rIx_seq (seqA_ref ec) (d := .int x) (by rw [atI_t _ _ m0, List.getElem?_map, gx]; rfl) ?_
    refine rPow_i ⟨by decide, by decide, by decide⟩ (rCmp_i ?_)
    dsimp only
    split
    · refine rDiv_i (by omega) (by omega) ?_
      refine rIx_seq (seqA_ref ea) (d := .ref c) (by rw [at0]; rfl) ?_
      refine rSet_ref (n := i.toNat) ec (by rw [List.length_map]; exact ixN_t _ _ m0 m1) ?_
      refine rMod_i (by omega) ?_
      obtain ⟨d1, d2⟩ := draw_out (M := M) (M' := M1.put c (.lst ((cells.map D.int).set i.toNat (.int (x / l))))) (cells' := cells.set i.toNat (x / l)) hac hn0 hn (by rw [MS.put_ne hac]; exact ea) (by rw [MS.put_same, ← List.map_set]) (by rw [List.length_set]; exact hlen)
        (fun y hy => by
          rcases List.mem_or_eq_of_mem_set hy with z | z
          · exact hpos y z
          · rw [z]; exact Int.ediv_nonneg px (by omega)) (fun b x y => by rw [MS.put_ne y]; exact eb b x y)
      exact h _ _ d1 d2 (Int.emod_nonneg _ (by omega)) (Int.emod_lt_of_pos _ (by omega))
    · exact tail x px
end DL

namespace DL
open PySem PySem.Spec PyProof.Rows L2

abbrev sp_is_within := sp_is_number
abbrev sp_law_number := sp_is_number
def allN (hi : Int) (d : D) : Bool := match d with
  | .tup xs => xs.all fun x => numD x 0 hi
  | _ => false
def areU (st : Int) (d : D) : Bool := match d with
  | .tup xs => (xs.all fun x => numD x 0 500) && ((xs.length : Nat) : Int) == st
  | _ => false
def sp_are_within : DSp := fun ds M Φ _ => ∃ d hi, ds = [d, .int hi] ∧ still d = true ∧ (∀ xs, d = .tup xs → xs.length ≤ 30000) ∧ Φ (.bl (allN hi d)) M
def sp_are_wants : DSp := fun ds M Φ _ => ∃ st d, ds = [.int st, d] ∧ still d = true ∧ (∀ xs, d = .tup xs → xs.length ≤ 30000) ∧ Φ (.bl (areU st d)) M
abbrev sp_law_are_wants := sp_are_wants
def t_is_within : DS := (sSeq (sRet (dAndV (dFn rIsi (dCons (dVar 0) (dCons (dC (.ty .int)) dNil))) (dAndV (dNotE (dFn rIsi (dCons (dVar 0) (dCons (dC (.ty .bool)) dNil)))) (dChain rLe rLe (dVar 1) (dVar 0) (dVar 2))))) sNext)
def t_law_number : DS := (sSeq (sRet (dAndV (dFn rIsi (dCons (dVar 0) (dCons (dC (.ty .int)) dNil))) (dAndV (dNotE (dFn rIsi (dCons (dVar 0) (dCons (dC (.ty .bool)) dNil)))) (dChain rLe rLe (dVar 1) (dVar 0) (dVar 2))))) sNext)
def t_are_within : DS := (sSeq (sRet (dAndV (dFn rIsi (dCons (dVar 0) (dCons (dC (.ty .tuple)) dNil))) (dFn rAll (dCons (dLc (dSeq (dVar 0)) (.nm 2) [2] dYes (dCall 3 sp_is_within (dCons (dVar 2) (dCons (dC (.int 0)) (dCons (dVar 1) dNil))))) dNil)))) sNext)
def t_are_wants : DS := (sSeq (sRet (dAndV (dCall 2 sp_are_within (dCons (dVar 1) (dCons (dC (.int 500)) dNil))) (dOp rEq (dFn rLen (dCons (dVar 1) dNil)) (dVar 0)))) sNext)
def t_law_are_wants : DS := (sSeq (sIf (dOr (dNot (dTru (dFn rIsi (dCons (dVar 1) (dCons (dC (.ty .tuple)) dNil))))) (dTest (dOp rNe (dFn rLen (dCons (dVar 1) dNil)) (dVar 0)))) (sSeq (sRet (dC (.bl false))) sNext) sNext) (sSeq (sRet (dOp rEq (dLc (dSeq (dVar 1)) (.nm 2) [2] (dNot (dTru (dCall 3 sp_law_number (dCons (dVar 2) (dCons (dC (.int 0)) (dCons (dC (.int 500)) dNil)))))) (dC (.int 1))) (dLst dNil))) sNext))
theorem p_is_within (ds : List D) (M : MS) (Φ : DQ) (h : sp_is_within ds M Φ noX) : t_is_within { nx := fun _ M' => Φ .non M', rt := Φ } (startD 3 ds) M := by
  obtain ⟨d, lo, hi, rfl, hd, q⟩ := h
  exact run_num hd q
theorem p_law_number (ds : List D) (M : MS) (Φ : DQ) (h : sp_law_number ds M Φ noX) : t_law_number { nx := fun _ M' => Φ .non M', rt := Φ } (startD 3 ds) M := by
  obtain ⟨d, lo, hi, rfl, hd, q⟩ := h
  exact run_num hd q
theorem p_are_within (ds : List D) (M : MS) (Φ : DQ) (h : sp_are_within ds M Φ noX) : t_are_within { nx := fun _ M' => Φ .non M', rt := Φ } (startD 3 ds) M := by
  obtain ⟨d, hi, rfl, hd, hl, q⟩ := h
  simp only [t_are_within, sSeq, sRet, sRetN, sNext, sIf, sAsg, sPar, sPar3, sSetI, sAug, sAugI, sDrop, sBreak, sCont, dOp, dUn, dCons, dNil, dFn, dC, dTup, dLst, dLstM, dIf, dTest, dTru, dAnd, dOr, dNot, dAndV, dOrV, dNotE, dChain, dSl, dNoPart, dPart, dSeq, dEnum, dZip, dRng1, dRng2, dYes, dCall, dMt, dVar, dDic0, dDic1, Pat.put, Pat.puts, List.getElem?_cons_zero, List.getElem?_cons_succ, List.set_cons_zero, List.set_cons_succ, startD, List.map_cons, List.map_nil, List.cons_append, List.nil_append, List.length_cons, List.length_nil, List.replicate_succ, List.replicate_zero, Nat.reduceSub, Nat.reduceAdd, Nat.zero_add, wipeD, keyD]
  refine rIsi_tup hd ?_
  cases d with
  | tup xs =>
    have hs : stills xs = true := by simpa only [still] using hd
    simp only [isTup, if_true, dLc, sSeq, sRet, sRetN, sNext, sIf, sAsg, sPar, sPar3, sSetI, sAug, sAugI, sDrop, sBreak, sCont, dOp, dUn, dCons, dNil, dFn, dC, dTup, dLst, dLstM, dIf, dTest, dTru, dAnd, dOr, dNot, dAndV, dOrV, dNotE, dChain, dSl, dNoPart, dPart, dSeq, dEnum, dZip, dRng1, dRng2, dYes, dCall, dMt, dVar, dDic0, dDic1, Pat.put, Pat.puts, List.getElem?_cons_zero, List.getElem?_cons_succ, List.set_cons_zero, List.set_cons_succ, startD, List.map_cons, List.map_nil, List.cons_append, List.nil_append, List.length_cons, List.length_nil, List.replicate_succ, List.replicate_zero, Nat.reduceSub, Nat.reduceAdd, Nat.zero_add, wipeD, keyD, seqA]
    refine lcW_map (fun d => some (.bl (numD d 0 hi))) xs trivial (by have := hl xs rfl; omega) (fun x hx => ⟨_, rfl, fun acc Nx hn k => ?_⟩) ?_
    · simp only [sSeq, sRet, sRetN, sNext, sIf, sAsg, sPar, sPar3, sSetI, sAug, sAugI, sDrop, sBreak, sCont, dOp, dUn, dCons, dNil, dFn, dC, dTup, dLst, dLstM, dIf, dTest, dTru, dAnd, dOr, dNot, dAndV, dOrV, dNotE, dChain, dSl, dNoPart, dPart, dSeq, dEnum, dZip, dRng1, dRng2, dYes, dCall, dMt, dVar, dDic0, dDic1, Pat.put, Pat.puts, List.getElem?_cons_zero, List.getElem?_cons_succ, List.set_cons_zero, List.set_cons_succ, startD, List.map_cons, List.map_nil, List.cons_append, List.nil_append, List.length_cons, List.length_nil, List.replicate_succ, List.replicate_zero, Nat.reduceSub, Nat.reduceAdd, Nat.zero_add, wipeD, keyD, if_true]
      exact ⟨trivial, x, 0, hi, rfl, stills_get hs hx, hn, k⟩
    · have e : xs.filterMap (fun d => some (D.bl (numD d 0 hi))) = (xs.map fun d => numD d 0 hi).map D.bl := by
        rw [fm_some, List.map_map]
        rfl
      rw [e]
      simp only [rAll, seqL, Option.bind_some, asBls_map]
      have e2 : (xs.map fun d => numD d 0 hi).all id = xs.all fun d => numD d 0 hi := by rw [List.all_map]; rfl
      rw [e2]
      exact q
  | _ => exact q
theorem p_are_wants (ds : List D) (M : MS) (Φ : DQ) (h : sp_are_wants ds M Φ noX) : t_are_wants { nx := fun _ M' => Φ .non M', rt := Φ } (startD 2 ds) M := by
  obtain ⟨st, d, rfl, hd, hl, q⟩ := h
  simp only [t_are_wants, sSeq, sRet, sRetN, sNext, sIf, sAsg, sPar, sPar3, sSetI, sAug, sAugI, sDrop, sBreak, sCont, dOp, dUn, dCons, dNil, dFn, dC, dTup, dLst, dLstM, dIf, dTest, dTru, dAnd, dOr, dNot, dAndV, dOrV, dNotE, dChain, dSl, dNoPart, dPart, dSeq, dEnum, dZip, dRng1, dRng2, dYes, dCall, dMt, dVar, dDic0, dDic1, Pat.put, Pat.puts, List.getElem?_cons_zero, List.getElem?_cons_succ, List.set_cons_zero, List.set_cons_succ, startD, List.map_cons, List.map_nil, List.cons_append, List.nil_append, List.length_cons, List.length_nil, List.replicate_succ, List.replicate_zero, Nat.reduceSub, Nat.reduceAdd, Nat.zero_add, wipeD, keyD]
  refine ⟨trivial, d, 500, rfl, hd, hl, ?_⟩
  dsimp only
  cases d with
  | tup xs =>
    simp only [areU] at q
    rw [show (xs.all fun x => numD x 0 500) = allN 500 (.tup xs) from rfl] at q
    by_cases hb : allN 500 (.tup xs) = true
    · rw [if_pos hb]
      rw [hb, Bool.true_and] at q
      exact rLen_seq (fun z e => nomatch e) rfl (rEq_i q)
    · rw [if_neg hb]
      rw [Bool.not_eq_true] at hb
      rw [hb, Bool.false_and] at q
      exact q
  | _ => exact q
theorem ones_filter {xs : List D} {f : D → Bool} : (xs.filterMap fun d => if f d = true then none else some (D.int 1)).isEmpty = xs.all f := by
  induction xs with
  | nil => rfl
  | cons x xs ih =>
    rw [List.filterMap_cons, List.all_cons]
    cases hx : f x with
    | true => simp only [if_true, Bool.true_and]; exact ih
    | false => simp
theorem ones_plain {xs : List D} {f : D → Bool} : ∃ n : Nat, (xs.filterMap fun d => if f d = true then none else some (D.int 1)) = (List.replicate n (1 : Int)).map D.int := by
  induction xs with
  | nil => exact ⟨0, rfl⟩
  | cons x xs ih =>
    obtain ⟨n, e⟩ := ih
    rw [List.filterMap_cons]
    cases hx : f x with
    | true => exact ⟨n, by simpa using e⟩
    | false => exact ⟨n + 1, by simp only [Bool.false_eq_true, if_false]; rw [e]; rfl⟩
theorem p_law_are_wants (ds : List D) (M : MS) (Φ : DQ) (h : sp_law_are_wants ds M Φ noX) : t_law_are_wants { nx := fun _ M' => Φ .non M', rt := Φ } (startD 3 ds) M := by
  obtain ⟨st, d, rfl, hd, hl, q⟩ := h
  simp only [t_law_are_wants, sSeq, sRet, sRetN, sNext, sIf, sAsg, sPar, sPar3, sSetI, sAug, sAugI, sDrop, sBreak, sCont, dOp, dUn, dCons, dNil, dFn, dC, dTup, dLst, dLstM, dIf, dTest, dTru, dAnd, dOr, dNot, dAndV, dOrV, dNotE, dChain, dSl, dNoPart, dPart, dSeq, dEnum, dZip, dRng1, dRng2, dYes, dCall, dMt, dVar, dDic0, dDic1, Pat.put, Pat.puts, List.getElem?_cons_zero, List.getElem?_cons_succ, List.set_cons_zero, List.set_cons_succ, startD, List.map_cons, List.map_nil, List.cons_append, List.nil_append, List.length_cons, List.length_nil, List.replicate_succ, List.replicate_zero, Nat.reduceSub, Nat.reduceAdd, Nat.zero_add, wipeD, keyD]
  refine rIsi_tup hd ?_
  simp only [truD]
  cases d with
  | tup xs =>
    have hs : stills xs = true := by simpa only [still] using hd
    simp only [isTup, Bool.not_true, Bool.false_eq_true, if_false]
    refine rLen_seq (fun z e => nomatch e) rfl (rNe_i ?_)
    dsimp only
    simp only [areU] at q
    cases hb : ((xs.length : Nat) : Int) == st with
    | false =>
      rw [hb, Bool.and_false] at q
      rw [if_pos (by rfl)]
      exact q
    | true =>
      rw [hb, Bool.and_true] at q
      rw [if_neg (by decide)]
      simp only [dLc, sSeq, sRet, sRetN, sNext, sIf, sAsg, sPar, sPar3, sSetI, sAug, sAugI, sDrop, sBreak, sCont, dOp, dUn, dCons, dNil, dFn, dC, dTup, dLst, dLstM, dIf, dTest, dTru, dAnd, dOr, dNot, dAndV, dOrV, dNotE, dChain, dSl, dNoPart, dPart, dSeq, dEnum, dZip, dRng1, dRng2, dYes, dCall, dMt, dVar, dDic0, dDic1, Pat.put, Pat.puts, List.getElem?_cons_zero, List.getElem?_cons_succ, List.set_cons_zero, List.set_cons_succ, startD, List.map_cons, List.map_nil, List.cons_append, List.nil_append, List.length_cons, List.length_nil, List.replicate_succ, List.replicate_zero, Nat.reduceSub, Nat.reduceAdd, Nat.zero_add, wipeD, keyD, seqA]
      refine lcW_map (fun d => if numD d 0 500 = true then none else some (.int 1)) xs trivial (by have := hl xs rfl; omega) (fun x hx => ⟨_, rfl, fun acc Nx hn k => ?_⟩) ?_
      · simp only [sSeq, sRet, sRetN, sNext, sIf, sAsg, sPar, sPar3, sSetI, sAug, sAugI, sDrop, sBreak, sCont, dOp, dUn, dCons, dNil, dFn, dC, dTup, dLst, dLstM, dIf, dTest, dTru, dAnd, dOr, dNot, dAndV, dOrV, dNotE, dChain, dSl, dNoPart, dPart, dSeq, dEnum, dZip, dRng1, dRng2, dYes, dCall, dMt, dVar, dDic0, dDic1, Pat.put, Pat.puts, List.getElem?_cons_zero, List.getElem?_cons_succ, List.set_cons_zero, List.set_cons_succ, startD, List.map_cons, List.map_nil, List.cons_append, List.nil_append, List.length_cons, List.length_nil, List.replicate_succ, List.replicate_zero, Nat.reduceSub, Nat.reduceAdd, Nat.zero_add, wipeD, keyD]
        refine ⟨trivial, x, 0, 500, rfl, stills_get hs hx, ?_⟩
        simp only [truD]
        cases hnum : numD x 0 500 with
        | true =>
          rw [hnum, if_pos rfl] at k
          rw [if_neg (by decide)]
          simpa using k
        | false =>
          rw [hnum, if_neg Bool.false_ne_true] at k
          rw [if_pos (by decide)]
          exact ⟨hn, by simpa using k⟩
      · obtain ⟨n, en⟩ := ones_plain (xs := xs) (f := fun d => numD d 0 500)
        have ei := ones_filter (xs := xs) (f := fun d => numD d 0 500)
        rw [en] at ei ⊢
        refine ⟨by decide, rEq_still (by simp only [plain]; exact plains_ints _) (by simp only [dep, deps_ints]; decide) rfl (by decide) ?_⟩
        have e3 : eqd (.lst ((List.replicate n (1 : Int)).map D.int)) (.lst []) = xs.all fun d => numD d 0 500 := by
          rw [← ei]
          cases n with
          | zero => rfl
          | succ n => rfl
        rw [e3]
        exact q
  | _ => exact q
/-! ### odd values, replaced ones -/
def odds2 : List D := [.non, .bl true, .bl false, .int 0, .int 1, .int (-1), .int (10 ^ 29), .str "", .str "0 1", .tup [], .lst [], .dic [] [], .tup [.int 0], .lst [.int 0], .tup [.bl true], .tup [.tup []], .dic [.inr "a"] [.int 0],
  .tup [.tup [.int 0, .int 1]], .tup [.tup [.int 0, .int 1], .tup [.int 2, .int 3]], .tup [.str "0", .str "1"], .tup [.non, .non]]
theorem odds2_all : (odds2.all fun d => fineB d 3 10000) = true := by decide +kernel
def sp_law_odd_v2 : DSp := fun ds M Φ _ => ∃ (a c : Addr) (k : Nat), ds = [.ref a] ∧ Dk M a c (k + 1) ∧ ∀ (d : D) M', Dk M' a c k → Kp a c M M' → d ∈ odds2 → Φ d M'
def t_law_odd_v2 : DS := (sSeq (sAsg (dLst (dCons (dC .non) (dCons (dC (.bl true)) (dCons (dC (.bl false)) (dCons (dC (.int 0)) (dCons (dC (.int 1)) (dCons (dUn rNeg (dC (.int 1))) (dCons (dOp rPow (dC (.int 10)) (dC (.int 29))) (dCons (dC (.str "")) (dCons (dC (.str "0 1")) (dCons (dTup dNil) (dCons (dLst dNil) (dCons dDic0 (dCons (dTup (dCons (dC (.int 0)) dNil)) (dCons (dLst (dCons (dC (.int 0)) dNil)) (dCons (dTup (dCons (dC (.bl true)) dNil)) (dCons (dTup (dCons (dTup dNil) dNil)) (dCons (dDic1 (dC (.str "a")) (dC (.int 0))) dNil)))))))))))))))))) (.nm 1)) (sSeq (sRet (dOp rIx (dOp rAdd (dVar 1) (dLst (dCons (dTup (dCons (dTup (dCons (dC (.int 0)) (dCons (dC (.int 1)) dNil))) dNil)) (dCons (dTup (dCons (dTup (dCons (dC (.int 0)) (dCons (dC (.int 1)) dNil))) (dCons (dTup (dCons (dC (.int 2)) (dCons (dC (.int 3)) dNil))) dNil))) (dCons (dTup (dCons (dC (.str "0")) (dCons (dC (.str "1")) dNil))) (dCons (dTup (dCons (dC .non) (dCons (dC .non) dNil))) dNil)))))) (dCall 2 sp_law_draw_v2 (dCons (dVar 0) (dCons (dC (.int 21)) dNil))))) sNext))
theorem p_law_odd_v2 (ds : List D) (M : MS) (Φ : DQ) (h : sp_law_odd_v2 ds M Φ noX) : t_law_odd_v2 { nx := fun _ M' => Φ .non M', rt := Φ } (startD 2 ds) M := by
  obtain ⟨a, c, k, rfl, hD, h⟩ := h
  simp only [t_law_odd_v2, sSeq, sRet, sRetN, sNext, sIf, sAsg, sPar, sPar3, sSetI, sAug, sAugI, sDrop, sBreak, sCont, dOp, dUn, dCons, dNil, dFn, dC, dTup, dLst, dLstM, dIf, dTest, dTru, dAnd, dOr, dNot, dAndV, dOrV, dNotE, dChain, dSl, dNoPart, dPart, dSeq, dEnum, dZip, dRng1, dRng2, dYes, dCall, dMt, dVar, dDic0, dDic1, Pat.put, Pat.puts, List.getElem?_cons_zero, List.getElem?_cons_succ, List.set_cons_zero, List.set_cons_succ, startD, List.map_cons, List.map_nil, List.cons_append, List.nil_append, List.length_cons, List.length_nil, List.replicate_succ, List.replicate_zero, Nat.reduceSub, Nat.reduceAdd, Nat.zero_add, wipeD, keyD, rNeg, rPow, rAdd, seqL, Nat.reduceLeDiff, true_and, show CPow 10 29 from ⟨by decide, by decide, by decide⟩]
  refine ⟨a, c, k, 21, rfl, by decide, by decide, hD, fun r M1 hD1 hK1 r0 r1 => ?_⟩
  have hl : odds2.length = 21 := rfl
  exact rIx_any (L := odds2) r0 (by omega) fun d hd => h d _ hD1 hK1 hd
end DL

namespace DL
open PySem PySem.Spec PyProof.Rows L2

theorem use_odd2 {M : MS} {Φ : DQ} {a c : Addr} {k : Nat} (hD : Dk M a c (k + 1)) (h : ∀ (d : D) M', Dk M' a c k → Kp a c M M' → fineB d 3 10000 = true → Φ d M') : True ∧ sp_law_odd_v2 [.ref a] M Φ noX :=
  ⟨trivial, a, c, k, rfl, hD, fun d M' h1 h2 h3 => h d M' h1 h2 (List.all_eq_true.mp odds2_all d h3)⟩
/-- replaced at some depth, at most n more -/
def rs_law_replaced (n : Nat) : DSp := fun ds M Φ _ => ∃ (a c : Addr) (k : Nat) (v : D) (m : Int), ds = [.ref a, v, .int m] ∧ m ≤ n ∧ Dk M a c (k + 5 * n + 5) ∧ ((∃ i : Int, v = .int i ∧ -(2 ^ 100) < i ∧ i < 2 ^ 100) ∨ (∃ ns : List Int, v = .tup (ns.map D.int) ∧ ns.length ≤ 20 ∧ intsIn ns 1000)) ∧
  ∀ (d : D) M', Dk M' a c k → Kp a c M M' → fineB d 8 100000 = true → (∀ i : Int, v = .int i → fineB d 3 20000 = true) → Φ d M'
def rself : Nat → DSp
  | 0 => spNo
  | n + 1 => rs_law_replaced n
abbrev sp_law_replaced : DSp := rs_law_replaced 2
def t_law_replaced (sp_self : DSp) : DS := (sSeq (sIf (dAnd (dTru (dFn rIsi (dCons (dVar 1) (dCons (dC (.ty .tuple)) dNil)))) (dAnd (dTest (dOp rNe (dVar 1) (dTup dNil))) (dAnd (dTest (dOp rGt (dVar 2) (dC (.int 0)))) (dTest (dOp rGt (dCall 2 sp_law_draw_v2 (dCons (dVar 0) (dCons (dC (.int 5)) dNil))) (dC (.int 0))))))) (sSeq (sAsg (dCall 2 sp_law_draw_v2 (dCons (dVar 0) (dCons (dFn rLen (dCons (dVar 1) dNil)) dNil))) (.nm 3)) (sSeq (sAsg (dCall 3 sp_self (dCons (dVar 0) (dCons (dOp rIx (dVar 1) (dVar 3)) (dCons (dOp rSub (dVar 2) (dC (.int 1))) dNil)))) (.nm 4)) (sSeq (sRet (dOp rAdd (dOp rAdd (dSl (dVar 1) dNoPart (dPart (dVar 3))) (dTup (dCons (dVar 4) dNil))) (dSl (dVar 1) (dPart (dOp rAdd (dVar 3) (dC (.int 1)))) dNoPart))) sNext))) sNext) (sSeq (sAsg (dCall 2 sp_law_draw_v2 (dCons (dVar 0) (dCons (dC (.int 5)) dNil))) (.nm 5)) (sSeq (sIf (dTru (dFn rIsi (dCons (dVar 1) (dCons (dC (.ty .tuple)) dNil)))) (sSeq (sRet (dOp rIx (dLst (dCons (dOp rAdd (dVar 1) (dSl (dVar 1) dNoPart (dPart (dC (.int 1))))) (dCons (dSl (dVar 1) (dPart (dC (.int 1))) dNoPart) (dCons (dRev (dVar 1)) (dCons (dFn rList (dCons (dVar 1) dNil)) (dCons (dCall 1 sp_law_odd_v2 (dCons (dVar 0) dNil)) dNil)))))) (dVar 5))) sNext) sNext) (sSeq (sIf (dAnd (dTru (dFn rIsi (dCons (dVar 1) (dCons (dC (.ty .int)) dNil)))) (dNot (dTru (dFn rIsi (dCons (dVar 1) (dCons (dC (.ty .bool)) dNil)))))) (sSeq (sRet (dOp rIx (dLst (dCons (dOp rAdd (dVar 1) (dC (.int 1))) (dCons (dOp rSub (dVar 1) (dC (.int 1))) (dCons (dOp rEq (dVar 1) (dC (.int 1))) (dCons (dFn rStr (dCons (dVar 1) dNil)) (dCons (dCall 1 sp_law_odd_v2 (dCons (dVar 0) dNil)) dNil)))))) (dVar 5))) sNext) sNext) (sSeq (sRet (dCall 1 sp_law_odd_v2 (dCons (dVar 0) dNil))) sNext)))))
def t_law_replaced_r1 (sp_self : DSp) : DS := (sSeq (sAsg (dCall 2 sp_law_draw_v2 (dCons (dVar 0) (dCons (dC (.int 5)) dNil))) (.nm 5)) (sSeq (sIf (dTru (dFn rIsi (dCons (dVar 1) (dCons (dC (.ty .tuple)) dNil)))) (sSeq (sRet (dOp rIx (dLst (dCons (dOp rAdd (dVar 1) (dSl (dVar 1) dNoPart (dPart (dC (.int 1))))) (dCons (dSl (dVar 1) (dPart (dC (.int 1))) dNoPart) (dCons (dRev (dVar 1)) (dCons (dFn rList (dCons (dVar 1) dNil)) (dCons (dCall 1 sp_law_odd_v2 (dCons (dVar 0) dNil)) dNil)))))) (dVar 5))) sNext) sNext) (sSeq (sIf (dAnd (dTru (dFn rIsi (dCons (dVar 1) (dCons (dC (.ty .int)) dNil)))) (dNot (dTru (dFn rIsi (dCons (dVar 1) (dCons (dC (.ty .bool)) dNil)))))) (sSeq (sRet (dOp rIx (dLst (dCons (dOp rAdd (dVar 1) (dC (.int 1))) (dCons (dOp rSub (dVar 1) (dC (.int 1))) (dCons (dOp rEq (dVar 1) (dC (.int 1))) (dCons (dFn rStr (dCons (dVar 1) dNil)) (dCons (dCall 1 sp_law_odd_v2 (dCons (dVar 0) dNil)) dNil)))))) (dVar 5))) sNext) sNext) (sSeq (sRet (dCall 1 sp_law_odd_v2 (dCons (dVar 0) dNil))) sNext))))
theorem rIsi_i {M : MS} {Φ : DQ} {i : Int} {t : Ty} (ht : t ≠ .none) (q : Φ (.bl (isaT .int t)) M) : rIsi [.int i, .ty t] M Φ := ⟨ht, q⟩
theorem rp_law_replaced (n : Nat) (ds : List D) (M : MS) (Φ : DQ) (h : rs_law_replaced n ds M Φ noX) : t_law_replaced (rself n) { nx := fun _ M' => Φ .non M', rt := Φ } (startD 6 ds) M := by
  obtain ⟨a, c, k, v, m, rfl, hm, hD, hv, h⟩ := h
  simp only [t_law_replaced, sSeq, sRet, sRetN, sNext, sIf, sAsg, sPar, sPar3, sSetI, sAug, sAugI, sDrop, sBreak, sCont, dOp, dUn, dCons, dNil, dFn, dC, dTup, dLst, dLstM, dIf, dTest, dTru, dAnd, dOr, dNot, dAndV, dOrV, dNotE, dChain, dSl, dNoPart, dPart, dSeq, dEnum, dZip, dRng1, dRng2, dYes, dCall, dMt, dVar, dDic0, dDic1, Pat.put, Pat.puts, List.getElem?_cons_zero, List.getElem?_cons_succ, List.set_cons_zero, List.set_cons_succ, startD, List.map_cons, List.map_nil, List.cons_append, List.nil_append, List.length_cons, List.length_nil, List.replicate_succ, List.replicate_zero, Nat.reduceSub, Nat.reduceAdd, Nat.zero_add, wipeD, keyD]
  rcases hv with ⟨i, rfl, hi0, hi1⟩ | ⟨ns, rfl, hl, hns⟩
  · refine rIsi_i (by decide) ?_
    simp only [truD, show isaT .int .tuple = false from rfl, Bool.false_eq_true, if_false]
    refine use_draw (k := k + 5 * n + 4) hD (by decide) (by decide) fun w M1 hD1 hK1 u0 u1 => rIsi_i (by decide) ?_
    simp only [truD, show isaT .int .tuple = false from rfl, Bool.false_eq_true, if_false]
    refine rIsi_i (by decide) ?_
    simp only [truD, show isaT .int .int = true from rfl, if_true]
    refine rIsi_i (by decide) ?_
    simp only [truD, show isaT .int .bool = false from rfl, Bool.not_false, if_true]
    refine rAdd_i (rSub_i (rEq_i ?_))
    simp only [rStr]
    have hlog : i.natAbs.log2 < 1920 := by
      have := small_log (n := i.natAbs) (by omega) (by omega)
      simpa using this
    refine ⟨hlog, ?_⟩
    refine use_odd2 (k := k + 5 * n + 3) hD1 fun odd M2 hD2 hK2 fo => ⟨by decide, ?_⟩
    refine rIx_any u0 (by simpa using u1) fun d hd => ?_
    have key : fineB d 3 20000 = true := ?_
    · exact h d _ (hD2.mono (by omega)) (hK1.trans hK2) (fineB_mono key (by decide) (by decide)) fun _ _ => key
    simp only [List.mem_cons, List.not_mem_nil, or_false] at hd
    rcases hd with rfl | rfl | rfl | rfl | rfl
    · exact fineB_mono (fineB_int (by omega) (by omega)) (by decide) (by decide)
    · exact fineB_mono (fineB_int (by omega) (by omega)) (by decide) (by decide)
    · exact fineB_mono fineB_bl (by decide) (by decide)
    · have hz := int_text_len_1921 hlog
      have hok : okl (.str (toString i)) = true := by
        simp only [okl]
        refine Array.all_eq_true_iff_forall_mem.mpr fun c hc => decide_eq_true ?_
        refine Nat.lt_of_not_le fun hge => ?_
        exact int_text_free' c ⟨by omega, .inr (by omega)⟩ i (by simpa using hc)
      unfold fineB
      simp only [hok, Bool.and_eq_true, decide_eq_true_eq, Bool.or_eq_true, Bool.not_eq_true']
      refine ⟨⟨⟨⟨rfl, by simp [dep]⟩, trivial⟩, ?_⟩, .inl rfl⟩
      simp only [wt]
      omega
    · exact fineB_mono fo (by decide) (by decide)
  · have A : AllF (ns.map D.int) 0 1921 := fun x hx => by
      obtain ⟨s, hs, rfl⟩ := List.mem_map.mp hx
      have := hns s hs
      exact allF_int (by omega) (by omega)
    have hst : still (.tup (ns.map D.int)) = true := by simp only [still]; exact (FL.ints (h := 1000) (by decide) hns).1.st
    have hpl : plain (.tup (ns.map D.int)) = true := by simp only [plain]; exact plains_ints _
    have hdp : dep (.tup (ns.map D.int)) ≤ 60 := by simp only [dep, deps_ints]; decide
    obtain ⟨f0, m0⟩ := A.flL (n' := 0) (w' := 40000) (by decide) 20 (by rw [List.length_map]; exact hl) (by decide)
    have tail : ∀ M1, Dk M1 a c (k + 5 * n + 2) → Kp a c M M1 → t_law_replaced_r1 (rself n) { nx := fun _ M' => Φ .non M', rt := Φ } [some (.ref a), some (.tup (ns.map D.int)), some (.int m), none, none, none] M1 := fun M1 hD1 hK1 => by
      simp only [t_law_replaced_r1, sSeq, sRet, sRetN, sNext, sIf, sAsg, sPar, sPar3, sSetI, sAug, sAugI, sDrop, sBreak, sCont, dOp, dUn, dCons, dNil, dFn, dC, dTup, dLst, dLstM, dIf, dTest, dTru, dAnd, dOr, dNot, dAndV, dOrV, dNotE, dChain, dSl, dNoPart, dPart, dSeq, dEnum, dZip, dRng1, dRng2, dYes, dCall, dMt, dVar, dDic0, dDic1, Pat.put, Pat.puts, List.getElem?_cons_zero, List.getElem?_cons_succ, List.set_cons_zero, List.set_cons_succ, startD, List.map_cons, List.map_nil, List.cons_append, List.nil_append, List.length_cons, List.length_nil, List.replicate_succ, List.replicate_zero, Nat.reduceSub, Nat.reduceAdd, Nat.zero_add, wipeD, keyD]
      refine use_draw (k := k + 5 * n + 1) hD1 (by decide) (by decide) fun w M2 hD2 hK2 u0 u1 => rIsi_tup hst ?_
      simp only [isTup, truD, if_true, rSl]
      refine rAdd_t (by have := cut_len (ns.map D.int) none (some 1); rw [List.length_map] at *; omega) ?_
      simp only [dRev, rList, seqA]
      refine use_odd2 (k := k + 5 * n) hD2 fun odd M3 hD3 hK3 fo => ⟨by decide, ?_⟩
      refine rIx_any u0 (by simpa using u1) fun d hd => h d _ (hD3.mono (by omega)) ((hK1.trans hK2).trans hK3) ?_ fun i e => by cases e
      simp only [List.mem_cons, List.not_mem_nil, or_false] at hd
      have AA := A.app (A.cut none (some 1))
      rcases hd with rfl | rfl | rfl | rfl | rfl
      · obtain ⟨f, _⟩ := AA.flL (n' := 0) (w' := 80000) (by decide) 40 (by rw [List.length_append]; have := cut_len (ns.map D.int) none (some 1); rw [List.length_map] at *; omega) (by decide)
        exact fineB_mono (FL.tup f) (by decide) (by decide)
      · obtain ⟨f, _⟩ := (A.cut (some 1) none).flL (n' := 0) (w' := 40000) (by decide) 20 (by have := cut_len (ns.map D.int) (some 1) none; rw [List.length_map] at *; omega) (by decide)
        exact fineB_mono (FL.tup f) (by decide) (by decide)
      · obtain ⟨f, _⟩ := (A.sub (ys := (ns.map D.int).reverse) fun y hy => List.mem_reverse.mp hy).flL (n' := 0) (w' := 40000) (by decide) 20 (by rw [List.length_reverse, List.length_map]; exact hl) (by decide)
        exact fineB_mono (FL.tup f) (by decide) (by decide)
      · exact fineB_mono (FL.lst f0 m0.nd) (by decide) (by decide)
      · exact fineB_mono fo (by decide) (by decide)
    simp only [t_law_replaced_r1, sSeq, sRet, sRetN, sNext, sIf, sAsg, sPar, sPar3, sSetI, sAug, sAugI, sDrop, sBreak, sCont, dOp, dUn, dCons, dNil, dFn, dC, dTup, dLst, dLstM, dIf, dTest, dTru, dAnd, dOr, dNot, dAndV, dOrV, dNotE, dChain, dSl, dNoPart, dPart, dSeq, dEnum, dZip, dRng1, dRng2, dYes, dCall, dMt, dVar, dDic0, dDic1, Pat.put, Pat.puts, List.getElem?_cons_zero, List.getElem?_cons_succ, List.set_cons_zero, List.set_cons_succ, startD, List.map_cons, List.map_nil, List.cons_append, List.nil_append, List.length_cons, List.length_nil, List.replicate_succ, List.replicate_zero, Nat.reduceSub, Nat.reduceAdd, Nat.zero_add, wipeD, keyD] at tail
    refine rIsi_tup hst ?_
    simp only [show truD M (.bl (isTup (.tup (ns.map D.int)))) = some true from rfl, if_true]
    refine ⟨by decide, rNe_still hpl hdp rfl (by decide) ?_⟩
    dsimp only
    by_cases hne : ns = []
    · subst hne
      rw [if_neg (by decide)]
      exact tail M (hD.mono (by omega)) Kp.refl
    · rw [if_pos (by cases ns with
        | nil => exact absurd rfl hne
        | cons x r => rfl)]
      refine rCmp_i ?_
      dsimp only
      by_cases hm0 : 0 < m
      · rw [if_pos (decide_eq_true hm0)]
        refine use_draw (k := k + 5 * n + 4) hD (by decide) (by decide) fun w M1 hD1 hK1 u0 u1 => rCmp_i ?_
        dsimp only
        by_cases hw : 0 < w
        · rw [if_pos (decide_eq_true hw)]
          refine rLen_seq (fun z e => nomatch e) rfl ?_
          rw [List.length_map]
          have hpos : 0 < ns.length := List.length_pos_iff.mpr hne
          refine use_draw (k := k + 5 * n + 3) hD1 (by omega) (by omega) fun r M2 hD2 hK2 r0 r1 => ?_
          obtain ⟨x, hx⟩ : ∃ x : Int, ns[r.toNat]? = some x := ⟨_, List.getElem?_eq_getElem (show r.toNat < ns.length by omega)⟩
          have hxi := hns x (List.mem_of_getElem? hx)
          refine rIx_seq (x := .tup _) rfl (d := .int x) (by rw [atI_t _ _ r0, List.getElem?_map, hx]; rfl) (rSub_i ⟨trivial, ?_⟩)
          cases n with
          | zero => omega
          | succ n =>
            refine ⟨a, c, k + 3, .int x, m - 1, rfl, by omega, hD2.mono (by omega), .inl ⟨x, rfl, by omega, by omega⟩, fun d M3 hD3 hK3 _ fd' => ?_⟩
            have fd := fd' x rfl
            simp only [rSl]
            refine ⟨by decide, rAdd_t (by have := cut_len (ns.map D.int) none (some r); rw [List.length_map] at *; simp; omega) (rAdd_i ?_)⟩
            dsimp only
            refine rAdd_t (by have h1 := cut_len (ns.map D.int) none (some r); have h2 := cut_len (ns.map D.int) (some (r + 1)) none; rw [List.length_map] at *; simp; omega) ?_
            refine h _ _ (hD3.mono (by omega)) (((hK1.trans hK2).trans hK3)) ?_ fun i e => by cases e
            obtain ⟨g1, n1⟩ := (A.cut none (some r)).flL (n' := 3) (w' := 40000) (by decide) 20 (by have := cut_len (ns.map D.int) none (some r); rw [List.length_map] at *; omega) (by decide)
            obtain ⟨g2, n2⟩ := (A.cut (some (r + 1)) none).flL (n' := 3) (w' := 38500) (by decide) 20 (by have := cut_len (ns.map D.int) (some (r + 1)) none; rw [List.length_map] at *; omega) (by decide)
            exact fineB_mono (FL.tup ((g1.app (FL.one fd) (.inl n1)).app g2 (.inr n2))) (by decide) (by decide)
        · rw [if_neg (by simpa using hw)]
          exact tail M1 (hD1.mono (by omega)) hK1
      · rw [if_neg (by simpa using hm0)]
        exact tail M (hD.mono (by omega)) Kp.refl
end DL

namespace DL
open PySem PySem.Spec PyProof.Rows L2

/-- fine, and no long tuple -/
structure Ok8 (d : D) : Prop where
  f : fineB d 8 100000 = true
theorem wts_len : ∀ xs : List D, 2 * xs.length ≤ wts xs
  | [] => Nat.le_refl _
  | x :: xs => by rw [List.length_cons, wts]; have := wts_len xs; omega
theorem wts_len5 : ∀ xs : List D, 4 * xs.length ≤ wts xs
  | [] => Nat.le_refl _
  | x :: xs => by
    rw [List.length_cons, wts]
    have := wts_len5 xs
    have h : 2 ≤ wt x := by cases x <;> simp only [wt] <;> omega
    omega
theorem tup_len {xs : List D} {n w : Nat} (h : fineB (.tup xs) n w = true) : 4 * xs.length ≤ w := by
  unfold fineB at h
  simp only [Bool.and_eq_true, decide_eq_true_eq] at h
  have h1 := h.1.2
  simp only [wt] at h1
  have := wts_len5 xs
  omega
def sp_law_k08 : DSp := fun ds M Φ _ => ∃ ns : List Int, ds = [.scr ns] ∧ ∀ M', Φ (.bl true) M'
def t_law_k08 : DS := (sSeq (sAsg (dCall 1 sp_law_deck_v2 (dCons (dVar 0) dNil)) (.nm 1)) (sSeq (sFor (dRng1 (dC (.int 14))) (.nm 2) (sSeq (sAsg (dTup (dCons (dOp rAdd (dC (.int 2)) (dCall 2 sp_law_draw_v2 (dCons (dVar 1) (dCons (dC (.int 9)) dNil)))) (dCons (dOp rIx (dLst (dCons (dC (.int 2)) (dCons (dC (.int 501)) dNil))) (dCall 2 sp_law_draw_v2 (dCons (dVar 1) (dCons (dC (.int 2)) dNil)))) dNil))) (.tp [(.nm 3), (.nm 4)])) (sSeq (sAsg (dFn rTuple (dCons (dLc (dRng1 (dVar 3)) (.nm 12) [12] dYes (dCall 2 sp_law_draw_v2 (dCons (dVar 1) (dCons (dVar 4) dNil)))) dNil)) (.nm 5)) (sSeq (sAsg (dCall 2 sp_law_draw_v2 (dCons (dVar 1) (dCons (dVar 3) dNil))) (.nm 6)) (sSeq (sAsg (dLstM (dCons (dVar 5) (dCons (dSl (dVar 5) (dPart (dC (.int 1))) dNoPart) (dCons (dOp rAdd (dVar 5) (dTup (dCons (dC (.int 0)) dNil))) (dCons (dFn rList (dCons (dVar 5) dNil)) (dCons (dRev (dVar 5)) (dCons (dOp rMul (dTup (dCons (dC (.int 500)) dNil)) (dVar 3)) (dCons (dTup dNil) (dCons (dC .non) (dCons (dCall 1 sp_law_odd_v2 (dCons (dVar 1) dNil)) dNil)))))))))) (.nm 7)) (sSeq (sFor (dSeq (dLst (dCons (dC (.int 500)) (dCons (dC (.int 501)) (dCons (dUn rNeg (dC (.int 1))) (dCons (dC (.bl true)) (dCons (dC (.bl false)) (dCons (dC .non) (dCons (dC (.str "0")) (dCons (dTup (dCons (dC (.int 0)) dNil)) (dCons (dOp rPow (dC (.int 10)) (dC (.int 39))) dNil))))))))))) (.nm 8) (sSeq (sDrop (dMt rApp (dVar 7) (dCons (dOp rAdd (dOp rAdd (dSl (dVar 5) dNoPart (dPart (dVar 6))) (dTup (dCons (dVar 8) dNil))) (dSl (dVar 5) (dPart (dOp rAdd (dVar 6) (dC (.int 1)))) dNoPart)) dNil))) sNext)) (sSeq (sFor (dSeq (dOp rAdd (dVar 7) (dLc (dRng1 (dC (.int 6))) (.nm 13) [13] dYes (dCall 3 sp_law_replaced (dCons (dVar 1) (dCons (dVar 5) (dCons (dC (.int 2)) dNil))))))) (.nm 9) (sSeq (sFor (dSeq (dLst (dCons (dVar 3) (dCons (dOp rAdd (dC (.int 2)) (dCall 2 sp_law_draw_v2 (dCons (dVar 1) (dCons (dC (.int 9)) dNil)))) dNil)))) (.nm 10) (sSeq (sAsg (dFn rRepr (dCons (dVar 9) dNil)) (.nm 11)) (sSeq (sIf (dOr (dTest (dOp rNe (dFn rRepr (dCons (dCall 2 sp_are_wants (dCons (dVar 10) (dCons (dVar 9) dNil))) dNil)) (dFn rRepr (dCons (dCall 2 sp_law_are_wants (dCons (dVar 10) (dCons (dVar 9) dNil))) dNil)))) (dTest (dOp rNe (dFn rRepr (dCons (dVar 9) dNil)) (dVar 11)))) (sSeq (sRet (dC (.bl false))) sNext) sNext) sNext))) sNext)) sNext))))))) (sSeq (sRet (dOp (rIs false) (dCall 2 sp_are_wants (dCons (dC (.int 2)) (dCons (dTup (dCons (dC (.int 0)) (dCons (dC (.int 500)) dNil))) dNil))) (dC (.bl true)))) sNext)))
def t_law_k08_r1 : DS := (sSeq (sFor (dRng1 (dC (.int 14))) (.nm 2) (sSeq (sAsg (dTup (dCons (dOp rAdd (dC (.int 2)) (dCall 2 sp_law_draw_v2 (dCons (dVar 1) (dCons (dC (.int 9)) dNil)))) (dCons (dOp rIx (dLst (dCons (dC (.int 2)) (dCons (dC (.int 501)) dNil))) (dCall 2 sp_law_draw_v2 (dCons (dVar 1) (dCons (dC (.int 2)) dNil)))) dNil))) (.tp [(.nm 3), (.nm 4)])) (sSeq (sAsg (dFn rTuple (dCons (dLc (dRng1 (dVar 3)) (.nm 12) [12] dYes (dCall 2 sp_law_draw_v2 (dCons (dVar 1) (dCons (dVar 4) dNil)))) dNil)) (.nm 5)) (sSeq (sAsg (dCall 2 sp_law_draw_v2 (dCons (dVar 1) (dCons (dVar 3) dNil))) (.nm 6)) (sSeq (sAsg (dLstM (dCons (dVar 5) (dCons (dSl (dVar 5) (dPart (dC (.int 1))) dNoPart) (dCons (dOp rAdd (dVar 5) (dTup (dCons (dC (.int 0)) dNil))) (dCons (dFn rList (dCons (dVar 5) dNil)) (dCons (dRev (dVar 5)) (dCons (dOp rMul (dTup (dCons (dC (.int 500)) dNil)) (dVar 3)) (dCons (dTup dNil) (dCons (dC .non) (dCons (dCall 1 sp_law_odd_v2 (dCons (dVar 1) dNil)) dNil)))))))))) (.nm 7)) (sSeq (sFor (dSeq (dLst (dCons (dC (.int 500)) (dCons (dC (.int 501)) (dCons (dUn rNeg (dC (.int 1))) (dCons (dC (.bl true)) (dCons (dC (.bl false)) (dCons (dC .non) (dCons (dC (.str "0")) (dCons (dTup (dCons (dC (.int 0)) dNil)) (dCons (dOp rPow (dC (.int 10)) (dC (.int 39))) dNil))))))))))) (.nm 8) (sSeq (sDrop (dMt rApp (dVar 7) (dCons (dOp rAdd (dOp rAdd (dSl (dVar 5) dNoPart (dPart (dVar 6))) (dTup (dCons (dVar 8) dNil))) (dSl (dVar 5) (dPart (dOp rAdd (dVar 6) (dC (.int 1)))) dNoPart)) dNil))) sNext)) (sSeq (sFor (dSeq (dOp rAdd (dVar 7) (dLc (dRng1 (dC (.int 6))) (.nm 13) [13] dYes (dCall 3 sp_law_replaced (dCons (dVar 1) (dCons (dVar 5) (dCons (dC (.int 2)) dNil))))))) (.nm 9) (sSeq (sFor (dSeq (dLst (dCons (dVar 3) (dCons (dOp rAdd (dC (.int 2)) (dCall 2 sp_law_draw_v2 (dCons (dVar 1) (dCons (dC (.int 9)) dNil)))) dNil)))) (.nm 10) (sSeq (sAsg (dFn rRepr (dCons (dVar 9) dNil)) (.nm 11)) (sSeq (sIf (dOr (dTest (dOp rNe (dFn rRepr (dCons (dCall 2 sp_are_wants (dCons (dVar 10) (dCons (dVar 9) dNil))) dNil)) (dFn rRepr (dCons (dCall 2 sp_law_are_wants (dCons (dVar 10) (dCons (dVar 9) dNil))) dNil)))) (dTest (dOp rNe (dFn rRepr (dCons (dVar 9) dNil)) (dVar 11)))) (sSeq (sRet (dC (.bl false))) sNext) sNext) sNext))) sNext)) sNext))))))) (sSeq (sRet (dOp (rIs false) (dCall 2 sp_are_wants (dCons (dC (.int 2)) (dCons (dTup (dCons (dC (.int 0)) (dCons (dC (.int 500)) dNil))) dNil))) (dC (.bl true)))) sNext))
theorem p_law_k08 (ds : List D) (M : MS) (Φ : DQ) (h : sp_law_k08 ds M Φ noX) : t_law_k08 { nx := fun _ M' => Φ .non M', rt := Φ } (startD 14 ds) M := by
  obtain ⟨ns, rfl, h⟩ := h
  simp only [t_law_k08, sSeq, sRet, sRetN, sNext, sIf, sAsg, sPar, sPar3, sSetI, sAug, sAugI, sDrop, sBreak, sCont, dOp, dUn, dCons, dNil, dFn, dC, dTup, dLst, dLstM, dIf, dTest, dTru, dAnd, dOr, dNot, dAndV, dOrV, dNotE, dChain, dSl, dNoPart, dPart, dSeq, dEnum, dZip, dRng1, dRng2, dYes, dCall, dMt, dVar, dDic0, dDic1, Pat.put, Pat.puts, List.getElem?_cons_zero, List.getElem?_cons_succ, List.set_cons_zero, List.set_cons_succ, startD, List.map_cons, List.map_nil, List.cons_append, List.nil_append, List.length_cons, List.length_nil, List.replicate_succ, List.replicate_zero, Nat.reduceSub, Nat.reduceAdd, Nat.zero_add, wipeD, keyD]
  refine ⟨trivial, ns, rfl, fun a c M0 _ _ hD0 _ => ?_⟩
  simp only [sFor, dRng1, dC]
  refine ⟨by decide, by decide, ?_⟩
  refine forW_inv (fun ds ρ M => (∃ r2 r3 r4 r5 r6 r7 r8 r9 r10 r11 r12 r13, ρ = [some (.scr ns), some (.ref a), r2, r3, r4, r5, r6, r7, r8, r9, r10, r11, r12, r13]) ∧ Dk M a c (300 * ds.length) ∧ ∀ d ∈ ds, ∃ i : Int, d = .int i ∧ 0 ≤ i) (fun _ _ _ _ => trivial) (fun ρ M' q => ?_) (fun d ds ρ M' Nx q nx => ?_) _ _ _
    ⟨⟨_, _, _, _, _, _, _, _, _, _, _, _, rfl⟩, hD0.mono (by rw [rangeD_length]; decide), fun d hd => by obtain ⟨i, e, h1, h2⟩ := rangeD_mem hd; exact ⟨i, e, h1⟩⟩
  · obtain ⟨⟨r2, r3, r4, r5, r6, r7, r8, r9, r10, r11, r12, r13, rfl⟩, hD, _⟩ := q
    simp only [sSeq, sRet, sRetN, sNext, sIf, sAsg, sPar, sPar3, sSetI, sAug, sAugI, sDrop, sBreak, sCont, dOp, dUn, dCons, dNil, dFn, dC, dTup, dLst, dLstM, dIf, dTest, dTru, dAnd, dOr, dNot, dAndV, dOrV, dNotE, dChain, dSl, dNoPart, dPart, dSeq, dEnum, dZip, dRng1, dRng2, dYes, dCall, dMt, dVar, dDic0, dDic1, Pat.put, Pat.puts, List.getElem?_cons_zero, List.getElem?_cons_succ, List.set_cons_zero, List.set_cons_succ, startD, List.map_cons, List.map_nil, List.cons_append, List.nil_append, List.length_cons, List.length_nil, List.replicate_succ, List.replicate_zero, Nat.reduceSub, Nat.reduceAdd, Nat.zero_add, wipeD, keyD]
    refine ⟨by decide, trivial, 2, _, rfl, by decide, fun xs e => by cases e; decide, ?_⟩
    rw [show areU 2 (.tup [.int 0, .int 500]) = true by decide]
    simp only [rIs, Bool.false_eq_true, if_false]
    exact h M'
  obtain ⟨⟨r2, r3, r4, r5, r6, r7, r8, r9, r10, r11, r12, r13, rfl⟩, hD, hds⟩ := q
  obtain ⟨i, rfl, hi0⟩ := hds d (List.mem_cons_self ..)
  refine ⟨_, rfl, ?_⟩
  simp only [sSeq, sRet, sRetN, sNext, sIf, sAsg, sPar, sPar3, sSetI, sAug, sAugI, sDrop, sBreak, sCont, dOp, dUn, dCons, dNil, dFn, dC, dTup, dLst, dLstM, dIf, dTest, dTru, dAnd, dOr, dNot, dAndV, dOrV, dNotE, dChain, dSl, dNoPart, dPart, dSeq, dEnum, dZip, dRng1, dRng2, dYes, dCall, dMt, dVar, dDic0, dDic1, Pat.put, Pat.puts, List.getElem?_cons_zero, List.getElem?_cons_succ, List.set_cons_zero, List.set_cons_succ, startD, List.map_cons, List.map_nil, List.cons_append, List.nil_append, List.length_cons, List.length_nil, List.replicate_succ, List.replicate_zero, Nat.reduceSub, Nat.reduceAdd, Nat.zero_add, wipeD, keyD]
  have hD' : Dk M' a c (300 * ds.length + 299 + 1) := hD.mono (by rw [List.length_cons]; omega)
  refine use_draw hD' (by decide) (by decide) fun s0 M1 hD1 hK1 u0 u1 => rAdd_i ⟨by decide, ?_⟩
  refine use_draw (k := 300 * ds.length + 298) hD1 (by decide) (by decide) fun r2' M2 hD2 hK2 v0 v1 => ?_
  obtain ⟨top, et, t0, t1⟩ : ∃ m : Int, atI [D.int 2, D.int 501] r2' = some (.int m) ∧ 2 ≤ m ∧ m ≤ 501 := by
    have hr : r2' = 0 ∨ r2' = 1 := by omega
    rcases hr with rfl | rfl
    · exact ⟨2, by rw [at0]; rfl, by decide, by decide⟩
    · exact ⟨501, by rw [at1]; rfl, by decide, by decide⟩
  refine rIx_seq (x := .lst _) rfl et ⟨by decide, ?_⟩
  simp only [dLc, sSeq, sRet, sRetN, sNext, sIf, sAsg, sPar, sPar3, sSetI, sAug, sAugI, sDrop, sBreak, sCont, dOp, dUn, dCons, dNil, dFn, dC, dTup, dLst, dLstM, dIf, dTest, dTru, dAnd, dOr, dNot, dAndV, dOrV, dNotE, dChain, dSl, dNoPart, dPart, dSeq, dEnum, dZip, dRng1, dRng2, dYes, dCall, dMt, dVar, dDic0, dDic1, Pat.put, Pat.puts, List.getElem?_cons_zero, List.getElem?_cons_succ, List.set_cons_zero, List.set_cons_succ, startD, List.map_cons, List.map_nil, List.cons_append, List.nil_append, List.length_cons, List.length_nil, List.replicate_succ, List.replicate_zero, Nat.reduceSub, Nat.reduceAdd, Nat.zero_add, wipeD, keyD]
  refine ⟨by omega, by omega, ?_⟩
  refine lcW_inv (fun ds' acc M3 => ∃ vs : List Int, acc = vs.map D.int ∧ Dk M3 a c (300 * ds.length + 270 + ds'.length) ∧ intsIn vs 1000 ∧ vs.length + ds'.length = (2 + s0).toNat) (fun _ _ _ _ => trivial) (fun acc M3 q => ?_) (fun d' ds' acc M3 Nx3 q nx3 => ?_) _ _ _
    ⟨[], rfl, hD2.mono (by rw [rangeD_length]; omega), fun _ z => absurd z List.not_mem_nil, by rw [rangeD_length]; simp⟩
  · obtain ⟨ws, rfl, q1, q2, q3⟩ := q
    have q3' : ws.length = (2 + s0).toNat := by simpa using q3
    simp only [rTuple, seqA]
    refine use_draw (k := 300 * ds.length + 269) (q1.mono (by simp)) (by omega) (by omega) fun spot M4 hD4 hK4 w0 w1 => ?_
    have A : AllF (ws.map D.int) 0 1921 := fun x hx => by
      obtain ⟨s, hs, rfl⟩ := List.mem_map.mp hx
      have := q2 s hs
      exact allF_int (by omega) (by omega)
    have hl : (ws.map D.int).length ≤ 20 := by rw [List.length_map]; omega
    have cl := fun lo hi => Nat.le_trans (cut_len (ws.map D.int) lo hi) hl
    have cf : ∀ lo hi, FL (cutD (ws.map D.int) lo hi) 3 39000 ∧ Ne (cutD (ws.map D.int) lo hi) := fun lo hi => (A.cut lo hi).flL (by decide) 20 (cl lo hi) (by decide)
    obtain ⟨f0, m0⟩ := A.flL (n' := 3) (w' := 39000) (by decide) 20 hl (by decide)
    obtain ⟨f1, _⟩ := (A.sub (ys := (ws.map D.int).reverse) fun y hy => List.mem_reverse.mp hy).flL (n' := 3) (w' := 39000) (by decide) 20 (by rw [List.length_reverse]; exact hl) (by decide)
    have A5 : AllF (List.replicate (2 + s0).toNat [D.int 500]).flatten 0 1921 := fun x hx => by
      have := flat_sub x hx
      rw [List.mem_singleton.mp this]
      exact allF_int (by decide) (by decide)
    obtain ⟨f5, _⟩ := A5.flL (n' := 3) (w' := 39000) (by decide) 20 (by rw [flat_replicate1, List.length_replicate]; omega) (by decide)
    have mid : ∀ {v : D}, fineB v 3 10000 = true → fineB (.tup (cutD (ws.map D.int) none (some spot) ++ [v] ++ cutD (ws.map D.int) (some (spot + 1)) none)) 8 100000 = true := fun {v} hv => by
      obtain ⟨g1, n1⟩ := cf none (some spot)
      obtain ⟨g2, n2⟩ := cf (some (spot + 1)) none
      exact fineB_mono (FL.tup ((g1.app (FL.one hv) (.inl n1)).app g2 (.inr n2))) (by decide) (by decide)
    have midl : ∀ v : D, (cutD (ws.map D.int) none (some spot) ++ [v]).length + (cutD (ws.map D.int) (some (spot + 1)) none).length ≤ 100000 := fun v => by
      have h1 := cl none (some spot)
      have h2 := cl (some (spot + 1)) none
      rw [List.length_append, List.length_cons, List.length_nil]
      omega
    simp only [rSl, rList, dRev, sSeq, sRet, sRetN, sNext, sIf, sAsg, sPar, sPar3, sSetI, sAug, sAugI, sDrop, sBreak, sCont, dOp, dUn, dCons, dNil, dFn, dC, dTup, dLst, dLstM, dIf, dTest, dTru, dAnd, dOr, dNot, dAndV, dOrV, dNotE, dChain, dSl, dNoPart, dPart, dSeq, dEnum, dZip, dRng1, dRng2, dYes, dCall, dMt, dVar, dDic0, dDic1, Pat.put, Pat.puts, List.getElem?_cons_zero, List.getElem?_cons_succ, List.set_cons_zero, List.set_cons_succ, startD, List.map_cons, List.map_nil, List.cons_append, List.nil_append, List.length_cons, List.length_nil, List.replicate_succ, List.replicate_zero, Nat.reduceSub, Nat.reduceAdd, Nat.zero_add, wipeD, keyD, rMul, seqA]
    refine ⟨by decide, rAdd_t (by rw [List.length_cons, List.length_nil]; omega) ⟨by decide, by omega, by omega, by decide, by decide, ?_⟩⟩
    refine use_odd2 (k := 300 * ds.length + 268) hD4 fun odd M5 hD5 hK5 fo => ⟨by decide, fun p hp => ?_⟩
    have pa := hD5.a_ne hp
    have pc := hD5.c_ne hp
    generalize hL : ([.tup (ws.map D.int), .tup (cutD (ws.map D.int) (some 1) none), .tup (ws.map D.int ++ [.int 0]), .lst (ws.map D.int), .tup (ws.map D.int).reverse, .tup (List.replicate (2 + s0).toNat [D.int 500]).flatten, .tup [], .non, odd] : List D) = L
    have hLl : L.length = 9 := by rw [← hL]; rfl
    have hLf : ∀ d ∈ L, fineB d 8 100000 = true := fun d hd => by
      rw [← hL] at hd
      simp only [List.mem_cons, List.not_mem_nil, or_false] at hd
      rcases hd with rfl | rfl | rfl | rfl | rfl | rfl | rfl | rfl | rfl
      · exact fineB_mono (FL.tup f0) (by decide) (by decide)
      · exact fineB_mono (FL.tup (cf (some 1) none).1) (by decide) (by decide)
      · exact fineB_mono (FL.tup (f0.app (FL.one (x := D.int 0) (n := 3) (w := 1921) (by decide +kernel)) (.inl m0))) (by decide) (by decide)
      · exact fineB_mono (FL.lst f0 m0.nd) (by decide) (by decide)
      · exact fineB_mono (FL.tup f1) (by decide) (by decide)
      · exact fineB_mono (FL.tup f5) (by decide) (by decide)
      · decide +kernel
      · decide +kernel
      · exact fineB_mono fo (by decide) (by decide)
    simp only [sFor, sSeq, sRet, sRetN, sNext, sIf, sAsg, sPar, sPar3, sSetI, sAug, sAugI, sDrop, sBreak, sCont, dOp, dUn, dCons, dNil, dFn, dC, dTup, dLst, dLstM, dIf, dTest, dTru, dAnd, dOr, dNot, dAndV, dOrV, dNotE, dChain, dSl, dNoPart, dPart, dSeq, dEnum, dZip, dRng1, dRng2, dYes, dCall, dMt, dVar, dDic0, dDic1, Pat.put, Pat.puts, List.getElem?_cons_zero, List.getElem?_cons_succ, List.set_cons_zero, List.set_cons_succ, startD, List.map_cons, List.map_nil, List.cons_append, List.nil_append, List.length_cons, List.length_nil, List.replicate_succ, List.replicate_zero, Nat.reduceSub, Nat.reduceAdd, Nat.zero_add, wipeD, keyD, seqA]
    refine rNeg_i ⟨by decide, rPow_i ⟨by decide, by decide, by decide⟩ ⟨by decide, ?_⟩⟩
    refine forW_inv (fun ds' ρ M6 => ∃ (L' : List D) (r8 r9 r10 r11 r12 r13 : Option D), ρ = [some (.scr ns), some (.ref a), some (.int i), some (.int (2 + s0)), some (.int top), some (.tup (ws.map D.int)), some (.int spot), some (.ref p), r8, r9, r10, r11, r12, r13] ∧ M6.map p = some (.lst L') ∧ (∀ d ∈ L', fineB d 8 100000 = true) ∧ L'.length + ds'.length = 18 ∧ Dk M6 a c (300 * ds.length + 268) ∧ ∀ d ∈ ds', fineB d 3 10000 = true)
      (fun _ _ _ _ => trivial) (fun ρ M6 q => ?_) (fun d' ds' ρ M6 Nx6 q nx6 => ?_) _ _ _ ⟨L, _, _, _, _, _, _, rfl, MS.put_same, hLf, by rw [hLl]; rfl, hD5.put pa pc, by decide +kernel⟩
    · obtain ⟨L', r8, r9, r10, r11, r12, r13, rfl, e1, e2, e3, e4, _⟩ := q
      have e3' : L'.length = 18 := by simpa using e3
      simp only [sSeq, sRet, sRetN, sNext, sIf, sAsg, sPar, sPar3, sSetI, sAug, sAugI, sDrop, sBreak, sCont, dOp, dUn, dCons, dNil, dFn, dC, dTup, dLst, dLstM, dIf, dTest, dTru, dAnd, dOr, dNot, dAndV, dOrV, dNotE, dChain, dSl, dNoPart, dPart, dSeq, dEnum, dZip, dRng1, dRng2, dYes, dCall, dMt, dVar, dDic0, dDic1, Pat.put, Pat.puts, List.getElem?_cons_zero, List.getElem?_cons_succ, List.set_cons_zero, List.set_cons_succ, startD, List.map_cons, List.map_nil, List.cons_append, List.nil_append, List.length_cons, List.length_nil, List.replicate_succ, List.replicate_zero, Nat.reduceSub, Nat.reduceAdd, Nat.zero_add, wipeD, keyD, sFor, dLc]
      refine ⟨by decide, by decide, ?_⟩
      refine lcW_inv (fun ds7 acc M7 => Dk M7 a c (300 * ds.length + 100 + 15 * ds7.length) ∧ M7.map p = some (.lst L') ∧ acc.length + ds7.length = 6 ∧ ∀ d ∈ acc, fineB d 8 100000 = true) (fun _ _ _ _ => trivial) (fun acc M7 q => ?_) (fun d7 ds7 acc M7 Nx7 q nx7 => ?_) _ _ _
        ⟨e4.mono (by rw [rangeD_length]; show 300 * ds.length + 100 + 90 ≤ _; omega), e1, by rw [rangeD_length]; rfl, fun _ z => by cases z⟩
      · obtain ⟨g1, g2, g3, g4⟩ := q
        have g3' : acc.length = 6 := by simpa using g3
        refine rAdd_r (xs := L') (by simp only [seqL, g2]) rfl (by omega) ?_
        simp only [seqA]
        refine forW_inv (fun ds8 ρ M8 => (∃ r8 r9 r10 r11 r12 r13, ρ = [some (.scr ns), some (.ref a), some (.int i), some (.int (2 + s0)), some (.int top), some (.tup (ws.map D.int)), some (.int spot), some (.ref p), r8, r9, r10, r11, r12, r13]) ∧ Dk M8 a c (300 * ds.length + ds8.length) ∧ ∀ d ∈ ds8, fineB d 8 100000 = true) (fun _ _ _ _ => trivial) (fun ρ M8 q => ?_) (fun d8 ds8 ρ M8 Nx8 q nx8 => ?_) _ _ _
          ⟨⟨_, _, _, _, _, _, rfl⟩, g1.mono (by rw [List.length_append, e3', g3']; simp), fun d hd => by
            rcases List.mem_append.mp hd with z | z
            · exact e2 d z
            · exact g4 d z⟩
        · obtain ⟨⟨r8, r9, r10, r11, r12, r13, rfl⟩, qD, _⟩ := q
          exact nx _ _ ⟨⟨_, _, _, _, _, _, _, _, _, _, _, _, rfl⟩, qD.mono (by simp), fun d hd => hds d (List.mem_cons_of_mem _ hd)⟩
        · obtain ⟨⟨r8, r9, r10, r11, r12, r13, rfl⟩, qD, hf⟩ := q
          have fd := hf d8 (List.mem_cons_self ..)
          have sd := fineB_still fd
          have F := fine_of fd (by decide)
          have hdl : ∀ xs, d8 = .tup xs → xs.length ≤ 30000 := fun xs e => by subst e; have := tup_len fd; omega
          refine ⟨_, rfl, ?_⟩
          simp only [sFor, sSeq, sRet, sRetN, sNext, sIf, sAsg, sPar, sPar3, sSetI, sAug, sAugI, sDrop, sBreak, sCont, dOp, dUn, dCons, dNil, dFn, dC, dTup, dLst, dLstM, dIf, dTest, dTru, dAnd, dOr, dNot, dAndV, dOrV, dNotE, dChain, dSl, dNoPart, dPart, dSeq, dEnum, dZip, dRng1, dRng2, dYes, dCall, dMt, dVar, dDic0, dDic1, Pat.put, Pat.puts, List.getElem?_cons_zero, List.getElem?_cons_succ, List.set_cons_zero, List.set_cons_succ, startD, List.map_cons, List.map_nil, List.cons_append, List.nil_append, List.length_cons, List.length_nil, List.replicate_succ, List.replicate_zero, Nat.reduceSub, Nat.reduceAdd, Nat.zero_add, wipeD, keyD, seqA]
          refine use_draw (k := 300 * ds.length + ds8.length) (qD.mono (by rw [List.length_cons]; omega)) (by decide) (by decide) fun r' M9 hD9 hK9 w0 w1 => rAdd_i ?_
          refine ⟨by decide, ?_⟩
          refine forW_inv (fun ds9 ρ M10 => (∃ r10 r11 r12 r13, ρ = [some (.scr ns), some (.ref a), some (.int i), some (.int (2 + s0)), some (.int top), some (.tup (ws.map D.int)), some (.int spot), some (.ref p), r8, some d8, r10, r11, r12, r13]) ∧ M10 = M9 ∧ ∀ d ∈ ds9, ∃ j : Int, d = .int j) (fun _ _ _ _ => trivial) (fun ρ M10 q => ?_) (fun d9 ds9 ρ M10 Nx10 q nx10 => ?_) _ _ _
            ⟨⟨_, _, _, _, rfl⟩, rfl, fun d hd => by
              simp only [List.mem_cons, List.not_mem_nil, or_false] at hd
              rcases hd with rfl | rfl <;> exact ⟨_, rfl⟩⟩
          · obtain ⟨⟨r10, r11, r12, r13, rfl⟩, rfl, _⟩ := q
            exact nx8 _ _ ⟨⟨_, _, _, _, _, _, rfl⟩, hD9, fun d hd => hf d (List.mem_cons_of_mem _ hd)⟩
          · obtain ⟨⟨r10, r11, r12, r13, rfl⟩, rfl, hj⟩ := q
            obtain ⟨j, rfl⟩ := hj d9 (List.mem_cons_self ..)
            refine ⟨_, rfl, ?_⟩
            simp only [sSeq, sRet, sRetN, sNext, sIf, sAsg, sPar, sPar3, sSetI, sAug, sAugI, sDrop, sBreak, sCont, dOp, dUn, dCons, dNil, dFn, dC, dTup, dLst, dLstM, dIf, dTest, dTru, dAnd, dOr, dNot, dAndV, dOrV, dNotE, dChain, dSl, dNoPart, dPart, dSeq, dEnum, dZip, dRng1, dRng2, dYes, dCall, dMt, dVar, dDic0, dDic1, Pat.put, Pat.puts, List.getElem?_cons_zero, List.getElem?_cons_succ, List.set_cons_zero, List.set_cons_succ, startD, List.map_cons, List.map_nil, List.cons_append, List.nil_append, List.length_cons, List.length_nil, List.replicate_succ, List.replicate_zero, Nat.reduceSub, Nat.reduceAdd, Nat.zero_add, wipeD, keyD]
            refine repr_fine F (by decide) ⟨trivial, j, d8, rfl, sd, hdl, repr_fine (fine_of fineB_bl (by decide)) (by decide) ⟨trivial, j, d8, rfl, sd, hdl, repr_fine (fine_of fineB_bl (by decide)) (by decide) (rNe_s ?_)⟩⟩
            simp only [BEq.rfl, Bool.not_true, Bool.false_eq_true, if_false]
            refine repr_fine F (by decide) (rNe_s ?_)
            simp only [BEq.rfl, Bool.not_true, Bool.false_eq_true, if_false]
            exact nx10 _ _ ⟨⟨_, _, _, _, rfl⟩, rfl, fun d hd => hj d (List.mem_cons_of_mem _ hd)⟩
      · obtain ⟨g1, g2, g3, g4⟩ := q
        have g3' : acc.length + (ds7.length + 1) = 6 := by simpa using g3
        refine ⟨_, rfl, ?_⟩
        simp only [sSeq, sRet, sRetN, sNext, sIf, sAsg, sPar, sPar3, sSetI, sAug, sAugI, sDrop, sBreak, sCont, dOp, dUn, dCons, dNil, dFn, dC, dTup, dLst, dLstM, dIf, dTest, dTru, dAnd, dOr, dNot, dAndV, dOrV, dNotE, dChain, dSl, dNoPart, dPart, dSeq, dEnum, dZip, dRng1, dRng2, dYes, dCall, dMt, dVar, dDic0, dDic1, Pat.put, Pat.puts, List.getElem?_cons_zero, List.getElem?_cons_succ, List.set_cons_zero, List.set_cons_succ, startD, List.map_cons, List.map_nil, List.cons_append, List.nil_append, List.length_cons, List.length_nil, List.replicate_succ, List.replicate_zero, Nat.reduceSub, Nat.reduceAdd, Nat.zero_add, wipeD, keyD, if_true]
        refine ⟨trivial, a, c, 300 * ds.length + 100 + 15 * ds7.length, _, 2, rfl, by decide, g1.mono (by rw [List.length_cons]; omega), .inr ⟨ws, rfl, by rw [List.length_map] at hl; exact hl, q2⟩, fun d M8 hD8 hK8 fd _ => ⟨by omega, nx7 _ _ ⟨hD8, hK8.keep pa pc g2, by simp; omega, fun x hx => ?_⟩⟩⟩
        rcases List.mem_append.mp hx with z | z
        · exact g4 x z
        · rw [List.mem_singleton.mp z]; exact fd
    · obtain ⟨L', r8, r9, r10, r11, r12, r13, rfl, e1, e2, e3, e4, e5⟩ := q
      rw [List.length_cons] at e3
      have fd := e5 d' (List.mem_cons_self ..)
      refine ⟨_, rfl, ?_⟩
      simp only [sSeq, sRet, sRetN, sNext, sIf, sAsg, sPar, sPar3, sSetI, sAug, sAugI, sDrop, sBreak, sCont, dOp, dUn, dCons, dNil, dFn, dC, dTup, dLst, dLstM, dIf, dTest, dTru, dAnd, dOr, dNot, dAndV, dOrV, dNotE, dChain, dSl, dNoPart, dPart, dSeq, dEnum, dZip, dRng1, dRng2, dYes, dCall, dMt, dVar, dDic0, dDic1, Pat.put, Pat.puts, List.getElem?_cons_zero, List.getElem?_cons_succ, List.set_cons_zero, List.set_cons_succ, startD, List.map_cons, List.map_nil, List.cons_append, List.nil_append, List.length_cons, List.length_nil, List.replicate_succ, List.replicate_zero, Nat.reduceSub, Nat.reduceAdd, Nat.zero_add, wipeD, keyD, rSl]
      refine ⟨isL_ref e1, by decide, rAdd_t (by have := cl none (some spot); rw [List.length_cons, List.length_nil]; omega) (rAdd_i ?_)⟩
      dsimp only
      refine rAdd_t (midl d') (rApp_ref e1 (by omega) (nx6 _ _ ⟨L' ++ [.tup (cutD (ws.map D.int) none (some spot) ++ [d'] ++ cutD (ws.map D.int) (some (spot + 1)) none)], _, _, _, _, _, _, rfl, by rw [MS.put_same], fun d hd => ?_, by simp; omega, e4.put pa pc, fun d hd => e5 d (List.mem_cons_of_mem _ hd)⟩))
      rcases List.mem_append.mp hd with z | z
      · exact e2 d z
      · rw [List.mem_singleton.mp z]; exact mid fd
  · obtain ⟨vs, rfl, q1, q2, q3⟩ := q
    have q3' : vs.length + (ds'.length + 1) = (2 + s0).toNat := by simpa using q3
    refine ⟨_, rfl, ?_⟩
    simp only [sSeq, sRet, sRetN, sNext, sIf, sAsg, sPar, sPar3, sSetI, sAug, sAugI, sDrop, sBreak, sCont, dOp, dUn, dCons, dNil, dFn, dC, dTup, dLst, dLstM, dIf, dTest, dTru, dAnd, dOr, dNot, dAndV, dOrV, dNotE, dChain, dSl, dNoPart, dPart, dSeq, dEnum, dZip, dRng1, dRng2, dYes, dCall, dMt, dVar, dDic0, dDic1, Pat.put, Pat.puts, List.getElem?_cons_zero, List.getElem?_cons_succ, List.set_cons_zero, List.set_cons_succ, startD, List.map_cons, List.map_nil, List.cons_append, List.nil_append, List.length_cons, List.length_nil, List.replicate_succ, List.replicate_zero, Nat.reduceSub, Nat.reduceAdd, Nat.zero_add, wipeD, keyD, if_true]
    refine use_draw (k := 300 * ds.length + 270 + ds'.length) (q1.mono (by rw [List.length_cons]; omega)) (by omega) (by omega) fun x M4 hD4 hK4 w0 w1 => ⟨by rw [List.length_map]; omega, nx3 _ _ ⟨vs ++ [x], by simp, hD4, fun y hy => ?_, by simp; omega⟩⟩
    rcases List.mem_append.mp hy with z | z
    · exact q2 y z
    · rw [List.mem_singleton.mp z]; omega
end DL

namespace DL
open PySem PySem.Spec PyProof.Rows L2

/-! ### stages, form, plans judged -/
theorem cut_from (xs : List D) (k : Nat) : cutD xs (some (k : Int)) none = xs.drop k := by
  unfold cutD
  rw [show HT.sIx xs.length 0 (some (k : Int)) = min k xs.length from HT.sIx_nat xs.length 0 k, show HT.sIx xs.length xs.length none = xs.length from HT.sIx_none _ _]
  by_cases h : k ≤ xs.length
  · rw [Nat.min_eq_left h, List.take_of_length_le (by rw [List.length_drop]; omega)]
  · rw [Nat.min_eq_right (by omega), List.drop_eq_nil_of_le (Nat.le_refl _), List.drop_eq_nil_of_le (by omega)]
    exact List.take_nil
theorem cut_to (xs : List D) (k : Nat) : cutD xs none (some (k : Int)) = xs.take k := by
  unfold cutD
  rw [show HT.sIx xs.length 0 none = 0 from HT.sIx_none _ _, show HT.sIx xs.length xs.length (some (k : Int)) = min k xs.length from HT.sIx_nat xs.length xs.length k]
  rw [List.drop_zero, Nat.sub_zero, Nat.min_comm]
  rw [List.take_eq_take_iff]
  omega
def ltD : D → D → Bool
  | .int i, .int j => decide (i < j)
  | _, _ => false
def ltP : D → Bool
  | .tup [x, y] => ltD x y
  | _ => false
def isSt (w : Int × Int) (d : D) : Bool := match d with
  | .tup xs => xs.all (fun x => numD x w.1 (w.2 - 1)) && (zipD xs (xs.drop 1)).all ltP
  | _ => false
theorem zipD_mem : ∀ {xs ys : List D} {d : D}, d ∈ zipD xs ys → ∃ x y, d = .tup [x, y] ∧ x ∈ xs ∧ y ∈ ys
  | [], _, _, h => by simp [zipD] at h
  | _ :: _, [], _, h => by simp [zipD] at h
  | x :: xs, y :: ys, d, h => by
    simp only [zipD, List.mem_cons] at h
    rcases h with rfl | h
    · exact ⟨x, y, rfl, List.mem_cons_self .., List.mem_cons_self ..⟩
    · obtain ⟨a, b, e, h1, h2⟩ := zipD_mem h
      exact ⟨a, b, e, List.mem_cons_of_mem _ h1, List.mem_cons_of_mem _ h2⟩
theorem asc_iff : ∀ (ss : List Nat), (zipD (ss.map fun s => D.int (s : Nat)) ((ss.map fun s => D.int (s : Nat)).drop 1)).all ltP = true ↔ ss.Pairwise (· < ·)
  | [] => by simp [zipD]
  | [a] => by simp [zipD]
  | a :: b :: r => by
    have ih := asc_iff (b :: r)
    simp only [List.map_cons, List.drop_succ_cons, List.drop_zero] at ih ⊢
    rw [zipD, List.all_cons, Bool.and_eq_true, ih, List.pairwise_cons (a := a)]
    have e : ltP (.tup [.int (a : Nat), .int (b : Nat)]) = true ↔ a < b := by
      simp only [ltP, ltD, decide_eq_true_eq]; omega
    rw [e]
    constructor
    · rintro ⟨h, hp⟩
      refine ⟨fun x hx => ?_, hp⟩
      rcases List.mem_cons.mp hx with rfl | hx
      · exact h
      · exact Nat.lt_trans h ((List.pairwise_cons.mp hp).1 x hx)
    · rintro ⟨h, hp⟩
      exact ⟨h b (List.mem_cons_self ..), hp⟩
theorem nums_nat : ∀ {xs : List D} {lo hi : Int}, 0 ≤ lo → xs.all (fun x => numD x lo hi) = true → ∃ ss : List Nat, xs = ss.map (fun s => D.int (s : Nat)) ∧ ∀ s ∈ ss, lo ≤ (s : Int) ∧ (s : Int) ≤ hi
  | [], _, _, _, _ => ⟨[], rfl, fun _ z => absurd z List.not_mem_nil⟩
  | x :: xs, lo, hi, h0, h => by
    rw [List.all_cons, Bool.and_eq_true] at h
    obtain ⟨i, rfl, h1, h2⟩ := numD_int h.1
    obtain ⟨ss, rfl, hs⟩ := nums_nat h0 h.2
    refine ⟨i.toNat :: ss, by rw [List.map_cons, Int.toNat_of_nonneg (by omega)], fun s hm => ?_⟩
    rcases List.mem_cons.mp hm with rfl | hm
    · rw [Int.toNat_of_nonneg (by omega)]; exact ⟨h1, h2⟩
    · exact hs s hm
theorem isSt_iff {w : Int × Int} {d : D} (h0 : 0 ≤ w.1) : isSt w d = true ↔ ∃ ss, d = stD ss ∧ inWay w ss := by
  constructor
  · intro h
    cases d with
    | tup xs =>
      simp only [isSt, Bool.and_eq_true] at h
      obtain ⟨ss, rfl, hs⟩ := nums_nat h0 h.1
      exact ⟨ss, rfl, (asc_iff ss).mp h.2, fun s hm => ⟨(hs s hm).1, by have := (hs s hm).2; omega⟩⟩
    | _ => simp [isSt] at h
  · rintro ⟨ss, rfl, hp, hb⟩
    simp only [isSt, stD, Bool.and_eq_true]
    refine ⟨?_, (asc_iff ss).mpr hp⟩
    rw [List.all_map, List.all_eq_true]
    intro s hs
    have := hb s hs
    simp only [Function.comp, numD, Bool.and_eq_true, decide_eq_true_eq]
    omega
def sp_are_stages : DSp := fun ds M Φ _ => ∃ (w : Int × Int) (d : D), ds = [wayD w, d] ∧ still d = true ∧ (∀ xs, d = .tup xs → xs.length ≤ 100000) ∧ Φ (.bl (isSt w d)) M
def t_are_stages : DS := (sSeq (sAsg (dVar 0) (.tp [(.nm 2), (.nm 3)])) (sSeq (sIf (dOr (dNot (dTru (dFn rIsi (dCons (dVar 1) (dCons (dC (.ty .tuple)) dNil))))) (dNot (dTru (dFn rAll (dCons (dLc (dSeq (dVar 1)) (.nm 6) [6] dYes (dCall 3 sp_is_number (dCons (dVar 6) (dCons (dVar 2) (dCons (dOp rSub (dVar 3) (dC (.int 1))) dNil))))) dNil))))) (sSeq (sRet (dC (.bl false))) sNext) sNext) (sSeq (sRet (dFn rAll (dCons (dLc (dZip (dVar 1) (dSl (dVar 1) (dPart (dC (.int 1))) dNoPart)) (.tp [(.nm 4), (.nm 5)]) [4, 5] dYes (dOp rLt (dVar 4) (dVar 5))) dNil))) sNext)))
theorem p_are_stages (ds : List D) (M : MS) (Φ : DQ) (h : sp_are_stages ds M Φ noX) : t_are_stages { nx := fun _ M' => Φ .non M', rt := Φ } (startD 7 ds) M := by
  obtain ⟨w, d, rfl, hd, hl, q⟩ := h
  simp only [t_are_stages, sSeq, sRet, sRetN, sNext, sIf, sAsg, sPar, sPar3, sSetI, sAug, sAugI, sDrop, sBreak, sCont, dOp, dUn, dCons, dNil, dFn, dC, dTup, dLst, dLstM, dIf, dTest, dTru, dAnd, dOr, dNot, dAndV, dOrV, dNotE, dChain, dSl, dNoPart, dPart, dSeq, dEnum, dZip, dRng1, dRng2, dYes, dCall, dMt, dVar, dDic0, dDic1, Pat.put, Pat.puts, List.getElem?_cons_zero, List.getElem?_cons_succ, List.set_cons_zero, List.set_cons_succ, startD, List.map_cons, List.map_nil, List.cons_append, List.nil_append, List.length_cons, List.length_nil, List.replicate_succ, List.replicate_zero, Nat.reduceSub, Nat.reduceAdd, Nat.zero_add, wipeD, keyD, wayD]
  refine rIsi_tup hd ?_
  simp only [truD]
  cases d with
  | tup xs =>
    have hl := hl xs rfl
    have hs : stills xs = true := by simpa only [still] using hd
    simp only [isTup, Bool.not_true, Bool.false_eq_true, if_false]
    simp only [dLc, sSeq, sRet, sRetN, sNext, sIf, sAsg, sPar, sPar3, sSetI, sAug, sAugI, sDrop, sBreak, sCont, dOp, dUn, dCons, dNil, dFn, dC, dTup, dLst, dLstM, dIf, dTest, dTru, dAnd, dOr, dNot, dAndV, dOrV, dNotE, dChain, dSl, dNoPart, dPart, dSeq, dEnum, dZip, dRng1, dRng2, dYes, dCall, dMt, dVar, dDic0, dDic1, Pat.put, Pat.puts, List.getElem?_cons_zero, List.getElem?_cons_succ, List.set_cons_zero, List.set_cons_succ, startD, List.map_cons, List.map_nil, List.cons_append, List.nil_append, List.length_cons, List.length_nil, List.replicate_succ, List.replicate_zero, Nat.reduceSub, Nat.reduceAdd, Nat.zero_add, wipeD, keyD, seqA]
    refine lcW_map (fun d => some (.bl (numD d w.1 (w.2 - 1)))) xs trivial hl (fun x hx => ⟨_, rfl, fun acc Nx hn k => ?_⟩) ?_
    · simp only [sSeq, sRet, sRetN, sNext, sIf, sAsg, sPar, sPar3, sSetI, sAug, sAugI, sDrop, sBreak, sCont, dOp, dUn, dCons, dNil, dFn, dC, dTup, dLst, dLstM, dIf, dTest, dTru, dAnd, dOr, dNot, dAndV, dOrV, dNotE, dChain, dSl, dNoPart, dPart, dSeq, dEnum, dZip, dRng1, dRng2, dYes, dCall, dMt, dVar, dDic0, dDic1, Pat.put, Pat.puts, List.getElem?_cons_zero, List.getElem?_cons_succ, List.set_cons_zero, List.set_cons_succ, startD, List.map_cons, List.map_nil, List.cons_append, List.nil_append, List.length_cons, List.length_nil, List.replicate_succ, List.replicate_zero, Nat.reduceSub, Nat.reduceAdd, Nat.zero_add, wipeD, keyD, if_true]
      refine rSub_i ⟨trivial, x, w.1, w.2 - 1, rfl, stills_get hs hx, hn, k⟩
    have e : xs.filterMap (fun d => some (D.bl (numD d w.1 (w.2 - 1)))) = (xs.map fun d => numD d w.1 (w.2 - 1)).map D.bl := by
      rw [fm_some, List.map_map]
      rfl
    rw [e]
    simp only [rAll, seqL, Option.bind_some, asBls_map, truD]
    have e2 : (xs.map fun d => numD d w.1 (w.2 - 1)).all id = xs.all fun x => numD x w.1 (w.2 - 1) := by rw [List.all_map]; rfl
    rw [e2]
    simp only [isSt] at q
    by_cases ha : xs.all (fun x => numD x w.1 (w.2 - 1)) = true
    · rw [ha] at q ⊢
      rw [Bool.true_and] at q
      simp only [Bool.not_true, Bool.false_eq_true, if_false, rSl, seqA]
      rw [show cutD xs (some 1) none = xs.drop 1 from cut_from xs 1]
      have hz : ∀ d ∈ zipD xs (xs.drop 1), ∃ i j : Int, d = .tup [.int i, .int j] := fun d hd => by
        obtain ⟨x, y, rfl, hx, hy⟩ := zipD_mem hd
        obtain ⟨i, rfl, _⟩ := numD_int (List.all_eq_true.mp ha x hx)
        obtain ⟨j, rfl, _⟩ := numD_int (List.all_eq_true.mp ha y (List.mem_of_mem_drop hy))
        exact ⟨i, j, rfl⟩
      refine lcW_map (fun d => some (.bl (ltP d))) (zipD xs (xs.drop 1)) ⟨trivial, trivial⟩ (by rw [zipD_length]; omega) (fun d hd => ?_) ?_
      · obtain ⟨i, j, rfl⟩ := hz d hd
        refine ⟨_, rfl, fun acc Nx hn k => ?_⟩
        simp only [sSeq, sRet, sRetN, sNext, sIf, sAsg, sPar, sPar3, sSetI, sAug, sAugI, sDrop, sBreak, sCont, dOp, dUn, dCons, dNil, dFn, dC, dTup, dLst, dLstM, dIf, dTest, dTru, dAnd, dOr, dNot, dAndV, dOrV, dNotE, dChain, dSl, dNoPart, dPart, dSeq, dEnum, dZip, dRng1, dRng2, dYes, dCall, dMt, dVar, dDic0, dDic1, Pat.put, Pat.puts, List.getElem?_cons_zero, List.getElem?_cons_succ, List.set_cons_zero, List.set_cons_succ, startD, List.map_cons, List.map_nil, List.cons_append, List.nil_append, List.length_cons, List.length_nil, List.replicate_succ, List.replicate_zero, Nat.reduceSub, Nat.reduceAdd, Nat.zero_add, wipeD, keyD, if_true]
        exact rCmp_i ⟨hn, k⟩
      have e3 : (zipD xs (xs.drop 1)).filterMap (fun d => some (D.bl (ltP d))) = ((zipD xs (xs.drop 1)).map ltP).map D.bl := by
        rw [fm_some, List.map_map]
        rfl
      rw [e3]
      simp only [asBls_map]
      have e4 : ((zipD xs (xs.drop 1)).map ltP).all id = (zipD xs (xs.drop 1)).all ltP := by rw [List.all_map]; rfl
      rw [e4]
      exact q
    · rw [Bool.eq_false_iff.mpr ha] at q ⊢
      rw [Bool.false_and] at q
      exact q
  | _ => exact q
def isForm (ws : List (Int × Int)) (d : D) : Bool := match d with
  | .tup ps => ps.length == ws.length && (zipD (ws.map wayD) ps).all (fun d => match d with
    | .tup [.tup [.int i, .int j], p] => isSt (i, j) p
    | _ => false)
  | _ => false
theorem zip_st : ∀ {ws : List (Int × Int)} {ps : List D}, ps.length = ws.length → (∀ w ∈ ws, 0 ≤ w.1) → ((zipD (ws.map wayD) ps).all (fun d => match d with
    | .tup [.tup [.int i, .int j], p] => isSt (i, j) p
    | _ => false) = true ↔ ∃ ss : List (List Nat), ps = ss.map stD ∧ ss.length = ws.length ∧ ∀ (i : Nat) (w : Int × Int) (s : List Nat), ws[i]? = some w → ss[i]? = some s → inWay w s)
  | [], [], _, _ => by
    simp only [List.map_nil, zipD, List.all_nil, true_iff]
    exact ⟨[], rfl, rfl, fun i w s h => by simp at h⟩
  | w :: ws, p :: ps, h, h0 => by
    have ih := zip_st (ws := ws) (ps := ps) (by simpa using h) fun x hx => h0 x (List.mem_cons_of_mem _ hx)
    rw [List.map_cons, zipD, List.all_cons, Bool.and_eq_true, ih]
    have e : (match D.tup [wayD w, p] with
      | .tup [.tup [.int i, .int j], p] => isSt (i, j) p
      | _ => false) = isSt w p := rfl
    rw [e, isSt_iff (h0 w (List.mem_cons_self ..))]
    constructor
    · rintro ⟨⟨s, rfl, hs⟩, ss, rfl, hl, hw⟩
      refine ⟨s :: ss, rfl, by simp [hl], fun i w' s' h1 h2 => ?_⟩
      cases i with
      | zero => simp at h1 h2; subst h1 h2; exact hs
      | succ i => exact hw i w' s' (by simpa using h1) (by simpa using h2)
    · rintro ⟨ss, e, hl, hw⟩
      cases ss with
      | nil => cases e
      | cons s ss =>
        rw [List.map_cons] at e
        injection e with e1 e2
        subst e1 e2
        exact ⟨⟨s, rfl, hw 0 w s rfl rfl⟩, ss, rfl, by simpa using hl, fun i w' s' h1 h2 => hw (i + 1) w' s' h1 h2⟩
  | [], _ :: _, h, _ => by simp at h
  | _ :: _, [], h, _ => by simp at h
/-- the form of a plan: for each walker stages of the way -/
def FormOf : List (Int × Int) → List (List Nat) → Prop
  | [], [] => True
  | w :: ws, ss :: ps => inWay w ss ∧ FormOf ws ps
  | _, _ => False
theorem formOf_iff : ∀ {ws : List (Int × Int)} {ss : List (List Nat)}, FormOf ws ss ↔ ss.length = ws.length ∧ ∀ (i : Nat) (w : Int × Int) (s : List Nat), ws[i]? = some w → ss[i]? = some s → inWay w s
  | [], [] => ⟨fun _ => ⟨rfl, fun i w s h => by simp at h⟩, fun _ => trivial⟩
  | w :: ws, s :: ss => by
    rw [FormOf, formOf_iff]
    constructor
    · rintro ⟨h1, h2, h3⟩
      refine ⟨by simp [h2], fun i w' s' e1 e2 => ?_⟩
      cases i with
      | zero => simp at e1 e2; subst e1 e2; exact h1
      | succ i => exact h3 i w' s' (by simpa using e1) (by simpa using e2)
    · rintro ⟨h2, h3⟩
      exact ⟨h3 0 w s rfl rfl, by simpa using h2, fun i w' s' h1 h2 => h3 (i + 1) w' s' h1 h2⟩
  | [], _ :: _ => ⟨fun h => h.elim, fun h => by simp at h⟩
  | _ :: _, [] => ⟨fun h => h.elim, fun h => by simp at h⟩
theorem isForm_iff {ws : List (Int × Int)} {d : D} (h0 : ∀ w ∈ ws, 0 ≤ w.1) : isForm ws d = true ↔ ∃ ss, d = planD ss ∧ FormOf ws ss := by
  constructor
  · intro h
    cases d with
    | tup ps =>
      simp only [isForm, Bool.and_eq_true, beq_iff_eq] at h
      obtain ⟨ss, rfl, hl, hw⟩ := (zip_st h.1 h0).mp h.2
      exact ⟨ss, rfl, formOf_iff.mpr ⟨hl, hw⟩⟩
    | _ => simp [isForm] at h
  · rintro ⟨ss, rfl, hf⟩
    obtain ⟨hl, hw⟩ := formOf_iff.mp hf
    simp only [isForm, planD, Bool.and_eq_true, beq_iff_eq, List.length_map]
    exact ⟨hl, (zip_st (by rw [List.length_map]; exact hl) h0).mpr ⟨ss, rfl, hl, hw⟩⟩
/-- no tuple in it is longer than the limit -/
def wideOk (d : D) : Prop := ∀ ps, d = .tup ps → ∀ p ∈ ps, ∀ xs, p = .tup xs → xs.length ≤ 100000
def sp_is_form : DSp := fun ds M Φ _ => ∃ (ws : List (Int × Int)) (d : D), ds = [.tup (ws.map wayD), d] ∧ still d = true ∧ ws.length ≤ 100000 ∧ wideOk d ∧ Φ (.bl (isForm ws d)) M
def t_is_form : DS := (sSeq (sIf (dOr (dNot (dTru (dFn rIsi (dCons (dVar 1) (dCons (dC (.ty .tuple)) dNil))))) (dTest (dOp rNe (dFn rLen (dCons (dVar 1) dNil)) (dFn rLen (dCons (dVar 0) dNil))))) (sSeq (sRet (dC (.bl false))) sNext) sNext) (sSeq (sRet (dFn rAll (dCons (dLc (dZip (dVar 0) (dVar 1)) (.tp [(.nm 2), (.nm 3)]) [2, 3] dYes (dCall 2 sp_are_stages (dCons (dVar 2) (dCons (dVar 3) dNil)))) dNil))) sNext))
theorem p_is_form (ds : List D) (M : MS) (Φ : DQ) (h : sp_is_form ds M Φ noX) : t_is_form { nx := fun _ M' => Φ .non M', rt := Φ } (startD 4 ds) M := by
  obtain ⟨ws, d, rfl, hd, hl, hwd, q⟩ := h
  simp only [t_is_form, sSeq, sRet, sRetN, sNext, sIf, sAsg, sPar, sPar3, sSetI, sAug, sAugI, sDrop, sBreak, sCont, dOp, dUn, dCons, dNil, dFn, dC, dTup, dLst, dLstM, dIf, dTest, dTru, dAnd, dOr, dNot, dAndV, dOrV, dNotE, dChain, dSl, dNoPart, dPart, dSeq, dEnum, dZip, dRng1, dRng2, dYes, dCall, dMt, dVar, dDic0, dDic1, Pat.put, Pat.puts, List.getElem?_cons_zero, List.getElem?_cons_succ, List.set_cons_zero, List.set_cons_succ, startD, List.map_cons, List.map_nil, List.cons_append, List.nil_append, List.length_cons, List.length_nil, List.replicate_succ, List.replicate_zero, Nat.reduceSub, Nat.reduceAdd, Nat.zero_add, wipeD, keyD]
  refine rIsi_tup hd ?_
  simp only [truD]
  cases d with
  | tup ps =>
    have hwd := hwd ps rfl
    have hs : stills ps = true := by simpa only [still] using hd
    simp only [isTup, Bool.not_true, Bool.false_eq_true, if_false, rLen, seqA, List.length_map]
    refine rNe_i ?_
    dsimp only
    simp only [isForm] at q
    by_cases he : ps.length = ws.length
    · rw [he] at q ⊢
      simp only [BEq.rfl, Bool.true_and] at q
      simp only [BEq.rfl, Bool.not_true, Bool.false_eq_true, if_false, dLc, sSeq, sRet, sRetN, sNext, sIf, sAsg, sPar, sPar3, sSetI, sAug, sAugI, sDrop, sBreak, sCont, dOp, dUn, dCons, dNil, dFn, dC, dTup, dLst, dLstM, dIf, dTest, dTru, dAnd, dOr, dNot, dAndV, dOrV, dNotE, dChain, dSl, dNoPart, dPart, dSeq, dEnum, dZip, dRng1, dRng2, dYes, dCall, dMt, dVar, dDic0, dDic1, Pat.put, Pat.puts, List.getElem?_cons_zero, List.getElem?_cons_succ, List.set_cons_zero, List.set_cons_succ, startD, List.map_cons, List.map_nil, List.cons_append, List.nil_append, List.length_cons, List.length_nil, List.replicate_succ, List.replicate_zero, Nat.reduceSub, Nat.reduceAdd, Nat.zero_add, wipeD, keyD, seqA]
      refine lcW_map (fun d => some (.bl (match d with
        | .tup [.tup [.int i, .int j], p] => isSt (i, j) p
        | _ => false))) (zipD (ws.map wayD) ps) ⟨trivial, trivial⟩ (by rw [zipD_length, List.length_map]; omega) (fun d hd => ?_) ?_
      · obtain ⟨x, y, rfl, hx, hy⟩ := zipD_mem hd
        obtain ⟨w, _, rfl⟩ := List.mem_map.mp hx
        refine ⟨_, rfl, fun acc Nx hn k => ?_⟩
        simp only [sSeq, sRet, sRetN, sNext, sIf, sAsg, sPar, sPar3, sSetI, sAug, sAugI, sDrop, sBreak, sCont, dOp, dUn, dCons, dNil, dFn, dC, dTup, dLst, dLstM, dIf, dTest, dTru, dAnd, dOr, dNot, dAndV, dOrV, dNotE, dChain, dSl, dNoPart, dPart, dSeq, dEnum, dZip, dRng1, dRng2, dYes, dCall, dMt, dVar, dDic0, dDic1, Pat.put, Pat.puts, List.getElem?_cons_zero, List.getElem?_cons_succ, List.set_cons_zero, List.set_cons_succ, startD, List.map_cons, List.map_nil, List.cons_append, List.nil_append, List.length_cons, List.length_nil, List.replicate_succ, List.replicate_zero, Nat.reduceSub, Nat.reduceAdd, Nat.zero_add, wipeD, keyD, if_true]
        exact ⟨trivial, w, y, rfl, stills_get hs hy, hwd y hy, hn, k⟩
      rw [fm_some]
      have e3 : (zipD (ws.map wayD) ps).map (fun d => D.bl (match d with
        | .tup [.tup [.int i, .int j], p] => isSt (i, j) p
        | _ => false)) = ((zipD (ws.map wayD) ps).map fun d => (match d with
        | .tup [.tup [.int i, .int j], p] => isSt (i, j) p
        | _ => false)).map D.bl := by
        rw [List.map_map]
        rfl
      rw [e3]
      simp only [rAll, seqL, Option.bind_some, asBls_map]
      rw [List.all_map]
      exact q
    · have hne : ((ps.length : Nat) : Int) ≠ (ws.length : Nat) := by omega
      have e : (ps.length == ws.length) = false := by simpa using he
      rw [e, Bool.false_and] at q
      have e2 : (((ps.length : Nat) : Int) == ((ws.length : Nat) : Int)) = false := by simpa using hne
      rw [e2]
      exact q
  | _ => exact q
/-- every walker finds a chair -/
def canAll : List Int → List (List Nat) → Bool
  | _, [] => true
  | ns, ss :: ps => (after ns true ss).2 && canAll (after ns true ss).1 ps
theorem planOf_iff : ∀ {ws : List (Int × Int)} {ps : List (List Nat)} {ns : List Int}, PlanOf ns ws ps ↔ FormOf ws ps ∧ canAll ns ps = true
  | [], [], _ => ⟨fun _ => ⟨trivial, rfl⟩, fun _ => trivial⟩
  | w :: ws, s :: ps, ns => by
    rw [PlanOf, FormOf, canAll, planOf_iff, Bool.and_eq_true]
    constructor
    · rintro ⟨a, b, c, d⟩; exact ⟨⟨a, c⟩, b, d⟩
    · rintro ⟨⟨a, c⟩, b, d⟩; exact ⟨a, b, c, d⟩
  | [], _ :: _, _ => ⟨fun h => h.elim, fun h => h.1.elim⟩
  | _ :: _, [], _ => ⟨fun h => h.elim, fun h => h.1.elim⟩
theorem FormOf.st : ∀ {ws : List (Int × Int)} {ps : List (List Nat)} {n : Nat}, FormOf ws ps → waysIn ws (n : Nat) → planStOk n ps
  | [], [], _, _, _ => fun _ h => absurd h List.not_mem_nil
  | w :: ws, ss :: ps, n, h, hw => fun x hx => by
    rcases List.mem_cons.mp hx with rfl | hx
    · intro s hs
      have h1 := h.1.2 s hs
      have h2 := hw w (List.mem_cons_self ..)
      omega
    · exact FormOf.st h.2 (fun y hy => hw y (List.mem_cons_of_mem _ hy)) x hx
  | [], _ :: _, _, h, _ => h.elim
  | _ :: _, [], _, h, _ => h.elim
def sp_is_plan : DSp := fun ds M Φ _ => ∃ (ns : List Int) (ws : List (Int × Int)) (d : D), ds = [.tup (ns.map D.int), .tup (ws.map wayD), d] ∧ waysIn ws (ns.length : Nat) ∧ still d = true ∧ ws.length ≤ 100000 ∧ wideOk d ∧
  ∀ M' b, Ext M M' → (b = true ↔ ∃ ps, d = planD ps ∧ PlanOf ns ws ps) → Φ (.bl b) M'
def t_is_plan : DS := (sSeq (sIf (dNot (dTru (dCall 2 sp_is_form (dCons (dVar 1) (dCons (dVar 2) dNil))))) (sSeq (sRet (dC (.bl false))) sNext) sNext) (sSeq (sAsg (dVar 0) (.nm 3)) (sSeq (sFor (dSeq (dVar 2)) (.nm 4) (sSeq (sAsg (dCall 2 sp_chairs_after (dCons (dVar 3) (dCons (dVar 4) dNil))) (.tp [(.nm 3), (.nm 5)])) (sSeq (sIf (dNot (dTru (dVar 5))) (sSeq (sRet (dC (.bl false))) sNext) sNext) sNext))) (sSeq (sRet (dC (.bl true))) sNext))))
theorem stD_inj : ∀ {a b : List Nat}, stD a = stD b → a = b := fun {a b} h => by
  injection h with h
  induction a generalizing b with
  | nil => cases b with
    | nil => rfl
    | cons _ _ => cases h
  | cons x a ih => cases b with
    | nil => cases h
    | cons y b =>
      rw [List.map_cons, List.map_cons] at h
      injection h with h1 h2
      injection h1 with h1
      rw [ih h2, show x = y by omega]
theorem planD_inj : ∀ {a b : List (List Nat)}, planD a = planD b → a = b := fun {a b} h => by
  injection h with h
  induction a generalizing b with
  | nil => cases b with
    | nil => rfl
    | cons _ _ => cases h
  | cons x a ih => cases b with
    | nil => cases h
    | cons y b =>
      rw [List.map_cons, List.map_cons] at h
      injection h with h1 h2
      rw [ih h2, stD_inj h1]
theorem p_is_plan (ds : List D) (M : MS) (Φ : DQ) (h : sp_is_plan ds M Φ noX) : t_is_plan { nx := fun _ M' => Φ .non M', rt := Φ } (startD 6 ds) M := by
  obtain ⟨ns, ws, d, rfl, hw, hd, hl, hwd, q⟩ := h
  have h0 : ∀ w ∈ ws, 0 ≤ w.1 := fun w hm => (hw w hm).1
  simp only [t_is_plan, sSeq, sRet, sRetN, sNext, sIf, sAsg, sPar, sPar3, sSetI, sAug, sAugI, sDrop, sBreak, sCont, dOp, dUn, dCons, dNil, dFn, dC, dTup, dLst, dLstM, dIf, dTest, dTru, dAnd, dOr, dNot, dAndV, dOrV, dNotE, dChain, dSl, dNoPart, dPart, dSeq, dEnum, dZip, dRng1, dRng2, dYes, dCall, dMt, dVar, dDic0, dDic1, Pat.put, Pat.puts, List.getElem?_cons_zero, List.getElem?_cons_succ, List.set_cons_zero, List.set_cons_succ, startD, List.map_cons, List.map_nil, List.cons_append, List.nil_append, List.length_cons, List.length_nil, List.replicate_succ, List.replicate_zero, Nat.reduceSub, Nat.reduceAdd, Nat.zero_add, wipeD, keyD]
  refine ⟨trivial, ws, d, rfl, hd, hl, hwd, ?_⟩
  simp only [truD]
  by_cases hf : isForm ws d = true
  · rw [hf]
    obtain ⟨ps, rfl, hfo⟩ := (isForm_iff h0).mp hf
    have hst := hfo.st hw
    have qq : ∀ M' b, Ext M M' → b = canAll ns ps → Φ (.bl b) M' := fun M' b hx hb => by
      refine q M' b hx ?_
      rw [hb]
      constructor
      · intro hc; exact ⟨ps, rfl, planOf_iff.mpr ⟨hfo, hc⟩⟩
      · rintro ⟨ps', e, hp⟩
        rw [planD_inj e]
        exact (planOf_iff.mp hp).2
    simp only [Bool.not_true, Bool.false_eq_true, if_false, sFor, sSeq, sRet, sRetN, sNext, sIf, sAsg, sPar, sPar3, sSetI, sAug, sAugI, sDrop, sBreak, sCont, dOp, dUn, dCons, dNil, dFn, dC, dTup, dLst, dLstM, dIf, dTest, dTru, dAnd, dOr, dNot, dAndV, dOrV, dNotE, dChain, dSl, dNoPart, dPart, dSeq, dEnum, dZip, dRng1, dRng2, dYes, dCall, dMt, dVar, dDic0, dDic1, Pat.put, Pat.puts, List.getElem?_cons_zero, List.getElem?_cons_succ, List.set_cons_zero, List.set_cons_succ, startD, List.map_cons, List.map_nil, List.cons_append, List.nil_append, List.length_cons, List.length_nil, List.replicate_succ, List.replicate_zero, Nat.reduceSub, Nat.reduceAdd, Nat.zero_add, wipeD, keyD, planD, seqA]
    refine forW_inv (fun ds' ρ M' => ∃ (ms : List Int) (rest : List (List Nat)) (r4 r5 : Option D), ρ = [some (.tup (ns.map D.int)), some (.tup (ws.map wayD)), some (.tup (ps.map stD)), some (.tup (ms.map D.int)), r4, r5] ∧ ds' = rest.map stD ∧ ms.length = ns.length ∧ Ext M M' ∧ planStOk ns.length rest ∧ canAll ms rest = canAll ns ps)
      (fun _ _ _ _ => trivial) (fun ρ M' q => ?_) (fun d ds' ρ M' Nx q nx => ?_) _ _ _ ⟨ns, ps, none, none, rfl, rfl, rfl, Ext.refl, hst, rfl⟩
    · obtain ⟨ms, rest, r4, r5, rfl, e, q2, q3, q4, q5⟩ := q
      obtain rfl : rest = [] := by
        cases rest with
        | nil => rfl
        | cons _ _ => cases e
      simp only [sSeq, sRet, sRetN, sNext, sIf, sAsg, sPar, sPar3, sSetI, sAug, sAugI, sDrop, sBreak, sCont, dOp, dUn, dCons, dNil, dFn, dC, dTup, dLst, dLstM, dIf, dTest, dTru, dAnd, dOr, dNot, dAndV, dOrV, dNotE, dChain, dSl, dNoPart, dPart, dSeq, dEnum, dZip, dRng1, dRng2, dYes, dCall, dMt, dVar, dDic0, dDic1, Pat.put, Pat.puts, List.getElem?_cons_zero, List.getElem?_cons_succ, List.set_cons_zero, List.set_cons_succ, startD, List.map_cons, List.map_nil, List.cons_append, List.nil_append, List.length_cons, List.length_nil, List.replicate_succ, List.replicate_zero, Nat.reduceSub, Nat.reduceAdd, Nat.zero_add, wipeD, keyD]
      exact qq M' _ q3 (by rw [← q5]; rfl)
    · obtain ⟨ms, rest, r4, r5, rfl, e, q2, q3, q4, q5⟩ := q
      cases rest with
      | nil => cases e
      | cons s rest =>
        rw [List.map_cons] at e
        injection e with e1 e2
        subst e1 e2
        refine ⟨_, rfl, ?_⟩
        simp only [sSeq, sRet, sRetN, sNext, sIf, sAsg, sPar, sPar3, sSetI, sAug, sAugI, sDrop, sBreak, sCont, dOp, dUn, dCons, dNil, dFn, dC, dTup, dLst, dLstM, dIf, dTest, dTru, dAnd, dOr, dNot, dAndV, dOrV, dNotE, dChain, dSl, dNoPart, dPart, dSeq, dEnum, dZip, dRng1, dRng2, dYes, dCall, dMt, dVar, dDic0, dDic1, Pat.put, Pat.puts, List.getElem?_cons_zero, List.getElem?_cons_succ, List.set_cons_zero, List.set_cons_succ, startD, List.map_cons, List.map_nil, List.cons_append, List.nil_append, List.length_cons, List.length_nil, List.replicate_succ, List.replicate_zero, Nat.reduceSub, Nat.reduceAdd, Nat.zero_add, wipeD, keyD]
        refine ⟨trivial, ms, s, rfl, by rw [q2]; exact q4 s (List.mem_cons_self ..), fun M6 x6 => ?_⟩
        simp only [sSeq, sRet, sRetN, sNext, sIf, sAsg, sPar, sPar3, sSetI, sAug, sAugI, sDrop, sBreak, sCont, dOp, dUn, dCons, dNil, dFn, dC, dTup, dLst, dLstM, dIf, dTest, dTru, dAnd, dOr, dNot, dAndV, dOrV, dNotE, dChain, dSl, dNoPart, dPart, dSeq, dEnum, dZip, dRng1, dRng2, dYes, dCall, dMt, dVar, dDic0, dDic1, Pat.put, Pat.puts, List.getElem?_cons_zero, List.getElem?_cons_succ, List.set_cons_zero, List.set_cons_succ, startD, List.map_cons, List.map_nil, List.cons_append, List.nil_append, List.length_cons, List.length_nil, List.replicate_succ, List.replicate_zero, Nat.reduceSub, Nat.reduceAdd, Nat.zero_add, wipeD, keyD, truD]
        rw [canAll] at q5
        by_cases ho : (after ms true s).2 = true
        · rw [ho] at q5 ⊢
          rw [Bool.true_and] at q5
          simp only [Bool.not_true, Bool.false_eq_true, if_false]
          exact nx _ _ ⟨(after ms true s).1, rest, _, _, rfl, rfl, by rw [after_len, q2], q3.trans x6, fun x hx => q4 x (List.mem_cons_of_mem _ hx), q5⟩
        · rw [Bool.eq_false_iff.mpr ho] at q5 ⊢
          rw [Bool.false_and] at q5
          simp only [Bool.not_false, if_true]
          exact qq M6 _ (q3.trans x6) q5
  · rw [Bool.eq_false_iff.mpr hf]
    simp only [Bool.not_false, if_true]
    refine q M false Ext.refl ⟨fun h => absurd h Bool.false_ne_true, fun ⟨ps, e, hp⟩ => absurd ((isForm_iff h0).mpr ⟨ps, e, (planOf_iff.mp hp).1⟩) hf⟩
end DL

namespace DL
open PySem PySem.Spec PyProof.Rows L2

/-! ### what plans keep -/
theorem ext_getD {a b : List Int} (hl : a.length = b.length) (h : ∀ i, i < a.length → a.getD i 0 = b.getD i 0) : a = b := by
  refine List.ext_getElem hl fun i h1 h2 => ?_
  have := h i h1
  rw [List.getD_eq_getElem?_getD, List.getD_eq_getElem?_getD, List.getElem?_eq_getElem h1, List.getElem?_eq_getElem h2] at this
  exact this
theorem sum_set : ∀ (l : List Int) (i : Nat) (x : Int), i < l.length → (l.set i x).sum = l.sum - l.getD i 0 + x
  | [], _, _, h => by simp at h
  | a :: l, 0, x, _ => by simp; omega
  | a :: l, i + 1, x, h => by
    have ih := sum_set l i x (by simpa using h)
    simp only [List.set_cons_succ, List.sum_cons, List.getD_cons_succ, ih]
    omega
theorem mv_sum {ns : List Int} {s : Nat} (h : s + 1 < ns.length) : (step ns s).sum = ns.sum := by
  unfold step
  rw [sum_set _ _ _ (by rw [List.length_set]; exact h), sum_set _ _ _ (by omega)]
  have e2 : (ns.set s (ns.getD s 0 - 1)).getD (s + 1) 0 = ns.getD (s + 1) 0 := by
    simp only [List.getD_eq_getElem?_getD, List.getElem?_set]
    rw [if_neg (by omega)]
  rw [e2]
  omega
theorem after_sum : ∀ (ss : List Nat) (ns : List Int) (ok : Bool), stOk ns.length ss → (after ns ok ss).1.sum = ns.sum
  | [], _, _, _ => rfl
  | s :: ss, ns, ok, h => by
    rw [after, after_sum ss _ _ (fun x hx => by rw [step_len]; exact h x (List.mem_cons_of_mem _ hx)), mv_sum (h s (List.mem_cons_self ..))]
theorem afters_sum : ∀ (ps : List (List Nat)) (ns : List Int), planStOk ns.length ps → (afters ns ps).sum = ns.sum
  | [], _, _ => rfl
  | ss :: ps, ns, h => by
    rw [afters, afters_sum ps _ (by rw [after_len]; exact fun x hx => h x (List.mem_cons_of_mem _ hx)), after_sum _ _ _ (h ss (List.mem_cons_self ..))]
def nonN (ns : List Int) : Prop := ∀ i, 0 ≤ ns.getD i 0
theorem after_false : ∀ (ss : List Nat) (ns : List Int), (after ns false ss).2 = false
  | [], _ => rfl
  | s :: ss, ns => by rw [after, Bool.false_and, after_false ss]
theorem after_ok {s : Nat} {ss : List Nat} {ns : List Int} (h : (after ns true (s :: ss)).2 = true) : 0 < ns.getD s 0 ∧ (after (step ns s) true ss).2 = true := by
  rw [after, Bool.true_and] at h
  by_cases hp : 0 < ns.getD s 0
  · rw [decide_eq_true hp] at h; exact ⟨hp, h⟩
  · rw [decide_eq_false hp, after_false] at h; cases h
theorem after_true {s : Nat} {ss : List Nat} {ns : List Int} (hp : 0 < ns.getD s 0) : after ns true (s :: ss) = after (step ns s) true ss := by
  rw [after, Bool.true_and, decide_eq_true hp]
theorem after_ok_eq : ∀ (ss : List Nat) (ns : List Int) (ok : Bool), (after ns ok ss).1 = (after ns true ss).1
  | [], _, _ => rfl
  | s :: ss, ns, ok => by rw [after, after, after_ok_eq ss _ (ok && _), after_ok_eq ss _ (true && _)]
theorem after_nn : ∀ (ss : List Nat) (ns : List Int), stOk ns.length ss → nonN ns → (after ns true ss).2 = true → nonN (after ns true ss).1
  | [], _, _, h, _ => h
  | s :: ss, ns, hs, h, ho => by
    obtain ⟨hp, h2⟩ := after_ok ho
    rw [after_true hp]
    refine after_nn ss _ (fun x hx => by rw [step_len]; exact hs x (List.mem_cons_of_mem _ hx)) (fun i => ?_) h2
    rw [step_get (hs s (List.mem_cons_self ..))]
    have := h i
    by_cases h1 : i = s
    · subst h1
      rw [if_pos rfl, if_neg (by omega)]; omega
    · rw [if_neg h1]
      by_cases h2 : i = s + 1
      · rw [if_pos h2]; omega
      · rw [if_neg h2]; omega
theorem afters_nn : ∀ {ws : List (Int × Int)} {ps : List (List Nat)} {ns : List Int}, PlanOf ns ws ps → planStOk ns.length ps → nonN ns → nonN (afters ns ps)
  | [], [], _, _, _, h => h
  | w :: ws, ss :: ps, ns, hp, hs, h => by
    rw [afters]
    exact afters_nn hp.2.2 (by rw [after_len]; exact fun x hx => hs x (List.mem_cons_of_mem _ hx)) (after_nn ss ns (hs ss (List.mem_cons_self ..)) h hp.2.1)
  | [], _ :: _, _, h, _, _ => h.elim
  | _ :: _, [], _, h, _, _ => h.elim
theorem afters_append : ∀ (ps qs : List (List Nat)) (ns : List Int), afters ns (ps ++ qs) = afters (afters ns ps) qs
  | [], _, _ => rfl
  | x :: ps, qs, ns => by rw [List.cons_append, afters, afters, afters_append ps qs]
theorem PlanOf.split : ∀ {ws : List (Int × Int)} {ps : List (List Nat)} {ns : List Int}, PlanOf ns ws ps → ∀ m : Nat, PlanOf ns (ws.take m) (ps.take m) ∧ PlanOf (afters ns (ps.take m)) (ws.drop m) (ps.drop m)
  | _, _, _, h, 0 => ⟨trivial, h⟩
  | [], [], _, _, m + 1 => ⟨trivial, trivial⟩
  | w :: ws, ss :: ps, ns, h, m + 1 => by
    obtain ⟨a, b⟩ := PlanOf.split h.2.2 m
    exact ⟨⟨h.1, h.2.1, a⟩, b⟩
  | [], _ :: _, _, h, _ + 1 => h.elim
  | _ :: _, [], _, h, _ + 1 => h.elim
/-! more chairs -/
def addL (a b : List Int) : List Int := List.zipWith (· + ·) a b
theorem addL_len {a b : List Int} (h : a.length = b.length) : (addL a b).length = a.length := by simp [addL, h]
theorem addL_get {a b : List Int} (h : a.length = b.length) (i : Nat) : (addL a b).getD i 0 = a.getD i 0 + b.getD i 0 := by
  unfold addL
  simp only [List.getD_eq_getElem?_getD, List.getElem?_zipWith]
  by_cases hi : i < a.length
  · rw [List.getElem?_eq_getElem hi, List.getElem?_eq_getElem (h ▸ hi)]; rfl
  · rw [List.getElem?_eq_none (by omega), List.getElem?_eq_none (by omega)]; rfl
theorem step_add {ns bs : List Int} {s : Nat} (hl : ns.length = bs.length) (h : s + 1 < ns.length) : step (addL ns bs) s = addL (step ns s) bs := by
  have e1 : (step ns s).length = bs.length := by rw [step_len, hl]
  refine ext_getD (by rw [step_len, addL_len hl, addL_len e1, step_len]) fun i _ => ?_
  rw [step_get (by rw [addL_len hl]; exact h), addL_get hl, addL_get e1, step_get h]
  omega
theorem after_add {bs : List Int} (hb : nonN bs) : ∀ (ss : List Nat) (ns : List Int), ns.length = bs.length → stOk ns.length ss → (after ns true ss).2 = true → after (addL ns bs) true ss = (addL (after ns true ss).1 bs, true)
  | [], _, _, _, _ => rfl
  | s :: ss, ns, hl, hs, ho => by
    obtain ⟨hp, h2⟩ := after_ok ho
    have hs0 := hs s (List.mem_cons_self ..)
    have := hb s
    rw [after_true hp, after_true (by rw [addL_get hl]; omega), step_add hl hs0]
    exact after_add hb ss _ (by rw [step_len, hl]) (fun x hx => by rw [step_len]; exact hs x (List.mem_cons_of_mem _ hx)) h2
theorem PlanOf.add {bs : List Int} (hb : nonN bs) : ∀ {ws : List (Int × Int)} {ps : List (List Nat)} {ns : List Int}, ns.length = bs.length → planStOk ns.length ps → PlanOf ns ws ps → PlanOf (addL ns bs) ws ps ∧ afters (addL ns bs) ps = addL (afters ns ps) bs
  | [], [], _, _, _, _ => ⟨trivial, rfl⟩
  | w :: ws, ss :: ps, ns, hl, hs, h => by
    have e := after_add hb ss ns hl (hs ss (List.mem_cons_self ..)) h.2.1
    obtain ⟨a, b⟩ := PlanOf.add hb (ns := (after ns true ss).1) (by rw [after_len, hl]) (by rw [after_len]; exact fun x hx => hs x (List.mem_cons_of_mem _ hx)) h.2.2
    refine ⟨⟨h.1, by rw [e], by rw [e]; exact a⟩, ?_⟩
    rw [afters, e, afters]
    exact b
  | [], _ :: _, _, _, _, h => h.elim
  | _ :: _, [], _, _, _, h => h.elim
/-! stations beside -/
def wideR (b : Int) (ns : List Int) (e : Int) : List Int := b :: (ns ++ [e])
theorem wideR_get {b e : Int} {ns : List Int} {i : Nat} (h : i < ns.length) : (wideR b ns e).getD (i + 1) 0 = ns.getD i 0 := by
  unfold wideR
  rw [List.getD_cons_succ, List.getD_eq_getElem?_getD, List.getD_eq_getElem?_getD, List.getElem?_append_left h]
theorem step_wide {b e : Int} {ns : List Int} {s : Nat} (h : s + 1 < ns.length) : step (wideR b ns e) (s + 1) = wideR b (step ns s) e := by
  unfold step
  rw [wideR_get (by omega), wideR_get h]
  unfold wideR
  rw [List.set_cons_succ, List.set_cons_succ, List.set_append_left _ _ (by omega), List.set_append_left _ _ (by rw [List.length_set]; exact h)]
theorem after_wide {b e : Int} : ∀ (ss : List Nat) (ns : List Int) (ok : Bool), stOk ns.length ss → after (wideR b ns e) ok (ss.map (· + 1)) = (wideR b (after ns ok ss).1 e, (after ns ok ss).2)
  | [], _, _, _ => rfl
  | s :: ss, ns, ok, hs => by
    have hs0 := hs s (List.mem_cons_self ..)
    rw [List.map_cons, after, after, wideR_get (by omega), step_wide hs0]
    exact after_wide ss _ _ fun x hx => by rw [step_len]; exact hs x (List.mem_cons_of_mem _ hx)
def shW (w : Int × Int) : Int × Int := (w.1 + 1, w.2 + 1)
theorem inWay_sh {w : Int × Int} {ss : List Nat} (h : inWay w ss) : inWay (shW w) (ss.map (· + 1)) := by
  refine ⟨List.Pairwise.map _ (fun a b hab => by omega) h.1, fun s hs => ?_⟩
  obtain ⟨t, ht, rfl⟩ := List.mem_map.mp hs
  have := h.2 t ht
  simp only [shW]
  omega
theorem PlanOf.wide {b e : Int} : ∀ {ws : List (Int × Int)} {ps : List (List Nat)} {ns : List Int}, planStOk ns.length ps → PlanOf ns ws ps → PlanOf (wideR b ns e) (ws.map shW) (ps.map fun ss => ss.map (· + 1)) ∧ afters (wideR b ns e) (ps.map fun ss => ss.map (· + 1)) = wideR b (afters ns ps) e
  | [], [], _, _, _ => ⟨trivial, rfl⟩
  | w :: ws, ss :: ps, ns, hs, h => by
    have ew := after_wide (b := b) (e := e) ss ns true (hs ss (List.mem_cons_self ..))
    obtain ⟨x, y⟩ := PlanOf.wide (b := b) (e := e) (ns := (after ns true ss).1) (by rw [after_len]; exact fun x hx => hs x (List.mem_cons_of_mem _ hx)) h.2.2
    refine ⟨⟨inWay_sh h.1, by rw [ew]; exact h.2.1, by rw [ew]; exact x⟩, ?_⟩
    rw [List.map_cons, afters, ew, afters]
    exact y
  | [], _ :: _, _, _, h => h.elim
  | _ :: _, [], _, _, h => h.elim
theorem afters_idle : ∀ (n : Nat) (ns : List Int), afters ns (List.replicate n []) = ns
  | 0, _ => rfl
  | n + 1, ns => by rw [List.replicate_succ, afters]; exact afters_idle n ns
theorem waysIn_sh {ws : List (Int × Int)} {n : Nat} (h : waysIn ws (n : Nat)) : waysIn (ws.map shW) ((n + 2 : Nat) : Int) := fun w hw => by
  obtain ⟨v, hv, rfl⟩ := List.mem_map.mp hw
  have := h v hv
  simp only [shW]
  omega
theorem areW_in {ws : List (Int × Int)} {st : Int} (h : waysIn ws st) (hl : ws.length ≤ 40) : areW st (.tup (ws.map wayD)) = true := by
  simp only [areW, List.length_map, Bool.and_eq_true, decide_eq_true_eq, List.all_map, List.all_eq_true]
  refine ⟨hl, fun w hw => ?_⟩
  have := h w hw
  simp only [Function.comp, wayD, isW, numD, Bool.and_eq_true, decide_eq_true_eq]
  omega
/-! equal numbers -/
theorem ints_plain : ∀ ns : List Int, plains (ns.map D.int) = true
  | [] => rfl
  | x :: ns => by rw [List.map_cons, plains, ints_plain ns]; rfl
theorem ints_dep : ∀ ns : List Int, deps (ns.map D.int) = 0
  | [] => rfl
  | x :: ns => by rw [List.map_cons, deps, ints_dep ns]; rfl
theorem ints_eqd : ∀ a b : List Int, eqds (a.map D.int) (b.map D.int) = decide (a = b)
  | [], [] => rfl
  | [], _ :: _ => rfl
  | _ :: _, [] => rfl
  | x :: a, y :: b => by
    rw [List.map_cons, List.map_cons, eqds, ints_eqd a b, eqd]
    by_cases h : x = y <;> by_cases h2 : a = b <;> simp [h, h2]
theorem rEq_ints {a b : List Int} {M : MS} {Φ : DQ} (q : Φ (.bl (decide (a = b))) M) : rEq (.tup (a.map D.int)) (.tup (b.map D.int)) M Φ :=
  rEq_still (by rw [plain, ints_plain]) (by rw [dep, ints_dep]; decide) (by rw [plain, ints_plain]) (by rw [dep, ints_dep]; decide) (by rw [eqd, ints_eqd]; exact q)
theorem rNe_ints {a b : List Int} {M : MS} {Φ : DQ} (q : Φ (.bl (!decide (a = b))) M) : rNe (.tup (a.map D.int)) (.tup (b.map D.int)) M Φ :=
  rNe_still (by rw [plain, ints_plain]) (by rw [dep, ints_dep]; decide) (by rw [plain, ints_plain]) (by rw [dep, ints_dep]; decide) (by rw [eqd, ints_eqd]; exact q)
theorem rSum_tup {a : List Int} {M : MS} {Φ : DQ} (q : Φ (.int a.sum) M) : rSum [.tup (a.map D.int)] M Φ := by
  unfold rSum
  simp only [seqA, Option.bind_some, asInts_map]
  exact q
theorem rMinA_tup {a : List Int} {M : MS} {Φ : DQ} (h : 0 < a.length) (q : Φ (.int (mnI a)) M) : rMinA [.tup (a.map D.int)] M Φ := by
  unfold rMinA
  simp only [seqA, Option.bind_some, asInts_map]
  exact ⟨h, q⟩
theorem rMaxA_tup {a : List Int} {M : MS} {Φ : DQ} (h : 0 < a.length) (q : Φ (.int (mxI a)) M) : rMaxA [.tup (a.map D.int)] M Φ := by
  unfold rMaxA
  simp only [seqA, Option.bind_some, asInts_map]
  exact ⟨h, q⟩
theorem still_ints : ∀ ns : List Int, stills (ns.map D.int) = true
  | [] => rfl
  | x :: ns => by rw [List.map_cons, stills, still_ints ns]; rfl
theorem still_plan : ∀ ps : List (List Nat), stills (ps.map stD) = true
  | [] => rfl
  | ss :: ps => by
    have : ∀ ss : List Nat, stills (ss.map fun s => D.int (s : Nat)) = true := fun ss => by
      induction ss with
      | nil => rfl
      | cons s ss ih => rw [List.map_cons, stills, ih]; rfl
    rw [List.map_cons, stills, still_plan ps, stD, still, this ss]; rfl
theorem wideOk_plan {n : Nat} {ps : List (List Nat)} (h : Pl n ps) : wideOk (planD ps) := fun xs e p hp ys e2 => by
  injection e with e
  subst e
  obtain ⟨ss, hs, rfl⟩ := List.mem_map.mp hp
  injection e2 with e2
  subst e2
  rw [List.length_map]
  have := h.ln ss hs
  omega
end DL

namespace DL
open PySem PySem.Spec PyProof.Rows L2

theorem rSl_to {α : Type} {f : α → D} {xs : List α} {m : Nat} {M : MS} {Φ : DQ} (q : Φ (.tup ((xs.take m).map f)) M) : rSl (.tup (xs.map f)) none (some (m : Int)) M Φ := by
  show Φ (.tup (cutD (xs.map f) none (some (m : Int)))) M
  rw [cut_to, ← List.map_take]
  exact q
theorem rSl_from {α : Type} {f : α → D} {xs : List α} {m : Nat} {M : MS} {Φ : DQ} (q : Φ (.tup ((xs.drop m).map f)) M) : rSl (.tup (xs.map f)) (some (m : Int)) none M Φ := by
  show Φ (.tup (cutD (xs.map f) (some (m : Int)) none)) M
  rw [cut_from, ← List.map_drop]
  exact q
theorem errs_big : ∀ (ns : List Int) (c : Int), (∀ x ∈ ns, 0 ≤ x) → isN (errs c (ns.map D.int)) = false → ∃ x ∈ ns, 50 < x
  | [], _, _, h => by simp [errs, isN] at h
  | x :: ns, c, h0, h => by
    by_cases hx : x ≤ 50
    · rw [List.map_cons, errs, if_pos (by simp [numD, hx, h0 x (List.mem_cons_self ..)])] at h
      obtain ⟨y, hy, hb⟩ := errs_big ns (c + 1) (fun y hy => h0 y (List.mem_cons_of_mem _ hy)) h
      exact ⟨y, List.mem_cons_of_mem _ hy, hb⟩
    · exact ⟨x, List.mem_cons_self .., by omega⟩
theorem nonN_mem {ns : List Int} (h : nonN ns) : ∀ x ∈ ns, 0 ≤ x := fun x hx => by
  obtain ⟨i, hi, rfl⟩ := List.getElem_of_mem hx
  have := h i
  rwa [List.getD_eq_getElem?_getD, List.getElem?_eq_getElem hi] at this
theorem nonN_of {ns : List Int} (h : ∀ x ∈ ns, 0 ≤ x) : nonN ns := fun i => by
  rw [List.getD_eq_getElem?_getD]
  by_cases hi : i < ns.length
  · rw [List.getElem?_eq_getElem hi]; exact h _ (List.getElem_mem hi)
  · rw [List.getElem?_eq_none (by omega)]; exact Int.le_refl _
theorem err_big {ns : List Int} (h2 : 2 ≤ ns.length) (h3 : ns.length ≤ 10) (hn : nonN ns) (h : isN (errD (.tup (ns.map D.int))) = false) : 50 < mxI ns := by
  simp only [errD, List.length_map] at h
  rw [if_pos ⟨h2, h3⟩] at h
  obtain ⟨x, hx, hb⟩ := errs_big ns 0 (nonN_mem hn) h
  have := (mxI_mem (ns := ns) (by omega)).2 x hx
  omega
theorem use_plan {M : MS} {Φ : DQ} {ns : List Int} {ws : List (Int × Int)} {ps : List (List Nat)} (hw : waysIn ws (ns.length : Nat)) (hl : ws.length ≤ 1000) (hn : ns.length ≤ 10) (hp : PlanOf ns ws ps) (h : ∀ M', Ext M M' → Φ (.bl true) M') : True ∧ sp_is_plan [.tup (ns.map D.int), .tup (ws.map wayD), planD ps] M Φ noX :=
  ⟨trivial, ns, ws, planD ps, rfl, hw, by rw [planD, still]; exact still_plan ps, by omega, wideOk_plan (hp.toPl hw hn), fun M' b hx hb => by rw [hb.mpr ⟨ps, rfl, hp⟩]; exact h M' hx⟩
theorem use_after {M : MS} {Φ : DQ} {ns : List Int} {w : D} {ps : List (List Nat)} (hs : planStOk ns.length ps) (h : ∀ M', Ext M M' → Φ (.tup ((afters ns ps).map D.int)) M') : True ∧ sp_row_after [.tup (ns.map D.int), w, planD ps] M Φ noX :=
  ⟨trivial, ns, w, ps, rfl, hs, h⟩
theorem waysIn.sub {ws vs : List (Int × Int)} {st : Int} (h : waysIn ws st) (hs : ∀ w ∈ vs, w ∈ ws) : waysIn vs st := fun w hw => h w (hs w hw)
def sp_law_parts_right : DSp := fun ds M Φ _ => ∃ (a c : Addr) (k : Nat) (ns : List Int) (ws : List (Int × Int)) (ps : List (List Nat)), ds = [.ref a, .tup (ns.map D.int), .tup (ws.map wayD), planD ps] ∧ waysIn ws (ns.length : Nat) ∧ 2 ≤ ns.length ∧ ns.length ≤ 10 ∧ ws.length ≤ 1000 ∧ nonN ns ∧ PlanOf ns ws ps ∧ Dk M a c (k + 1) ∧
  ∀ M', Dk M' a c k → Kp a c M M' → Φ (.bl true) M'
def t_law_parts_right : DS := (sSeq (sAsg (dCall 2 sp_law_draw (dCons (dVar 0) (dCons (dOp rAdd (dFn rLen (dCons (dVar 2) dNil)) (dC (.int 1))) dNil))) (.nm 4)) (sSeq (sIf (dNot (dTru (dCall 3 sp_is_plan (dCons (dVar 1) (dCons (dSl (dVar 2) dNoPart (dPart (dVar 4))) (dCons (dSl (dVar 3) dNoPart (dPart (dVar 4))) dNil)))))) (sSeq (sRet (dC (.bl false))) sNext) sNext) (sSeq (sAsg (dCall 3 sp_row_after (dCons (dVar 1) (dCons (dSl (dVar 2) dNoPart (dPart (dVar 4))) (dCons (dSl (dVar 3) dNoPart (dPart (dVar 4))) dNil)))) (.nm 5)) (sSeq (sIf (dNot (dTru (dCall 1 sp_is_row (dCons (dVar 5) dNil)))) (sSeq (sRet (dOp rGt (dFn rMaxA (dCons (dVar 5) dNil)) (dC (.int 50)))) sNext) sNext) (sSeq (sIf (dNot (dTru (dCall 3 sp_is_plan (dCons (dVar 5) (dCons (dSl (dVar 2) (dPart (dVar 4)) dNoPart) (dCons (dSl (dVar 3) (dPart (dVar 4)) dNoPart) dNil)))))) (sSeq (sRet (dC (.bl false))) sNext) sNext) (sSeq (sRet (dOp rEq (dCall 3 sp_row_after (dCons (dVar 5) (dCons (dSl (dVar 2) (dPart (dVar 4)) dNoPart) (dCons (dSl (dVar 3) (dPart (dVar 4)) dNoPart) dNil)))) (dCall 3 sp_row_after (dCons (dVar 1) (dCons (dVar 2) (dCons (dVar 3) dNil)))))) sNext))))))
theorem p_law_parts_right (ds : List D) (M : MS) (Φ : DQ) (h : sp_law_parts_right ds M Φ noX) : t_law_parts_right { nx := fun _ M' => Φ .non M', rt := Φ } (startD 6 ds) M := by
  obtain ⟨a, c, k, ns, ws, ps, rfl, hw, hn2, hn, hl, hnn, hp, hD, h⟩ := h
  simp only [t_law_parts_right, sSeq, sRet, sRetN, sNext, sIf, sAsg, sPar, sPar3, sSetI, sAug, sAugI, sDrop, sBreak, sCont, dOp, dUn, dCons, dNil, dFn, dC, dTup, dLst, dLstM, dIf, dTest, dTru, dAnd, dOr, dNot, dAndV, dOrV, dNotE, dChain, dSl, dNoPart, dPart, dSeq, dEnum, dZip, dRng1, dRng2, dYes, dCall, dMt, dVar, dDic0, dDic1, Pat.put, Pat.puts, List.getElem?_cons_zero, List.getElem?_cons_succ, List.set_cons_zero, List.set_cons_succ, startD, List.map_cons, List.map_nil, List.cons_append, List.nil_append, List.length_cons, List.length_nil, List.replicate_succ, List.replicate_zero, Nat.reduceSub, Nat.reduceAdd, Nat.zero_add, wipeD, keyD, rLen, seqA, List.length_map]
  refine rAdd_i ?_
  refine use_draw hD (by omega) (by omega) fun r M1 hD1 hK1 u0 u1 => ?_
  obtain ⟨m, rfl⟩ : ∃ m : Nat, r = (m : Nat) := ⟨r.toNat, by omega⟩
  obtain ⟨s1, s2⟩ := hp.split m
  have hw1 : waysIn (ws.take m) (ns.length : Nat) := hw.sub fun w hm => List.mem_of_mem_take hm
  have hml : (afters ns (ps.take m)).length = ns.length := afters_len _ _
  have hw2 : waysIn (ws.drop m) ((afters ns (ps.take m)).length : Nat) := by rw [hml]; exact hw.sub fun w hm => List.mem_of_mem_drop hm
  refine rSl_to (rSl_to ?_)
  refine use_plan hw1 (by rw [List.length_take]; omega) hn s1 fun M2 x2 => ?_
  simp only [truD, Bool.not_true, Bool.false_eq_true, if_false]
  refine rSl_to (rSl_to ?_)
  refine use_after (s1.st hw1) fun M3 x3 => ?_
  have x13 := x2.trans x3
  refine ⟨trivial, _, rfl, by rw [still]; exact still_ints _, ?_⟩
  simp only [truD]
  have nn2 : nonN (afters ns (ps.take m)) := afters_nn s1 (s1.st hw1) hnn
  by_cases hr : isN (errD (.tup ((afters ns (ps.take m)).map D.int))) = true
  · rw [hr]
    simp only [Bool.not_true, Bool.false_eq_true, if_false]
    refine rSl_from (rSl_from ?_)
    refine use_plan hw2 (by rw [List.length_drop]; omega) (by omega) s2 fun M4 x4 => ?_
    simp only [truD, Bool.not_true, Bool.false_eq_true, if_false]
    refine rSl_from (rSl_from ?_)
    refine use_after (s2.st hw2) fun M5 x5 => ?_
    refine use_after (hp.st hw) fun M6 x6 => rEq_ints ?_
    rw [← afters_append, List.take_append_drop, decide_eq_true rfl]
    have x16 := ((x13.trans x4).trans x5).trans x6
    exact h M6 (x16.dk hD1) (hK1.trans x16.kp)
  · rw [Bool.eq_false_iff.mpr hr]
    simp only [Bool.not_false, if_true]
    refine rMaxA_tup (by omega) (rCmp_i ?_)
    rw [decide_eq_true (err_big (by omega) (by omega) nn2 (Bool.eq_false_iff.mpr hr))]
    exact h M3 (x13.dk hD1) (hK1.trans x13.kp)
end DL

namespace DL
open PySem PySem.Spec PyProof.Rows L2

def fadd : D → Option D
  | .tup [.int i, .int j] => some (.int (i + j))
  | _ => none
theorem zip_add : ∀ a b : List Int, (zipD (a.map D.int) (b.map D.int)).filterMap fadd = (addL a b).map D.int
  | [], _ => by simp [zipD, addL]
  | _ :: _, [] => by simp [zipD, addL]
  | x :: a, y :: b => by
    have ih := zip_add a b
    rw [List.map_cons, List.map_cons, zipD, List.filterMap_cons]
    simp only [fadd]
    rw [ih]
    rfl
def fshw : D → Option D
  | .tup [.int i, .int j] => some (.tup [.int (i + 1), .int (j + 1)])
  | _ => none
theorem shw_map : ∀ ws : List (Int × Int), (ws.map wayD).filterMap fshw = (ws.map shW).map wayD
  | [] => rfl
  | w :: ws => by
    rw [List.map_cons, List.filterMap_cons]
    simp only [wayD, fshw]
    rw [shw_map ws]
    rfl
def fst1 : D → Option D
  | .int i => some (.int (i + 1))
  | _ => none
theorem st1_map : ∀ ss : List Nat, (ss.map fun s => D.int (s : Nat)).filterMap fst1 = ((ss.map (· + 1)).map fun s => D.int (s : Nat))
  | [] => rfl
  | s :: ss => by
    rw [List.map_cons, List.filterMap_cons]
    simp only [fst1]
    rw [st1_map ss]
    rfl
def fpl : D → Option D
  | .tup xs => some (.tup (xs.filterMap fst1))
  | _ => none
theorem pl_map : ∀ ps : List (List Nat), (ps.map stD).filterMap fpl = (ps.map fun ss => ss.map (· + 1)).map stD
  | [] => rfl
  | ss :: ps => by
    rw [List.map_cons, List.filterMap_cons]
    simp only [stD, fpl, st1_map]
    rw [pl_map ps]
    rfl
def sp_law_more_right : DSp := fun ds M Φ _ => ∃ (a c : Addr) (k : Nat) (ns : List Int) (ws : List (Int × Int)) (ps : List (List Nat)), ds = [.ref a, .tup (ns.map D.int), .tup (ws.map wayD), planD ps] ∧ waysIn ws (ns.length : Nat) ∧ 2 ≤ ns.length ∧ ns.length ≤ 8 ∧ ws.length ≤ 40 ∧ PlanOf ns ws ps ∧ Dk M a c (k + ns.length) ∧
  ∀ M', Dk M' a c k → Kp a c M M' → Φ (.bl true) M'
def t_law_more_right : DS := (sSeq (sAsg (dLc (dSeq (dVar 1)) (.nm 10) [10] dYes (dCall 2 sp_law_draw (dCons (dVar 0) (dCons (dC (.int 4)) dNil)))) (.nm 4)) (sSeq (sAsg (dFn rTuple (dCons (dLc (dZip (dVar 1) (dVar 4)) (.tp [(.nm 11), (.nm 12)]) [11, 12] dYes (dOp rAdd (dVar 11) (dVar 12))) dNil)) (.nm 5)) (sSeq (sAsg (dCall 3 sp_row_after (dCons (dVar 1) (dCons (dVar 2) (dCons (dVar 3) dNil)))) (.nm 6)) (sSeq (sIf (dNot (dTru (dCall 3 sp_is_plan (dCons (dVar 5) (dCons (dVar 2) (dCons (dVar 3) dNil)))))) (sSeq (sRet (dC (.bl false))) sNext) sNext) (sSeq (sIf (dTest (dOp rNe (dCall 3 sp_row_after (dCons (dVar 5) (dCons (dVar 2) (dCons (dVar 3) dNil)))) (dFn rTuple (dCons (dLc (dZip (dVar 6) (dVar 4)) (.tp [(.nm 11), (.nm 12)]) [11, 12] dYes (dOp rAdd (dVar 11) (dVar 12))) dNil)))) (sSeq (sRet (dC (.bl false))) sNext) sNext) (sSeq (sAsg (dOp rAdd (dOp rAdd (dTup (dCons (dOp rIx (dVar 4) (dC (.int 0))) dNil)) (dVar 1)) (dTup (dCons (dOp rIx (dVar 4) (dUn rNeg (dC (.int 1)))) dNil))) (.nm 7)) (sSeq (sAsg (dFn rTuple (dCons (dLc (dSeq (dVar 2)) (.tp [(.nm 13), (.nm 14)]) [13, 14] dYes (dTup (dCons (dOp rAdd (dVar 13) (dC (.int 1))) (dCons (dOp rAdd (dVar 14) (dC (.int 1))) dNil)))) dNil)) (.nm 8)) (sSeq (sAsg (dFn rTuple (dCons (dLc (dSeq (dVar 3)) (.nm 15) [15] dYes (dFn rTuple (dCons (dLc (dSeq (dVar 15)) (.nm 16) [16] dYes (dOp rAdd (dVar 16) (dC (.int 1)))) dNil))) dNil)) (.nm 9)) (sSeq (sIf (dOr (dNot (dTru (dCall 2 sp_are_walkers (dCons (dFn rLen (dCons (dVar 7) dNil)) (dCons (dVar 8) dNil))))) (dNot (dTru (dCall 3 sp_is_plan (dCons (dVar 7) (dCons (dVar 8) (dCons (dVar 9) dNil))))))) (sSeq (sRet (dC (.bl false))) sNext) sNext) (sSeq (sRet (dOp rEq (dCall 3 sp_row_after (dCons (dVar 7) (dCons (dVar 8) (dCons (dVar 9) dNil)))) (dOp rAdd (dOp rAdd (dTup (dCons (dOp rIx (dVar 4) (dC (.int 0))) dNil)) (dVar 6)) (dTup (dCons (dOp rIx (dVar 4) (dUn rNeg (dC (.int 1)))) dNil))))) sNext))))))))))
theorem wide_eq {b e : Int} {ns : List Int} : D.int b :: (ns.map D.int ++ [D.int e]) = (wideR b ns e).map D.int := by simp [wideR]
theorem p_law_more_right (ds : List D) (M : MS) (Φ : DQ) (h : sp_law_more_right ds M Φ noX) : t_law_more_right { nx := fun _ M' => Φ .non M', rt := Φ } (startD 17 ds) M := by
  obtain ⟨a, c, k, ns, ws, ps, rfl, hw, hn2, hn, hl, hp, hD, h⟩ := h
  simp only [t_law_more_right, sSeq, sRet, sRetN, sNext, sIf, sAsg, sPar, sPar3, sSetI, sAug, sAugI, sDrop, sBreak, sCont, dOp, dUn, dCons, dNil, dFn, dC, dTup, dLst, dLstM, dIf, dTest, dTru, dAnd, dOr, dNot, dAndV, dOrV, dNotE, dChain, dSl, dNoPart, dPart, dSeq, dEnum, dZip, dRng1, dRng2, dYes, dCall, dMt, dVar, dDic0, dDic1, Pat.put, Pat.puts, List.getElem?_cons_zero, List.getElem?_cons_succ, List.set_cons_zero, List.set_cons_succ, startD, List.map_cons, List.map_nil, List.cons_append, List.nil_append, List.length_cons, List.length_nil, List.replicate_succ, List.replicate_zero, Nat.reduceSub, Nat.reduceAdd, Nat.zero_add, wipeD, keyD, dLc, seqA]
  refine lcW_inv (fun ds' acc M' => ∃ bs : List Int, acc = bs.map D.int ∧ bs.length + ds'.length = ns.length ∧ (∀ x ∈ bs, 0 ≤ x) ∧ Dk M' a c (k + ds'.length) ∧ Kp a c M M')
    (fun _ _ _ _ => trivial) (fun acc M1 q => ?_) (fun d ds' acc M' Nx q nx => ?_) _ _ _ ⟨[], rfl, by simp, (fun _ z => absurd z List.not_mem_nil), by rw [List.length_map]; exact hD, Kp.refl⟩
  rotate_left
  · obtain ⟨bs, rfl, q1, q2, q3, q4⟩ := q
    rw [List.length_cons] at q1 q3
    refine ⟨_, rfl, ?_⟩
    simp only [sSeq, sRet, sRetN, sNext, sIf, sAsg, sPar, sPar3, sSetI, sAug, sAugI, sDrop, sBreak, sCont, dOp, dUn, dCons, dNil, dFn, dC, dTup, dLst, dLstM, dIf, dTest, dTru, dAnd, dOr, dNot, dAndV, dOrV, dNotE, dChain, dSl, dNoPart, dPart, dSeq, dEnum, dZip, dRng1, dRng2, dYes, dCall, dMt, dVar, dDic0, dDic1, Pat.put, Pat.puts, List.getElem?_cons_zero, List.getElem?_cons_succ, List.set_cons_zero, List.set_cons_succ, startD, List.map_cons, List.map_nil, List.cons_append, List.nil_append, List.length_cons, List.length_nil, List.replicate_succ, List.replicate_zero, Nat.reduceSub, Nat.reduceAdd, Nat.zero_add, wipeD, keyD, if_true]
    refine use_draw (k := k + ds'.length) (q3.mono (by omega)) (by decide) (by decide) fun r M2 hD2 hK2 u0 u1 => ⟨by rw [List.length_map]; omega, ?_⟩
    refine nx _ _ ⟨bs ++ [r], by simp, by rw [List.length_append, List.length_cons, List.length_nil]; omega, fun x hx => ?_, hD2, q4.trans hK2⟩
    rcases List.mem_append.mp hx with z | z
    · exact q2 x z
    · rw [List.mem_singleton.mp z]; exact u0
  obtain ⟨bs, rfl, q1, q2, hD1, hK1⟩ := q
  have q1' : bs.length = ns.length := by simpa using q1
  have hb := nonN_of q2
  have hst := hp.st hw
  have al : (afters ns ps).length = ns.length := afters_len _ _
  obtain ⟨pa, pe⟩ := hp.add hb q1'.symm hst
  have wl : (addL ns bs).length = ns.length := addL_len q1'.symm
  refine lcW_map fadd (zipD (ns.map D.int) (bs.map D.int)) ⟨trivial, trivial⟩ (by rw [zipD_length, List.length_map]; omega) (fun d hd => ?_) ?_
  · obtain ⟨x, y, rfl, hx, hy⟩ := zipD_mem hd
    obtain ⟨i, _, rfl⟩ := List.mem_map.mp hx
    obtain ⟨j, _, rfl⟩ := List.mem_map.mp hy
    refine ⟨_, rfl, fun acc Nx hn k => ?_⟩
    simp only [sSeq, sRet, sRetN, sNext, sIf, sAsg, sPar, sPar3, sSetI, sAug, sAugI, sDrop, sBreak, sCont, dOp, dUn, dCons, dNil, dFn, dC, dTup, dLst, dLstM, dIf, dTest, dTru, dAnd, dOr, dNot, dAndV, dOrV, dNotE, dChain, dSl, dNoPart, dPart, dSeq, dEnum, dZip, dRng1, dRng2, dYes, dCall, dMt, dVar, dDic0, dDic1, Pat.put, Pat.puts, List.getElem?_cons_zero, List.getElem?_cons_succ, List.set_cons_zero, List.set_cons_succ, startD, List.map_cons, List.map_nil, List.cons_append, List.nil_append, List.length_cons, List.length_nil, List.replicate_succ, List.replicate_zero, Nat.reduceSub, Nat.reduceAdd, Nat.zero_add, wipeD, keyD, if_true]
    exact rAdd_i ⟨hn, k⟩
  rw [zip_add]
  simp only [rTuple, seqA]
  refine use_after hst fun M2 x2 => ?_
  refine use_plan (by rw [wl]; exact hw) (by omega) (by omega) pa fun M3 x3 => ?_
  simp only [truD, Bool.not_true, Bool.false_eq_true, if_false]
  refine use_after (by rw [wl]; exact hst) fun M4 x4 => ?_
  refine lcW_map fadd (zipD ((afters ns ps).map D.int) (bs.map D.int)) ⟨trivial, trivial⟩ (by rw [zipD_length, List.length_map, List.length_map]; omega) (fun d hd => ?_) ?_
  · obtain ⟨x, y, rfl, hx, hy⟩ := zipD_mem hd
    obtain ⟨i, _, rfl⟩ := List.mem_map.mp hx
    obtain ⟨j, _, rfl⟩ := List.mem_map.mp hy
    refine ⟨_, rfl, fun acc Nx hn k => ?_⟩
    simp only [sSeq, sRet, sRetN, sNext, sIf, sAsg, sPar, sPar3, sSetI, sAug, sAugI, sDrop, sBreak, sCont, dOp, dUn, dCons, dNil, dFn, dC, dTup, dLst, dLstM, dIf, dTest, dTru, dAnd, dOr, dNot, dAndV, dOrV, dNotE, dChain, dSl, dNoPart, dPart, dSeq, dEnum, dZip, dRng1, dRng2, dYes, dCall, dMt, dVar, dDic0, dDic1, Pat.put, Pat.puts, List.getElem?_cons_zero, List.getElem?_cons_succ, List.set_cons_zero, List.set_cons_succ, startD, List.map_cons, List.map_nil, List.cons_append, List.nil_append, List.length_cons, List.length_nil, List.replicate_succ, List.replicate_zero, Nat.reduceSub, Nat.reduceAdd, Nat.zero_add, wipeD, keyD, if_true]
    exact rAdd_i ⟨hn, k⟩
  rw [zip_add]
  refine rNe_ints ?_
  rw [pe, decide_eq_true rfl]
  simp only [Bool.not_true, Bool.false_eq_true, if_false]
  obtain ⟨b0, e0⟩ : ∃ b0, bs.head? = some b0 := by
    cases bs with
    | nil => simp at q1'; omega
    | cons x bs => exact ⟨x, rfl⟩
  obtain ⟨b1, e1⟩ : ∃ b1, bs.getLast? = some b1 := by
    cases hh : bs.getLast? with
    | none => rw [List.getLast?_eq_none_iff] at hh; subst hh; simp at q1'; omega
    | some x => exact ⟨x, rfl⟩
  have a0 : atI (bs.map D.int) 0 = some (.int b0) := by rw [at0, List.getElem?_map, ← List.head?_eq_getElem?, e0]; rfl
  have a1 : atI (bs.map D.int) (-1) = some (.int b1) := atI_m1 (by rw [List.getLast?_map, e1]; rfl)
  obtain ⟨pw, pf⟩ := hp.wide (b := b0) (e := b1) hst
  have ll : (wideR b0 ns b1).length = ns.length + 2 := by simp [wideR]
  have hw2 : waysIn (ws.map shW) ((wideR b0 ns b1).length : Nat) := by rw [ll]; exact waysIn_sh hw
  refine rIx_seq (x := .lst _) rfl a0 ⟨by decide, rAdd_t (by rw [List.length_map, List.length_cons, List.length_nil]; omega) ?_⟩
  refine rNeg_i (rIx_seq (x := .lst _) rfl a1 ⟨by decide, rAdd_t (by simp; omega) ?_⟩)
  simp only [List.cons_append, List.nil_append, wide_eq]
  refine lcW_map fshw (ws.map wayD) trivial (by rw [List.length_map]; omega) (fun x hx => ?_) ?_
  · obtain ⟨w, _, rfl⟩ := List.mem_map.mp hx
    refine ⟨_, rfl, fun acc Nx hn k => ?_⟩
    simp only [sSeq, sRet, sRetN, sNext, sIf, sAsg, sPar, sPar3, sSetI, sAug, sAugI, sDrop, sBreak, sCont, dOp, dUn, dCons, dNil, dFn, dC, dTup, dLst, dLstM, dIf, dTest, dTru, dAnd, dOr, dNot, dAndV, dOrV, dNotE, dChain, dSl, dNoPart, dPart, dSeq, dEnum, dZip, dRng1, dRng2, dYes, dCall, dMt, dVar, dDic0, dDic1, Pat.put, Pat.puts, List.getElem?_cons_zero, List.getElem?_cons_succ, List.set_cons_zero, List.set_cons_succ, startD, List.map_cons, List.map_nil, List.cons_append, List.nil_append, List.length_cons, List.length_nil, List.replicate_succ, List.replicate_zero, Nat.reduceSub, Nat.reduceAdd, Nat.zero_add, wipeD, keyD, if_true]
    exact rAdd_i (rAdd_i ⟨by decide, hn, k⟩)
  rw [shw_map]
  simp only [planD]
  have hpl := hp.toPl hw (by omega)
  have hpn : ps.length = ws.length := hp.len
  refine lcW_map fpl (ps.map stD) trivial (by rw [List.length_map]; omega) (fun x hx => ?_) ?_
  · obtain ⟨ss, hs, rfl⟩ := List.mem_map.mp hx
    refine ⟨_, rfl, fun acc Nx hn k => ?_⟩
    have := hpl.ln ss hs
    simp only [sSeq, sRet, sRetN, sNext, sIf, sAsg, sPar, sPar3, sSetI, sAug, sAugI, sDrop, sBreak, sCont, dOp, dUn, dCons, dNil, dFn, dC, dTup, dLst, dLstM, dIf, dTest, dTru, dAnd, dOr, dNot, dAndV, dOrV, dNotE, dChain, dSl, dNoPart, dPart, dSeq, dEnum, dZip, dRng1, dRng2, dYes, dCall, dMt, dVar, dDic0, dDic1, Pat.put, Pat.puts, List.getElem?_cons_zero, List.getElem?_cons_succ, List.set_cons_zero, List.set_cons_succ, startD, List.map_cons, List.map_nil, List.cons_append, List.nil_append, List.length_cons, List.length_nil, List.replicate_succ, List.replicate_zero, Nat.reduceSub, Nat.reduceAdd, Nat.zero_add, wipeD, keyD, if_true, dLc, stD, seqA]
    refine lcW_map fst1 (ss.map fun s => D.int (s : Nat)) trivial (by rw [List.length_map]; omega) (fun x hx => ?_) ?_
    · obtain ⟨t, ht, rfl⟩ := List.mem_map.mp hx
      refine ⟨_, rfl, fun acc Nx hn k => ?_⟩
      simp only [sSeq, sRet, sRetN, sNext, sIf, sAsg, sPar, sPar3, sSetI, sAug, sAugI, sDrop, sBreak, sCont, dOp, dUn, dCons, dNil, dFn, dC, dTup, dLst, dLstM, dIf, dTest, dTru, dAnd, dOr, dNot, dAndV, dOrV, dNotE, dChain, dSl, dNoPart, dPart, dSeq, dEnum, dZip, dRng1, dRng2, dYes, dCall, dMt, dVar, dDic0, dDic1, Pat.put, Pat.puts, List.getElem?_cons_zero, List.getElem?_cons_succ, List.set_cons_zero, List.set_cons_succ, startD, List.map_cons, List.map_nil, List.cons_append, List.nil_append, List.length_cons, List.length_nil, List.replicate_succ, List.replicate_zero, Nat.reduceSub, Nat.reduceAdd, Nat.zero_add, wipeD, keyD, if_true]
      exact rAdd_i ⟨hn, k⟩
    simp only [rTuple, seqA]
    exact ⟨hn, k⟩
  rw [pl_map]
  simp only [rTuple, seqA, rLen, List.length_map]
  rw [show D.tup ((ps.map fun ss => ss.map (· + 1)).map stD) = planD (ps.map fun ss => ss.map (· + 1)) from rfl]
  have stw : stills ((ws.map shW).map wayD) = true := by
    induction ws.map shW with
    | nil => rfl
    | cons w l ih => rw [List.map_cons, stills, ih]; rfl
  refine ⟨trivial, _, _, rfl, stw, ?_⟩
  rw [areW_in hw2 (by rw [List.length_map]; exact hl)]
  simp only [truD, Bool.not_true, Bool.false_eq_true, if_false]
  refine use_plan hw2 (by rw [List.length_map]; omega) (by omega) pw fun M5 x5 => ?_
  simp only [truD, Bool.not_true, Bool.false_eq_true, if_false]
  refine use_after (pw.st hw2) fun M6 x6 => ?_
  refine rIx_seq (x := .lst _) rfl a0 ⟨by decide, rAdd_t (by rw [List.length_map, List.length_cons, List.length_nil]; omega) ?_⟩
  refine rNeg_i (rIx_seq (x := .lst _) rfl a1 ⟨by decide, rAdd_t (by simp; omega) ?_⟩)
  simp only [List.cons_append, List.nil_append, wide_eq]
  refine rEq_ints ?_
  rw [pf, decide_eq_true rfl]
  have x16 := (((x2.trans x3).trans x4).trans x5).trans x6
  exact h M6 (x16.dk (hD1.mono (by simp))) (hK1.trans x16.kp)
end DL

namespace DL
open PySem PySem.Spec PyProof.Rows L2

def sp_law_k07 : DSp := fun ds M Φ _ => ∃ ns : List Int, ds = [.scr ns] ∧ ∀ M', Φ (.bl true) M'
def t_law_k07 : DS := (sSeq (sAsg (dCall 1 sp_law_deck (dCons (dVar 0) dNil)) (.nm 1)) (sSeq (sFor (dRng1 (dC (.int 9))) (.nm 2) (sSeq (sAsg (dCall 3 sp_law_row (dCons (dVar 1) (dCons (dOp rIx (dLst (dCons (dC (.int 8)) (dCons (dC (.int 3)) (dCons (dC (.int 5)) dNil)))) (dOp rMod (dVar 2) (dC (.int 3)))) (dCons (dOp rIx (dLst (dCons (dC (.int 3)) (dCons (dC (.int 1)) (dCons (dC (.int 40)) dNil)))) (dOp rDiv (dVar 2) (dC (.int 3)))) dNil)))) (.nm 3)) (sSeq (sAsg (dCall 3 sp_law_walkers (dCons (dVar 1) (dCons (dFn rLen (dCons (dVar 3) dNil)) (dCons (dOp rIx (dLst (dCons (dC (.int 20)) (dCons (dC (.int 4)) (dCons (dC (.int 9)) dNil)))) (dOp rMod (dVar 2) (dC (.int 3)))) dNil)))) (.nm 4)) (sSeq (sFor (dRng1 (dC (.int 3))) (.nm 5) (sSeq (sAsg (dCall 3 sp_law_plan (dCons (dVar 1) (dCons (dVar 3) (dCons (dVar 4) dNil)))) (.nm 6)) (sSeq (sAsg (dCall 3 sp_row_after (dCons (dVar 3) (dCons (dVar 4) (dCons (dVar 6) dNil)))) (.nm 7)) (sSeq (sIf (dOr (dNot (dTru (dCall 3 sp_is_plan (dCons (dVar 3) (dCons (dVar 4) (dCons (dVar 6) dNil)))))) (dOr (dTest (dOp rNe (dFn rSum (dCons (dVar 7) dNil)) (dFn rSum (dCons (dVar 3) dNil)))) (dOr (dTest (dOp rLt (dFn rMinA (dCons (dVar 7) dNil)) (dC (.int 0)))) (dTest (dOp rNe (dFn rLen (dCons (dVar 7) dNil)) (dFn rLen (dCons (dVar 3) dNil))))))) (sSeq (sRet (dC (.bl false))) sNext) sNext) (sSeq (sIf (dOr (dNot (dTru (dCall 4 sp_law_parts_right (dCons (dVar 1) (dCons (dVar 3) (dCons (dVar 4) (dCons (dVar 6) dNil))))))) (dNot (dTru (dCall 4 sp_law_more_right (dCons (dVar 1) (dCons (dVar 3) (dCons (dVar 4) (dCons (dVar 6) dNil)))))))) (sSeq (sRet (dC (.bl false))) sNext) sNext) sNext))))) (sSeq (sIf (dTest (dOp rNe (dCall 3 sp_row_after (dCons (dVar 3) (dCons (dVar 4) (dCons (dOp rMul (dTup (dCons (dTup dNil) dNil)) (dFn rLen (dCons (dVar 4) dNil))) dNil)))) (dVar 3))) (sSeq (sRet (dC (.bl false))) sNext) sNext) sNext))))) (sSeq (sRet (dC (.bl true))) sNext)))
theorem p_law_k07 (ds : List D) (M : MS) (Φ : DQ) (h : sp_law_k07 ds M Φ noX) : t_law_k07 { nx := fun _ M' => Φ .non M', rt := Φ } (startD 8 ds) M := by
  obtain ⟨ns, rfl, h⟩ := h
  simp only [t_law_k07, sSeq, sRet, sRetN, sNext, sIf, sAsg, sPar, sPar3, sSetI, sAug, sAugI, sDrop, sBreak, sCont, dOp, dUn, dCons, dNil, dFn, dC, dTup, dLst, dLstM, dIf, dTest, dTru, dAnd, dOr, dNot, dAndV, dOrV, dNotE, dChain, dSl, dNoPart, dPart, dSeq, dEnum, dZip, dRng1, dRng2, dYes, dCall, dMt, dVar, dDic0, dDic1, Pat.put, Pat.puts, List.getElem?_cons_zero, List.getElem?_cons_succ, List.set_cons_zero, List.set_cons_succ, startD, List.map_cons, List.map_nil, List.cons_append, List.nil_append, List.length_cons, List.length_nil, List.replicate_succ, List.replicate_zero, Nat.reduceSub, Nat.reduceAdd, Nat.zero_add, wipeD, keyD]
  refine ⟨trivial, ns, rfl, fun a c M0 _ _ hD0 _ => ?_⟩
  simp only [sFor, dRng1, dC]
  refine ⟨by decide, by decide, ?_⟩
  refine forW_inv (fun ds ρ M => (∃ r2 r3 r4 r5 r6 r7, ρ = [some (.scr ns), some (.ref a), r2, r3, r4, r5, r6, r7]) ∧ Dk M a c (2000 * ds.length) ∧ ∀ d ∈ ds, ∃ i : Int, d = .int i ∧ 0 ≤ i ∧ i < 9) (fun _ _ _ _ => trivial) (fun ρ M' q => ?_) (fun d ds ρ M' Nx q nx => ?_) _ _ _
    ⟨⟨_, _, _, _, _, _, rfl⟩, hD0.mono (by rw [rangeD_length]; decide), fun d hd => by obtain ⟨i, e, h1, h2⟩ := rangeD_mem hd; exact ⟨i, e, h1, by simpa using h2⟩⟩
  · obtain ⟨⟨r2, r3, r4, r5, r6, r7, rfl⟩, hD, _⟩ := q
    simp only [sSeq, sRet, sRetN, sNext, sIf, sAsg, sPar, sPar3, sSetI, sAug, sAugI, sDrop, sBreak, sCont, dOp, dUn, dCons, dNil, dFn, dC, dTup, dLst, dLstM, dIf, dTest, dTru, dAnd, dOr, dNot, dAndV, dOrV, dNotE, dChain, dSl, dNoPart, dPart, dSeq, dEnum, dZip, dRng1, dRng2, dYes, dCall, dMt, dVar, dDic0, dDic1, Pat.put, Pat.puts, List.getElem?_cons_zero, List.getElem?_cons_succ, List.set_cons_zero, List.set_cons_succ, startD, List.map_cons, List.map_nil, List.cons_append, List.nil_append, List.length_cons, List.length_nil, List.replicate_succ, List.replicate_zero, Nat.reduceSub, Nat.reduceAdd, Nat.zero_add, wipeD, keyD]
    exact h M'
  obtain ⟨⟨r2, r3, r4, r5, r6, r7, rfl⟩, hD, hds⟩ := q
  obtain ⟨i, rfl, hi0, hi9⟩ := hds d (List.mem_cons_self ..)
  refine ⟨_, rfl, ?_⟩
  simp only [sSeq, sRet, sRetN, sNext, sIf, sAsg, sPar, sPar3, sSetI, sAug, sAugI, sDrop, sBreak, sCont, dOp, dUn, dCons, dNil, dFn, dC, dTup, dLst, dLstM, dIf, dTest, dTru, dAnd, dOr, dNot, dAndV, dOrV, dNotE, dChain, dSl, dNoPart, dPart, dSeq, dEnum, dZip, dRng1, dRng2, dYes, dCall, dMt, dVar, dDic0, dDic1, Pat.put, Pat.puts, List.getElem?_cons_zero, List.getElem?_cons_succ, List.set_cons_zero, List.set_cons_succ, startD, List.map_cons, List.map_nil, List.cons_append, List.nil_append, List.length_cons, List.length_nil, List.replicate_succ, List.replicate_zero, Nat.reduceSub, Nat.reduceAdd, Nat.zero_add, wipeD, keyD]
  have hm0 : 0 ≤ i % 3 := Int.emod_nonneg _ (by decide)
  have hm1 : i % 3 < 3 := Int.emod_lt_of_pos _ (by decide)
  obtain ⟨m, em, m1, m2⟩ : ∃ m : Int, atI [D.int 8, D.int 3, D.int 5] (i % 3) = some (.int m) ∧ 2 ≤ m ∧ m ≤ 8 := by
    have hr : i % 3 = 0 ∨ i % 3 = 1 ∨ i % 3 = 2 := by omega
    rcases hr with e | e | e <;> rw [e]
    · exact ⟨8, by rw [at0]; rfl, by decide, by decide⟩
    · exact ⟨3, by rw [at1]; rfl, by decide, by decide⟩
    · exact ⟨5, by rw [at2]; rfl, by decide, by decide⟩
  obtain ⟨hh, eh, h1, h2⟩ : ∃ m : Int, atI [D.int 3, D.int 1, D.int 40] (i / 3) = some (.int m) ∧ 0 ≤ m ∧ m < 1000 := by
    have hr : i / 3 = 0 ∨ i / 3 = 1 ∨ i / 3 = 2 := by omega
    rcases hr with e | e | e <;> rw [e]
    · exact ⟨3, by rw [at0]; rfl, by decide, by decide⟩
    · exact ⟨1, by rw [at1]; rfl, by decide, by decide⟩
    · exact ⟨40, by rw [at2]; rfl, by decide, by decide⟩
  obtain ⟨mo, eo, o1, o2⟩ : ∃ m : Int, atI [D.int 20, D.int 4, D.int 9] (i % 3) = some (.int m) ∧ 0 ≤ m ∧ m ≤ 20 := by
    have hr : i % 3 = 0 ∨ i % 3 = 1 ∨ i % 3 = 2 := by omega
    rcases hr with e | e | e <;> rw [e]
    · exact ⟨20, by rw [at0]; rfl, by decide, by decide⟩
    · exact ⟨4, by rw [at1]; rfl, by decide, by decide⟩
    · exact ⟨9, by rw [at2]; rfl, by decide, by decide⟩
  refine ⟨by decide, rMod_i (by decide) ?_⟩
  refine rIx_seq (x := .lst _) rfl em ⟨by decide, rDiv_i (by decide) (by decide) ?_⟩
  refine rIx_seq (x := .lst _) rfl eh ⟨trivial, ?_⟩
  have hD' : Dk M' a c (2000 * ds.length + 1900 + 30) := hD.mono (by rw [List.length_cons]; omega)
  refine ⟨a, c, _, m, hh, rfl, m1, by omega, h1, h2, hD', fun row M1 hD1 hK1 l1 l2 hrow => ?_⟩
  simp only [rLen, seqA, List.length_map]
  refine ⟨by decide, rMod_i (by decide) ?_⟩
  refine rIx_seq (x := .lst _) rfl eo ⟨trivial, ?_⟩
  refine ⟨a, c, 2000 * ds.length + 900, row.length, mo, rfl, by omega, by omega, o1, by omega, hD1.mono (by omega), fun ws M2 hD2 hK2 hwl hws => ?_⟩
  have hwl' : ws.length ≤ 20 := by omega
  have nnr : nonN row := nonN_of fun x hx => (hrow x hx).1
  simp only [sFor, dRng1, dC]
  refine ⟨by decide, by decide, ?_⟩
  refine forW_inv (fun ds' ρ M3 => (∃ r5 r6 r7, ρ = [some (.scr ns), some (.ref a), some (.int i), some (.tup (row.map D.int)), some (.tup (ws.map wayD)), r5, r6, r7]) ∧ Dk M3 a c (2000 * ds.length + 300 * ds'.length)) (fun _ _ _ _ => trivial) (fun ρ M3 q => ?_) (fun d' ds' ρ M3 Nx3 q nx3 => ?_) _ _ _
    ⟨⟨_, _, _, rfl⟩, hD2.mono (by rw [rangeD_length]; show 2000 * ds.length + 300 * 3 ≤ _; omega)⟩
  · obtain ⟨⟨r5, r6, r7, rfl⟩, q1⟩ := q
    simp only [sSeq, sRet, sRetN, sNext, sIf, sAsg, sPar, sPar3, sSetI, sAug, sAugI, sDrop, sBreak, sCont, dOp, dUn, dCons, dNil, dFn, dC, dTup, dLst, dLstM, dIf, dTest, dTru, dAnd, dOr, dNot, dAndV, dOrV, dNotE, dChain, dSl, dNoPart, dPart, dSeq, dEnum, dZip, dRng1, dRng2, dYes, dCall, dMt, dVar, dDic0, dDic1, Pat.put, Pat.puts, List.getElem?_cons_zero, List.getElem?_cons_succ, List.set_cons_zero, List.set_cons_succ, startD, List.map_cons, List.map_nil, List.cons_append, List.nil_append, List.length_cons, List.length_nil, List.replicate_succ, List.replicate_zero, Nat.reduceSub, Nat.reduceAdd, Nat.zero_add, wipeD, keyD, rLen, seqA, List.length_map, rMul]
    refine ⟨by decide, by decide, by omega, by omega, ?_⟩
    rw [plan0]
    refine ⟨by decide, use_after (pl0 _ _).st fun M4 x4 => ?_⟩
    refine rNe_ints ?_
    rw [afters_idle, decide_eq_true rfl]
    simp only [Bool.not_true, Bool.false_eq_true, if_false]
    exact nx _ _ ⟨⟨_, _, _, _, _, _, rfl⟩, x4.dk (q1.mono (by simp)), fun d hd => hds d (List.mem_cons_of_mem _ hd)⟩
  · obtain ⟨⟨r5, r6, r7, rfl⟩, q1⟩ := q
    rw [List.length_cons] at q1
    refine ⟨_, rfl, ?_⟩
    simp only [sSeq, sRet, sRetN, sNext, sIf, sAsg, sPar, sPar3, sSetI, sAug, sAugI, sDrop, sBreak, sCont, dOp, dUn, dCons, dNil, dFn, dC, dTup, dLst, dLstM, dIf, dTest, dTru, dAnd, dOr, dNot, dAndV, dOrV, dNotE, dChain, dSl, dNoPart, dPart, dSeq, dEnum, dZip, dRng1, dRng2, dYes, dCall, dMt, dVar, dDic0, dDic1, Pat.put, Pat.puts, List.getElem?_cons_zero, List.getElem?_cons_succ, List.set_cons_zero, List.set_cons_succ, startD, List.map_cons, List.map_nil, List.cons_append, List.nil_append, List.length_cons, List.length_nil, List.replicate_succ, List.replicate_zero, Nat.reduceSub, Nat.reduceAdd, Nat.zero_add, wipeD, keyD]
    refine ⟨trivial, a, c, 2000 * ds.length + 300 * ds'.length + 20, row, ws, rfl, by exact hws, by omega, by omega, q1.mono (by omega), fun ps M4 hD4 hK4 hpo => ?_⟩
    have hst := hpo.st hws
    refine use_after hst fun M5 x5 => ?_
    refine use_plan hws (by omega) (by omega) hpo fun M6 x6 => ?_
    simp only [truD, Bool.not_true, Bool.false_eq_true, if_false]
    refine rSum_tup (rSum_tup (rNe_i ?_))
    rw [afters_sum _ _ hst]
    simp only [BEq.rfl, Bool.not_true, Bool.false_eq_true, if_false]
    have al : (afters row ps).length = row.length := afters_len _ _
    refine rMinA_tup (by omega) (rCmp_i ?_)
    have h0 : ¬ mnI (afters row ps) < 0 := Int.not_lt.mpr (nonN_mem (afters_nn hpo hst nnr) _ (mnI_mem (by omega)).1)
    rw [decide_eq_false h0]
    simp only [Bool.false_eq_true, if_false, rLen, seqA, List.length_map, al]
    refine rNe_i ?_
    simp only [BEq.rfl, Bool.not_true, Bool.false_eq_true, if_false]
    have hD6 := (x5.trans x6).dk hD4
    refine ⟨trivial, a, c, 2000 * ds.length + 300 * ds'.length + 10, row, ws, ps, rfl, hws, l1, by omega, by omega, nnr, hpo, hD6.mono (by omega), fun M7 hD7 hK7 => ?_⟩
    simp only [truD, Bool.not_true, Bool.false_eq_true, if_false]
    refine ⟨trivial, a, c, 2000 * ds.length + 300 * ds'.length, row, ws, ps, rfl, hws, l1, by omega, by omega, hpo, hD7.mono (by omega), fun M8 hD8 hK8 => ?_⟩
    simp only [truD, Bool.not_true, Bool.false_eq_true, if_false]
    exact nx3 _ _ ⟨⟨_, _, _, rfl⟩, hD8⟩
end DL

namespace DL
open PySem PySem.Spec PyProof.Rows L2

/-! ### the law's own look at plans -/
theorem srt_eq : ∀ {a b : List Int}, a.Pairwise (· < ·) → b.Pairwise (· < ·) → (∀ k, k ∈ a ↔ k ∈ b) → a = b
  | [], [], _, _, _ => rfl
  | [], y :: b, _, _, h => absurd ((h y).mpr (List.mem_cons_self ..)) List.not_mem_nil
  | x :: a, [], _, _, h => absurd ((h x).mp (List.mem_cons_self ..)) List.not_mem_nil
  | x :: a, y :: b, ha, hb, h => by
    rw [List.pairwise_cons] at ha hb
    have e : x = y := by
      rcases List.mem_cons.mp ((h x).mp (List.mem_cons_self ..)) with e | hx
      · exact e
      · rcases List.mem_cons.mp ((h y).mpr (List.mem_cons_self ..)) with e | hy
        · exact e.symm
        · have := ha.1 y hy
          have := hb.1 x hx
          omega
    subst e
    rw [srt_eq ha.2 hb.2 fun k => ?_]
    constructor
    · intro hk
      rcases List.mem_cons.mp ((h k).mp (List.mem_cons_of_mem _ hk)) with e | z
      · subst e; exact absurd (ha.1 k hk) (Int.lt_irrefl k)
      · exact z
    · intro hk
      rcases List.mem_cons.mp ((h k).mpr (List.mem_cons_of_mem _ hk)) with e | z
      · subst e; exact absurd (hb.1 k hk) (Int.lt_irrefl k)
      · exact z
theorem srt_iff {ns ms : List Int} (hm : ms.Pairwise (· < ·)) (h : ∀ k, k ∈ ms ↔ k ∈ ns) : ns = ms ↔ ns.Pairwise (· < ·) :=
  ⟨fun e => e ▸ hm, fun hp => srt_eq hp hm fun k => (h k).symm⟩
theorem asc_int {ss : List Nat} : (ss.map fun s => ((s : Nat) : Int)).Pairwise (· < ·) ↔ ss.Pairwise (· < ·) := by
  rw [List.pairwise_map]
  constructor <;> intro h <;> refine h.imp fun {a b} hab => ?_ <;> omega
def sp_law_are_stages : DSp := fun ds M Φ _ => ∃ (w : Int × Int) (d : D), ds = [wayD w, d] ∧ 0 ≤ w.1 ∧ still d = true ∧ (∀ xs, d = .tup xs → xs.length < 60) ∧ Φ (.bl (isSt w d)) M
def t_law_are_stages : DS := (sSeq (sIf (dNot (dTru (dFn rIsi (dCons (dVar 1) (dCons (dC (.ty .tuple)) dNil))))) (sSeq (sRet (dC (.bl false))) sNext) sNext) (sSeq (sIf (dTest (dOp rNe (dLc (dSeq (dVar 1)) (.nm 2) [2] (dNot (dTru (dCall 3 sp_law_is_number (dCons (dVar 2) (dCons (dOp rIx (dVar 0) (dC (.int 0))) (dCons (dOp rSub (dOp rIx (dVar 0) (dC (.int 1))) (dC (.int 1))) dNil)))))) (dVar 2)) (dLst dNil))) (sSeq (sRet (dC (.bl false))) sNext) sNext) (sSeq (sRet (dOp rEq (dFn rList (dCons (dVar 1) dNil)) (dFn rSortedSetD (dCons (dVar 1) dNil)))) sNext)))
def fbad (w : Int × Int) (d : D) : Option D := if numD d w.1 (w.2 - 1) = true then none else some d
theorem p_law_are_stages (ds : List D) (M : MS) (Φ : DQ) (h : sp_law_are_stages ds M Φ noX) : t_law_are_stages { nx := fun _ M' => Φ .non M', rt := Φ } (startD 3 ds) M := by
  obtain ⟨w, d, rfl, h0, hd, hl, q⟩ := h
  simp only [t_law_are_stages, sSeq, sRet, sRetN, sNext, sIf, sAsg, sPar, sPar3, sSetI, sAug, sAugI, sDrop, sBreak, sCont, dOp, dUn, dCons, dNil, dFn, dC, dTup, dLst, dLstM, dIf, dTest, dTru, dAnd, dOr, dNot, dAndV, dOrV, dNotE, dChain, dSl, dNoPart, dPart, dSeq, dEnum, dZip, dRng1, dRng2, dYes, dCall, dMt, dVar, dDic0, dDic1, Pat.put, Pat.puts, List.getElem?_cons_zero, List.getElem?_cons_succ, List.set_cons_zero, List.set_cons_succ, startD, List.map_cons, List.map_nil, List.cons_append, List.nil_append, List.length_cons, List.length_nil, List.replicate_succ, List.replicate_zero, Nat.reduceSub, Nat.reduceAdd, Nat.zero_add, wipeD, keyD]
  refine rIsi_tup hd ?_
  simp only [truD]
  cases d with
  | tup xs =>
    have hl := hl xs rfl
    have hs : stills xs = true := by simpa only [still] using hd
    simp only [isTup, Bool.not_true, Bool.false_eq_true, if_false]
    simp only [dLc, sSeq, sRet, sRetN, sNext, sIf, sAsg, sPar, sPar3, sSetI, sAug, sAugI, sDrop, sBreak, sCont, dOp, dUn, dCons, dNil, dFn, dC, dTup, dLst, dLstM, dIf, dTest, dTru, dAnd, dOr, dNot, dAndV, dOrV, dNotE, dChain, dSl, dNoPart, dPart, dSeq, dEnum, dZip, dRng1, dRng2, dYes, dCall, dMt, dVar, dDic0, dDic1, Pat.put, Pat.puts, List.getElem?_cons_zero, List.getElem?_cons_succ, List.set_cons_zero, List.set_cons_succ, startD, List.map_cons, List.map_nil, List.cons_append, List.nil_append, List.length_cons, List.length_nil, List.replicate_succ, List.replicate_zero, Nat.reduceSub, Nat.reduceAdd, Nat.zero_add, wipeD, keyD, seqA]
    refine lcW_map (fbad w) xs trivial (by omega) (fun x hx => ⟨_, rfl, fun acc Nx hn k => ?_⟩) ?_
    · simp only [sSeq, sRet, sRetN, sNext, sIf, sAsg, sPar, sPar3, sSetI, sAug, sAugI, sDrop, sBreak, sCont, dOp, dUn, dCons, dNil, dFn, dC, dTup, dLst, dLstM, dIf, dTest, dTru, dAnd, dOr, dNot, dAndV, dOrV, dNotE, dChain, dSl, dNoPart, dPart, dSeq, dEnum, dZip, dRng1, dRng2, dYes, dCall, dMt, dVar, dDic0, dDic1, Pat.put, Pat.puts, List.getElem?_cons_zero, List.getElem?_cons_succ, List.set_cons_zero, List.set_cons_succ, startD, List.map_cons, List.map_nil, List.cons_append, List.nil_append, List.length_cons, List.length_nil, List.replicate_succ, List.replicate_zero, Nat.reduceSub, Nat.reduceAdd, Nat.zero_add, wipeD, keyD]
      refine rIx_seq (x := wayD w) rfl (d := .int w.1) (by rw [at0]; rfl) (rIx_seq (x := wayD w) rfl (d := .int w.2) (by rw [at1]; rfl) (rSub_i ⟨trivial, x, w.1, w.2 - 1, rfl, stills_get hs hx, ?_⟩))
      simp only [truD]
      unfold fbad at k
      by_cases hb : numD x w.1 (w.2 - 1) = true
      · rw [hb] at k ⊢
        simpa using k
      · rw [if_neg hb] at k
        rw [Bool.eq_false_iff.mpr hb]
        simp only [Bool.not_false, if_true]
        exact ⟨hn, k⟩
    by_cases ha : xs.all (fun x => numD x w.1 (w.2 - 1)) = true
    · have e : xs.filterMap (fbad w) = [] := by
        rw [List.filterMap_eq_nil_iff]
        intro x hx
        unfold fbad
        rw [if_pos (List.all_eq_true.mp ha x hx)]
      rw [e]
      refine ⟨by decide, rNe_still (x := .lst []) (y := .lst []) rfl (by decide) rfl (by decide) ?_⟩
      rw [show (!eqd (.lst []) (.lst [])) = false from rfl]
      simp only [Bool.false_eq_true, if_false]
      obtain ⟨ss, rfl, hb⟩ := nums_nat h0 ha
      have em : (ss.map fun s => D.int (s : Nat)) = (ss.map fun s => ((s : Nat) : Int)).map D.int := by rw [List.map_map]; rfl
      rw [em]
      simp only [rList, seqA, rSortedSetD, asInts_map]
      refine ⟨by rw [List.length_map] at hl ⊢; exact hl, fun ms hm hk => ?_⟩
      refine rEq_still (by rw [plain, ints_plain]) (by rw [dep, ints_dep]; decide) (by rw [plain, ints_plain]) (by rw [dep, ints_dep]; decide) ?_
      rw [eqd, ints_eqd]
      have e2 : decide ((ss.map fun s => ((s : Nat) : Int)) = ms) = isSt w (.tup (ss.map fun s => D.int (s : Nat))) := by
        rw [Bool.eq_iff_iff, decide_eq_true_iff, srt_iff hm hk, asc_int]
        simp only [isSt, Bool.and_eq_true, ha, true_and]
        exact (asc_iff ss).symm
      rw [e2]
      exact q
    · have e : 0 < (xs.filterMap (fbad w)).length := by
        rw [List.all_eq_true] at ha
        simp only [Classical.not_forall] at ha
        obtain ⟨x, hx, hb⟩ := ha
        refine List.length_pos_of_mem (a := x) (List.mem_filterMap.mpr ⟨x, hx, ?_⟩)
        unfold fbad
        rw [if_neg hb]
      refine ⟨by decide, rNe_len (x := .lst (xs.filterMap (fbad w))) (y := .lst []) (xs := xs.filterMap (fbad w)) (ys := []) rfl rfl (by rw [List.length_nil]; omega) ?_⟩
      simp only [if_true]
      simp only [isSt, Bool.eq_false_iff.mpr ha, Bool.false_and] at q
      exact q
  | _ => exact q
end DL

namespace DL
open PySem PySem.Spec PyProof.Rows L2

def wide60 (d : D) : Prop := ∀ ps, d = .tup ps → ∀ p ∈ ps, ∀ xs, p = .tup xs → xs.length < 60
def fbadF (d : D) : Option D := match d with
  | .tup [w, p] => (match w with
    | .tup [.int i, .int j] => if isSt (i, j) p = true then none else some w
    | _ => none)
  | _ => none
theorem nonN_stp {ns : List Int} {s : Nat} (hs : s + 1 < ns.length) (hn : nonN ns) (h : 0 < ns.getD s 0) : nonN (step ns s) := fun i => by
  have := hn i
  rw [step_get hs]
  by_cases h1 : i = s
  · subst h1; rw [if_pos rfl, if_neg (by omega)]; omega
  · rw [if_neg h1]; split <;> omega
/-- all the rest can be walked: the stages left of this walker, then the walkers left -/
def canGo (ms : List Int) (ss : List Nat) (rest : List (List Nat)) : Bool := (after ms true ss).2 && canAll (after ms true ss).1 rest
theorem canGo_zero {ms : List Int} {s : Nat} {ss : List Nat} {rest : List (List Nat)} (h : ms.getD s 0 = 0) : canGo ms (s :: ss) rest = false := by
  unfold canGo
  rw [after, h, show (true && decide ((0 : Int) < 0)) = false from rfl, after_false]
  rfl
theorem canGo_pos {ms : List Int} {s : Nat} {ss : List Nat} {rest : List (List Nat)} (h : 0 < ms.getD s 0) : canGo ms (s :: ss) rest = canGo (step ms s) ss rest := by
  unfold canGo
  rw [after_true h]
def sp_law_is_right : DSp := fun ds M Φ _ => ∃ (ns : List Int) (ws : List (Int × Int)) (d : D), ds = [.tup (ns.map D.int), .tup (ws.map wayD), d] ∧ waysIn ws (ns.length : Nat) ∧ nonN ns ∧ still d = true ∧ ws.length ≤ 1000 ∧ wide60 d ∧
  ∀ M' b, Ext M M' → (b = true ↔ ∃ ps, d = planD ps ∧ PlanOf ns ws ps) → Φ (.bl b) M'
def t_law_is_right : DS := (sSeq (sIf (dOr (dNot (dTru (dFn rIsi (dCons (dVar 2) (dCons (dC (.ty .tuple)) dNil))))) (dTest (dOp rNe (dFn rLen (dCons (dVar 2) dNil)) (dFn rLen (dCons (dVar 1) dNil))))) (sSeq (sRet (dC (.bl false))) sNext) sNext) (sSeq (sIf (dTest (dOp rNe (dLc (dZip (dVar 1) (dVar 2)) (.tp [(.nm 6), (.nm 4)]) [6, 4] (dNot (dTru (dCall 2 sp_law_are_stages (dCons (dVar 6) (dCons (dVar 4) dNil))))) (dVar 6)) (dLst dNil))) (sSeq (sRet (dC (.bl false))) sNext) sNext) (sSeq (sAsg (dFn rListM (dCons (dVar 0) dNil)) (.nm 3)) (sSeq (sFor (dSeq (dVar 2)) (.nm 4) (sSeq (sFor (dSeq (dVar 4)) (.nm 5) (sSeq (sIf (dTest (dOp rEq (dOp rIx (dVar 3) (dVar 5)) (dC (.int 0)))) (sSeq (sRet (dC (.bl false))) sNext) sNext) (sSeq (sSetI (dOp rSub (dOp rIx (dVar 3) (dVar 5)) (dC (.int 1))) (dVar 3) (dVar 5)) (sSeq (sSetI (dOp rAdd (dOp rIx (dVar 3) (dOp rAdd (dVar 5) (dC (.int 1)))) (dC (.int 1))) (dVar 3) (dOp rAdd (dVar 5) (dC (.int 1)))) sNext)))) sNext)) (sSeq (sRet (dC (.bl true))) sNext)))))
theorem p_law_is_right (ds : List D) (M : MS) (Φ : DQ) (h : sp_law_is_right ds M Φ noX) : t_law_is_right { nx := fun _ M' => Φ .non M', rt := Φ } (startD 7 ds) M := by
  obtain ⟨ns, ws, d, rfl, hw, hnn, hd, hl, hwd, q⟩ := h
  have h0 : ∀ w ∈ ws, 0 ≤ w.1 := fun w hm => (hw w hm).1
  simp only [t_law_is_right, sSeq, sRet, sRetN, sNext, sIf, sAsg, sPar, sPar3, sSetI, sAug, sAugI, sDrop, sBreak, sCont, dOp, dUn, dCons, dNil, dFn, dC, dTup, dLst, dLstM, dIf, dTest, dTru, dAnd, dOr, dNot, dAndV, dOrV, dNotE, dChain, dSl, dNoPart, dPart, dSeq, dEnum, dZip, dRng1, dRng2, dYes, dCall, dMt, dVar, dDic0, dDic1, Pat.put, Pat.puts, List.getElem?_cons_zero, List.getElem?_cons_succ, List.set_cons_zero, List.set_cons_succ, startD, List.map_cons, List.map_nil, List.cons_append, List.nil_append, List.length_cons, List.length_nil, List.replicate_succ, List.replicate_zero, Nat.reduceSub, Nat.reduceAdd, Nat.zero_add, wipeD, keyD]
  refine rIsi_tup hd ?_
  simp only [truD]
  have bad : isForm ws d = false → Φ (.bl false) M := fun hf => q M false Ext.refl ⟨fun h => absurd h Bool.false_ne_true, fun ⟨ps, e, hp⟩ => absurd ((isForm_iff h0).mpr ⟨ps, e, (planOf_iff.mp hp).1⟩) (Bool.eq_false_iff.mp hf)⟩
  cases d with
  | tup ps =>
    have hwd := hwd ps rfl
    have hs : stills ps = true := by simpa only [still] using hd
    simp only [isTup, Bool.not_true, Bool.false_eq_true, if_false, rLen, seqA, List.length_map]
    refine rNe_i ?_
    dsimp only
    by_cases he : ps.length = ws.length
    · rw [he]
      simp only [BEq.rfl, Bool.not_true, Bool.false_eq_true, if_false, dLc, sSeq, sRet, sRetN, sNext, sIf, sAsg, sPar, sPar3, sSetI, sAug, sAugI, sDrop, sBreak, sCont, dOp, dUn, dCons, dNil, dFn, dC, dTup, dLst, dLstM, dIf, dTest, dTru, dAnd, dOr, dNot, dAndV, dOrV, dNotE, dChain, dSl, dNoPart, dPart, dSeq, dEnum, dZip, dRng1, dRng2, dYes, dCall, dMt, dVar, dDic0, dDic1, Pat.put, Pat.puts, List.getElem?_cons_zero, List.getElem?_cons_succ, List.set_cons_zero, List.set_cons_succ, startD, List.map_cons, List.map_nil, List.cons_append, List.nil_append, List.length_cons, List.length_nil, List.replicate_succ, List.replicate_zero, Nat.reduceSub, Nat.reduceAdd, Nat.zero_add, wipeD, keyD, seqA]
      refine lcW_map fbadF (zipD (ws.map wayD) ps) ⟨trivial, trivial⟩ (by rw [zipD_length, List.length_map]; omega) (fun d hd => ?_) ?_
      · obtain ⟨x, y, rfl, hx, hy⟩ := zipD_mem hd
        obtain ⟨w, hwm, rfl⟩ := List.mem_map.mp hx
        refine ⟨_, rfl, fun acc Nx hn k => ?_⟩
        simp only [sSeq, sRet, sRetN, sNext, sIf, sAsg, sPar, sPar3, sSetI, sAug, sAugI, sDrop, sBreak, sCont, dOp, dUn, dCons, dNil, dFn, dC, dTup, dLst, dLstM, dIf, dTest, dTru, dAnd, dOr, dNot, dAndV, dOrV, dNotE, dChain, dSl, dNoPart, dPart, dSeq, dEnum, dZip, dRng1, dRng2, dYes, dCall, dMt, dVar, dDic0, dDic1, Pat.put, Pat.puts, List.getElem?_cons_zero, List.getElem?_cons_succ, List.set_cons_zero, List.set_cons_succ, startD, List.map_cons, List.map_nil, List.cons_append, List.nil_append, List.length_cons, List.length_nil, List.replicate_succ, List.replicate_zero, Nat.reduceSub, Nat.reduceAdd, Nat.zero_add, wipeD, keyD]
        refine ⟨trivial, w, y, rfl, h0 w hwm, stills_get hs hy, hwd y hy, ?_⟩
        simp only [truD]
        have k' : Nx (acc ++ (if isSt w y = true then (none : Option D) else some (wayD w)).toList) M := k
        by_cases hb : isSt w y = true
        · rw [if_pos hb] at k'
          rw [hb]
          simpa using k'
        · rw [if_neg hb] at k'
          rw [Bool.eq_false_iff.mpr hb]
          simp only [Bool.not_false, if_true]
          exact ⟨hn, k'⟩
      by_cases hf : isForm ws (.tup ps) = true
      · have e : (zipD (ws.map wayD) ps).filterMap fbadF = [] := by
          rw [List.filterMap_eq_nil_iff]
          intro d hd
          obtain ⟨x, y, rfl, hx, hy⟩ := zipD_mem hd
          obtain ⟨w, hwm, rfl⟩ := List.mem_map.mp hx
          simp only [isForm, Bool.and_eq_true] at hf
          have := List.all_eq_true.mp hf.2 _ hd
          show (if isSt w y = true then (none : Option D) else some (wayD w)) = none
          rw [if_pos (show isSt w y = true from this)]
        rw [e]
        refine ⟨by decide, rNe_still (x := .lst []) (y := .lst []) rfl (by decide) rfl (by decide) ?_⟩
        rw [show (!eqd (.lst []) (.lst [])) = false from rfl]
        simp only [Bool.false_eq_true, if_false, rListM, seqA]
        intro p hp
        obtain ⟨pss, e2, hfo⟩ := (isForm_iff h0).mp hf
        injection e2 with e2
        subst e2
        have hst := hfo.st hw
        have qq : ∀ M' b, Ext M M' → b = canAll ns pss → Φ (.bl b) M' := fun M' b hx hb => by
          refine q M' b hx ?_
          rw [hb]
          constructor
          · intro hc; exact ⟨pss, rfl, planOf_iff.mpr ⟨hfo, hc⟩⟩
          · rintro ⟨ps', e, hp⟩
            rw [planD_inj (show planD pss = planD ps' from e)]
            exact (planOf_iff.mp hp).2
        simp only [sFor, sSeq, sRet, sRetN, sNext, sIf, sAsg, sPar, sPar3, sSetI, sAug, sAugI, sDrop, sBreak, sCont, dOp, dUn, dCons, dNil, dFn, dC, dTup, dLst, dLstM, dIf, dTest, dTru, dAnd, dOr, dNot, dAndV, dOrV, dNotE, dChain, dSl, dNoPart, dPart, dSeq, dEnum, dZip, dRng1, dRng2, dYes, dCall, dMt, dVar, dDic0, dDic1, Pat.put, Pat.puts, List.getElem?_cons_zero, List.getElem?_cons_succ, List.set_cons_zero, List.set_cons_succ, startD, List.map_cons, List.map_nil, List.cons_append, List.nil_append, List.length_cons, List.length_nil, List.replicate_succ, List.replicate_zero, Nat.reduceSub, Nat.reduceAdd, Nat.zero_add, wipeD, keyD, seqA]
        refine forW_inv (fun ds' ρ M' => ∃ (ms : List Int) (rest : List (List Nat)) (r4 r5 r6 : Option D), ρ = [some (.tup (ns.map D.int)), some (.tup (ws.map wayD)), some (.tup (pss.map stD)), some (.ref p), r4, r5, r6] ∧ ds' = rest.map stD ∧ M'.map p = some (.lst (ms.map D.int)) ∧ ms.length = ns.length ∧ Ext M M' ∧ nonN ms ∧ planStOk ns.length rest ∧ canAll ms rest = canAll ns pss)
          (fun _ _ _ _ => trivial) (fun ρ M' q => ?_) (fun d ds' ρ M' Nx q nx => ?_) _ _ _ ⟨ns, pss, _, _, _, rfl, rfl, MS.put_same, rfl, Ext.new hp, hnn, hst, rfl⟩
        · obtain ⟨ms, rest, r4, r5, r6, rfl, e, q1, q2, q3, q4, q5, q6⟩ := q
          obtain rfl : rest = [] := by
            cases rest with
            | nil => rfl
            | cons _ _ => cases e
          simp only [sSeq, sRet, sRetN, sNext, sIf, sAsg, sPar, sPar3, sSetI, sAug, sAugI, sDrop, sBreak, sCont, dOp, dUn, dCons, dNil, dFn, dC, dTup, dLst, dLstM, dIf, dTest, dTru, dAnd, dOr, dNot, dAndV, dOrV, dNotE, dChain, dSl, dNoPart, dPart, dSeq, dEnum, dZip, dRng1, dRng2, dYes, dCall, dMt, dVar, dDic0, dDic1, Pat.put, Pat.puts, List.getElem?_cons_zero, List.getElem?_cons_succ, List.set_cons_zero, List.set_cons_succ, startD, List.map_cons, List.map_nil, List.cons_append, List.nil_append, List.length_cons, List.length_nil, List.replicate_succ, List.replicate_zero, Nat.reduceSub, Nat.reduceAdd, Nat.zero_add, wipeD, keyD]
          exact qq M' _ q3 (by rw [← q6]; rfl)
        · obtain ⟨ms, rest, r4, r5, r6, rfl, e, q1, q2, q3, q4, q5, q6⟩ := q
          cases rest with
          | nil => cases e
          | cons ss rest =>
            rw [List.map_cons] at e
            injection e with e1 e2
            subst e1 e2
            refine ⟨_, rfl, ?_⟩
            simp only [sFor, sSeq, sRet, sRetN, sNext, sIf, sAsg, sPar, sPar3, sSetI, sAug, sAugI, sDrop, sBreak, sCont, dOp, dUn, dCons, dNil, dFn, dC, dTup, dLst, dLstM, dIf, dTest, dTru, dAnd, dOr, dNot, dAndV, dOrV, dNotE, dChain, dSl, dNoPart, dPart, dSeq, dEnum, dZip, dRng1, dRng2, dYes, dCall, dMt, dVar, dDic0, dDic1, Pat.put, Pat.puts, List.getElem?_cons_zero, List.getElem?_cons_succ, List.set_cons_zero, List.set_cons_succ, startD, List.map_cons, List.map_nil, List.cons_append, List.nil_append, List.length_cons, List.length_nil, List.replicate_succ, List.replicate_zero, Nat.reduceSub, Nat.reduceAdd, Nat.zero_add, wipeD, keyD, stD, seqA]
            refine forW_inv (fun ds3 ρ M3 => ∃ (ts : List Int) (ss3 : List Nat) (r5 r6 : Option D), ρ = [some (.tup (ns.map D.int)), some (.tup (ws.map wayD)), some (.tup (pss.map stD)), some (.ref p), some (stD ss), r5, r6] ∧ ds3 = ss3.map (fun s => D.int (s : Nat)) ∧ M3.map p = some (.lst (ts.map D.int)) ∧ ts.length = ns.length ∧ Ext M M3 ∧ nonN ts ∧ stOk ns.length ss3 ∧ canGo ts ss3 rest = canAll ns pss)
              (fun _ _ _ _ => trivial) (fun ρ M3 t => ?_) (fun d3 ds3 ρ M3 Nx3 t nx3 => ?_) _ _ _ ⟨ms, ss, r5, r6, rfl, rfl, q1, q2, q3, q4, q5 ss (List.mem_cons_self ..), q6⟩
            · obtain ⟨ts, ss3, r5, r6, rfl, e, t1, t2, t3, t4, t5, t6⟩ := t
              obtain rfl : ss3 = [] := by
                cases ss3 with
                | nil => rfl
                | cons _ _ => cases e
              exact nx _ _ ⟨ts, rest, some (stD ss), r5, r6, rfl, rfl, t1, t2, t3, t4, fun x hx => q5 x (List.mem_cons_of_mem _ hx), by rw [← t6]; rfl⟩
            · obtain ⟨ts, ss3, r5, r6, rfl, e, t1, t2, t3, t4, t5, t6⟩ := t
              cases ss3 with
              | nil => cases e
              | cons s ss3 =>
                rw [List.map_cons] at e
                injection e with e1 e2
                subst e1 e2
                have hs : s + 1 < ts.length := by rw [t2]; exact t5 s (List.mem_cons_self ..)
                refine ⟨_, rfl, ?_⟩
                simp only [sSeq, sRet, sRetN, sNext, sIf, sAsg, sPar, sPar3, sSetI, sAug, sAugI, sDrop, sBreak, sCont, dOp, dUn, dCons, dNil, dFn, dC, dTup, dLst, dLstM, dIf, dTest, dTru, dAnd, dOr, dNot, dAndV, dOrV, dNotE, dChain, dSl, dNoPart, dPart, dSeq, dEnum, dZip, dRng1, dRng2, dYes, dCall, dMt, dVar, dDic0, dDic1, Pat.put, Pat.puts, List.getElem?_cons_zero, List.getElem?_cons_succ, List.set_cons_zero, List.set_cons_succ, startD, List.map_cons, List.map_nil, List.cons_append, List.nil_append, List.length_cons, List.length_nil, List.replicate_succ, List.replicate_zero, Nat.reduceSub, Nat.reduceAdd, Nat.zero_add, wipeD, keyD]
                refine rIx_seq (seqA_ref t1) (atI_ints (by omega)) (rEq_i ?_)
                simp only [truD]
                by_cases hz : ts.getD s 0 = 0
                · rw [hz]
                  simp only [BEq.rfl, if_true]
                  exact qq M3 _ t3 (by rw [← t6, canGo_zero hz])
                · have hpos : 0 < ts.getD s 0 := by
                    have := t4 s
                    omega
                  rw [show (ts.getD s 0 == (0 : Int)) = false by simpa using hz]
                  simp only [Bool.false_eq_true, if_false]
                  refine rIx_seq (seqA_ref t1) (atI_ints (by omega)) (rSub_i (rSet_ref t1 (by rw [List.length_map]; exact ixN_nat' (by omega)) ?_))
                  rw [set_ints]
                  have e7 : (M3.put p (.lst ((ts.set s (ts.getD s 0 - 1)).map D.int))).map p = some (.lst ((ts.set s (ts.getD s 0 - 1)).map D.int)) := MS.put_same
                  have hs1 : ((s : Int) + 1) = ((s + 1 : Nat) : Int) := by omega
                  refine rAdd_i ?_
                  rw [hs1]
                  refine rIx_seq (seqA_ref e7) (atI_ints (by rw [List.length_set]; exact hs)) (rAdd_i (rAdd_i ?_))
                  rw [hs1]
                  refine rSet_ref e7 (by rw [List.length_map, List.length_set]; exact ixN_nat' hs) ?_
                  rw [set_ints]
                  have e8 : (ts.set s (ts.getD s 0 - 1)).getD (s + 1) 0 = ts.getD (s + 1) 0 := by
                    simp only [List.getD_eq_getElem?_getD, List.getElem?_set]
                    rw [if_neg (by omega)]
                  rw [e8]
                  exact nx3 _ _ ⟨step ts s, ss3, _, _, rfl, rfl, MS.put_same, by rw [step_len, t2], (t3.put hp).put hp, nonN_stp hs t4 hpos, fun x hx => t5 x (List.mem_cons_of_mem _ hx), by rw [← t6, canGo_pos hpos]⟩
      · have e : 0 < ((zipD (ws.map wayD) ps).filterMap fbadF).length := by
          have hf2 := Bool.eq_false_iff.mpr hf
          simp only [isForm, he, BEq.rfl, Bool.true_and] at hf
          rw [List.all_eq_true] at hf
          simp only [Classical.not_forall] at hf
          obtain ⟨d, hd, hb⟩ := hf
          obtain ⟨x, y, rfl, hx, hy⟩ := zipD_mem hd
          obtain ⟨w, hwm, rfl⟩ := List.mem_map.mp hx
          refine List.length_pos_of_mem (a := wayD w) (List.mem_filterMap.mpr ⟨_, hd, ?_⟩)
          show (if isSt w y = true then (none : Option D) else some (wayD w)) = some (wayD w)
          rw [if_neg (show ¬ isSt w y = true from hb)]
        refine ⟨by decide, rNe_len (x := .lst _) (y := .lst []) (xs := (zipD (ws.map wayD) ps).filterMap fbadF) (ys := []) rfl rfl (by rw [List.length_nil]; omega) ?_⟩
        simp only [if_true]
        exact bad (Bool.eq_false_iff.mpr hf)
    · have hne : ((ps.length : Nat) : Int) ≠ (ws.length : Nat) := by omega
      have e2 : (((ps.length : Nat) : Int) == ((ws.length : Nat) : Int)) = false := by simpa using hne
      rw [e2]
      refine bad ?_
      simp only [isForm, Bool.and_eq_false_iff]
      exact .inl (by simpa using he)
  | _ => exact bad rfl
end DL

namespace DL
open PySem PySem.Spec PyProof.Rows L2

/-! ### weights, dicts within lists allowed -/
def F2 (d : D) (n w : Nat) : Prop := still d = true ∧ dep d ≤ n ∧ okl d = true ∧ wt d ≤ w
theorem F2.fin {d : D} {n w : Nat} (h : F2 d n w) (hn : n ≤ 30) : Fin2 d w := ⟨h.1, Nat.le_trans h.2.1 hn, h.2.2.1, h.2.2.2⟩
theorem F2.mono {d : D} {n w n' w' : Nat} (h : F2 d n w) (hn : n ≤ n') (hw : w ≤ w') : F2 d n' w' := ⟨h.1, Nat.le_trans h.2.1 hn, h.2.2.1, Nat.le_trans h.2.2.2 hw⟩
theorem F2.of {d : D} {n w : Nat} (h : fineB d n w = true) : F2 d n w := by
  unfold fineB at h
  simp only [Bool.and_eq_true, decide_eq_true_eq] at h
  exact ⟨h.1.1.1.1, h.1.1.1.2, h.1.1.2, h.1.2⟩
def A2 (xs : List D) (n w : Nat) : Prop := ∀ x ∈ xs, F2 x n w
theorem A2.sub {xs ys : List D} {n w : Nat} (h : A2 xs n w) (s : ∀ y ∈ ys, y ∈ xs) : A2 ys n w := fun y hy => h y (s y hy)
theorem A2.app {xs ys : List D} {n w : Nat} (h : A2 xs n w) (h' : A2 ys n w) : A2 (xs ++ ys) n w := fun y hy => (List.mem_append.mp hy).elim (h y) (h' y)
theorem A2.cons {x : D} {xs : List D} {n w : Nat} (h : F2 x n w) (h' : A2 xs n w) : A2 (x :: xs) n w := fun y hy => by
  rcases List.mem_cons.mp hy with rfl | hy
  · exact h
  · exact h' y hy
theorem A2.nil {n w : Nat} : A2 [] n w := fun _ h => by cases h
theorem A2.cut {xs : List D} {n w : Nat} (h : A2 xs n w) (lo hi : Option Int) : A2 (cutD xs lo hi) n w := h.sub fun _ hy => cut_mem hy
theorem A2.all : ∀ {xs : List D} {n w : Nat}, A2 xs n w → stills xs = true ∧ deps xs ≤ n ∧ okls xs = true ∧ wts xs ≤ (w + 2) * xs.length
  | [], n, w, _ => ⟨rfl, Nat.zero_le _, rfl, Nat.zero_le _⟩
  | x :: xs, n, w, h => by
    obtain ⟨a1, a2, a3, a4⟩ := h x (List.mem_cons_self ..)
    obtain ⟨b1, b2, b3, b4⟩ := A2.all (xs := xs) (n := n) (w := w) fun y hy => h y (List.mem_cons_of_mem _ hy)
    refine ⟨by rw [stills, a1, b1]; rfl, by rw [deps]; omega, by rw [okls, a3, b3]; rfl, ?_⟩
    rw [wts, List.length_cons, Nat.mul_succ]
    omega
theorem A2.tup {xs : List D} {n w L : Nat} (h : A2 xs n w) (hl : xs.length ≤ L) : F2 (.tup xs) (n + 1) ((w + 2) * L + 3) := by
  obtain ⟨a, b, c, d⟩ := h.all
  have := Nat.mul_le_mul_left (w + 2) hl
  exact ⟨by rw [still]; exact a, by rw [dep]; omega, by rw [okl]; exact c, by rw [wt]; omega⟩
theorem A2.lst {xs : List D} {n w L : Nat} (h : A2 xs n w) (hl : xs.length ≤ L) : F2 (.lst xs) (n + 1) ((w + 2) * L + 3) := by
  obtain ⟨a, b, c, d⟩ := h.all
  have := Nat.mul_le_mul_left (w + 2) hl
  exact ⟨by rw [still]; exact a, by rw [dep]; omega, by rw [okl]; exact c, by rw [wt]; omega⟩
theorem F2.int {i : Int} (h0 : -(2 ^ 200) < i) (h1 : i < 2 ^ 200) : F2 (.int i) 0 1921 := F2.of (fineB_int h0 h1)
/-! ### widths -/
def wid (d : D) : Bool := match d with
  | .tup xs => decide (xs.length < 60)
  | _ => true
def wid2 (d : D) : Bool := match d with
  | .tup xs => xs.all wid
  | _ => true
theorem wid2_60 {d : D} (h : wid2 d = true) : wide60 d := fun ps e p hp xs e2 => by
  subst e
  have := List.all_eq_true.mp h p hp
  subst e2
  exact of_decide_eq_true this
theorem wide_ok {d : D} (h : wide60 d) : wideOk d := fun ps e p hp xs e2 => by
  have := h ps e p hp xs e2
  omega
theorem odds_wid : (odds.all fun d => (wid d && wid2 d) && (fineB d 3 4000)) = true := by decide +kernel
theorem wid2_tup {xs : List D} (h : ∀ x ∈ xs, wid x = true) : wid2 (.tup xs) = true := List.all_eq_true.mpr h
/-! ### few in ascending order -/
theorem asc_few : ∀ (ms : List Int) (lo hi : Int), ms.Pairwise (· < ·) → (∀ x ∈ ms, lo ≤ x ∧ x < hi) → ms.length ≤ (hi - lo).toNat
  | [], _, _, _, _ => Nat.zero_le _
  | x :: ms, lo, hi, h, hb => by
    rw [List.pairwise_cons] at h
    have hx := hb x (List.mem_cons_self ..)
    have := asc_few ms (x + 1) hi h.2 fun y hy => by
      have := h.1 y hy
      have := hb y (List.mem_cons_of_mem _ hy)
      omega
    rw [List.length_cons]
    omega
theorem PlanOf.asc : ∀ {ws : List (Int × Int)} {ps : List (List Nat)} {ns : List Int}, PlanOf ns ws ps → ∀ ss ∈ ps, ss.Pairwise (· < ·)
  | [], [], _, _, _, h => by cases h
  | w :: ws, s :: ps, ns, h, ss, hs => by
    rcases List.mem_cons.mp hs with rfl | hs
    · exact h.1.1
    · exact PlanOf.asc h.2.2 ss hs
  | [], _ :: _, _, h, _, _ => h.elim
  | _ :: _, [], _, h, _, _ => h.elim
theorem few_of {ss : List Nat} (h : ss.Pairwise (· < ·)) (hb : ∀ s ∈ ss, s < 9) : ss.length ≤ 9 := by
  have := asc_few (ss.map fun s => ((s : Nat) : Int)) 0 9 (asc_int.mpr h) fun x hx => by
    obtain ⟨s, hs, rfl⟩ := List.mem_map.mp hx
    have := hb s hs
    omega
  simpa using this
theorem tupC {xs : List D} (h : A2 xs 4 4000) (hl : xs.length ≤ 20) : F2 (.tup xs) 5 81000 ∧ wid (.tup xs) = true :=
  ⟨(h.tup hl).mono (by decide) (by decide), decide_eq_true (by omega)⟩
theorem st_tupC {ss : List Nat} (hb : ∀ s ∈ ss, s < 9) (hl : ss.length ≤ 9) : F2 (stD ss) 5 81000 ∧ wid (stD ss) = true := by
  refine tupC (fun x hx => ?_) (by rw [List.length_map]; omega)
  obtain ⟨s, hs, rfl⟩ := List.mem_map.mp hx
  have := hb s hs
  exact (F2.int (by omega) (by omega)).mono (by decide) (by decide)
def sp_law_changed_v3 : DSp := fun ds M Φ _ => ∃ (a c : Addr) (k : Nat) (st : Nat) (ws : List (Int × Int)) (ps : List (List Nat)), ds = [.ref a, .tup (ws.map wayD), planD ps] ∧ st ≤ 10 ∧ waysIn ws (st : Nat) ∧ ws.length ≤ 40 ∧ ps.length = ws.length ∧ planStOk st ps ∧ (∀ ss ∈ ps, ss.Pairwise (· < ·)) ∧ Dk M a c (k + 5) ∧
  ∀ (d : D) M', Dk M' a c k → Kp a c M M' → F2 d 10 7000000 → wid2 d = true → Φ d M'
def t_law_changed_v3 : DS := (sSeq (sIf (dTest (dOp rEq (dVar 2) (dTup dNil))) (sSeq (sRet (dOp rIx (dLst (dCons (dTup (dCons (dTup dNil) dNil)) (dCons (dLst dNil) (dCons (dC .non) (dCons (dTup (dCons (dC (.int 0)) dNil)) (dCons (dCall 1 sp_law_odd (dCons (dVar 0) dNil)) dNil)))))) (dCall 2 sp_law_draw (dCons (dVar 0) (dCons (dC (.int 5)) dNil))))) sNext) sNext) (sSeq (sPar 3 4 (dCons (dCall 2 sp_law_draw (dCons (dVar 0) (dCons (dFn rLen (dCons (dVar 2) dNil)) dNil))) (dCons (dCall 1 sp_law_odd (dCons (dVar 0) dNil)) dNil))) (sSeq (sAsg (dOp rIx (dVar 1) (dVar 3)) (.tp [(.nm 5), (.nm 6)])) (sSeq (sPar 7 8 (dCons (dOp rIx (dVar 2) (dVar 3)) (dCons (dOp rAdd (dVar 5) (dCall 2 sp_law_draw (dCons (dVar 0) (dCons (dOp rAdd (dOp rSub (dVar 6) (dVar 5)) (dC (.int 1))) dNil)))) dNil))) (sSeq (sPar 9 10 (dCons (dFn rTuple (dCons (dFn rSortedSetD (dCons (dOp rAdd (dVar 7) (dTup (dCons (dVar 8) dNil))) dNil)) dNil)) (dCons (dTupRg (dVar 5) (dVar 6)) dNil))) (sSeq (sAsg (dLst (dCons (dVar 9) (dCons (dVar 10) (dCons (dSl (dVar 7) (dPart (dC (.int 1))) dNoPart) (dCons (dRev (dVar 7)) (dCons (dOp rAdd (dVar 7) (dSl (dVar 7) dNoPart (dPart (dC (.int 1))))) (dCons (dFn rList (dCons (dVar 7) dNil)) (dCons (dOp rAdd (dTup (dCons (dOp rSub (dVar 5) (dC (.int 1))) dNil)) (dVar 7)) (dCons (dVar 4) dNil))))))))) (.nm 11)) (sSeq (sAsg (dOp rAdd (dVar 11) (dLst (dCons (dVar 9) (dCons (dVar 10) (dCons (dSl (dVar 7) dNoPart (dPart (dUn rNeg (dC (.int 1))))) (dCons (dFn rTuple (dCons (dLc (dSeq (dVar 7)) (.nm 15) [15] dYes (dFn rStr (dCons (dVar 15) dNil))) dNil)) (dCons (dOp rAdd (dVar 7) (dTup (dCons (dVar 4) dNil))) dNil))))))) (.nm 11)) (sSeq (sAsg (dOp rIx (dOp rAdd (dVar 11) (dLst (dCons (dOp rAdd (dTup (dCons (dVar 4) dNil)) (dVar 7)) dNil))) (dCall 2 sp_law_draw (dCons (dVar 0) (dCons (dC (.int 14)) dNil)))) (.nm 11)) (sSeq (sPar 12 13 (dCons (dSl (dVar 2) dNoPart (dPart (dVar 3))) (dCons (dSl (dVar 2) (dPart (dOp rAdd (dVar 3) (dC (.int 1)))) dNoPart) dNil))) (sSeq (sAsg (dLst (dCons (dOp rAdd (dOp rAdd (dVar 12) (dTup (dCons (dVar 11) dNil))) (dVar 13)) (dCons (dOp rAdd (dVar 2) (dTup (dCons (dTup dNil) dNil))) (dCons (dSl (dVar 2) (dPart (dC (.int 1))) dNoPart) (dCons (dFn rList (dCons (dVar 2) dNil)) (dCons (dRev (dVar 2)) (dCons (dTup (dCons (dVar 2) dNil)) (dCons (dVar 4) dNil)))))))) (.nm 14)) (sSeq (sRet (dOp rIx (dOp rAdd (dOp rMul (dSl (dVar 14) dNoPart (dPart (dC (.int 1)))) (dC (.int 6))) (dVar 14)) (dCall 2 sp_law_draw (dCons (dVar 0) (dCons (dC (.int 13)) dNil))))) sNext)))))))))))
theorem sts_plain : ∀ ps : List (List Nat), plains (ps.map stD) = true ∧ deps (ps.map stD) ≤ 1
  | [] => ⟨rfl, Nat.zero_le _⟩
  | s :: ps => by
    obtain ⟨a, b⟩ := sts_plain ps
    have em : (s.map fun s => D.int (s : Nat)) = (s.map fun s => ((s : Nat) : Int)).map D.int := by rw [List.map_map]; rfl
    rw [List.map_cons, plains, deps, stD, em, plain, dep, ints_plain, ints_dep, a]
    exact ⟨rfl, by omega⟩
theorem eqd_cons {x : D} {xs : List D} : eqd (.tup (x :: xs)) (.tup []) = false := by simp [eqd, eqds]
def strF (d : D) : Option D := match d with
  | .int i => some (.str (toString i))
  | _ => none
theorem p_law_changed_v3 (ds : List D) (M : MS) (Φ : DQ) (h : sp_law_changed_v3 ds M Φ noX) : t_law_changed_v3 { nx := fun _ M' => Φ .non M', rt := Φ } (startD 16 ds) M := by
  obtain ⟨a, c, k, st, ws, ps, rfl, hst, hw, hwl, hpl, hps, hpa, hD, h⟩ := h
  simp only [t_law_changed_v3, sSeq, sRet, sRetN, sNext, sIf, sAsg, sPar, sPar3, sSetI, sAug, sAugI, sDrop, sBreak, sCont, dOp, dUn, dCons, dNil, dFn, dC, dTup, dLst, dLstM, dIf, dTest, dTru, dAnd, dOr, dNot, dAndV, dOrV, dNotE, dChain, dSl, dNoPart, dPart, dSeq, dEnum, dZip, dRng1, dRng2, dYes, dCall, dMt, dVar, dDic0, dDic1, put_nm, put_tp, puts_nil, puts_cons, List.getElem?_cons_zero, List.getElem?_cons_succ, List.set_cons_zero, List.set_cons_succ, startD, List.map_cons, List.map_nil, List.cons_append, List.nil_append, List.length_cons, List.length_nil, List.replicate_succ, List.replicate_zero, Nat.reduceSub, Nat.reduceAdd, Nat.zero_add, wipeD, keyD, gSeq, gPlain, gNil, gYield, gFor, dTupP, dRngP, dCallG, sForG, dLcG, GE.at, dTupRg, dStar, planD]
  have odd2 : ∀ d ∈ odds, F2 d 3 4000 ∧ wid d = true ∧ wid2 d = true := fun d hd => by
    have := List.all_eq_true.mp odds_wid d hd
    simp only [Bool.and_eq_true] at this
    exact ⟨F2.of this.2, this.1.1, this.1.2⟩
  by_cases he : ps = []
  · subst he
    refine ⟨by decide, rEq_still (x := .tup []) (y := .tup []) (by rfl) (by decide) (by rfl) (by decide) ?_⟩
    rw [show eqd (.tup []) (.tup []) = true from rfl]
    simp only [truD, if_true]
    refine ⟨by decide, by decide, by decide, by decide, ?_⟩
    refine use_odd (hD : Dk M a c (k + 4 + 1)) fun odd M1 hD1 hK1 hodd => ⟨by decide, ?_⟩
    refine use_draw (hD1 : Dk M1 a c (k + 3 + 1)) (by decide) (by decide) fun r M2 hD2 hK2 r0 r1 => ?_
    refine rIx_any r0 (by simpa using r1) fun d hd => ?_
    obtain ⟨o1, o2, o3⟩ := odd2 odd hodd
    have hd2 : F2 d 10 7000000 ∧ wid2 d = true := by
      simp only [List.mem_cons, List.not_mem_nil, or_false] at hd
      rcases hd with rfl | rfl | rfl | rfl | rfl
      · exact ⟨F2.of (by decide +kernel), by decide⟩
      · exact ⟨F2.of (by decide +kernel), by decide⟩
      · exact ⟨F2.of (by decide +kernel), by decide⟩
      · exact ⟨F2.of (by decide +kernel), by decide⟩
      · exact ⟨o1.mono (by decide) (by decide), o3⟩
    exact h d M2 (hD2.mono (by omega)) (hK1.trans hK2) hd2.1 hd2.2
  have hpos : 0 < ps.length := List.length_pos_iff.mpr he
  obtain ⟨pp1, pp2⟩ := sts_plain ps
  refine ⟨by decide, rEq_still (x := .tup (ps.map stD)) (y := .tup []) (by rw [plain]; exact pp1) (by rw [dep]; omega) (by rfl) (by decide) ?_⟩
  rw [show eqd (.tup (ps.map stD)) (.tup []) = false by cases ps with | nil => exact absurd rfl he | cons _ _ => exact eqd_cons]
  simp only [truD, Bool.false_eq_true, if_false, rLen, seqA, List.length_map]
  refine use_draw (hD : Dk M a c (k + 4 + 1)) (by omega) (by omega) fun at' M1 hD1 hK1 t0 t1 => ?_
  refine use_odd (hD1 : Dk M1 a c (k + 3 + 1)) fun strange M2 hD2 hK2 hodd => ?_
  obtain ⟨o1, o2, o3⟩ := odd2 strange hodd
  have hat : at'.toNat < ws.length := by omega
  have hwm := List.getElem_mem hat
  generalize ew : ws[at'.toNat] = w at hwm
  obtain ⟨w0, w1, w2⟩ := hw w hwm
  refine rIx_seq (x := .tup _) rfl (d := wayD w) (by rw [atI_t _ _ t0, List.getElem?_map, List.getElem?_eq_getElem hat, ew]; rfl) ?_
  have hlt : at'.toNat < ps.length := by omega
  have hsm := List.getElem_mem hlt
  generalize ess : ps[at'.toNat] = ss at hsm
  have hs8 : ∀ s ∈ ss, s < 9 := fun s hs => by
    have := hps ss hsm s hs
    omega
  have hsl := few_of (hpa ss hsm) hs8
  simp only [wayD, sSeq, sRet, sRetN, sNext, sIf, sAsg, sPar, sPar3, sSetI, sAug, sAugI, sDrop, sBreak, sCont, dOp, dUn, dCons, dNil, dFn, dC, dTup, dLst, dLstM, dIf, dTest, dTru, dAnd, dOr, dNot, dAndV, dOrV, dNotE, dChain, dSl, dNoPart, dPart, dSeq, dEnum, dZip, dRng1, dRng2, dYes, dCall, dMt, dVar, dDic0, dDic1, put_nm, put_tp, puts_nil, puts_cons, List.getElem?_cons_zero, List.getElem?_cons_succ, List.set_cons_zero, List.set_cons_succ, startD, List.map_cons, List.map_nil, List.cons_append, List.nil_append, List.length_cons, List.length_nil, List.replicate_succ, List.replicate_zero, Nat.reduceSub, Nat.reduceAdd, Nat.zero_add, wipeD, keyD, gSeq, gPlain, gNil, gYield, gFor, dTupP, dRngP, dCallG, sForG, dLcG, GE.at, dTupRg, dStar]
  refine rIx_seq (x := .tup _) rfl (d := stD ss) (by rw [atI_t _ _ t0, List.getElem?_map, List.getElem?_eq_getElem hlt, ess]; rfl) ?_
  refine rSub_i (rAdd_i ?_)
  refine use_draw (hD2 : Dk M2 a c (k + 2 + 1)) (by omega) (by omega) fun j M3 hD3 hK3 j0 j1 => rAdd_i ?_
  have eS : (ss.map fun s => D.int (s : Nat)) = (ss.map fun s => ((s : Nat) : Int)).map D.int := by rw [List.map_map]; rfl
  simp only [stD]
  rw [eS]
  have hS9 : ∀ x ∈ ss.map (fun s => ((s : Nat) : Int)), 0 ≤ x ∧ x < 9 := fun x hx => by
    obtain ⟨s, hs, rfl⟩ := List.mem_map.mp hx
    have := hs8 s hs
    omega
  have hSl : (ss.map fun s => ((s : Nat) : Int)).length ≤ 9 := by rw [List.length_map]; exact hsl
  generalize (ss.map fun s => ((s : Nat) : Int)) = S at hS9 hSl
  refine ⟨by decide, rAdd_t (by rw [List.length_map, List.length_cons, List.length_nil]; omega) ?_⟩
  rw [show S.map D.int ++ [D.int (w.1 + j)] = (S ++ [w.1 + j]).map D.int by rw [List.map_append]; rfl]
  simp only [rSortedSetD, asInts_map]
  refine ⟨by rw [List.length_append, List.length_cons, List.length_nil]; omega, fun ms hms hmk => ?_⟩
  have hm9 : ∀ x ∈ ms, 0 ≤ x ∧ x < 10 := fun x hx => by
    rcases List.mem_append.mp ((hmk x).mp hx) with z | z
    · have := hS9 x z
      omega
    · rw [List.mem_singleton.mp z]
      omega
  have hml := asc_few ms 0 10 hms hm9
  simp only [rTuple, seqA, rSl, dRev, rList, rNeg, sSeq, sRet, sRetN, sNext, sIf, sAsg, sPar, sPar3, sSetI, sAug, sAugI, sDrop, sBreak, sCont, dOp, dUn, dCons, dNil, dFn, dC, dTup, dLst, dLstM, dIf, dTest, dTru, dAnd, dOr, dNot, dAndV, dOrV, dNotE, dChain, dSl, dNoPart, dPart, dSeq, dEnum, dZip, dRng1, dRng2, dYes, dCall, dMt, dVar, dDic0, dDic1, put_nm, put_tp, puts_nil, puts_cons, List.getElem?_cons_zero, List.getElem?_cons_succ, List.set_cons_zero, List.set_cons_succ, startD, List.map_cons, List.map_nil, List.cons_append, List.nil_append, List.length_cons, List.length_nil, List.replicate_succ, List.replicate_zero, Nat.reduceSub, Nat.reduceAdd, Nat.zero_add, wipeD, keyD, gSeq, gPlain, gNil, gYield, gFor, dTupP, dRngP, dCallG, sForG, dLcG, GE.at, dTupRg, dStar]
  have c0 := cut_len (S.map D.int) none (some 1)
  refine ⟨by omega, by omega, by omega, by omega, by rw [List.length_map] at c0 ⊢; omega, ?_⟩
  dsimp only
  refine rSub_i ⟨by decide, rAdd_t (by rw [List.length_map, List.length_cons, List.length_nil]; omega) ⟨by decide, ?_⟩⟩
  simp only [dLc, sSeq, sRet, sRetN, sNext, sIf, sAsg, sPar, sPar3, sSetI, sAug, sAugI, sDrop, sBreak, sCont, dOp, dUn, dCons, dNil, dFn, dC, dTup, dLst, dLstM, dIf, dTest, dTru, dAnd, dOr, dNot, dAndV, dOrV, dNotE, dChain, dSl, dNoPart, dPart, dSeq, dEnum, dZip, dRng1, dRng2, dYes, dCall, dMt, dVar, dDic0, dDic1, put_nm, put_tp, puts_nil, puts_cons, List.getElem?_cons_zero, List.getElem?_cons_succ, List.set_cons_zero, List.set_cons_succ, startD, List.map_cons, List.map_nil, List.cons_append, List.nil_append, List.length_cons, List.length_nil, List.replicate_succ, List.replicate_zero, Nat.reduceSub, Nat.reduceAdd, Nat.zero_add, wipeD, keyD, gSeq, gPlain, gNil, gYield, gFor, dTupP, dRngP, dCallG, sForG, dLcG, GE.at, dTupRg, dStar, seqA]
  refine lcW_map strF _ trivial (by rw [List.length_map]; omega) (fun x hx => ?_) ?_
  · obtain ⟨s, hs, rfl⟩ := List.mem_map.mp hx
    refine ⟨_, rfl, fun acc Nx hl q => ?_⟩
    simp only [sSeq, sRet, sRetN, sNext, sIf, sAsg, sPar, sPar3, sSetI, sAug, sAugI, sDrop, sBreak, sCont, dOp, dUn, dCons, dNil, dFn, dC, dTup, dLst, dLstM, dIf, dTest, dTru, dAnd, dOr, dNot, dAndV, dOrV, dNotE, dChain, dSl, dNoPart, dPart, dSeq, dEnum, dZip, dRng1, dRng2, dYes, dCall, dMt, dVar, dDic0, dDic1, put_nm, put_tp, puts_nil, puts_cons, List.getElem?_cons_zero, List.getElem?_cons_succ, List.set_cons_zero, List.set_cons_succ, startD, List.map_cons, List.map_nil, List.cons_append, List.nil_append, List.length_cons, List.length_nil, List.replicate_succ, List.replicate_zero, Nat.reduceSub, Nat.reduceAdd, Nat.zero_add, wipeD, keyD, gSeq, gPlain, gNil, gYield, gFor, dTupP, dRngP, dCallG, sForG, dLcG, GE.at, dTupRg, dStar, if_true, rStr]
    refine ⟨?_, hl, q⟩
    obtain ⟨y0, y1⟩ := hS9 s hs
    have : s = 0 ∨ s = 1 ∨ s = 2 ∨ s = 3 ∨ s = 4 ∨ s = 5 ∨ s = 6 ∨ s = 7 ∨ s = 8 := by omega
    rcases this with rfl | rfl | rfl | rfl | rfl | rfl | rfl | rfl | rfl <;> decide +kernel
  have AS : A2 (S.map D.int) 4 4000 := fun x hx => by
    obtain ⟨s, hs, rfl⟩ := List.mem_map.mp hx
    have := hS9 s hs
    exact (F2.int (by omega) (by omega)).mono (by decide) (by decide)
  have Am : A2 (ms.map D.int) 4 4000 := fun x hx => by
    obtain ⟨s, hs, rfl⟩ := List.mem_map.mp hx
    have := hm9 s hs
    exact (F2.int (by omega) (by omega)).mono (by decide) (by decide)
  have Aw : A2 ((List.range (w.2 - w.1).toNat).map fun k => D.int (w.1 + (k : Nat))) 4 4000 := fun x hx => by
    obtain ⟨s, hs, rfl⟩ := List.mem_map.mp hx
    have := List.mem_range.mp hs
    exact (F2.int (by omega) (by omega)).mono (by decide) (by decide)
  have At : A2 ((S.map D.int).filterMap strF) 4 4000 := fun x hx => by
    obtain ⟨y, hy, e⟩ := List.mem_filterMap.mp hx
    obtain ⟨s, hs, rfl⟩ := List.mem_map.mp hy
    injection e with e
    subst e
    obtain ⟨y0, y1⟩ := hS9 s hs
    have : s = 0 ∨ s = 1 ∨ s = 2 ∨ s = 3 ∨ s = 4 ∨ s = 5 ∨ s = 6 ∨ s = 7 ∨ s = 8 := by omega
    rcases this with rfl | rfl | rfl | rfl | rfl | rfl | rfl | rfl | rfl <;> exact F2.of (by decide +kernel)
  have Ao : A2 [strange] 4 4000 := A2.nil.cons (o1.mono (by decide) (by decide))
  have Af : A2 [D.int (w.1 - 1)] 4 4000 := A2.nil.cons ((F2.int (by omega) (by omega)).mono (by decide) (by decide))
  have lS : (S.map D.int).length ≤ 9 := by rw [List.length_map]; exact hSl
  have lm : (ms.map D.int).length ≤ 10 := by rw [List.length_map]; exact hml
  have lw : ((List.range (w.2 - w.1).toNat).map fun k => D.int (w.1 + (k : Nat))).length ≤ 9 := by rw [List.length_map, List.length_range]; omega
  have lt : ((S.map D.int).filterMap strF).length ≤ 9 := Nat.le_trans (List.length_filterMap_le _ _) lS
  generalize ((S.map D.int).filterMap strF) = T at At lt ⊢
  generalize ((List.range (w.2 - w.1).toNat).map fun k => D.int (w.1 + (k : Nat))) = W at Aw lw ⊢
  generalize S.map D.int = S at AS lS ⊢
  generalize ms.map D.int = m at Am lm ⊢
  have c1 := cut_len S (some 1) none
  have c2 := cut_len S none (some 1)
  have c3 := cut_len S none (some (-1))
  simp only [seqA, rAdd, seqL, List.length_append, List.length_cons, List.length_nil, List.cons_append, List.nil_append]
  refine ⟨by decide, by omega, by decide, by decide, by decide, by omega, by decide, by decide, ?_⟩
  refine use_draw (hD3 : Dk M3 a c (k + 1 + 1)) (by decide) (by decide) fun r M4 hD4 hK4 x0 x1 => ?_
  refine rIx_any x0 (by simpa using x1) fun new hnew => ?_
  have fnew : F2 new 5 81000 ∧ wid new = true := by
    simp only [List.mem_cons, List.not_mem_nil, or_false] at hnew
    rcases hnew with rfl | rfl | rfl | rfl | rfl | rfl | rfl | rfl | rfl | rfl | rfl | rfl | rfl | rfl
    · exact tupC Am (by omega)
    · exact tupC Aw (by omega)
    · exact tupC (AS.cut _ _) (by omega)
    · exact tupC (AS.sub fun y hy => List.mem_reverse.mp hy) (by rw [List.length_reverse]; omega)
    · exact tupC (AS.app (AS.cut _ _)) (by rw [List.length_append]; omega)
    · exact ⟨(AS.lst (L := 20) (by omega)).mono (by decide) (by decide), rfl⟩
    · exact tupC (Af.app AS) (by simp only [List.length_append, List.length_cons, List.length_nil]; omega)
    · exact ⟨o1.mono (by decide) (by decide), o2⟩
    · exact tupC Am (by omega)
    · exact tupC Aw (by omega)
    · exact tupC (AS.cut _ _) (by omega)
    · exact tupC At (by omega)
    · exact tupC (AS.app Ao) (by rw [List.length_append, List.length_cons, List.length_nil]; omega)
    · exact tupC (Ao.app AS) (by simp only [List.length_append, List.length_cons, List.length_nil]; omega)
  have AP : A2 (ps.map stD) 5 81000 := fun x hx => by
    obtain ⟨s, hs, rfl⟩ := List.mem_map.mp hx
    have h9 : ∀ x ∈ s, x < 9 := fun x hx => by
      have := hps s hs x hx
      omega
    exact (st_tupC h9 (few_of (hpa s hs) h9)).1
  have WP : ∀ x ∈ ps.map stD, wid x = true := fun x hx => by
    obtain ⟨s, hs, rfl⟩ := List.mem_map.mp hx
    have h9 : ∀ x ∈ s, x < 9 := fun x hx => by
      have := hps s hs x hx
      omega
    exact (st_tupC h9 (few_of (hpa s hs) h9)).2
  have lP : (ps.map stD).length ≤ 40 := by rw [List.length_map]; omega
  generalize ps.map stD = P at AP WP lP ⊢
  have k1 := cut_len P none (some at')
  have k2 := cut_len P (some (at' + 1)) none
  have k3 := cut_len P (some 1) none
  have An : A2 [new] 5 81000 := A2.nil.cons fnew.1
  have Ae : A2 [D.tup []] 5 81000 := A2.nil.cons (F2.of (by decide +kernel))
  have some7 : ∀ d ∈ ([.tup (cutD P none (some at') ++ [new] ++ cutD P (some (at' + 1)) none), .tup (P ++ [.tup []]), .tup (cutD P (some 1) none), .lst P, .tup P.reverse, .tup [.tup P], strange] : List D), F2 d 10 7000000 ∧ wid2 d = true := fun d hd => by
    simp only [List.mem_cons, List.not_mem_nil, or_false] at hd
    rcases hd with rfl | rfl | rfl | rfl | rfl | rfl | rfl
    · refine ⟨((((AP.cut _ _).app An).app (AP.cut _ _)).tup (L := 81) (by simp only [List.length_append, List.length_cons, List.length_nil]; omega)).mono (by decide) (by decide), wid2_tup fun x hx => ?_⟩
      rcases List.mem_append.mp hx with hx | hx
      · rcases List.mem_append.mp hx with hx | hx
        · exact WP x (cut_mem hx)
        · rw [List.mem_singleton.mp hx]; exact fnew.2
      · exact WP x (cut_mem hx)
    · refine ⟨((AP.app Ae).tup (L := 81) (by simp only [List.length_append, List.length_cons, List.length_nil]; omega)).mono (by decide) (by decide), wid2_tup fun x hx => ?_⟩
      rcases List.mem_append.mp hx with hx | hx
      · exact WP x hx
      · rw [List.mem_singleton.mp hx]; rfl
    · exact ⟨((AP.cut _ _).tup (L := 81) (by omega)).mono (by decide) (by decide), wid2_tup fun x hx => WP x (cut_mem hx)⟩
    · exact ⟨(AP.lst (L := 81) (by omega)).mono (by decide) (by decide), rfl⟩
    · exact ⟨((AP.sub fun y hy => List.mem_reverse.mp hy).tup (L := 81) (by rw [List.length_reverse]; omega)).mono (by decide) (by decide), wid2_tup fun x hx => WP x (List.mem_reverse.mp hx)⟩
    · refine ⟨((A2.nil.cons (AP.tup (L := 81) (by omega))).tup (L := 1) (Nat.le_refl 1)).mono (by decide) (by decide), wid2_tup fun x hx => ?_⟩
      rw [List.mem_singleton.mp hx]
      exact decide_eq_true (by omega)
    · exact ⟨o1.mono (by decide) (by decide), o3⟩
  simp only [rMul, seqL, cut71, show (6 : Int).toNat = 6 from rfl, List.replicate_succ, List.replicate_zero, List.flatten_cons, List.flatten_nil, List.append_nil, List.cons_append, List.nil_append, List.length_cons, List.length_nil]
  refine ⟨by decide, by omega, by omega, by decide, by decide, by omega, by decide, by decide, by decide, by decide, by decide, by decide, ?_⟩
  refine use_draw (hD4 : Dk M4 a c (k + 1)) (by decide) (by decide) fun r2 M5 hD5 hK5 y0 y1 => ?_
  refine rIx_any y0 (by simpa using y1) fun d hd => ?_
  have hd2 := some7 d (by
    simp only [List.mem_cons, List.not_mem_nil, or_false, List.append_assoc, List.cons_append, List.nil_append] at hd ⊢
    rcases hd with z | z | z | z | z | z | z | z | z | z | z | z | z <;> simp [z])
  exact h d M5 hD5 ((((hK1.trans hK2).trans hK3).trans hK4).trans hK5) hd2.1 hd2.2
end DL

namespace DL
open PySem PySem.Spec PyProof.Rows L2

def stateD (row : List Int) (ws : List (Int × Int)) (us : List Int) : D := .tup [.tup (row.map D.int), .tup (ws.map wayD), .tup (us.map D.int)]
structure StOk (row : List Int) (ws : List (Int × Int)) (us : List Int) : Prop where
  r1 : 1 ≤ row.length
  r2 : row.length ≤ 10
  u1 : 1 ≤ us.length
  u2 : us.length ≤ 10
  w : ws.length ≤ 40
  ri : intsIn row 600
  ui : intsIn us 600
  wi : ∀ w ∈ ws, 0 ≤ w.1 ∧ w.1 ≤ 600 ∧ 0 ≤ w.2 ∧ w.2 ≤ 600
def sp_law_state : DSp := fun ds M Φ _ => ∃ (a c : Addr) (k : Nat), ds = [.ref a, .int 10, .int 40] ∧ Dk M a c (k + 200) ∧
  ∀ (row : List Int) (ws : List (Int × Int)) (us : List Int) M', Dk M' a c k → Kp a c M M' → StOk row ws us → Φ (stateD row ws us) M'
theorem use_draw3 {M : MS} {Φ : DQ} {a c : Addr} {k : Nat} {l : Int} (hD : Dk M a c (k + 1)) (h1 : 1 ≤ l) (h2 : l < 2 ^ 30) (h : ∀ (r : Int) M', Dk M' a c k → Kp a c M M' → 0 ≤ r → r < l → Φ (.int r) M') : True ∧ sp_law_draw_v3 [.ref a, .int l] M Φ noX :=
  ⟨trivial, a, c, k, l, rfl, h1, h2, hD, h⟩
def t_law_state : DS := (sSeq (sAsg (dTup (dCons (dOp rAdd (dC (.int 2)) (dCall 2 sp_law_draw_v3 (dCons (dVar 0) (dCons (dOp rSub (dVar 1) (dC (.int 1))) dNil)))) (dCons (dOp rIx (dLst (dCons (dC (.int 1)) (dCons (dC (.int 4)) (dCons (dC (.int 50)) dNil)))) (dCall 2 sp_law_draw_v3 (dCons (dVar 0) (dCons (dC (.int 3)) dNil)))) dNil))) (.tp [(.nm 3), (.nm 4)])) (sSeq (sAsg (dFn rTuple (dCons (dLc (dRng1 (dVar 3)) (.nm 9) [9] dYes (dOp rMul (dCall 2 sp_law_draw_v3 (dCons (dVar 0) (dCons (dOp rAdd (dVar 4) (dC (.int 1))) dNil))) (dFn rInt (dCons (dOp rGt (dCall 2 sp_law_draw_v3 (dCons (dVar 0) (dCons (dC (.int 3)) dNil))) (dC (.int 0))) dNil)))) dNil)) (.nm 5)) (sSeq (sPar3 6 7 8 (dCons (dLstM dNil) (dCons (dOp rIx (dLst (dCons (dC (.int 2)) (dCons (dC (.int 6)) (dCons (dOp rAdd (dVar 4) (dC (.int 2))) (dCons (dC (.int 500)) dNil))))) (dCall 2 sp_law_draw_v3 (dCons (dVar 0) (dCons (dC (.int 4)) dNil)))) (dCons (dLstM dNil) dNil)))) (sSeq (sFor (dRng1 (dCall 2 sp_law_draw_v3 (dCons (dVar 0) (dCons (dOp rAdd (dVar 2) (dC (.int 1))) dNil)))) (.nm 9) (sSeq (sAsg (dCall 2 sp_law_draw_v3 (dCons (dVar 0) (dCons (dOp rSub (dVar 3) (dC (.int 1))) dNil))) (.nm 10)) (sSeq (sDrop (dMt rApp (dVar 6) (dCons (dTup (dCons (dVar 10) (dCons (dOp rAdd (dOp rAdd (dVar 10) (dC (.int 1))) (dCall 2 sp_law_draw_v3 (dCons (dVar 0) (dCons (dOp rIx (dLst (dCons (dC (.int 1)) (dCons (dOp rSub (dOp rSub (dVar 3) (dC (.int 1))) (dVar 10)) dNil))) (dCall 2 sp_law_draw_v3 (dCons (dVar 0) (dCons (dC (.int 2)) dNil)))) dNil)))) dNil))) dNil))) sNext))) (sSeq (sFor (dRng1 (dVar 3)) (.nm 9) (sSeq (sDrop (dMt rApp (dVar 8) (dCons (dOp rMul (dCall 2 sp_law_draw_v3 (dCons (dVar 0) (dCons (dOp rAdd (dVar 7) (dC (.int 1))) dNil))) (dFn rInt (dCons (dOp rEq (dCall 2 sp_law_draw_v3 (dCons (dVar 0) (dCons (dC (.int 3)) dNil))) (dC (.int 0))) dNil))) dNil))) sNext)) (sSeq (sRet (dTup (dCons (dVar 5) (dCons (dFn rTuple (dCons (dVar 6) dNil)) (dCons (dFn rTuple (dCons (dVar 8) dNil)) dNil))))) sNext))))))
theorem p_law_state (ds : List D) (M : MS) (Φ : DQ) (h : sp_law_state ds M Φ noX) : t_law_state { nx := fun _ M' => Φ .non M', rt := Φ } (startD 11 ds) M := by
  obtain ⟨a, c, k, rfl, hD, h⟩ := h
  simp only [t_law_state, dLc, sFor, dRng1, sSeq, sRet, sRetN, sNext, sIf, sAsg, sPar, sPar3, sSetI, sAug, sAugI, sDrop, sBreak, sCont, dOp, dUn, dCons, dNil, dFn, dC, dTup, dLst, dLstM, dIf, dTest, dTru, dAnd, dOr, dNot, dAndV, dOrV, dNotE, dChain, dSl, dNoPart, dPart, dSeq, dEnum, dZip, dRng1, dRng2, dYes, dCall, dMt, dVar, dDic0, dDic1, put_nm, put_tp, puts_nil, puts_cons, List.getElem?_cons_zero, List.getElem?_cons_succ, List.set_cons_zero, List.set_cons_succ, startD, List.map_cons, List.map_nil, List.cons_append, List.nil_append, List.length_cons, List.length_nil, List.replicate_succ, List.replicate_zero, Nat.reduceSub, Nat.reduceAdd, Nat.zero_add, wipeD, keyD, gSeq, gPlain, gNil, gYield, gFor, dTupP, dRngP, dCallG, sForG, dLcG, GE.at, dTupRg, dStar]
  refine rSub_i ?_
  refine use_draw3 (hD : Dk M a c (k + 199 + 1)) (by decide) (by decide) fun r M1 hD1 hK1 r0 r1 => rAdd_i ⟨by decide, ?_⟩
  refine use_draw3 (hD1 : Dk M1 a c (k + 198 + 1)) (by decide) (by decide) fun r' M2 hD2 hK2 r0' r1' => ?_
  obtain ⟨top, et, t0, t1⟩ : ∃ m : Int, atI [D.int 1, D.int 4, D.int 50] r' = some (.int m) ∧ 1 ≤ m ∧ m ≤ 50 := by
    have hr : r' = 0 ∨ r' = 1 ∨ r' = 2 := by omega
    rcases hr with rfl | rfl | rfl
    · exact ⟨1, by rw [at0]; rfl, by decide, by decide⟩
    · exact ⟨4, by rw [at1]; rfl, by decide, by decide⟩
    · exact ⟨50, by rw [at2]; rfl, by decide, by decide⟩
  refine rIx_seq (x := .lst _) rfl et ⟨by decide, ?_⟩
  generalize hn : 2 + r = n
  have n1 : 2 ≤ n := by omega
  have n2 : n ≤ 10 := by omega
  simp only [dLc, sFor, dRng1, sSeq, sRet, sRetN, sNext, sIf, sAsg, sPar, sPar3, sSetI, sAug, sAugI, sDrop, sBreak, sCont, dOp, dUn, dCons, dNil, dFn, dC, dTup, dLst, dLstM, dIf, dTest, dTru, dAnd, dOr, dNot, dAndV, dOrV, dNotE, dChain, dSl, dNoPart, dPart, dSeq, dEnum, dZip, dRng1, dRng2, dYes, dCall, dMt, dVar, dDic0, dDic1, put_nm, put_tp, puts_nil, puts_cons, List.getElem?_cons_zero, List.getElem?_cons_succ, List.set_cons_zero, List.set_cons_succ, startD, List.map_cons, List.map_nil, List.cons_append, List.nil_append, List.length_cons, List.length_nil, List.replicate_succ, List.replicate_zero, Nat.reduceSub, Nat.reduceAdd, Nat.zero_add, wipeD, keyD, gSeq, gPlain, gNil, gYield, gFor, dTupP, dRngP, dCallG, sForG, dLcG, GE.at, dTupRg, dStar]
  refine ⟨by omega, by omega, ?_⟩
  refine lcW_inv (fun ds acc M' => ∃ ns : List Int, acc = ns.map D.int ∧ Dk M' a c (k + 170 + 2 * ds.length) ∧ Kp a c M M' ∧ intsIn ns 600 ∧ ns.length + ds.length = n.toNat) (fun _ _ _ _ => trivial) (fun acc M' q => ?_) (fun d ds acc M' Nx q nx => ?_) _ _ _
    ⟨[], rfl, hD2.mono (by rw [rangeD_length]; omega), hK1.trans hK2, fun _ z => by (cases z), by rw [rangeD_length]; simp⟩
  rotate_left
  · obtain ⟨ns, rfl, q1, q2, q3, q4⟩ := q
    refine ⟨_, rfl, ?_⟩
    simp only [sSeq, sRet, sRetN, sNext, sIf, sAsg, sPar, sPar3, sSetI, sAug, sAugI, sDrop, sBreak, sCont, dOp, dUn, dCons, dNil, dFn, dC, dTup, dLst, dLstM, dIf, dTest, dTru, dAnd, dOr, dNot, dAndV, dOrV, dNotE, dChain, dSl, dNoPart, dPart, dSeq, dEnum, dZip, dRng1, dRng2, dYes, dCall, dMt, dVar, dDic0, dDic1, put_nm, put_tp, puts_nil, puts_cons, List.getElem?_cons_zero, List.getElem?_cons_succ, List.set_cons_zero, List.set_cons_succ, startD, List.map_cons, List.map_nil, List.cons_append, List.nil_append, List.length_cons, List.length_nil, List.replicate_succ, List.replicate_zero, Nat.reduceSub, Nat.reduceAdd, Nat.zero_add, wipeD, keyD, gSeq, gPlain, gNil, gYield, gFor, dTupP, dRngP, dCallG, sForG, dLcG, GE.at, dTupRg, dStar, if_true]
    have q4' : ns.length + (ds.length + 1) = n.toNat := by simpa using q4
    refine rAdd_i ?_
    refine use_draw3 (k := k + 170 + 2 * ds.length + 1) (q1.mono (by simp; omega)) (by omega) (by omega) fun x M3 hD3 hK3 s0 s1 => ?_
    refine use_draw3 hD3 (by decide) (by decide) fun y M4 hD4 hK4 t0 t1 => rCmp_i ?_
    simp only [rInt]
    refine rMul_i (.inl (by omega)) ⟨by simp; omega, nx _ _ ⟨ns ++ [x * b2 (decide (0 < y))], by simp, hD4, (q2.trans hK3).trans hK4, fun z hz => ?_, by simp; omega⟩⟩
    rcases List.mem_append.mp hz with z' | z'
    · exact q3 z z'
    · rw [List.mem_singleton.mp z']
      cases decide (0 < y) with
      | true => simp [b2]; omega
      | false => simp [b2]
  obtain ⟨row, rfl, hD3, hK3, hri, hrl⟩ := q
  have hrl' : row.length = n.toNat := by simpa using hrl
  have hD3' : Dk M' a c (k + 170) := hD3.mono (by simp)
  simp only [rTuple, seqA]
  refine ⟨by decide, fun p hp => rAdd_i ⟨by decide, ?_⟩⟩
  have pa := hD3'.a_ne hp
  have pc := hD3'.c_ne hp
  refine use_draw3 (k := k + 169) (hD3'.put pa pc) (by decide) (by decide) fun r3 M4 hD4 hK4 u0 u1 => ?_
  obtain ⟨bd, eb, b0, b1⟩ : ∃ m : Int, atI [D.int 2, D.int 6, D.int (top + 2), D.int 500] r3 = some (.int m) ∧ 0 ≤ m ∧ m ≤ 500 := by
    have hr : r3 = 0 ∨ r3 = 1 ∨ r3 = 2 ∨ r3 = 3 := by omega
    rcases hr with rfl | rfl | rfl | rfl
    · exact ⟨2, by rw [at0]; rfl, by decide, by decide⟩
    · exact ⟨6, by rw [at1]; rfl, by decide, by decide⟩
    · exact ⟨top + 2, by rw [at2]; rfl, by omega, by omega⟩
    · exact ⟨500, by rw [at3]; rfl, by decide, by decide⟩
  refine rIx_seq (x := .lst _) rfl eb ⟨by decide, fun p2 hp2 => ?_⟩
  have e4 : M4.map p = some (.lst []) := hK4.keep pa pc MS.put_same
  have p2a := hD4.a_ne hp2
  have p2c := hD4.c_ne hp2
  have hne : p ≠ p2 := fun z => by rw [z, hp2] at e4; cases e4
  have k04 : Kp a c M' M4 := (Kp.new hp).trans hK4
  have hp2' : M'.map p2 = none := by
    cases e : M'.map p2 with
    | none => rfl
    | some o =>
      have := k04 p2 p2a p2c (by rw [e]; simp)
      rw [hp2, e] at this
      cases this
  refine rAdd_i ?_
  refine use_draw3 (k := k + 168) ((hD4 : Dk M4 a c (k + 168 + 1)).put p2a p2c) (by decide) (by decide) fun m5 M5 hD5 hK5 v0 v1 => ⟨by omega, by omega, ?_⟩
  refine forW_inv (fun ds' ρ M6 => ∃ (ws : List (Int × Int)) (r9 r10 : Option D), ρ = [some (.ref a), some (.int 10), some (.int 40), some (.int n), some (.int top), some (.tup (row.map D.int)), some (.ref p), some (.int bd), some (.ref p2), r9, r10] ∧ M6.map p = some (.lst (ws.map wayD)) ∧ M6.map p2 = some (.lst []) ∧ Dk M6 a c (k + 40 + 3 * ds'.length) ∧ Kp a c M' M6 ∧ ws.length + ds'.length ≤ 40 ∧ ∀ w ∈ ws, 0 ≤ w.1 ∧ w.1 ≤ 600 ∧ 0 ≤ w.2 ∧ w.2 ≤ 600)
    (fun _ _ _ _ => trivial) (fun ρ M6 q => ?_) (fun d' ds' ρ M6 Nx q nx => ?_) _ _ _ ⟨[], none, none, rfl, hK5.keep pa pc (by rw [MS.put_ne hne]; exact e4), hK5.keep p2a p2c MS.put_same, hD5.mono (by rw [rangeD_length]; omega), (k04.put hp2').trans hK5, by rw [rangeD_length]; simp only [List.length_nil]; omega, fun _ z => by cases z⟩
  · obtain ⟨ws, r9, r10, rfl, f1, f2, f3, f4, f5, f6⟩ := q
    simp only [sFor, dRng1, sSeq, sRet, sRetN, sNext, sIf, sAsg, sPar, sPar3, sSetI, sAug, sAugI, sDrop, sBreak, sCont, dOp, dUn, dCons, dNil, dFn, dC, dTup, dLst, dLstM, dIf, dTest, dTru, dAnd, dOr, dNot, dAndV, dOrV, dNotE, dChain, dSl, dNoPart, dPart, dSeq, dEnum, dZip, dRng1, dRng2, dYes, dCall, dMt, dVar, dDic0, dDic1, put_nm, put_tp, puts_nil, puts_cons, List.getElem?_cons_zero, List.getElem?_cons_succ, List.set_cons_zero, List.set_cons_succ, startD, List.map_cons, List.map_nil, List.cons_append, List.nil_append, List.length_cons, List.length_nil, List.replicate_succ, List.replicate_zero, Nat.reduceSub, Nat.reduceAdd, Nat.zero_add, wipeD, keyD, gSeq, gPlain, gNil, gYield, gFor, dTupP, dRngP, dCallG, sForG, dLcG, GE.at, dTupRg, dStar]
    refine ⟨by omega, by omega, ?_⟩
    refine forW_inv (fun ds' ρ M7 => ∃ (us : List Int) (r9 r10 : Option D), ρ = [some (.ref a), some (.int 10), some (.int 40), some (.int n), some (.int top), some (.tup (row.map D.int)), some (.ref p), some (.int bd), some (.ref p2), r9, r10] ∧ M7.map p = some (.lst (ws.map wayD)) ∧ M7.map p2 = some (.lst (us.map D.int)) ∧ Dk M7 a c (k + 2 * ds'.length) ∧ Kp a c M' M7 ∧ us.length + ds'.length = n.toNat ∧ intsIn us 600)
      (fun _ _ _ _ => trivial) (fun ρ M7 q => ?_) (fun d' ds' ρ M7 Nx q nx => ?_) _ _ _ ⟨[], r9, r10, rfl, f1, f2, f3.mono (by rw [rangeD_length]; simp only [List.length_nil]; omega), f4, by rw [rangeD_length]; simp, fun _ z => by cases z⟩
    · obtain ⟨us, r9, r10, rfl, g1, g2, g3, g4, g5, g6⟩ := q
      have g5' : us.length = n.toNat := by simpa using g5
      simp only [sSeq, sRet, sRetN, sNext, sIf, sAsg, sPar, sPar3, sSetI, sAug, sAugI, sDrop, sBreak, sCont, dOp, dUn, dCons, dNil, dFn, dC, dTup, dLst, dLstM, dIf, dTest, dTru, dAnd, dOr, dNot, dAndV, dOrV, dNotE, dChain, dSl, dNoPart, dPart, dSeq, dEnum, dZip, dRng1, dRng2, dYes, dCall, dMt, dVar, dDic0, dDic1, put_nm, put_tp, puts_nil, puts_cons, List.getElem?_cons_zero, List.getElem?_cons_succ, List.set_cons_zero, List.set_cons_succ, startD, List.map_cons, List.map_nil, List.cons_append, List.nil_append, List.length_cons, List.length_nil, List.replicate_succ, List.replicate_zero, Nat.reduceSub, Nat.reduceAdd, Nat.zero_add, wipeD, keyD, gSeq, gPlain, gNil, gYield, gFor, dTupP, dRngP, dCallG, sForG, dLcG, GE.at, dTupRg, dStar, rTuple, seqA, g1, g2]
      refine ⟨by decide, h row ws us M7 (g3.mono (by simp)) (hK3.trans g4) ⟨by omega, by omega, by omega, by omega, ?_, hri, g6, f6⟩⟩
      simpa using f5
    · obtain ⟨us, r9, r10, rfl, g1, g2, g3, g4, g5, g6⟩ := q
      have g5' : us.length + (ds'.length + 1) = n.toNat := by simpa using g5
      refine ⟨_, rfl, ?_⟩
      simp only [sSeq, sRet, sRetN, sNext, sIf, sAsg, sPar, sPar3, sSetI, sAug, sAugI, sDrop, sBreak, sCont, dOp, dUn, dCons, dNil, dFn, dC, dTup, dLst, dLstM, dIf, dTest, dTru, dAnd, dOr, dNot, dAndV, dOrV, dNotE, dChain, dSl, dNoPart, dPart, dSeq, dEnum, dZip, dRng1, dRng2, dYes, dCall, dMt, dVar, dDic0, dDic1, put_nm, put_tp, puts_nil, puts_cons, List.getElem?_cons_zero, List.getElem?_cons_succ, List.set_cons_zero, List.set_cons_succ, startD, List.map_cons, List.map_nil, List.cons_append, List.nil_append, List.length_cons, List.length_nil, List.replicate_succ, List.replicate_zero, Nat.reduceSub, Nat.reduceAdd, Nat.zero_add, wipeD, keyD, gSeq, gPlain, gNil, gYield, gFor, dTupP, dRngP, dCallG, sForG, dLcG, GE.at, dTupRg, dStar]
      refine ⟨isL_ref g2, rAdd_i ?_⟩
      refine use_draw3 (k := k + 2 * ds'.length + 1) (g3.mono (by rw [List.length_cons]; omega)) (by omega) (by omega) fun x M8 hD8 hK8 s0 s1 => ?_
      refine use_draw3 hD8 (by decide) (by decide) fun y M9 hD9 hK9 t0 t1 => rEq_i ?_
      simp only [rInt]
      refine rMul_i (.inl (by omega)) ?_
      have k9 := hK8.trans hK9
      refine rApp_ref (k9.keep p2a p2c g2) (by rw [List.length_map]; omega) (nx _ _ ⟨us ++ [x * b2 (y == 0)], _, _, rfl, by rw [MS.put_ne hne]; exact k9.keep pa pc g1, by rw [MS.put_same]; simp, hD9.put p2a p2c, (g4.trans k9).put hp2', by simp; omega, fun z hz => ?_⟩)
      rcases List.mem_append.mp hz with z' | z'
      · exact g6 z z'
      · rw [List.mem_singleton.mp z']
        cases (y == 0) with
        | true => simp [b2]; omega
        | false => simp [b2]
  · obtain ⟨ws, r9, r10, rfl, f1, f2, f3, f4, f5, f6⟩ := q
    rw [List.length_cons] at f5
    refine ⟨_, rfl, ?_⟩
    simp only [sSeq, sRet, sRetN, sNext, sIf, sAsg, sPar, sPar3, sSetI, sAug, sAugI, sDrop, sBreak, sCont, dOp, dUn, dCons, dNil, dFn, dC, dTup, dLst, dLstM, dIf, dTest, dTru, dAnd, dOr, dNot, dAndV, dOrV, dNotE, dChain, dSl, dNoPart, dPart, dSeq, dEnum, dZip, dRng1, dRng2, dYes, dCall, dMt, dVar, dDic0, dDic1, put_nm, put_tp, puts_nil, puts_cons, List.getElem?_cons_zero, List.getElem?_cons_succ, List.set_cons_zero, List.set_cons_succ, startD, List.map_cons, List.map_nil, List.cons_append, List.nil_append, List.length_cons, List.length_nil, List.replicate_succ, List.replicate_zero, Nat.reduceSub, Nat.reduceAdd, Nat.zero_add, wipeD, keyD, gSeq, gPlain, gNil, gYield, gFor, dTupP, dRngP, dCallG, sForG, dLcG, GE.at, dTupRg, dStar]
    refine rSub_i ?_
    refine use_draw3 (k := k + 40 + 3 * ds'.length + 2) (f3.mono (by rw [List.length_cons]; omega)) (by omega) (by omega) fun x M7 hD7 hK7 s0 s1 => ?_
    refine ⟨isL_ref (hK7.keep pa pc f1), rAdd_i (rSub_i (rSub_i ⟨by decide, ?_⟩))⟩
    refine use_draw3 (k := k + 40 + 3 * ds'.length + 1) hD7 (by decide) (by decide) fun y M8 hD8 hK8 t0 t1 => ?_
    obtain ⟨lim, el, l0, l1⟩ : ∃ m : Int, atI [D.int 1, D.int (n - 1 - x)] y = some (.int m) ∧ 1 ≤ m ∧ m ≤ 10 := by
      have hr : y = 0 ∨ y = 1 := by omega
      rcases hr with rfl | rfl
      · exact ⟨1, by rw [at0]; rfl, by decide, by decide⟩
      · exact ⟨n - 1 - x, by rw [at1]; rfl, by omega, by omega⟩
    refine rIx_seq (x := .lst _) rfl el ?_
    refine use_draw3 (k := k + 40 + 3 * ds'.length) hD8 (by omega) (by omega) fun z M9 hD9 hK9 w0 w1 => rAdd_i ⟨by decide, ?_⟩
    have k9 := (hK7.trans hK8).trans hK9
    refine rApp_ref (k9.keep pa pc f1) (by rw [List.length_map]; omega) (nx _ _ ⟨ws ++ [(x, x + 1 + z)], _, _, rfl, by rw [MS.put_same]; simp [wayD], by rw [MS.put_ne hne.symm]; exact k9.keep p2a p2c f2, hD9.put pa pc, (f4.trans k9).put hp, by simp; omega, fun v hv => ?_⟩)
    rcases List.mem_append.mp hv with z' | z'
    · exact f6 v z'
    · rw [List.mem_singleton.mp z']
      exact ⟨s0, by omega, by omega, by omega⟩
end DL

namespace DL
open PySem PySem.Spec PyProof.Rows L2 TL

/-! ### numbers as texts -/
abbrev comT : Str := Str.ofString ","
abbrev dashT : Str := Str.ofString "-"
abbrev spT : Str := Str.ofString " "
abbrev forT : Str := Str.ofString "for"
def numT (i : Int) : Str := Str.ofString (toString i)
theorem tl_numT {i : Int} (h : 0 ≤ i) : tl (numT i) = numL i.toNat := by
  have e : i = ((i.toNat : Nat) : Int) := by omega
  unfold numT
  rw [e, tl_num, Int.toNat_natCast]
theorem numT_len {i : Int} (h : 0 ≤ i) (h2 : i ≤ 600) : (numT i).length ≤ 3 := by
  rw [len_tl, tl_numT h]
  exact numL_len (by decide) (by omega)
theorem numT_inj {i j : Int} (hi : 0 ≤ i) (hj : 0 ≤ j) (h : numT i = numT j) : i = j := by
  have e := congrArg tl h
  rw [tl_numT hi, tl_numT hj] at e
  have := numL_inj e
  omega
theorem numT_free {i : Int} {s : Nat} (h : 0 ≤ i) (hs : s < 48 ∨ 57 < s) : s ∉ tl (numT i) := by
  rw [tl_numT h]
  exact numL_free hs
theorem mem_joinL {S : List Nat} {c : Nat} : ∀ {ps : List (List Nat)}, c ∈ joinL S ps → c ∈ S ∨ ∃ p ∈ ps, c ∈ p
  | [], h => by simp [joinL] at h
  | [p], h => .inr ⟨p, List.mem_singleton.mpr rfl, h⟩
  | p :: q :: r, h => by
    rw [joinL] at h
    rcases List.mem_append.mp h with h | h
    · exact .inr ⟨p, List.mem_cons_self .., h⟩
    · rcases List.mem_append.mp h with h | h
      · exact .inl h
      · rcases mem_joinL h with h | ⟨x, hx, hc⟩
        · exact .inl h
        · exact .inr ⟨x, List.mem_cons_of_mem _ hx, hc⟩
theorem joinL_len (S : List Nat) : ∀ ps : List (List Nat), (joinL S ps).length ≤ (ps.map List.length).sum + ps.length * S.length
  | [] => by simp [joinL]
  | [p] => by simp [joinL]
  | p :: q :: r => by
    have := joinL_len S (q :: r)
    rw [joinL, List.length_append, List.length_append, List.map_cons, List.sum_cons, List.length_cons, Nat.add_mul]
    omega
theorem join_len2 (a : Str) (ys : List Str) : (Txt.join a ys).length ≤ (ys.map (·.length)).sum + ys.length * a.length := by
  have h := joinL_len (tl a) (ys.map tl)
  rw [len_tl, join_eq, tl_join]
  rw [List.map_map, List.length_map] at h
  have e : (List.length ∘ tl) = fun y : Str => y.length := funext fun y => (len_tl y).symm
  rw [e, ← len_tl a] at h
  exact h
theorem sumT_le {ys : List Str} {B : Nat} (h : ∀ y ∈ ys, y.length ≤ B) : (ys.map (·.length)).sum ≤ B * ys.length := by
  induction ys with
  | nil => simp
  | cons y ys ih =>
    have h1 := h y (List.mem_cons_self ..)
    have h2 := ih fun z hz => h z (List.mem_cons_of_mem _ hz)
    rw [List.map_cons, List.sum_cons, List.length_cons, Nat.mul_succ]
    omega
def numsT (ns : List Int) : Str := Txt.join comT (ns.map numT)
theorem nums_fit {ns : List Int} (h : intsIn ns 600) : ((ns.map numT).map (·.length)).sum + (ns.map numT).length * comT.length ≤ 4 * ns.length := by
  have h1 := sumT_le (ys := ns.map numT) (B := 3) fun y hy => by
    obtain ⟨i, hi, rfl⟩ := List.mem_map.mp hy
    obtain ⟨a, b⟩ := h i hi
    exact numT_len a b
  have e : comT.length = 1 := by decide +kernel
  rw [e]
  rw [List.length_map] at h1 ⊢
  omega
theorem numsT_len {ns : List Int} (h : intsIn ns 600) : (numsT ns).length ≤ 4 * ns.length := Nat.le_trans (join_len2 _ _) (nums_fit h)
theorem tl_com : tl comT = [44] := by decide +kernel
theorem tl_dash : tl dashT = [45] := by decide +kernel
theorem tl_sp : tl spT = [32] := by decide +kernel
theorem tl_for : 32 ∉ tl forT := by decide +kernel
theorem map_numT_inj : ∀ {a b : List Int}, (∀ x ∈ a, 0 ≤ x) → (∀ x ∈ b, 0 ≤ x) → a.map numT = b.map numT → a = b
  | [], [], _, _, _ => rfl
  | [], _ :: _, _, _, h => by cases h
  | _ :: _, [], _, _, h => by cases h
  | x :: a, y :: b, ha, hb, h => by
    rw [List.map_cons, List.map_cons] at h
    injection h with h1 h2
    rw [numT_inj (ha x (List.mem_cons_self ..)) (hb y (List.mem_cons_self ..)) h1, map_numT_inj (fun z hz => ha z (List.mem_cons_of_mem _ hz)) (fun z hz => hb z (List.mem_cons_of_mem _ hz)) h2]
theorem numsT_inj {a b : List Int} (ha : intsIn a 600) (hb : intsIn b 600) (ha1 : 1 ≤ a.length) (hb1 : 1 ≤ b.length) (h : numsT a = numsT b) : a = b := by
  have sp : ∀ {c : List Int}, intsIn c 600 → 1 ≤ c.length → Txt.split (numsT c) comT = c.map numT := fun {c} hc hl =>
    split_join (y := comT) (s := 44) (S := []) tl_com (by decide +kernel) (fun e => by rw [List.map_eq_nil_iff.mp e] at hl; simp at hl) fun p hp => by
      obtain ⟨i, hi, rfl⟩ := List.mem_map.mp hp
      exact numT_free (hc i hi).1 (.inl (by decide))
  have e := congrArg (Txt.split · comT) h
  simp only [sp ha ha1, sp hb hb1] at e
  exact map_numT_inj (fun x hx => (ha x hx).1) (fun x hx => (hb x hx).1) e
def wayT (w : Int × Int) : Str := numT w.1 ++ dashT ++ numT w.2
theorem wayT_join (w : Int × Int) : wayT w = Txt.join dashT [numT w.1, numT w.2] := by rw [join_eq]; rfl
theorem wayT_inj {v w : Int × Int} (hv : 0 ≤ v.1 ∧ 0 ≤ v.2) (hw : 0 ≤ w.1 ∧ 0 ≤ w.2) (h : wayT v = wayT w) : v = w := by
  have sp : ∀ {x : Int × Int}, 0 ≤ x.1 ∧ 0 ≤ x.2 → Txt.split (wayT x) dashT = [numT x.1, numT x.2] := fun {x} hx => by
    rw [wayT_join]
    refine split_join (y := dashT) (s := 45) (S := []) tl_dash (by decide +kernel) (by simp) fun p hp => ?_
    simp only [List.mem_cons, List.not_mem_nil, or_false] at hp
    rcases hp with rfl | rfl
    · exact numT_free hx.1 (.inl (by decide))
    · exact numT_free hx.2 (.inl (by decide))
  have e := congrArg (Txt.split · dashT) h
  simp only [sp hv, sp hw] at e
  injection e with e1 e2
  injection e2 with e2 _
  exact Prod.ext (numT_inj hv.1 hw.1 e1) (numT_inj hv.2 hw.2 e2)
theorem wayT_len {w : Int × Int} (h : 0 ≤ w.1 ∧ w.1 ≤ 600 ∧ 0 ≤ w.2 ∧ w.2 ≤ 600) : (wayT w).length ≤ 8 := by
  have e := join_len2 dashT [numT w.1, numT w.2]
  rw [← wayT_join] at e
  have h1 := numT_len h.1 h.2.1
  have h2 := numT_len h.2.2.1 h.2.2.2
  have e2 : dashT.length = 1 := by decide +kernel
  simp only [List.map_cons, List.map_nil, List.sum_cons, List.sum_nil, List.length_cons, List.length_nil, e2] at e
  omega
def wordsT (row : List Int) (ws : List (Int × Int)) (us : List Int) : List Str := numsT row :: (ws.map wayT ++ [forT, numsT us])
def corT (row : List Int) (ws : List (Int × Int)) (us : List Int) : Str := Txt.join spT (wordsT row ws us)
theorem words_fit {row : List Int} {ws : List (Int × Int)} {us : List Int} (h : StOk row ws us) : ((wordsT row ws us).map (·.length)).sum + (wordsT row ws us).length * spT.length ≤ 5000 := by
  have h1 := sumT_le (ys := wordsT row ws us) (B := 40) fun y hy => by
    unfold wordsT at hy
    rcases List.mem_cons.mp hy with rfl | hy
    · have := numsT_len h.ri
      have := h.r2
      omega
    · rcases List.mem_append.mp hy with hy | hy
      · obtain ⟨w, hw, rfl⟩ := List.mem_map.mp hy
        have := wayT_len (h.wi w hw)
        omega
      · simp only [List.mem_cons, List.not_mem_nil, or_false] at hy
        rcases hy with rfl | rfl
        · decide +kernel
        · have := numsT_len h.ui
          have := h.u2
          omega
  have e : spT.length = 1 := by decide +kernel
  have hl : (wordsT row ws us).length = ws.length + 3 := by unfold wordsT; simp
  have := h.w
  rw [e]
  rw [hl] at h1 ⊢
  omega
theorem corT_inj {row row' : List Int} {ws ws' : List (Int × Int)} {us us' : List Int} (h : StOk row ws us) (h' : StOk row' ws' us') (e : corT row ws us = corT row' ws' us') : row = row' ∧ ws = ws' ∧ us = us' := by
  have nsp : ∀ {c : List Int}, intsIn c 600 → 32 ∉ tl (numsT c) := fun {c} hc hm => by
    unfold numsT at hm
    rw [join_eq, tl_join, tl_com] at hm
    rcases mem_joinL hm with z | ⟨q, hq, hc2⟩
    · simp at z
    · obtain ⟨y, hy, rfl⟩ := List.mem_map.mp hq
      obtain ⟨i, hi, rfl⟩ := List.mem_map.mp hy
      exact numT_free (hc i hi).1 (.inl (by decide)) hc2
  have wsp : ∀ {w : Int × Int}, 0 ≤ w.1 ∧ 0 ≤ w.2 → 32 ∉ tl (wayT w) := fun {w} hw hm => by
    unfold wayT at hm
    rw [tl_append, tl_append, tl_dash] at hm
    rcases List.mem_append.mp hm with hm | hm
    · rcases List.mem_append.mp hm with hm | hm
      · exact numT_free hw.1 (.inl (by decide)) hm
      · simp at hm
    · exact numT_free hw.2 (.inl (by decide)) hm
  have sp : ∀ {r : List Int} {w : List (Int × Int)} {u : List Int}, StOk r w u → Txt.split (corT r w u) spT = wordsT r w u := fun {r w u} hs =>
    split_join (y := spT) (s := 32) (S := []) tl_sp (by decide +kernel) (by unfold wordsT; simp) fun p hp => by
      unfold wordsT at hp
      rcases List.mem_cons.mp hp with rfl | hp
      · exact nsp hs.ri
      · rcases List.mem_append.mp hp with hp | hp
        · obtain ⟨v, hv, rfl⟩ := List.mem_map.mp hp
          exact wsp ⟨(hs.wi v hv).1, (hs.wi v hv).2.2.1⟩
        · simp only [List.mem_cons, List.not_mem_nil, or_false] at hp
          rcases hp with rfl | rfl
          · exact tl_for
          · exact nsp hs.ui
  have e1 := congrArg (Txt.split · spT) e
  simp only [sp h, sp h'] at e1
  unfold wordsT at e1
  injection e1 with e2 e3
  have hl : ws.length = ws'.length := by
    have := congrArg List.length e3
    simpa using this
  obtain ⟨e4, e5⟩ := List.append_inj e3 (by rw [List.length_map, List.length_map]; exact hl)
  injection e5 with _ e5
  injection e5 with e5 _
  refine ⟨numsT_inj h.ri h'.ri h.r1 h'.r1 e2, ?_, numsT_inj h.ui h'.ui h.u1 h'.u1 e5⟩
  have winj : ∀ {a b : List (Int × Int)}, (∀ w ∈ a, 0 ≤ w.1 ∧ 0 ≤ w.2) → (∀ w ∈ b, 0 ≤ w.1 ∧ 0 ≤ w.2) → a.map wayT = b.map wayT → a = b := by
    intro a
    induction a with
    | nil => intro b _ _ hh; cases b with
      | nil => rfl
      | cons _ _ => cases hh
    | cons x a ih => intro b ha hb hh; cases b with
      | nil => cases hh
      | cons y b =>
        rw [List.map_cons, List.map_cons] at hh
        injection hh with h1 h2
        rw [wayT_inj (ha x (List.mem_cons_self ..)) (hb y (List.mem_cons_self ..)) h1, ih (fun z hz => ha z (List.mem_cons_of_mem _ hz)) (fun z hz => hb z (List.mem_cons_of_mem _ hz)) h2]
  exact winj (fun w hw => ⟨(h.wi w hw).1, (h.wi w hw).2.2.1⟩) (fun w hw => ⟨(h'.wi w hw).1, (h'.wi w hw).2.2.1⟩) e4
end DL

namespace DL
open PySem PySem.Spec PyProof.Rows L2 TL

def numF (d : D) : Option D := match d with
  | .int i => some (.str (numT i))
  | _ => none
theorem numF_map (ns : List Int) : (ns.map D.int).filterMap numF = (ns.map numT).map D.str := by
  rw [List.filterMap_map, List.map_map]
  exact (List.filterMap_eq_map (f := fun i : Int => D.str (numT i)) ▸ rfl)
def wayF (d : D) : Option D := match d with
  | .tup [.int i, .int j] => some (.str (wayT (i, j)))
  | _ => none
theorem wayF_map : ∀ ws : List (Int × Int), (ws.map wayD).filterMap wayF = (ws.map wayT).map D.str
  | [] => rfl
  | w :: ws => by rw [List.map_cons, List.filterMap_cons, List.map_cons, List.map_cons, ← wayF_map ws]; rfl
theorem log_small {i : Int} (h : 0 ≤ i) (h2 : i ≤ 600) : i.natAbs.log2 < 1920 := by
  have : i.natAbs < 2 ^ 10 := by omega
  by_cases h0 : i.natAbs = 0
  · rw [h0]; decide
  · have := (Nat.log2_lt h0).mpr this
    omega
/-- [str(n) for n in ns], joined by commas -/
theorem nums_lc {ns : List Int} {G : MS → Prop} {M : MS} {ρ : DEnv} {i : Nat} {Φ : List D → MS → Prop} (h : intsIn ns 600) (hl : ns.length ≤ 1000) (hG : G M) (hi : i < ρ.length) (q : Φ ((ns.map numT).map D.str) M) :
    lcW G (Pat.nm i) dYes (dFn rStr (dCons (dVar i) dNil)) ρ (ns.map D.int) [] M Φ := by
  refine lcW_map numF _ hG (by rw [List.length_map]; omega) (fun x hx => ?_) (by rw [numF_map]; exact q)
  obtain ⟨n, hn, rfl⟩ := List.mem_map.mp hx
  obtain ⟨a, b⟩ := h n hn
  refine ⟨_, rfl, fun acc Nx hl k => ?_⟩
  simp only [dYes, if_true, dFn, dCons, dNil, dVar, List.getElem?_set, hi, and_true, if_true]
  exact ⟨log_small a b, hl, k⟩
def sp_numbers_text : DSp := fun ds M Φ _ => ∃ ns : List Int, ds = [.tup (ns.map D.int)] ∧ ns.length ≤ 1000 ∧ intsIn ns 600 ∧ Φ (.str (numsT ns)) M
def sp_corridor_text : DSp := fun ds M Φ _ => ∃ (row : List Int) (ws : List (Int × Int)) (us : List Int), ds = [.tup (row.map D.int), .tup (ws.map wayD), .tup (us.map D.int)] ∧ StOk row ws us ∧ Φ (.str (corT row ws us)) M
def sp_law_corridor_text : DSp := fun ds M Φ _ => ∃ (row : List Int) (ws : List (Int × Int)) (us : List Int), ds = [stateD row ws us] ∧ StOk row ws us ∧ Φ (.str (corT row ws us)) M
def t_numbers_text : DS := (sSeq (sRet (dJoin (dC (.str ",")) (dLc (dSeq (dVar 0)) (.nm 1) [1] dYes (dFn rStr (dCons (dVar 1) dNil))))) sNext)
def t_corridor_text : DS := (sSeq (sAsg (dLc (dSeq (dVar 1)) (.tp [(.nm 4), (.nm 5)]) [4, 5] dYes (dJsA [(dFmt (dVar 4)), (dFmt (dC (.str "-"))), (dFmt (dVar 5))] Str.empty)) (.nm 3)) (sSeq (sRet (dJoin (dC (.str " ")) (dLst (dCons (dCall 1 sp_numbers_text (dCons (dVar 0) dNil)) (dStar (dVar 3) (dCons (dC (.str "for")) (dCons (dCall 1 sp_numbers_text (dCons (dVar 2) dNil)) dNil))))))) sNext))
def t_law_corridor_text : DS := (sSeq (sAsg (dLst (dCons (dJoin (dC (.str ",")) (dLc (dSeq (dOp rIx (dVar 0) (dC (.int 0)))) (.nm 4) [4] dYes (dFn rStr (dCons (dVar 4) dNil)))) dNil)) (.nm 1)) (sSeq (sAsg (dOp rAdd (dVar 1) (dLc (dSeq (dOp rIx (dVar 0) (dC (.int 1)))) (.tp [(.nm 2), (.nm 3)]) [2, 3] dYes (dOp rAdd (dOp rAdd (dFn rStr (dCons (dVar 2) dNil)) (dC (.str "-"))) (dFn rStr (dCons (dVar 3) dNil))))) (.nm 1)) (sSeq (sRet (dJoin (dC (.str " ")) (dOp rAdd (dVar 1) (dLst (dCons (dC (.str "for")) (dCons (dJoin (dC (.str ",")) (dLc (dSeq (dOp rIx (dVar 0) (dC (.int 2)))) (.nm 4) [4] dYes (dFn rStr (dCons (dVar 4) dNil)))) dNil)))))) sNext)))
theorem p_numbers_text (ds : List D) (M : MS) (Φ : DQ) (h : sp_numbers_text ds M Φ noX) : t_numbers_text { nx := fun _ M' => Φ .non M', rt := Φ } (startD 2 ds) M := by
  obtain ⟨ns, rfl, hl, hn, q⟩ := h
  simp only [t_numbers_text, dJoin, dLc, wipeD, sSeq, sRet, sRetN, sNext, sIf, sAsg, sPar, sPar3, sSetI, sAug, sAugI, sDrop, sBreak, sCont, dOp, dUn, dCons, dNil, dFn, dC, dTup, dLst, dLstM, dIf, dTest, dTru, dAnd, dOr, dNot, dAndV, dOrV, dNotE, dChain, dSl, dNoPart, dPart, dSeq, dEnum, dZip, dRng1, dRng2, dYes, dCall, dMt, dVar, dDic0, dDic1, put_nm, put_tp, puts_nil, puts_cons, List.getElem?_cons_zero, List.getElem?_cons_succ, List.set_cons_zero, List.set_cons_succ, startD, List.map_cons, List.map_nil, List.cons_append, List.nil_append, List.length_cons, List.length_nil, List.replicate_succ, List.replicate_zero, Nat.reduceSub, Nat.reduceAdd, Nat.zero_add, wipeD, keyD, gSeq, gPlain, gNil, gYield, gFor, dTupP, dRngP, dCallG, sForG, dLcG, GE.at, dTupRg, dStar, seqA]
  refine nums_lc hn hl trivial (by simp) ?_
  simp only [Option.bind_some, asStrs_map]
  exact ⟨Nat.le_trans (nums_fit hn) (by omega), q⟩
theorem empty_app (x : Str) : Str.empty ++ x = x := ext_tl (by rw [tl_append]; rfl)
theorem p_corridor_text (ds : List D) (M : MS) (Φ : DQ) (h : sp_corridor_text ds M Φ noX) : t_corridor_text { nx := fun _ M' => Φ .non M', rt := Φ } (startD 6 ds) M := by
  obtain ⟨row, ws, us, rfl, hs, q⟩ := h
  simp only [t_corridor_text, dJoin, dLc, wipeD, sSeq, sRet, sRetN, sNext, sIf, sAsg, sPar, sPar3, sSetI, sAug, sAugI, sDrop, sBreak, sCont, dOp, dUn, dCons, dNil, dFn, dC, dTup, dLst, dLstM, dIf, dTest, dTru, dAnd, dOr, dNot, dAndV, dOrV, dNotE, dChain, dSl, dNoPart, dPart, dSeq, dEnum, dZip, dRng1, dRng2, dYes, dCall, dMt, dVar, dDic0, dDic1, put_nm, put_tp, puts_nil, puts_cons, List.getElem?_cons_zero, List.getElem?_cons_succ, List.set_cons_zero, List.set_cons_succ, startD, List.map_cons, List.map_nil, List.cons_append, List.nil_append, List.length_cons, List.length_nil, List.replicate_succ, List.replicate_zero, Nat.reduceSub, Nat.reduceAdd, Nat.zero_add, wipeD, keyD, gSeq, gPlain, gNil, gYield, gFor, dTupP, dRngP, dCallG, sForG, dLcG, GE.at, dTupRg, dStar, seqA]
  refine lcW_map wayF _ trivial (by rw [List.length_map]; have := hs.w; omega) (fun x hx => ?_) ?_
  · obtain ⟨w, hw, rfl⟩ := List.mem_map.mp hx
    obtain ⟨a, b, c, d⟩ := hs.wi w hw
    refine ⟨_, rfl, fun acc Nx hl k => ?_⟩
    have e2 : Str.empty ++ numT w.1 ++ dashT ++ numT w.2 = wayT w := by rw [empty_app]; rfl
    have l1 := numT_len a b
    have l2 := numT_len c d
    have l3 : dashT.length = 1 := by decide +kernel
    simp only [if_true, dJsA, dFmt, sSeq, sRet, sRetN, sNext, sIf, sAsg, sPar, sPar3, sSetI, sAug, sAugI, sDrop, sBreak, sCont, dOp, dUn, dCons, dNil, dFn, dC, dTup, dLst, dLstM, dIf, dTest, dTru, dAnd, dOr, dNot, dAndV, dOrV, dNotE, dChain, dSl, dNoPart, dPart, dSeq, dEnum, dZip, dRng1, dRng2, dYes, dCall, dMt, dVar, dDic0, dDic1, put_nm, put_tp, puts_nil, puts_cons, List.getElem?_cons_zero, List.getElem?_cons_succ, List.set_cons_zero, List.set_cons_succ, startD, List.map_cons, List.map_nil, List.cons_append, List.nil_append, List.length_cons, List.length_nil, List.replicate_succ, List.replicate_zero, Nat.reduceSub, Nat.reduceAdd, Nat.zero_add, wipeD, keyD, gSeq, gPlain, gNil, gYield, gFor, dTupP, dRngP, dCallG, sForG, dLcG, GE.at, dTupRg, dStar]
    refine ⟨log_small a b, ?_, by decide +kernel, ?_, log_small c d, ?_, hl, ?_⟩
    · show (Str.empty ++ numT w.1).length ≤ 1000000
      rw [empty_app]; omega
    · show (Str.empty ++ numT w.1 ++ dashT).length ≤ 1000000
      rw [empty_app, len_tl, tl_append, List.length_append, ← len_tl, ← len_tl]; omega
    · show (Str.empty ++ numT w.1 ++ dashT ++ numT w.2).length ≤ 1000000
      rw [e2]; exact Nat.le_trans (wayT_len ⟨a, b, c, d⟩) (by decide)
    · show Nx (acc ++ [.str (Str.empty ++ numT w.1 ++ dashT ++ numT w.2)]) M
      rw [e2]; exact k
  rw [wayF_map]
  refine ⟨trivial, row, rfl, by have := hs.r2; omega, hs.ri, ⟨trivial, us, rfl, by have := hs.u2; omega, hs.ui, ?_⟩⟩
  have e : (numsT row :: ((ws.map wayT) ++ [forT, numsT us])).map D.str = .str (numsT row) :: ((ws.map wayT).map D.str ++ [.str forT, .str (numsT us)]) := by simp
  dsimp only
  refine ⟨by have := hs.w; rw [List.length_append, List.length_map, List.length_map, List.length_cons, List.length_cons, List.length_nil]; omega, ?_⟩
  rw [← e, Option.bind_some, asStrs_map]
  exact ⟨Nat.le_trans (words_fit hs) (by decide), q⟩
theorem p_law_corridor_text (ds : List D) (M : MS) (Φ : DQ) (h : sp_law_corridor_text ds M Φ noX) : t_law_corridor_text { nx := fun _ M' => Φ .non M', rt := Φ } (startD 5 ds) M := by
  obtain ⟨row, ws, us, rfl, hs, q⟩ := h
  simp only [t_law_corridor_text, dJoin, dLc, wipeD, sSeq, sRet, sRetN, sNext, sIf, sAsg, sPar, sPar3, sSetI, sAug, sAugI, sDrop, sBreak, sCont, dOp, dUn, dCons, dNil, dFn, dC, dTup, dLst, dLstM, dIf, dTest, dTru, dAnd, dOr, dNot, dAndV, dOrV, dNotE, dChain, dSl, dNoPart, dPart, dSeq, dEnum, dZip, dRng1, dRng2, dYes, dCall, dMt, dVar, dDic0, dDic1, put_nm, put_tp, puts_nil, puts_cons, List.getElem?_cons_zero, List.getElem?_cons_succ, List.set_cons_zero, List.set_cons_succ, startD, List.map_cons, List.map_nil, List.cons_append, List.nil_append, List.length_cons, List.length_nil, List.replicate_succ, List.replicate_zero, Nat.reduceSub, Nat.reduceAdd, Nat.zero_add, wipeD, keyD, gSeq, gPlain, gNil, gYield, gFor, dTupP, dRngP, dCallG, sForG, dLcG, GE.at, dTupRg, dStar, stateD]
  refine rIx_seq (x := .tup _) rfl (by rw [at0]; rfl) ?_
  simp only [seqA]
  refine nums_lc hs.ri (by have := hs.r2; omega) trivial (by simp) ?_
  simp only [seqA, Option.bind_some, asStrs_map]
  refine ⟨Nat.le_trans (nums_fit hs.ri) (by have := hs.r2; omega), by decide, ?_⟩
  refine rIx_seq (x := .tup _) rfl (by rw [at1]; rfl) ?_
  simp only [seqA]
  refine lcW_map wayF _ trivial (by rw [List.length_map]; have := hs.w; omega) (fun x hx => ?_) ?_
  · obtain ⟨w, hw, rfl⟩ := List.mem_map.mp hx
    obtain ⟨a, b, c, d⟩ := hs.wi w hw
    refine ⟨_, rfl, fun acc Nx hl k => ?_⟩
    have l1 := numT_len a b
    have l2 := numT_len c d
    have l3 : dashT.length = 1 := by decide +kernel
    simp only [if_true, rStr, rAdd, sSeq, sRet, sRetN, sNext, sIf, sAsg, sPar, sPar3, sSetI, sAug, sAugI, sDrop, sBreak, sCont, dOp, dUn, dCons, dNil, dFn, dC, dTup, dLst, dLstM, dIf, dTest, dTru, dAnd, dOr, dNot, dAndV, dOrV, dNotE, dChain, dSl, dNoPart, dPart, dSeq, dEnum, dZip, dRng1, dRng2, dYes, dCall, dMt, dVar, dDic0, dDic1, put_nm, put_tp, puts_nil, puts_cons, List.getElem?_cons_zero, List.getElem?_cons_succ, List.set_cons_zero, List.set_cons_succ, startD, List.map_cons, List.map_nil, List.cons_append, List.nil_append, List.length_cons, List.length_nil, List.replicate_succ, List.replicate_zero, Nat.reduceSub, Nat.reduceAdd, Nat.zero_add, wipeD, keyD, gSeq, gPlain, gNil, gYield, gFor, dTupP, dRngP, dCallG, sForG, dLcG, GE.at, dTupRg, dStar]
    refine ⟨log_small a b, ?_, log_small c d, ?_, hl, k⟩
    · rw [l3]; show (numT w.1).length + 1 ≤ _; omega
    · show (numT w.1 ++ dashT).length + (numT w.2).length ≤ _
      rw [len_tl (numT w.1 ++ dashT), tl_append, List.length_append, ← len_tl, ← len_tl]; omega
  rw [wayF_map]
  refine rAdd_l (by have := hs.w; simp only [List.length_cons, List.length_nil, List.length_map]; omega) ?_
  refine rIx_seq (x := .tup _) rfl (by rw [at2]; rfl) ?_
  simp only [seqA]
  refine nums_lc hs.ui (by have := hs.u2; omega) trivial (by simp) ?_
  simp only [seqA, Option.bind_some, asStrs_map]
  refine ⟨Nat.le_trans (nums_fit hs.ui) (by have := hs.u2; omega), by decide, rAdd_l (by have := hs.w; simp only [List.length_append, List.length_cons, List.length_nil, List.length_map]; omega) ?_⟩
  have e : (wordsT row ws us).map D.str = [D.str (Txt.join (Str.ofString ",") (row.map numT))] ++ (ws.map wayT).map D.str ++ [.str (Str.ofString "for"), .str (Txt.join (Str.ofString ",") (us.map numT))] := by
    unfold wordsT
    simp [numsT]
  rw [← e]
  simp only [seqA, Option.bind_some, asStrs_map]
  exact ⟨Nat.le_trans (words_fit hs) (by decide), q⟩
end DL

namespace DL
open PySem PySem.Spec PyProof.Rows L2

theorem errs_fine : ∀ (xs : List D) (c : Int), 0 ≤ c → c + xs.length ≤ 100 → fineB (errs c xs) 3 10000 = true
  | [], _, _, _ => (by decide +kernel : fineB .non 3 10000 = true)
  | x :: xs, c, h0, h1 => by
    have h1' : c + ((xs.length : Int) + 1) ≤ 100 := by simpa using h1
    simp only [errs]
    cases numD x 0 50 with
    | true => simp only [if_true]; exact errs_fine xs (c + 1) (by omega) (by omega)
    | false =>
      simp only [Bool.false_eq_true, if_false]
      exact fineB_mono (FL.tup (FL.app (ys := [D.str "chairs"]) (FL.one (fineB_int (i := c) (by omega) (by omega))) (FL.one (x := D.str "chairs") (n := 0) (w := 62) (by decide +kernel)) (.inl ⟨rfl, rfl⟩))) (by decide) (by decide)
theorem errD_fine (d : D) : fineB (errD d) 3 10000 = true := by
  have h : fineB (.tup [.non, .str "row"]) 3 10000 = true := by decide +kernel
  cases d with
  | tup xs =>
    simp only [errD]
    split
    · rename_i z; exact errs_fine xs 0 (by decide) (by omega)
    · exact h
  | _ => exact h
theorem fine2 {d : D} (h : fineB d 3 10000 = true) (hd : hasDic d = false) : fineB (.lst [d, d]) 4 20100 = true := fineB_mono (FL.lst (FL.two h) (by simp [hasDics, hd])) (by decide) (by decide)
theorem errs_nodic : ∀ (xs : List D) (c : Int), hasDic (errs c xs) = false
  | [], _ => rfl
  | x :: xs, c => by
    simp only [errs]
    cases numD x 0 50 with
    | true => simp only [if_true]; exact errs_nodic xs (c + 1)
    | false => rfl
theorem errD_nodic (d : D) : hasDic (errD d) = false := by
  cases d with
  | tup xs =>
    simp only [errD]
    split
    · exact errs_nodic xs 0
    · rfl
  | _ => rfl
def sp_law_k00 : DSp := fun ds M Φ _ => ∃ ns : List Int, ds = [.scr ns] ∧ ∀ M', Φ (.bl true) M'
def t_law_k00 : DS := (sSeq (sAsg (dCall 1 sp_law_deck (dCons (dVar 0) dNil)) (.nm 1)) (sSeq (sFor (dRng1 (dC (.int 8))) (.nm 2) (sSeq (sAsg (dCall 3 sp_law_row (dCons (dVar 1) (dCons (dOp rIx (dLst (dCons (dC (.int 10)) (dCons (dC (.int 3)) (dCons (dC (.int 6)) dNil)))) (dOp rMod (dVar 2) (dC (.int 3)))) (dCons (dOp rIx (dLst (dCons (dC (.int 50)) (dCons (dC (.int 1)) (dCons (dC (.int 9)) dNil)))) (dOp rMod (dVar 2) (dC (.int 3)))) dNil)))) (.nm 3)) (sSeq (sAsg (dFn rTuple (dCons (dLc (dSeq (dVar 3)) (.nm 9) [9] dYes (dOp rIx (dLst (dCons (dVar 9) (dCons (dOp rEq (dVar 9) (dC (.int 1))) dNil))) (dFn rInt (dCons (dOp rLt (dVar 9) (dC (.int 2))) dNil)))) dNil)) (.nm 4)) (sSeq (sAsg (dLst (dCons (dVar 3) (dCons (dVar 4) (dCons (dVar 3) (dCons (dTup (dCons (dC (.int 0)) (dCons (dC (.int 1)) dNil))) (dCons (dTup (dCons (dC (.bl false)) (dCons (dC (.bl true)) dNil))) (dCons (dTup (dCons (dC (.int 0)) (dCons (dC (.bl true)) dNil))) (dCons (dTup (dCons (dC (.int 0)) (dCons (dC (.int 1)) dNil))) (dCons (dTup (dCons (dC (.int 0)) dNil)) (dCons (dOp rMul (dTup (dCons (dC (.int 50)) dNil)) (dC (.int 10))) (dCons (dOp rMul (dTup (dCons (dC (.int 0)) dNil)) (dC (.int 11))) (dCons (dCall 1 sp_law_odd (dCons (dVar 1) dNil)) dNil)))))))))))) (.nm 5)) (sSeq (sFor (dSeq (dOp rAdd (dVar 5) (dLc (dRng1 (dC (.int 12))) (.nm 10) [10] dYes (dCall 2 sp_law_changed (dCons (dVar 1) (dCons (dVar 3) dNil)))))) (.nm 6) (sSeq (sPar 7 8 (dCons (dFn rRepr (dCons (dVar 6) dNil)) (dCons (dCall 1 sp_law_error (dCons (dVar 6) dNil)) dNil))) (sSeq (sIf (dNot (dTru (dCall 2 sp_law_same (dCons (dLc (dRng1 (dC (.int 2))) (.nm 11) [11] dYes (dCall 1 sp_row_error (dCons (dVar 6) dNil))) (dCons (dLst (dCons (dVar 8) (dCons (dVar 8) dNil))) dNil))))) (sSeq (sRet (dC (.bl false))) sNext) sNext) (sSeq (sIf (dOr (dTest (dOp rNe (dFn rRepr (dCons (dCall 1 sp_is_row (dCons (dVar 6) dNil)) dNil)) (dFn rRepr (dCons (dOp (rIs false) (dVar 8) (dC .non)) dNil)))) (dTest (dOp rNe (dFn rRepr (dCons (dVar 6) dNil)) (dVar 7)))) (sSeq (sRet (dC (.bl false))) sNext) sNext) sNext)))) sNext))))) (sSeq (sRet (dC (.bl true))) sNext)))
def twinF (d : D) : Option D := match d with
  | .int i => some (if i < 2 then .bl (i == 1) else .int i)
  | _ => none
theorem twin_fine : ∀ (ns : List Int), intsIn ns 1000 → FL ((ns.map D.int).filterMap twinF) 2 (1923 * ns.length) ∧ Ne ((ns.map D.int).filterMap twinF)
  | [], _ => ⟨⟨rfl, by decide, rfl, Nat.le_refl _, fun _ => rfl⟩, ⟨rfl, rfl⟩⟩
  | n :: ns, q => by
    obtain ⟨i1, i2⟩ := twin_fine ns fun x hx => q x (List.mem_cons_of_mem _ hx)
    obtain ⟨q1, q2⟩ := q n (List.mem_cons_self ..)
    have e : ((n :: ns).map D.int).filterMap twinF = [if n < 2 then D.bl (n == 1) else .int n] ++ (ns.map D.int).filterMap twinF := by
      rw [List.map_cons, List.filterMap_cons]
      rfl
    rw [e]
    have f : FL [if n < 2 then D.bl (n == 1) else D.int n] 2 1923 ∧ Ne [if n < 2 then D.bl (n == 1) else D.int n] := by
      split
      · exact ⟨(FL.one fineB_bl).mono (by decide) (Nat.le_refl _), ⟨rfl, rfl⟩⟩
      · exact ⟨(FL.one (fineB_int (by omega) (by omega))).mono (by decide) (Nat.le_refl _), ⟨rfl, rfl⟩⟩
    exact ⟨(f.1.app i1 (.inl f.2)).mono (Nat.le_refl _) (by rw [List.length_cons]; omega), f.2.app i2⟩
theorem p_law_k00 (ds : List D) (M : MS) (Φ : DQ) (h : sp_law_k00 ds M Φ noX) : t_law_k00 { nx := fun _ M' => Φ .non M', rt := Φ } (startD 12 ds) M := by
  obtain ⟨ns, rfl, h⟩ := h
  simp only [t_law_k00, sSeq, sRet, sRetN, sNext, sIf, sAsg, sPar, sPar3, sSetI, sAug, sAugI, sDrop, sBreak, sCont, dOp, dUn, dCons, dNil, dFn, dC, dTup, dLst, dLstM, dIf, dTest, dTru, dAnd, dOr, dNot, dAndV, dOrV, dNotE, dChain, dSl, dNoPart, dPart, dSeq, dEnum, dZip, dRng1, dRng2, dYes, dCall, dMt, dVar, dDic0, dDic1, Pat.put, Pat.puts, List.getElem?_cons_zero, List.getElem?_cons_succ, List.set_cons_zero, List.set_cons_succ, startD, List.map_cons, List.map_nil, List.cons_append, List.nil_append, List.length_cons, List.length_nil, List.replicate_succ, List.replicate_zero, Nat.reduceSub, Nat.reduceAdd, Nat.zero_add, wipeD, keyD]
  refine ⟨trivial, ns, rfl, fun a c M0 _ _ hD0 _ => ?_⟩
  simp only [sFor, dRng1, dC]
  refine ⟨by decide, by decide, ?_⟩
  refine forW_inv (fun ds ρ M => (∃ r2 r3 r4 r5 r6 r7 r8 r9 r10 r11, ρ = [some (.scr ns), some (.ref a), r2, r3, r4, r5, r6, r7, r8, r9, r10, r11]) ∧ Dk M a c (1000 * ds.length) ∧ ∀ d ∈ ds, ∃ i : Int, d = .int i ∧ 0 ≤ i) (fun _ _ _ _ => trivial) (fun ρ M' q => ?_) (fun d ds ρ M' Nx q nx => ?_) _ _ _
    ⟨⟨_, _, _, _, _, _, _, _, _, _, rfl⟩, hD0.mono (by rw [rangeD_length]; decide), fun d hd => by obtain ⟨i, e, h1, _⟩ := rangeD_mem hd; exact ⟨i, e, h1⟩⟩
  · exact h M'
  obtain ⟨⟨r2, r3, r4, r5, r6, r7, r8, r9, r10, r11, rfl⟩, hD, hds⟩ := q
  obtain ⟨i, rfl, hi0⟩ := hds d (List.mem_cons_self ..)
  refine ⟨_, rfl, ?_⟩
  simp only [sSeq, sRet, sRetN, sNext, sIf, sAsg, sPar, sPar3, sSetI, sAug, sAugI, sDrop, sBreak, sCont, dOp, dUn, dCons, dNil, dFn, dC, dTup, dLst, dLstM, dIf, dTest, dTru, dAnd, dOr, dNot, dAndV, dOrV, dNotE, dChain, dSl, dNoPart, dPart, dSeq, dEnum, dZip, dRng1, dRng2, dYes, dCall, dMt, dVar, dDic0, dDic1, Pat.put, Pat.puts, List.getElem?_cons_zero, List.getElem?_cons_succ, List.set_cons_zero, List.set_cons_succ, startD, List.map_cons, List.map_nil, List.cons_append, List.nil_append, List.length_cons, List.length_nil, List.replicate_succ, List.replicate_zero, Nat.reduceSub, Nat.reduceAdd, Nat.zero_add, wipeD, keyD]
  have hm0 : 0 ≤ i % 3 := Int.emod_nonneg _ (by decide)
  have hm1 : i % 3 < 3 := Int.emod_lt_of_pos _ (by decide)
  obtain ⟨m, em, m1, m2⟩ : ∃ m : Int, atI [D.int 10, D.int 3, D.int 6] (i % 3) = some (.int m) ∧ 2 ≤ m ∧ m ≤ 10 := by
    have hr : i % 3 = 0 ∨ i % 3 = 1 ∨ i % 3 = 2 := by omega
    rcases hr with e | e | e <;> rw [e]
    · exact ⟨10, by rw [at0]; rfl, by decide, by decide⟩
    · exact ⟨3, by rw [at1]; rfl, by decide, by decide⟩
    · exact ⟨6, by rw [at2]; rfl, by decide, by decide⟩
  obtain ⟨hh, eh, h1, h2⟩ : ∃ m : Int, atI [D.int 50, D.int 1, D.int 9] (i % 3) = some (.int m) ∧ 0 ≤ m ∧ m < 1000 := by
    have hr : i % 3 = 0 ∨ i % 3 = 1 ∨ i % 3 = 2 := by omega
    rcases hr with e | e | e <;> rw [e]
    · exact ⟨50, by rw [at0]; rfl, by decide, by decide⟩
    · exact ⟨1, by rw [at1]; rfl, by decide, by decide⟩
    · exact ⟨9, by rw [at2]; rfl, by decide, by decide⟩
  refine ⟨by decide, rMod_i (by decide) (rIx_seq (x := .lst _) rfl em ⟨by decide, rMod_i (by decide) (rIx_seq (x := .lst _) rfl eh ⟨trivial, ?_⟩)⟩)⟩
  have hD' : Dk M' a c (1000 * ds.length + 900 + 30) := hD.mono (by rw [List.length_cons]; omega)
  refine ⟨a, c, _, m, hh, rfl, m1, m2, h1, h2, hD', fun row M1 hD1 hK1 l1 l2 hrow => ?_⟩
  have hrow' : intsIn row 1000 := fun x hx => ⟨(hrow x hx).1, by have := (hrow x hx).2; omega⟩
  simp only [dLc, sSeq, sRet, sRetN, sNext, sIf, sAsg, sPar, sPar3, sSetI, sAug, sAugI, sDrop, sBreak, sCont, dOp, dUn, dCons, dNil, dFn, dC, dTup, dLst, dLstM, dIf, dTest, dTru, dAnd, dOr, dNot, dAndV, dOrV, dNotE, dChain, dSl, dNoPart, dPart, dSeq, dEnum, dZip, dRng1, dRng2, dYes, dCall, dMt, dVar, dDic0, dDic1, Pat.put, Pat.puts, List.getElem?_cons_zero, List.getElem?_cons_succ, List.set_cons_zero, List.set_cons_succ, startD, List.map_cons, List.map_nil, List.cons_append, List.nil_append, List.length_cons, List.length_nil, List.replicate_succ, List.replicate_zero, Nat.reduceSub, Nat.reduceAdd, Nat.zero_add, wipeD, keyD, seqA]
  refine lcW_map twinF _ trivial (by rw [List.length_map]; omega) (fun x hx => ?_) ?_
  · obtain ⟨n, _, rfl⟩ := List.mem_map.mp hx
    refine ⟨_, rfl, fun acc Nx hl q => ?_⟩
    simp only [sSeq, sRet, sRetN, sNext, sIf, sAsg, sPar, sPar3, sSetI, sAug, sAugI, sDrop, sBreak, sCont, dOp, dUn, dCons, dNil, dFn, dC, dTup, dLst, dLstM, dIf, dTest, dTru, dAnd, dOr, dNot, dAndV, dOrV, dNotE, dChain, dSl, dNoPart, dPart, dSeq, dEnum, dZip, dRng1, dRng2, dYes, dCall, dMt, dVar, dDic0, dDic1, Pat.put, Pat.puts, List.getElem?_cons_zero, List.getElem?_cons_succ, List.set_cons_zero, List.set_cons_succ, startD, List.map_cons, List.map_nil, List.cons_append, List.nil_append, List.length_cons, List.length_nil, List.replicate_succ, List.replicate_zero, Nat.reduceSub, Nat.reduceAdd, Nat.zero_add, wipeD, keyD, if_true]
    refine rEq_i ⟨by decide, rCmp_i ?_⟩
    simp only [rInt]
    by_cases hn : n < 2
    · rw [decide_eq_true hn]
      refine rIx_seq (x := .lst _) rfl (d := .bl (n == 1)) (by rw [show b2 true = 1 from rfl, at1]; rfl) ⟨hl, ?_⟩
      simpa [twinF, hn] using q
    · rw [decide_eq_false hn]
      refine rIx_seq (x := .lst _) rfl (d := .int n) (by rw [show b2 false = 0 from rfl, at0]; rfl) ⟨hl, ?_⟩
      simpa [twinF, hn] using q
  simp only [rTuple, seqA]
  obtain ⟨ft, nt⟩ := twin_fine row hrow'
  generalize (row.map D.int).filterMap twinF = twin at ft nt ⊢
  refine ⟨by decide, by decide, by decide, by decide, by decide, by decide, ?_⟩
  simp only [rMul]
  refine ⟨by decide, by decide, by decide, by decide, by decide, by decide, by decide, ?_⟩
  refine use_odd (hD1 : Dk M1 a c (1000 * ds.length + 899 + 1)) fun odd M2 hD2 hK2 hodd => ?_
  refine ⟨by decide, ?_⟩
  have fo := odds_fine hodd
  have fr := (FL.ints (h := 1000) (by decide) hrow').1
  generalize hL : ([.tup (row.map D.int), .tup twin, .tup (row.map D.int), .tup [.int 0, .int 1], .tup [.bl false, .bl true], .tup [.int 0, .bl true], .tup [.int 0, .int 1], .tup [.int 0], .tup (List.replicate (10 : Int).toNat [.int 50]).flatten, .tup (List.replicate (11 : Int).toNat [.int 0]).flatten, odd] : List D) = L
  have hLl : L.length = 11 := by rw [← hL]; rfl
  have hLf : ∀ d ∈ L, fineB d 8 300000 = true := fun d hd => by
    rw [← hL] at hd
    simp only [List.mem_cons, List.not_mem_nil, or_false] at hd
    rcases hd with rfl | rfl | rfl | rfl | rfl | rfl | rfl | rfl | rfl | rfl | rfl
    all_goals first
      | exact fineB_mono (FL.tup fr) (by decide) (by omega)
      | exact fineB_mono (FL.tup ft) (by decide) (by omega)
      | exact fineB_mono fo (by decide) (by decide)
      | decide +kernel
  simp only [sFor, dSeq, sSeq, sRet, sRetN, sNext, sIf, sAsg, sPar, sPar3, sSetI, sAug, sAugI, sDrop, sBreak, sCont, dOp, dUn, dCons, dNil, dFn, dC, dTup, dLst, dLstM, dIf, dTest, dTru, dAnd, dOr, dNot, dAndV, dOrV, dNotE, dChain, dSl, dNoPart, dPart, dSeq, dEnum, dZip, dRng1, dRng2, dYes, dCall, dMt, dVar, dDic0, dDic1, Pat.put, Pat.puts, List.getElem?_cons_zero, List.getElem?_cons_succ, List.set_cons_zero, List.set_cons_succ, startD, List.map_cons, List.map_nil, List.cons_append, List.nil_append, List.length_cons, List.length_nil, List.replicate_succ, List.replicate_zero, Nat.reduceSub, Nat.reduceAdd, Nat.zero_add, wipeD, keyD, dLc]
  refine ⟨by decide, by decide, ?_⟩
  refine lcW_inv (fun ds' acc M3 => Dk M3 a c (1000 * ds.length + 800 + 4 * ds'.length) ∧ acc.length + ds'.length = 12 ∧ ∀ d ∈ acc, fineB d 8 300000 = true) (fun _ _ _ _ => trivial) (fun acc M3 q => ?_) (fun d' ds' acc M3 Nx3 q nx3 => ?_) _ _ _
    ⟨hD2.mono (by rw [rangeD_length]; show 1000 * ds.length + 800 + 48 ≤ _; omega), by rw [rangeD_length]; rfl, fun _ z => by cases z⟩
  · obtain ⟨q1, q2, q3⟩ := q
    simp only [rAdd, seqL, seqA]
    have q2' : acc.length = 12 := by simpa using q2
    refine ⟨by omega, ?_⟩
    refine forW_inv (fun ds' ρ M4 => (∃ r6 r7 r8 r9 r10 r11, ρ = [some (.scr ns), some (.ref a), some (.int i), some (.tup (row.map D.int)), some (.tup twin), some (.lst L), r6, r7, r8, r9, r10, r11]) ∧ M4 = M3 ∧ ∀ d ∈ ds', fineB d 8 300000 = true) (fun _ _ _ _ => trivial) (fun ρ M4 q => ?_) (fun d'' ds'' ρ M4 Nx4 q nx4 => ?_) _ _ _
      ⟨⟨_, _, _, _, _, _, rfl⟩, rfl, fun d hd => by
        rcases List.mem_append.mp hd with z | z
        · exact hLf d z
        · exact q3 d z⟩
    · obtain ⟨⟨r6, r7, r8, r9, r10, r11, rfl⟩, rfl, _⟩ := q
      exact nx _ _ ⟨⟨_, _, _, _, _, _, _, _, _, _, rfl⟩, q1.mono (by simp), fun d hd => hds d (List.mem_cons_of_mem _ hd)⟩
    · obtain ⟨⟨r6, r7, r8, r9, r10, r11, rfl⟩, rfl, hf⟩ := q
      have fd := hf d'' (List.mem_cons_self ..)
      have sd := fineB_still fd
      have F := fine_of fd (by decide)
      have fe := errD_fine d''
      have Fe := fine_of fe (by decide)
      have fl2 := fine_of (fine2 fe (errD_nodic d'')) (by decide)
      refine ⟨_, rfl, ?_⟩
      simp only [sSeq, sRet, sRetN, sNext, sIf, sAsg, sPar, sPar3, sSetI, sAug, sAugI, sDrop, sBreak, sCont, dOp, dUn, dCons, dNil, dFn, dC, dTup, dLst, dLstM, dIf, dTest, dTru, dAnd, dOr, dNot, dAndV, dOrV, dNotE, dChain, dSl, dNoPart, dPart, dSeq, dEnum, dZip, dRng1, dRng2, dYes, dCall, dMt, dVar, dDic0, dDic1, Pat.put, Pat.puts, List.getElem?_cons_zero, List.getElem?_cons_succ, List.set_cons_zero, List.set_cons_succ, startD, List.map_cons, List.map_nil, List.cons_append, List.nil_append, List.length_cons, List.length_nil, List.replicate_succ, List.replicate_zero, Nat.reduceSub, Nat.reduceAdd, Nat.zero_add, wipeD, keyD]
      refine repr_fine F (by decide) ⟨trivial, d'', rfl, sd, ?_⟩
      simp only [dTru, dLc, sSeq, sRet, sRetN, sNext, sIf, sAsg, sPar, sPar3, sSetI, sAug, sAugI, sDrop, sBreak, sCont, dOp, dUn, dCons, dNil, dFn, dC, dTup, dLst, dLstM, dIf, dTest, dTru, dAnd, dOr, dNot, dAndV, dOrV, dNotE, dChain, dSl, dNoPart, dPart, dSeq, dEnum, dZip, dRng1, dRng2, dYes, dCall, dMt, dVar, dDic0, dDic1, Pat.put, Pat.puts, List.getElem?_cons_zero, List.getElem?_cons_succ, List.set_cons_zero, List.set_cons_succ, startD, List.map_cons, List.map_nil, List.cons_append, List.nil_append, List.length_cons, List.length_nil, List.replicate_succ, List.replicate_zero, Nat.reduceSub, Nat.reduceAdd, Nat.zero_add, wipeD, keyD]
      refine ⟨by decide, by decide, lcW_map (fun _ => some (errD d'')) _ trivial (by rw [rangeD_length]; decide) (fun x hx => ⟨_, rfl, fun acc Nx hl q => ?_⟩) ?_⟩
      · simp only [sSeq, sRet, sRetN, sNext, sIf, sAsg, sPar, sPar3, sSetI, sAug, sAugI, sDrop, sBreak, sCont, dOp, dUn, dCons, dNil, dFn, dC, dTup, dLst, dLstM, dIf, dTest, dTru, dAnd, dOr, dNot, dAndV, dOrV, dNotE, dChain, dSl, dNoPart, dPart, dSeq, dEnum, dZip, dRng1, dRng2, dYes, dCall, dMt, dVar, dDic0, dDic1, Pat.put, Pat.puts, List.getElem?_cons_zero, List.getElem?_cons_succ, List.set_cons_zero, List.set_cons_succ, startD, List.map_cons, List.map_nil, List.cons_append, List.nil_append, List.length_cons, List.length_nil, List.replicate_succ, List.replicate_zero, Nat.reduceSub, Nat.reduceAdd, Nat.zero_add, wipeD, keyD, if_true]
        exact ⟨trivial, d'', rfl, sd, hl, q⟩
      have e2 : (rangeD 0 (2 : Int).toNat).filterMap (fun _ => some (errD d'')) = [errD d'', errD d''] := rfl
      rw [e2]
      refine ⟨by decide, trivial, _, _, _, rfl, fl2, fl2, by decide, ?_⟩
      simp only [truD, BEq.rfl, Bool.not_true, Bool.false_eq_true, if_false]
      refine ⟨trivial, d'', rfl, sd, repr_fine (fine_of fineB_bl (by decide)) (by decide) ?_⟩
      simp only [rIs, Bool.false_eq_true, if_false]
      refine repr_fine (fine_of fineB_bl (by decide)) (by decide) (rNe_s ?_)
      simp only [BEq.rfl, Bool.not_true, Bool.false_eq_true, if_false]
      refine repr_fine F (by decide) (rNe_s ?_)
      simp only [BEq.rfl, Bool.not_true, Bool.false_eq_true, if_false]
      exact nx4 _ _ ⟨⟨_, _, _, _, _, _, rfl⟩, rfl, fun d hd => hf d (List.mem_cons_of_mem _ hd)⟩
  · obtain ⟨q1, q2, q3⟩ := q
    refine ⟨_, rfl, ?_⟩
    simp only [sSeq, sRet, sRetN, sNext, sIf, sAsg, sPar, sPar3, sSetI, sAug, sAugI, sDrop, sBreak, sCont, dOp, dUn, dCons, dNil, dFn, dC, dTup, dLst, dLstM, dIf, dTest, dTru, dAnd, dOr, dNot, dAndV, dOrV, dNotE, dChain, dSl, dNoPart, dPart, dSeq, dEnum, dZip, dRng1, dRng2, dYes, dCall, dMt, dVar, dDic0, dDic1, Pat.put, Pat.puts, List.getElem?_cons_zero, List.getElem?_cons_succ, List.set_cons_zero, List.set_cons_succ, startD, List.map_cons, List.map_nil, List.cons_append, List.nil_append, List.length_cons, List.length_nil, List.replicate_succ, List.replicate_zero, Nat.reduceSub, Nat.reduceAdd, Nat.zero_add, wipeD, keyD, if_true]
    have q2' : acc.length + (ds'.length + 1) = 12 := by simpa using q2
    refine ⟨trivial, a, c, 1000 * ds.length + 800 + 4 * ds'.length, row, rfl, l1, by omega, hrow', q1.mono (by simp; omega), fun d M5 hD5 hK5 hfd => ⟨by omega, nx3 _ _ ⟨hD5, by simp; omega, fun x hx => ?_⟩⟩⟩
    rcases List.mem_append.mp hx with z | z
    · exact q3 x z
    · rw [List.mem_singleton.mp z]; exact hfd
end DL

namespace DL
open PySem PySem.Spec PyProof.Rows L2

def sp_law_k01 : DSp := fun ds M Φ _ => ∃ ns : List Int, ds = [.scr ns] ∧ ∀ M', Φ (.bl true) M'
def t_law_k01 : DS := (sSeq (sAsg (dCall 1 sp_law_deck (dCons (dVar 0) dNil)) (.nm 1)) (sSeq (sFor (dRng1 (dC (.int 8))) (.nm 2) (sSeq (sAsg (dOp rIx (dLst (dCons (dC (.int 10)) (dCons (dC (.int 2)) (dCons (dOp rAdd (dC (.int 2)) (dCall 2 sp_law_draw (dCons (dVar 1) (dCons (dC (.int 9)) dNil)))) dNil)))) (dOp rMod (dVar 2) (dC (.int 3)))) (.nm 3)) (sSeq (sAsg (dCall 3 sp_law_walkers (dCons (dVar 1) (dCons (dVar 3) (dCons (dOp rIx (dLst (dCons (dC (.int 40)) (dCons (dC (.int 6)) dNil))) (dOp rMod (dVar 2) (dC (.int 2)))) dNil)))) (.nm 4)) (sSeq (sAsg (dFn rTuple (dCons (dLc (dSeq (dVar 4)) (.nm 11) [11] dYes (dFn rTuple (dCons (dLc (dSeq (dVar 11)) (.nm 13) [13] dYes (dOp rIx (dLst (dCons (dVar 13) (dCons (dOp rEq (dVar 13) (dC (.int 1))) dNil))) (dFn rInt (dCons (dOp rLt (dVar 13) (dC (.int 2))) dNil)))) dNil))) dNil)) (.nm 5)) (sSeq (sAsg (dLst (dCons (dVar 4) (dCons (dVar 5) (dCons (dVar 4) (dCons (dTup dNil) (dCons (dTup (dCons (dTup (dCons (dC (.int 0)) (dCons (dC (.int 1)) dNil))) dNil)) (dCons (dTup (dCons (dTup (dCons (dC (.bl false)) (dCons (dC (.bl true)) dNil))) dNil)) (dCons (dTup (dCons (dTup (dCons (dC (.int 0)) (dCons (dC (.bl true)) dNil))) dNil)) (dCons (dTup (dCons (dTup (dCons (dC (.int 0)) (dCons (dC (.int 1)) dNil))) dNil)) (dCons (dCall 1 sp_law_odd (dCons (dVar 1) dNil)) dNil)))))))))) (.nm 6)) (sSeq (sFor (dSeq (dOp rAdd (dVar 6) (dLc (dRng1 (dC (.int 12))) (.nm 12) [12] dYes (dCall 2 sp_law_changed_v2 (dCons (dVar 1) (dCons (dVar 4) dNil)))))) (.nm 7) (sSeq (sFor (dSeq (dLst (dCons (dVar 3) (dCons (dOp rAdd (dC (.int 2)) (dCall 2 sp_law_draw (dCons (dVar 1) (dCons (dC (.int 9)) dNil)))) dNil)))) (.nm 8) (sSeq (sPar 9 10 (dCons (dFn rRepr (dCons (dVar 7) dNil)) (dCons (dFn rRepr (dCons (dCall 2 sp_law_are_right (dCons (dVar 8) (dCons (dVar 7) dNil))) dNil)) dNil))) (sSeq (sIf (dOr (dTest (dOp rNe (dLc (dRng1 (dC (.int 2))) (.nm 14) [14] dYes (dFn rRepr (dCons (dCall 2 sp_are_walkers (dCons (dVar 8) (dCons (dVar 7) dNil))) dNil))) (dLst (dCons (dVar 10) (dCons (dVar 10) dNil))))) (dTest (dOp rNe (dFn rRepr (dCons (dVar 7) dNil)) (dVar 9)))) (sSeq (sRet (dC (.bl false))) sNext) sNext) sNext))) sNext)) sNext)))))) (sSeq (sRet (dC (.bl true))) sNext)))
def twinW (d : D) : Option D := match d with
  | .tup xs => some (.tup (xs.filterMap twinF))
  | _ => none
theorem twinW_way (w : Int × Int) : twinW (wayD w) = some (.tup [if w.1 < 2 then .bl (w.1 == 1) else .int w.1, if w.2 < 2 then .bl (w.2 == 1) else .int w.2]) := rfl
theorem twins_fine {ws : List (Int × Int)} {st : Int} (h : waysIn ws st) (hs : st ≤ 1000) : AllF ((ws.map wayD).filterMap twinW) 1 3849 := fun x hx => by
  obtain ⟨y, hy, e⟩ := List.mem_filterMap.mp hx
  obtain ⟨w, hw, rfl⟩ := List.mem_map.mp hy
  obtain ⟨h1, h2, h3⟩ := h w hw
  rw [twinW_way] at e
  cases e
  have g : ∀ i : Int, 0 ≤ i → i < 2 ^ 100 → fineB (if i < 2 then D.bl (i == 1) else .int i) 0 1921 = true ∧ noLst (if i < 2 then D.bl (i == 1) else .int i) = true ∧ hasDic (if i < 2 then D.bl (i == 1) else .int i) = false := fun i i0 i1 => by
    split
    · exact ⟨fineB_bl, rfl, rfl⟩
    · exact ⟨fineB_int (by omega) (by omega), rfl, rfl⟩
  obtain ⟨a1, a2, a3⟩ := g w.1 h1 (by omega)
  obtain ⟨b1, b2, b3⟩ := g w.2 (by omega) (by omega)
  refine ⟨FL.tup (FL.app (FL.one a1) (FL.one b1) (.inl ⟨by simp [noLsts, a2], by simp [hasDics, a3]⟩)), by simp [noLst, noLsts, a2, b2], by simp [hasDic, hasDics, a3, b3]⟩
theorem p_law_k01 (ds : List D) (M : MS) (Φ : DQ) (h : sp_law_k01 ds M Φ noX) : t_law_k01 { nx := fun _ M' => Φ .non M', rt := Φ } (startD 15 ds) M := by
  obtain ⟨ns, rfl, h⟩ := h
  simp only [t_law_k01, sSeq, sRet, sRetN, sNext, sIf, sAsg, sPar, sPar3, sSetI, sAug, sAugI, sDrop, sBreak, sCont, dOp, dUn, dCons, dNil, dFn, dC, dTup, dLst, dLstM, dIf, dTest, dTru, dAnd, dOr, dNot, dAndV, dOrV, dNotE, dChain, dSl, dNoPart, dPart, dSeq, dEnum, dZip, dRng1, dRng2, dYes, dCall, dMt, dVar, dDic0, dDic1, Pat.put, Pat.puts, List.getElem?_cons_zero, List.getElem?_cons_succ, List.set_cons_zero, List.set_cons_succ, startD, List.map_cons, List.map_nil, List.cons_append, List.nil_append, List.length_cons, List.length_nil, List.replicate_succ, List.replicate_zero, Nat.reduceSub, Nat.reduceAdd, Nat.zero_add, wipeD, keyD]
  refine ⟨trivial, ns, rfl, fun a c M0 _ _ hD0 _ => ?_⟩
  simp only [sFor, dRng1, dC]
  refine ⟨by decide, by decide, ?_⟩
  refine forW_inv (fun ds ρ M => (∃ r2 r3 r4 r5 r6 r7 r8 r9 r10 r11 r12 r13 r14, ρ = [some (.scr ns), some (.ref a), r2, r3, r4, r5, r6, r7, r8, r9, r10, r11, r12, r13, r14]) ∧ Dk M a c (1000 * ds.length) ∧ ∀ d ∈ ds, ∃ i : Int, d = .int i ∧ 0 ≤ i) (fun _ _ _ _ => trivial) (fun ρ M' q => ?_) (fun d ds ρ M' Nx q nx => ?_) _ _ _
    ⟨⟨_, _, _, _, _, _, _, _, _, _, _, _, _, rfl⟩, hD0.mono (by rw [rangeD_length]; decide), fun d hd => by obtain ⟨i, e, h1, _⟩ := rangeD_mem hd; exact ⟨i, e, h1⟩⟩
  · exact h M'
  obtain ⟨⟨r2, r3, r4, r5, r6, r7, r8, r9, r10, r11, r12, r13, r14, rfl⟩, hD, hds⟩ := q
  obtain ⟨i, rfl, hi0⟩ := hds d (List.mem_cons_self ..)
  refine ⟨_, rfl, ?_⟩
  simp only [sSeq, sRet, sRetN, sNext, sIf, sAsg, sPar, sPar3, sSetI, sAug, sAugI, sDrop, sBreak, sCont, dOp, dUn, dCons, dNil, dFn, dC, dTup, dLst, dLstM, dIf, dTest, dTru, dAnd, dOr, dNot, dAndV, dOrV, dNotE, dChain, dSl, dNoPart, dPart, dSeq, dEnum, dZip, dRng1, dRng2, dYes, dCall, dMt, dVar, dDic0, dDic1, Pat.put, Pat.puts, List.getElem?_cons_zero, List.getElem?_cons_succ, List.set_cons_zero, List.set_cons_succ, startD, List.map_cons, List.map_nil, List.cons_append, List.nil_append, List.length_cons, List.length_nil, List.replicate_succ, List.replicate_zero, Nat.reduceSub, Nat.reduceAdd, Nat.zero_add, wipeD, keyD]
  have hm0 : 0 ≤ i % 3 := Int.emod_nonneg _ (by decide)
  have hm1 : i % 3 < 3 := Int.emod_lt_of_pos _ (by decide)
  have hn0 : 0 ≤ i % 2 := Int.emod_nonneg _ (by decide)
  have hn1 : i % 2 < 2 := Int.emod_lt_of_pos _ (by decide)
  have hD' : Dk M' a c (1000 * ds.length + 899 + 1) := hD.mono (by rw [List.length_cons]; omega)
  refine use_draw hD' (by decide) (by decide) fun r M1 hD1 hK1 u0 u1 => rAdd_i ⟨by decide, rMod_i (by decide) ?_⟩
  obtain ⟨st, es, s1, s2⟩ : ∃ m : Int, atI [D.int 10, D.int 2, D.int (2 + r)] (i % 3) = some (.int m) ∧ 2 ≤ m ∧ m ≤ 10 := by
    have hr : i % 3 = 0 ∨ i % 3 = 1 ∨ i % 3 = 2 := by omega
    rcases hr with e | e | e <;> rw [e]
    · exact ⟨10, by rw [at0]; rfl, by decide, by decide⟩
    · exact ⟨2, by rw [at1]; rfl, by decide, by decide⟩
    · exact ⟨2 + r, by rw [at2]; rfl, by omega, by omega⟩
  obtain ⟨mo, em, m0, m1⟩ : ∃ m : Int, atI [D.int 40, D.int 6] (i % 2) = some (.int m) ∧ 0 ≤ m ∧ m ≤ 40 := by
    have hr : i % 2 = 0 ∨ i % 2 = 1 := by omega
    rcases hr with e | e <;> rw [e]
    · exact ⟨40, by rw [at0]; rfl, by decide, by decide⟩
    · exact ⟨6, by rw [at1]; rfl, by decide, by decide⟩
  refine rIx_seq (x := .lst _) rfl es ⟨by decide, rMod_i (by decide) ?_⟩
  refine rIx_seq (x := .lst _) rfl em ⟨trivial, ?_⟩
  refine ⟨a, c, 1000 * ds.length + 700, st, mo, rfl, s1, by omega, m0, by omega, hD1.mono (by omega), fun ws M2 hD2 hK2 hwl hws => ?_⟩
  have hwl' : ws.length ≤ 40 := by omega
  simp only [dLc, sSeq, sRet, sRetN, sNext, sIf, sAsg, sPar, sPar3, sSetI, sAug, sAugI, sDrop, sBreak, sCont, dOp, dUn, dCons, dNil, dFn, dC, dTup, dLst, dLstM, dIf, dTest, dTru, dAnd, dOr, dNot, dAndV, dOrV, dNotE, dChain, dSl, dNoPart, dPart, dSeq, dEnum, dZip, dRng1, dRng2, dYes, dCall, dMt, dVar, dDic0, dDic1, Pat.put, Pat.puts, List.getElem?_cons_zero, List.getElem?_cons_succ, List.set_cons_zero, List.set_cons_succ, startD, List.map_cons, List.map_nil, List.cons_append, List.nil_append, List.length_cons, List.length_nil, List.replicate_succ, List.replicate_zero, Nat.reduceSub, Nat.reduceAdd, Nat.zero_add, wipeD, keyD, seqA]
  refine lcW_map twinW _ trivial (by rw [List.length_map]; omega) (fun x hx => ?_) ?_
  · obtain ⟨w, hw, rfl⟩ := List.mem_map.mp hx
    refine ⟨_, rfl, fun acc Nx hl q => ?_⟩
    simp only [sSeq, sRet, sRetN, sNext, sIf, sAsg, sPar, sPar3, sSetI, sAug, sAugI, sDrop, sBreak, sCont, dOp, dUn, dCons, dNil, dFn, dC, dTup, dLst, dLstM, dIf, dTest, dTru, dAnd, dOr, dNot, dAndV, dOrV, dNotE, dChain, dSl, dNoPart, dPart, dSeq, dEnum, dZip, dRng1, dRng2, dYes, dCall, dMt, dVar, dDic0, dDic1, Pat.put, Pat.puts, List.getElem?_cons_zero, List.getElem?_cons_succ, List.set_cons_zero, List.set_cons_succ, startD, List.map_cons, List.map_nil, List.cons_append, List.nil_append, List.length_cons, List.length_nil, List.replicate_succ, List.replicate_zero, Nat.reduceSub, Nat.reduceAdd, Nat.zero_add, wipeD, keyD, if_true, wayD, dLc, seqA]
    refine lcW_map twinF _ trivial (by simp) (fun x hx => ?_) ?_
    · obtain ⟨n, rfl⟩ : ∃ n : Int, x = .int n := by
        simp only [List.mem_cons, List.not_mem_nil, or_false] at hx
        rcases hx with rfl | rfl <;> exact ⟨_, rfl⟩
      refine ⟨_, rfl, fun acc Nx hl q => ?_⟩
      simp only [sSeq, sRet, sRetN, sNext, sIf, sAsg, sPar, sPar3, sSetI, sAug, sAugI, sDrop, sBreak, sCont, dOp, dUn, dCons, dNil, dFn, dC, dTup, dLst, dLstM, dIf, dTest, dTru, dAnd, dOr, dNot, dAndV, dOrV, dNotE, dChain, dSl, dNoPart, dPart, dSeq, dEnum, dZip, dRng1, dRng2, dYes, dCall, dMt, dVar, dDic0, dDic1, Pat.put, Pat.puts, List.getElem?_cons_zero, List.getElem?_cons_succ, List.set_cons_zero, List.set_cons_succ, startD, List.map_cons, List.map_nil, List.cons_append, List.nil_append, List.length_cons, List.length_nil, List.replicate_succ, List.replicate_zero, Nat.reduceSub, Nat.reduceAdd, Nat.zero_add, wipeD, keyD, if_true]
      refine rEq_i ⟨by decide, rCmp_i ?_⟩
      simp only [rInt]
      by_cases hn : n < 2
      · rw [decide_eq_true hn]
        refine rIx_seq (x := .lst _) rfl (d := .bl (n == 1)) (by rw [show b2 true = 1 from rfl, at1]; rfl) ⟨hl, ?_⟩
        simpa [twinF, hn] using q
      · rw [decide_eq_false hn]
        refine rIx_seq (x := .lst _) rfl (d := .int n) (by rw [show b2 false = 0 from rfl, at0]; rfl) ⟨hl, ?_⟩
        simpa [twinF, hn] using q
    · simp only [rTuple, seqA]
      exact ⟨hl, q⟩
  simp only [rTuple, seqA]
  have At := twins_fine hws (by omega)
  have hTl : ((ws.map wayD).filterMap twinW).length ≤ 40 := Nat.le_trans (List.length_filterMap_le _ _) (by rw [List.length_map]; exact hwl')
  obtain ⟨ft, _⟩ := At.flL (n' := 3) (w' := 160000) (by decide) 40 hTl (by decide)
  obtain ⟨fr, _⟩ := (ways_allF hws (by omega)).flL (n' := 3) (w' := 160000) (by decide) 40 (by rw [List.length_map]; exact hwl') (by decide)
  generalize (ws.map wayD).filterMap twinW = twin at ft ⊢
  refine ⟨by decide, by decide, by decide, by decide, by decide, by decide, by decide, by decide, by decide, ?_⟩
  refine use_odd (hD2 : Dk M2 a c (1000 * ds.length + 699 + 1)) fun odd M3 hD3 hK3 hodd => ?_
  refine ⟨by decide, ?_⟩
  have fo := odds_fine hodd
  generalize hL : ([.tup (ws.map wayD), .tup twin, .tup (ws.map wayD), .tup [], .tup [.tup [.int 0, .int 1]], .tup [.tup [.bl false, .bl true]], .tup [.tup [.int 0, .bl true]], .tup [.tup [.int 0, .int 1]], odd] : List D) = L
  have hLl : L.length = 9 := by rw [← hL]; rfl
  have hLf : ∀ d ∈ L, fineB d 10 600000 = true := fun d hd => by
    rw [← hL] at hd
    simp only [List.mem_cons, List.not_mem_nil, or_false] at hd
    rcases hd with rfl | rfl | rfl | rfl | rfl | rfl | rfl | rfl | rfl
    all_goals first
      | exact fineB_mono (FL.tup fr) (by decide) (by decide)
      | exact fineB_mono (FL.tup ft) (by decide) (by decide)
      | exact fineB_mono fo (by decide) (by decide)
      | decide +kernel
  simp only [sFor, dSeq, sSeq, sRet, sRetN, sNext, sIf, sAsg, sPar, sPar3, sSetI, sAug, sAugI, sDrop, sBreak, sCont, dOp, dUn, dCons, dNil, dFn, dC, dTup, dLst, dLstM, dIf, dTest, dTru, dAnd, dOr, dNot, dAndV, dOrV, dNotE, dChain, dSl, dNoPart, dPart, dSeq, dEnum, dZip, dRng1, dRng2, dYes, dCall, dMt, dVar, dDic0, dDic1, Pat.put, Pat.puts, List.getElem?_cons_zero, List.getElem?_cons_succ, List.set_cons_zero, List.set_cons_succ, startD, List.map_cons, List.map_nil, List.cons_append, List.nil_append, List.length_cons, List.length_nil, List.replicate_succ, List.replicate_zero, Nat.reduceSub, Nat.reduceAdd, Nat.zero_add, wipeD, keyD, dLc]
  refine ⟨by decide, by decide, ?_⟩
  refine lcW_inv (fun ds' acc M3 => Dk M3 a c (1000 * ds.length + 400 + 6 * ds'.length) ∧ acc.length + ds'.length = 12 ∧ ∀ d ∈ acc, fineB d 10 600000 = true) (fun _ _ _ _ => trivial) (fun acc M3 q => ?_) (fun d' ds' acc M3 Nx3 q nx3 => ?_) _ _ _
    ⟨hD3.mono (by rw [rangeD_length]; show 1000 * ds.length + 400 + 72 ≤ _; omega), by rw [rangeD_length]; rfl, fun _ z => by cases z⟩
  · obtain ⟨q1, q2, q3⟩ := q
    simp only [rAdd, seqL, seqA]
    have q2' : acc.length = 12 := by simpa using q2
    refine ⟨by omega, ?_⟩
    refine forW_inv (fun ds' ρ M4 => (∃ r7 r8 r9 r10 r11 r12 r13 r14, ρ = [some (.scr ns), some (.ref a), some (.int i), some (.int st), some (.tup (ws.map wayD)), some (.tup twin), some (.lst L), r7, r8, r9, r10, r11, r12, r13, r14]) ∧ Dk M4 a c (1000 * ds.length + ds'.length) ∧ ∀ d ∈ ds', fineB d 10 600000 = true) (fun _ _ _ _ => trivial) (fun ρ M4 q => ?_) (fun d'' ds'' ρ M4 Nx4 q nx4 => ?_) _ _ _
      ⟨⟨_, _, _, _, _, _, _, _, rfl⟩, q1.mono (by rw [List.length_append, hLl, q2']; simp), fun d hd => by
        rcases List.mem_append.mp hd with z | z
        · exact hLf d z
        · exact q3 d z⟩
    · obtain ⟨⟨r7, r8, r9, r10, r11, r12, r13, r14, rfl⟩, qD, _⟩ := q
      exact nx _ _ ⟨⟨_, _, _, _, _, _, _, _, _, _, _, _, _, rfl⟩, qD.mono (by simp), fun d hd => hds d (List.mem_cons_of_mem _ hd)⟩
    · obtain ⟨⟨r7, r8, r9, r10, r11, r12, r13, r14, rfl⟩, qD, hf⟩ := q
      have fd := hf d'' (List.mem_cons_self ..)
      have sd := fineB_still fd
      have F := fine_of fd (by decide)
      refine ⟨_, rfl, ?_⟩
      simp only [sFor, sSeq, sRet, sRetN, sNext, sIf, sAsg, sPar, sPar3, sSetI, sAug, sAugI, sDrop, sBreak, sCont, dOp, dUn, dCons, dNil, dFn, dC, dTup, dLst, dLstM, dIf, dTest, dTru, dAnd, dOr, dNot, dAndV, dOrV, dNotE, dChain, dSl, dNoPart, dPart, dSeq, dEnum, dZip, dRng1, dRng2, dYes, dCall, dMt, dVar, dDic0, dDic1, Pat.put, Pat.puts, List.getElem?_cons_zero, List.getElem?_cons_succ, List.set_cons_zero, List.set_cons_succ, startD, List.map_cons, List.map_nil, List.cons_append, List.nil_append, List.length_cons, List.length_nil, List.replicate_succ, List.replicate_zero, Nat.reduceSub, Nat.reduceAdd, Nat.zero_add, wipeD, keyD, seqA]
      refine use_draw (k := 1000 * ds.length + ds''.length) (qD.mono (by simp; omega)) (by decide) (by decide) fun r' M5 hD5 hK5 w0 w1 => rAdd_i ?_
      refine ⟨by decide, ?_⟩
      refine forW_inv (fun ds3 ρ M6 => (∃ r8 r9 r10 r11 r12 r13 r14, ρ = [some (.scr ns), some (.ref a), some (.int i), some (.int st), some (.tup (ws.map wayD)), some (.tup twin), some (.lst L), some d'', r8, r9, r10, r11, r12, r13, r14]) ∧ M6 = M5 ∧ ∀ d ∈ ds3, ∃ j : Int, d = .int j) (fun _ _ _ _ => trivial) (fun ρ M6 q => ?_) (fun d3 ds3 ρ M6 Nx6 q nx6 => ?_) _ _ _
        ⟨⟨_, _, _, _, _, _, _, rfl⟩, rfl, fun d hd => by
          simp only [List.mem_cons, List.not_mem_nil, or_false] at hd
          rcases hd with rfl | rfl <;> exact ⟨_, rfl⟩⟩
      · obtain ⟨⟨r8, r9, r10, r11, r12, r13, r14, rfl⟩, rfl, _⟩ := q
        exact nx4 _ _ ⟨⟨_, _, _, _, _, _, _, _, rfl⟩, hD5, fun d hd => hf d (List.mem_cons_of_mem _ hd)⟩
      · obtain ⟨⟨r8, r9, r10, r11, r12, r13, r14, rfl⟩, rfl, hj⟩ := q
        obtain ⟨j, rfl⟩ := hj d3 (List.mem_cons_self ..)
        refine ⟨_, rfl, ?_⟩
        simp only [sSeq, sRet, sRetN, sNext, sIf, sAsg, sPar, sPar3, sSetI, sAug, sAugI, sDrop, sBreak, sCont, dOp, dUn, dCons, dNil, dFn, dC, dTup, dLst, dLstM, dIf, dTest, dTru, dAnd, dOr, dNot, dAndV, dOrV, dNotE, dChain, dSl, dNoPart, dPart, dSeq, dEnum, dZip, dRng1, dRng2, dYes, dCall, dMt, dVar, dDic0, dDic1, Pat.put, Pat.puts, List.getElem?_cons_zero, List.getElem?_cons_succ, List.set_cons_zero, List.set_cons_succ, startD, List.map_cons, List.map_nil, List.cons_append, List.nil_append, List.length_cons, List.length_nil, List.replicate_succ, List.replicate_zero, Nat.reduceSub, Nat.reduceAdd, Nat.zero_add, wipeD, keyD]
        refine repr_fine F (by decide) ⟨trivial, j, d'', rfl, sd, repr_fine (fine_of fineB_bl (by decide)) (by decide) ?_⟩
        simp only [dLc, sSeq, sRet, sRetN, sNext, sIf, sAsg, sPar, sPar3, sSetI, sAug, sAugI, sDrop, sBreak, sCont, dOp, dUn, dCons, dNil, dFn, dC, dTup, dLst, dLstM, dIf, dTest, dTru, dAnd, dOr, dNot, dAndV, dOrV, dNotE, dChain, dSl, dNoPart, dPart, dSeq, dEnum, dZip, dRng1, dRng2, dYes, dCall, dMt, dVar, dDic0, dDic1, Pat.put, Pat.puts, List.getElem?_cons_zero, List.getElem?_cons_succ, List.set_cons_zero, List.set_cons_succ, startD, List.map_cons, List.map_nil, List.cons_append, List.nil_append, List.length_cons, List.length_nil, List.replicate_succ, List.replicate_zero, Nat.reduceSub, Nat.reduceAdd, Nat.zero_add, wipeD, keyD]
        generalize hb : areW j d'' = bb
        refine ⟨by decide, by decide, lcW_map (fun _ => some (.str (rpr (.bl bb)))) _ trivial (by rw [rangeD_length]; decide) (fun x hx => ⟨_, rfl, fun acc Nx hl q => ?_⟩) ?_⟩
        · simp only [sSeq, sRet, sRetN, sNext, sIf, sAsg, sPar, sPar3, sSetI, sAug, sAugI, sDrop, sBreak, sCont, dOp, dUn, dCons, dNil, dFn, dC, dTup, dLst, dLstM, dIf, dTest, dTru, dAnd, dOr, dNot, dAndV, dOrV, dNotE, dChain, dSl, dNoPart, dPart, dSeq, dEnum, dZip, dRng1, dRng2, dYes, dCall, dMt, dVar, dDic0, dDic1, Pat.put, Pat.puts, List.getElem?_cons_zero, List.getElem?_cons_succ, List.set_cons_zero, List.set_cons_succ, startD, List.map_cons, List.map_nil, List.cons_append, List.nil_append, List.length_cons, List.length_nil, List.replicate_succ, List.replicate_zero, Nat.reduceSub, Nat.reduceAdd, Nat.zero_add, wipeD, keyD, if_true]
          refine ⟨trivial, j, d'', rfl, sd, ?_⟩
          rw [hb]
          exact repr_fine (fine_of fineB_bl (by decide)) (by decide) ⟨hl, q⟩
        have e2 : (rangeD 0 (2 : Int).toNat).filterMap (fun _ => some (D.str (rpr (.bl bb)))) = [.str (rpr (.bl bb)), .str (rpr (.bl bb))] := rfl
        rw [e2]
        refine ⟨by decide, rNe_still (by cases bb <;> decide +kernel) (by cases bb <;> decide) (by cases bb <;> decide +kernel) (by cases bb <;> decide) ?_⟩
        have er : eqd (.lst [.str (rpr (.bl bb)), .str (rpr (.bl bb))]) (.lst [.str (rpr (.bl bb)), .str (rpr (.bl bb))]) = true := by simp [eqd, eqds]
        rw [er]
        simp only [Bool.not_true, Bool.false_eq_true, if_false]
        refine repr_fine F (by decide) (rNe_s ?_)
        simp only [BEq.rfl, Bool.not_true, Bool.false_eq_true, if_false]
        exact nx6 _ _ ⟨⟨_, _, _, _, _, _, _, rfl⟩, rfl, fun d hd => hj d (List.mem_cons_of_mem _ hd)⟩
  · obtain ⟨q1, q2, q3⟩ := q
    refine ⟨_, rfl, ?_⟩
    simp only [sSeq, sRet, sRetN, sNext, sIf, sAsg, sPar, sPar3, sSetI, sAug, sAugI, sDrop, sBreak, sCont, dOp, dUn, dCons, dNil, dFn, dC, dTup, dLst, dLstM, dIf, dTest, dTru, dAnd, dOr, dNot, dAndV, dOrV, dNotE, dChain, dSl, dNoPart, dPart, dSeq, dEnum, dZip, dRng1, dRng2, dYes, dCall, dMt, dVar, dDic0, dDic1, Pat.put, Pat.puts, List.getElem?_cons_zero, List.getElem?_cons_succ, List.set_cons_zero, List.set_cons_succ, startD, List.map_cons, List.map_nil, List.cons_append, List.nil_append, List.length_cons, List.length_nil, List.replicate_succ, List.replicate_zero, Nat.reduceSub, Nat.reduceAdd, Nat.zero_add, wipeD, keyD, if_true]
    have q2' : acc.length + (ds'.length + 1) = 12 := by simpa using q2
    refine ⟨trivial, a, c, 1000 * ds.length + 400 + 6 * ds'.length, st, ws, rfl, by omega, hws, hwl', q1.mono (by simp; omega), fun d M5 hD5 hK5 hfd => ⟨by omega, nx3 _ _ ⟨hD5, by simp; omega, fun x hx => ?_⟩⟩⟩
    rcases List.mem_append.mp hx with z | z
    · exact q3 x z
    · rw [List.mem_singleton.mp z]; exact hfd
end DL

namespace DL
open PySem PySem.Spec PyProof.Rows L2

theorem F2.three {x y z : D} {n w1 w2 w3 : Nat} (h1 : F2 x n w1) (h2 : F2 y n w2) (h3 : F2 z n w3) : F2 (.lst [x, y, z]) (n + 1) (w1 + w2 + w3 + 9) := by
  obtain ⟨a1, a2, a3, a4⟩ := h1
  obtain ⟨b1, b2, b3, b4⟩ := h2
  obtain ⟨c1, c2, c3, c4⟩ := h3
  refine ⟨by simp [still, stills, a1, b1, c1], by simp only [dep, deps]; omega, by simp [okl, okls, a3, b3, c3], by simp only [wt, wts]; omega⟩
theorem twin_st : ∀ {ss : List Nat}, (∀ s ∈ ss, s < 9) → A2 ((ss.map fun s => D.int (s : Nat)).filterMap twinF) 4 4000 := fun {ss} h x hx => by
  obtain ⟨y, hy, e⟩ := List.mem_filterMap.mp hx
  obtain ⟨s, hs, rfl⟩ := List.mem_map.mp hy
  have h9 := h s hs
  injection e with e
  subst e
  split
  · exact F2.of (fineB_mono fineB_bl (by decide) (by decide))
  · exact (F2.int (by omega) (by omega)).mono (by decide) (by decide)
theorem twins_st {ps : List (List Nat)} {st : Nat} (hst : st ≤ 10) (hps : planStOk st ps) (hpa : ∀ ss ∈ ps, ss.Pairwise (· < ·)) : A2 ((ps.map stD).filterMap twinW) 5 81000 ∧ ∀ x ∈ (ps.map stD).filterMap twinW, wid x = true := by
  have key : ∀ x ∈ (ps.map stD).filterMap twinW, F2 x 5 81000 ∧ wid x = true := fun x hx => by
    obtain ⟨y, hy, e⟩ := List.mem_filterMap.mp hx
    obtain ⟨ss, hs, rfl⟩ := List.mem_map.mp hy
    have h9 : ∀ x ∈ ss, x < 9 := fun x hx => by
      have := hps ss hs x hx
      omega
    have hl := few_of (hpa ss hs) h9
    injection e with e
    subst e
    exact tupC (twin_st h9) (Nat.le_trans (List.length_filterMap_le _ _) (by rw [List.length_map]; omega))
  exact ⟨fun x hx => (key x hx).1, fun x hx => (key x hx).2⟩
def wholeF (d : D) : Option D := match d with
  | .tup [.int i, .int j] => some (.tup ((List.range (j - i).toNat).map fun k => D.int (i + (k : Nat))))
  | _ => none
theorem wholes {ws : List (Int × Int)} {st : Nat} (hst : st ≤ 10) (hw : waysIn ws (st : Nat)) : A2 ((ws.map wayD).filterMap wholeF) 5 81000 ∧ ∀ x ∈ (ws.map wayD).filterMap wholeF, wid x = true := by
  have key : ∀ x ∈ (ws.map wayD).filterMap wholeF, F2 x 5 81000 ∧ wid x = true := fun x hx => by
    obtain ⟨y, hy, e⟩ := List.mem_filterMap.mp hx
    obtain ⟨w, hm, rfl⟩ := List.mem_map.mp hy
    obtain ⟨w0, w1, w2⟩ := hw w hm
    injection e with e
    subst e
    refine tupC (fun x hx => ?_) (by rw [List.length_map, List.length_range]; omega)
    obtain ⟨s, hs, rfl⟩ := List.mem_map.mp hx
    have := List.mem_range.mp hs
    exact (F2.int (by omega) (by omega)).mono (by decide) (by decide)
  exact ⟨fun x hx => (key x hx).1, fun x hx => (key x hx).2⟩
theorem use_isplan {ns : List Int} {ws : List (Int × Int)} {d : D} {M : MS} {Φ : DQ} (hw : waysIn ws (ns.length : Nat)) (hd : still d = true) (hl : ws.length ≤ 100000) (hwd : wideOk d)
    (q : ∀ M' b, Ext M M' → (b = true ↔ ∃ ps, d = planD ps ∧ PlanOf ns ws ps) → Φ (.bl b) M') : True ∧ sp_is_plan [.tup (ns.map D.int), .tup (ws.map wayD), d] M Φ noX :=
  ⟨trivial, ns, ws, d, rfl, hw, hd, hl, hwd, q⟩
theorem use_isright {ns : List Int} {ws : List (Int × Int)} {d : D} {M : MS} {Φ : DQ} (hw : waysIn ws (ns.length : Nat)) (hn : nonN ns) (hd : still d = true) (hl : ws.length ≤ 1000) (hwd : wide60 d)
    (q : ∀ M' b, Ext M M' → (b = true ↔ ∃ ps, d = planD ps ∧ PlanOf ns ws ps) → Φ (.bl b) M') : True ∧ sp_law_is_right [.tup (ns.map D.int), .tup (ws.map wayD), d] M Φ noX :=
  ⟨trivial, ns, ws, d, rfl, hw, hn, hd, hl, hwd, q⟩
theorem bb_eq {a b : Bool} {P : Prop} (h : a = true ↔ P) (h' : b = true ↔ P) : a = b := Bool.eq_iff_iff.mpr (h.trans h'.symm)
theorem isp_yes {ns : List Int} {ws : List (Int × Int)} {ps : List (List Nat)} {b : Bool} (h0 : ∀ w ∈ ws, 0 ≤ w.1) (hf : isForm ws (planD ps) = true) (hc : canAll ns ps = true) (h : b = true ↔ ∃ qs, planD ps = planD qs ∧ PlanOf ns ws qs) : b = true := by
  refine h.mpr ⟨ps, rfl, planOf_iff.mpr ⟨?_, hc⟩⟩
  obtain ⟨qs, e, hq⟩ := (isForm_iff h0).mp hf
  rw [planD_inj e]
  exact hq
theorem isp_form {ns : List Int} {ws : List (Int × Int)} {d : D} {b : Bool} (h0 : ∀ w ∈ ws, 0 ≤ w.1) (hf : isForm ws d = false) (h : b = true ↔ ∃ qs, d = planD qs ∧ PlanOf ns ws qs) : b = false := by
  refine Bool.eq_false_iff.mpr fun hb => ?_
  obtain ⟨qs, e, hq⟩ := h.mp hb
  exact absurd ((isForm_iff h0).mpr ⟨qs, e, (planOf_iff.mp hq).1⟩) (Bool.eq_false_iff.mp hf)
theorem isp_can {ns : List Int} {ws : List (Int × Int)} {ps : List (List Nat)} {b : Bool} (hc : canAll ns ps = false) (h : b = true ↔ ∃ qs, planD ps = planD qs ∧ PlanOf ns ws qs) : b = false := by
  refine Bool.eq_false_iff.mpr fun hb => ?_
  obtain ⟨qs, e, hq⟩ := h.mp hb
  rw [← planD_inj e] at hq
  exact absurd (planOf_iff.mp hq).2 (Bool.eq_false_iff.mp hc)
def sp_law_k02 : DSp := fun ds M Φ _ => ∃ ns : List Int, ds = [.scr ns] ∧ ∀ M', Φ (.bl true) M'
def t_law_k02 : DS := (sSeq (sAsg (dCall 1 sp_law_deck (dCons (dVar 0) dNil)) (.nm 1)) (sSeq (sFor (dRng1 (dC (.int 8))) (.nm 2) (sSeq (sAsg (dCall 3 sp_law_row (dCons (dVar 1) (dCons (dOp rIx (dLst (dCons (dC (.int 10)) (dCons (dC (.int 3)) (dCons (dC (.int 6)) dNil)))) (dOp rMod (dVar 2) (dC (.int 3)))) (dCons (dOp rIx (dLst (dCons (dC (.int 4)) (dCons (dC (.int 1)) (dCons (dC (.int 50)) dNil)))) (dOp rMod (dVar 2) (dC (.int 3)))) dNil)))) (.nm 3)) (sSeq (sAsg (dCall 3 sp_law_walkers (dCons (dVar 1) (dCons (dFn rLen (dCons (dVar 3) dNil)) (dCons (dOp rIx (dLst (dCons (dC (.int 40)) (dCons (dC (.int 3)) (dCons (dC (.int 8)) dNil)))) (dOp rMod (dVar 2) (dC (.int 3)))) dNil)))) (.nm 4)) (sSeq (sAsg (dCall 3 sp_law_plan (dCons (dVar 1) (dCons (dVar 3) (dCons (dVar 4) dNil)))) (.nm 5)) (sSeq (sAsg (dFn rTuple (dCons (dLc (dSeq (dVar 5)) (.nm 12) [12] dYes (dFn rTuple (dCons (dLc (dSeq (dVar 12)) (.nm 17) [17] dYes (dOp rIx (dLst (dCons (dVar 17) (dCons (dOp rEq (dVar 17) (dC (.int 1))) dNil))) (dFn rInt (dCons (dOp rLt (dVar 17) (dC (.int 2))) dNil)))) dNil))) dNil)) (.nm 6)) (sSeq (sAsg (dLst (dCons (dVar 5) (dCons (dVar 6) (dCons (dVar 5) (dCons (dOp rMul (dTup (dCons (dTup dNil) dNil)) (dFn rLen (dCons (dVar 4) dNil))) (dCons (dFn rTuple (dCons (dLc (dSeq (dVar 4)) (.tp [(.nm 13), (.nm 14)]) [13, 14] dYes (dTupRg (dVar 13) (dVar 14))) dNil)) dNil)))))) (.nm 7)) (sSeq (sFor (dSeq (dOp rAdd (dOp rAdd (dVar 7) (dLc (dRng1 (dC (.int 14))) (.nm 15) [15] dYes (dCall 3 sp_law_changed_v3 (dCons (dVar 1) (dCons (dVar 4) (dCons (dVar 5) dNil)))))) (dLst (dCons (dCall 1 sp_law_odd (dCons (dVar 1) dNil)) dNil)))) (.nm 8) (sSeq (sPar 9 10 (dCons (dFn rRepr (dCons (dLst (dCons (dVar 3) (dCons (dVar 4) (dCons (dVar 8) dNil)))) dNil)) (dCons (dFn rRepr (dCons (dCall 3 sp_law_is_right (dCons (dVar 3) (dCons (dVar 4) (dCons (dVar 8) dNil)))) dNil)) dNil))) (sSeq (sIf (dTest (dOp rNe (dLc (dRng1 (dC (.int 2))) (.nm 16) [16] dYes (dFn rRepr (dCons (dCall 3 sp_is_plan (dCons (dVar 3) (dCons (dVar 4) (dCons (dVar 8) dNil)))) dNil))) (dLst (dCons (dVar 10) (dCons (dVar 10) dNil))))) (sSeq (sRet (dC (.bl false))) sNext) sNext) (sSeq (sIf (dTest (dOp rNe (dFn rRepr (dCons (dLst (dCons (dVar 3) (dCons (dVar 4) (dCons (dVar 8) dNil)))) dNil)) (dVar 9))) (sSeq (sRet (dC (.bl false))) sNext) sNext) sNext)))) sNext))))))) (sSeq (sAsg (dLst (dCons (dTup (dCons (dTup (dCons (dC (.int 0)) (dCons (dC (.int 1)) dNil))) dNil)) (dCons (dTup (dCons (dTup (dCons (dC (.int 0)) (dCons (dC (.bl true)) dNil))) dNil)) (dCons (dTup (dCons (dTup (dCons (dC (.int 0)) (dCons (dC (.int 1)) dNil))) dNil)) (dCons (dTup (dCons (dTup (dCons (dC (.int 1)) dNil)) dNil)) (dCons (dTup (dCons (dTup (dCons (dC (.bl false)) dNil)) dNil)) (dCons (dTup (dCons (dTup (dCons (dC (.int 0)) dNil)) dNil)) dNil))))))) (.nm 11)) (sSeq (sRet (dOp rEq (dLc (dSeq (dVar 11)) (.nm 8) [8] dYes (dCall 3 sp_is_plan (dCons (dTup (dCons (dC (.int 1)) (dCons (dC (.int 0)) (dCons (dC (.int 0)) dNil)))) (dCons (dTup (dCons (dTup (dCons (dC (.int 0)) (dCons (dC (.int 2)) dNil))) dNil)) (dCons (dVar 8) dNil))))) (dLst (dCons (dC (.bl true)) (dCons (dC (.bl false)) (dCons (dC (.bl true)) (dCons (dC (.bl false)) (dCons (dC (.bl false)) (dCons (dC (.bl true)) dNil))))))))) sNext))))
theorem p_law_k02 (ds : List D) (M : MS) (Φ : DQ) (h : sp_law_k02 ds M Φ noX) : t_law_k02 { nx := fun _ M' => Φ .non M', rt := Φ } (startD 18 ds) M := by
  obtain ⟨ns, rfl, h⟩ := h
  simp only [t_law_k02, sSeq, sRet, sRetN, sNext, sIf, sAsg, sPar, sPar3, sSetI, sAug, sAugI, sDrop, sBreak, sCont, dOp, dUn, dCons, dNil, dFn, dC, dTup, dLst, dLstM, dIf, dTest, dTru, dAnd, dOr, dNot, dAndV, dOrV, dNotE, dChain, dSl, dNoPart, dPart, dSeq, dEnum, dZip, dRng1, dRng2, dYes, dCall, dMt, dVar, dDic0, dDic1, put_nm, put_tp, puts_nil, puts_cons, List.getElem?_cons_zero, List.getElem?_cons_succ, List.set_cons_zero, List.set_cons_succ, startD, List.map_cons, List.map_nil, List.cons_append, List.nil_append, List.length_cons, List.length_nil, List.replicate_succ, List.replicate_zero, Nat.reduceSub, Nat.reduceAdd, Nat.zero_add, wipeD, keyD, gSeq, gPlain, gNil, gYield, gFor, dTupP, dRngP, dCallG, sForG, dLcG, GE.at, dTupRg, dStar]
  refine ⟨trivial, ns, rfl, fun a c M0 _ _ hD0 _ => ?_⟩
  simp only [sFor, dRng1, dC]
  refine ⟨by decide, by decide, ?_⟩
  refine forW_inv (fun ds ρ M => (∃ r2 r3 r4 r5 r6 r7 r8 r9 r10 r11 r12 r13 r14 r15 r16 r17, ρ = [some (.scr ns), some (.ref a), r2, r3, r4, r5, r6, r7, r8, r9, r10, r11, r12, r13, r14, r15, r16, r17]) ∧ Dk M a c (1000 * ds.length) ∧ ∀ d ∈ ds, ∃ i : Int, d = .int i ∧ 0 ≤ i) (fun _ _ _ _ => trivial) (fun ρ M' q => ?_) (fun d ds ρ M' Nx q nx => ?_) _ _ _
    ⟨⟨_, _, _, _, _, _, _, _, _, _, _, _, _, _, _, _, rfl⟩, hD0.mono (by rw [rangeD_length]; decide), fun d hd => by obtain ⟨i, e, h1, _⟩ := rangeD_mem hd; exact ⟨i, e, h1⟩⟩
  · obtain ⟨⟨r2, r3, r4, r5, r6, r7, r8, r9, r10, r11, r12, r13, r14, r15, r16, r17, rfl⟩, _, _⟩ := q
    simp only [dLc, wipeD, sSeq, sRet, sRetN, sNext, sIf, sAsg, sPar, sPar3, sSetI, sAug, sAugI, sDrop, sBreak, sCont, dOp, dUn, dCons, dNil, dFn, dC, dTup, dLst, dLstM, dIf, dTest, dTru, dAnd, dOr, dNot, dAndV, dOrV, dNotE, dChain, dSl, dNoPart, dPart, dSeq, dEnum, dZip, dRng1, dRng2, dYes, dCall, dMt, dVar, dDic0, dDic1, put_nm, put_tp, puts_nil, puts_cons, List.getElem?_cons_zero, List.getElem?_cons_succ, List.set_cons_zero, List.set_cons_succ, startD, List.map_cons, List.map_nil, List.cons_append, List.nil_append, List.length_cons, List.length_nil, List.replicate_succ, List.replicate_zero, Nat.reduceSub, Nat.reduceAdd, Nat.zero_add, wipeD, keyD, gSeq, gPlain, gNil, gYield, gFor, dTupP, dRngP, dCallG, sForG, dLcG, GE.at, dTupRg, dStar, seqA, lcW, if_true]
    have hw3 : waysIn [((0 : Int), (2 : Int))] (([1, 0, 0] : List Int).length : Nat) := fun w hm => by
      rw [List.mem_singleton.mp hm]; decide
    have h03 : ∀ w ∈ [((0 : Int), (2 : Int))], 0 ≤ w.1 := fun w hm => (hw3 w hm).1
    refine ⟨by decide, by decide, by decide, by decide, by decide, by decide, by decide, by decide, by decide, by decide, by decide, by decide, by decide, trivial, by decide, by decide, by decide, use_isplan (ns := [1, 0, 0]) (ws := [(0, 2)]) (d := .tup [.tup [.int 0, .int 1]]) hw3 rfl (by decide) (wide_ok (wid2_60 rfl)) fun M1 b1 x1 e1 => ?_⟩
    obtain rfl : b1 = true := isp_yes (ps := [[0, 1]]) h03 (by decide +kernel) (by decide +kernel) e1
    refine ⟨by decide, trivial, by decide, by decide, by decide, use_isplan (ns := [1, 0, 0]) (ws := [(0, 2)]) (d := .tup [.tup [.int 0, .bl true]]) hw3 rfl (by decide) (wide_ok (wid2_60 rfl)) fun M2 b2 x2 e2 => ?_⟩
    obtain rfl : b2 = false := isp_form h03 (by decide +kernel) e2
    refine ⟨by decide, trivial, by decide, by decide, by decide, use_isplan (ns := [1, 0, 0]) (ws := [(0, 2)]) (d := .tup [.tup [.int 0, .int 1]]) hw3 rfl (by decide) (wide_ok (wid2_60 rfl)) fun M3 b3 x3 e3 => ?_⟩
    obtain rfl : b3 = true := isp_yes (ps := [[0, 1]]) h03 (by decide +kernel) (by decide +kernel) e3
    refine ⟨by decide, trivial, by decide, by decide, by decide, use_isplan (ns := [1, 0, 0]) (ws := [(0, 2)]) (d := .tup [.tup [.int 1]]) hw3 rfl (by decide) (wide_ok (wid2_60 rfl)) fun M4 b4 x4 e4 => ?_⟩
    obtain rfl : b4 = false := isp_can (ps := [[1]]) (by decide +kernel) e4
    refine ⟨by decide, trivial, by decide, by decide, by decide, use_isplan (ns := [1, 0, 0]) (ws := [(0, 2)]) (d := .tup [.tup [.bl false]]) hw3 rfl (by decide) (wide_ok (wid2_60 rfl)) fun M5 b5 x5 e5 => ?_⟩
    obtain rfl : b5 = false := isp_form h03 (by decide +kernel) e5
    refine ⟨by decide, trivial, by decide, by decide, by decide, use_isplan (ns := [1, 0, 0]) (ws := [(0, 2)]) (d := .tup [.tup [.int 0]]) hw3 rfl (by decide) (wide_ok (wid2_60 rfl)) fun M6 b6 x6 e6 => ?_⟩
    obtain rfl : b6 = true := isp_yes (ps := [[0]]) h03 (by decide +kernel) (by decide +kernel) e6
    refine ⟨by decide, trivial, ?_⟩
    refine ⟨by decide, rEq_still (by rfl) (by decide) (by rfl) (by decide) ?_⟩
    exact h _
  obtain ⟨⟨r2, r3, r4, r5, r6, r7, r8, r9, r10, r11, r12, r13, r14, r15, r16, r17, rfl⟩, hD, hds⟩ := q
  obtain ⟨i, rfl, hi0⟩ := hds d (List.mem_cons_self ..)
  refine ⟨_, rfl, ?_⟩
  simp only [sSeq, sRet, sRetN, sNext, sIf, sAsg, sPar, sPar3, sSetI, sAug, sAugI, sDrop, sBreak, sCont, dOp, dUn, dCons, dNil, dFn, dC, dTup, dLst, dLstM, dIf, dTest, dTru, dAnd, dOr, dNot, dAndV, dOrV, dNotE, dChain, dSl, dNoPart, dPart, dSeq, dEnum, dZip, dRng1, dRng2, dYes, dCall, dMt, dVar, dDic0, dDic1, put_nm, put_tp, puts_nil, puts_cons, List.getElem?_cons_zero, List.getElem?_cons_succ, List.set_cons_zero, List.set_cons_succ, startD, List.map_cons, List.map_nil, List.cons_append, List.nil_append, List.length_cons, List.length_nil, List.replicate_succ, List.replicate_zero, Nat.reduceSub, Nat.reduceAdd, Nat.zero_add, wipeD, keyD, gSeq, gPlain, gNil, gYield, gFor, dTupP, dRngP, dCallG, sForG, dLcG, GE.at, dTupRg, dStar]
  have hm0 : 0 ≤ i % 3 := Int.emod_nonneg _ (by decide)
  have hm1 : i % 3 < 3 := Int.emod_lt_of_pos _ (by decide)
  obtain ⟨m, em, m1, m2⟩ : ∃ m : Int, atI [D.int 10, D.int 3, D.int 6] (i % 3) = some (.int m) ∧ 2 ≤ m ∧ m ≤ 10 := by
    have hr : i % 3 = 0 ∨ i % 3 = 1 ∨ i % 3 = 2 := by omega
    rcases hr with e | e | e <;> rw [e]
    · exact ⟨10, by rw [at0]; rfl, by decide, by decide⟩
    · exact ⟨3, by rw [at1]; rfl, by decide, by decide⟩
    · exact ⟨6, by rw [at2]; rfl, by decide, by decide⟩
  obtain ⟨hh, eh, h1, h2⟩ : ∃ m : Int, atI [D.int 4, D.int 1, D.int 50] (i % 3) = some (.int m) ∧ 0 ≤ m ∧ m < 1000 := by
    have hr : i % 3 = 0 ∨ i % 3 = 1 ∨ i % 3 = 2 := by omega
    rcases hr with e | e | e <;> rw [e]
    · exact ⟨4, by rw [at0]; rfl, by decide, by decide⟩
    · exact ⟨1, by rw [at1]; rfl, by decide, by decide⟩
    · exact ⟨50, by rw [at2]; rfl, by decide, by decide⟩
  obtain ⟨mo, eo, o1, o2⟩ : ∃ m : Int, atI [D.int 40, D.int 3, D.int 8] (i % 3) = some (.int m) ∧ 0 ≤ m ∧ m ≤ 40 := by
    have hr : i % 3 = 0 ∨ i % 3 = 1 ∨ i % 3 = 2 := by omega
    rcases hr with e | e | e <;> rw [e]
    · exact ⟨40, by rw [at0]; rfl, by decide, by decide⟩
    · exact ⟨3, by rw [at1]; rfl, by decide, by decide⟩
    · exact ⟨8, by rw [at2]; rfl, by decide, by decide⟩
  refine ⟨by decide, rMod_i (by decide) ?_⟩
  refine rIx_seq (x := .lst _) rfl em ⟨by decide, rMod_i (by decide) ?_⟩
  refine rIx_seq (x := .lst _) rfl eh ⟨trivial, ?_⟩
  have hD' : Dk M' a c (1000 * ds.length + 900 + 30) := hD.mono (by rw [List.length_cons]; omega)
  refine ⟨a, c, _, m, hh, rfl, m1, by omega, h1, h2, hD', fun row M1 hD1 hK1 l1 l2 hrow => ?_⟩
  simp only [rLen, seqA, List.length_map]
  refine ⟨by decide, rMod_i (by decide) ?_⟩
  refine rIx_seq (x := .lst _) rfl eo ⟨trivial, ?_⟩
  refine ⟨a, c, 1000 * ds.length + 600, row.length, mo, rfl, by omega, by omega, o1, by omega, hD1.mono (by omega), fun ws M2 hD2 hK2 hwl hws => ?_⟩
  have hwl' : ws.length ≤ 40 := by omega
  have nnr : nonN row := nonN_of fun x hx => (hrow x hx).1
  refine ⟨trivial, a, c, 1000 * ds.length + 100, row, ws, rfl, hws, by omega, by omega, hD2.mono (by omega), fun ps M3 hD3 hK3 hpo => ?_⟩
  have hst := hpo.st hws
  have hpa := hpo.asc
  have hlen := hpo.len
  have hrl : row.length ≤ 10 := by omega
  simp only [planD, dLc, sSeq, sRet, sRetN, sNext, sIf, sAsg, sPar, sPar3, sSetI, sAug, sAugI, sDrop, sBreak, sCont, dOp, dUn, dCons, dNil, dFn, dC, dTup, dLst, dLstM, dIf, dTest, dTru, dAnd, dOr, dNot, dAndV, dOrV, dNotE, dChain, dSl, dNoPart, dPart, dSeq, dEnum, dZip, dRng1, dRng2, dYes, dCall, dMt, dVar, dDic0, dDic1, put_nm, put_tp, puts_nil, puts_cons, List.getElem?_cons_zero, List.getElem?_cons_succ, List.set_cons_zero, List.set_cons_succ, startD, List.map_cons, List.map_nil, List.cons_append, List.nil_append, List.length_cons, List.length_nil, List.replicate_succ, List.replicate_zero, Nat.reduceSub, Nat.reduceAdd, Nat.zero_add, wipeD, keyD, gSeq, gPlain, gNil, gYield, gFor, dTupP, dRngP, dCallG, sForG, dLcG, GE.at, dTupRg, dStar, seqA]
  refine lcW_map twinW _ trivial (by rw [List.length_map]; omega) (fun x hx => ?_) ?_
  · obtain ⟨ss, hs, rfl⟩ := List.mem_map.mp hx
    have h9 : ∀ x ∈ ss, x < 9 := fun x hx => by
      have := hst ss hs x hx
      omega
    have hl9 := few_of (hpa ss hs) h9
    refine ⟨_, rfl, fun acc Nx hl q => ?_⟩
    simp only [sSeq, sRet, sRetN, sNext, sIf, sAsg, sPar, sPar3, sSetI, sAug, sAugI, sDrop, sBreak, sCont, dOp, dUn, dCons, dNil, dFn, dC, dTup, dLst, dLstM, dIf, dTest, dTru, dAnd, dOr, dNot, dAndV, dOrV, dNotE, dChain, dSl, dNoPart, dPart, dSeq, dEnum, dZip, dRng1, dRng2, dYes, dCall, dMt, dVar, dDic0, dDic1, put_nm, put_tp, puts_nil, puts_cons, List.getElem?_cons_zero, List.getElem?_cons_succ, List.set_cons_zero, List.set_cons_succ, startD, List.map_cons, List.map_nil, List.cons_append, List.nil_append, List.length_cons, List.length_nil, List.replicate_succ, List.replicate_zero, Nat.reduceSub, Nat.reduceAdd, Nat.zero_add, wipeD, keyD, gSeq, gPlain, gNil, gYield, gFor, dTupP, dRngP, dCallG, sForG, dLcG, GE.at, dTupRg, dStar, if_true, stD, dLc, seqA]
    refine lcW_map twinF _ trivial (by rw [List.length_map]; omega) (fun x hx => ?_) ?_
    · obtain ⟨s, hs', rfl⟩ := List.mem_map.mp hx
      generalize ((s : Nat) : Int) = n
      refine ⟨_, rfl, fun acc Nx hl q => ?_⟩
      simp only [sSeq, sRet, sRetN, sNext, sIf, sAsg, sPar, sPar3, sSetI, sAug, sAugI, sDrop, sBreak, sCont, dOp, dUn, dCons, dNil, dFn, dC, dTup, dLst, dLstM, dIf, dTest, dTru, dAnd, dOr, dNot, dAndV, dOrV, dNotE, dChain, dSl, dNoPart, dPart, dSeq, dEnum, dZip, dRng1, dRng2, dYes, dCall, dMt, dVar, dDic0, dDic1, put_nm, put_tp, puts_nil, puts_cons, List.getElem?_cons_zero, List.getElem?_cons_succ, List.set_cons_zero, List.set_cons_succ, startD, List.map_cons, List.map_nil, List.cons_append, List.nil_append, List.length_cons, List.length_nil, List.replicate_succ, List.replicate_zero, Nat.reduceSub, Nat.reduceAdd, Nat.zero_add, wipeD, keyD, gSeq, gPlain, gNil, gYield, gFor, dTupP, dRngP, dCallG, sForG, dLcG, GE.at, dTupRg, dStar, if_true]
      refine rEq_i ⟨by decide, rCmp_i ?_⟩
      simp only [rInt]
      by_cases hn : n < 2
      · rw [decide_eq_true hn]
        refine rIx_seq (x := .lst _) rfl (d := .bl (n == 1)) (by rw [show b2 true = 1 from rfl, at1]; rfl) ⟨hl, ?_⟩
        simpa [twinF, hn] using q
      · rw [decide_eq_false hn]
        refine rIx_seq (x := .lst _) rfl (d := .int n) (by rw [show b2 false = 0 from rfl, at0]; rfl) ⟨hl, ?_⟩
        simpa [twinF, hn] using q
    · simp only [rTuple, seqA]
      exact ⟨hl, q⟩
  obtain ⟨At, Wt⟩ := twins_st hrl hst hpa
  have lT : ((ps.map stD).filterMap twinW).length ≤ 40 := Nat.le_trans (List.length_filterMap_le _ _) (by rw [List.length_map]; omega)
  generalize (ps.map stD).filterMap twinW = T at At Wt lT ⊢
  simp only [rTuple, rLen, seqA, List.length_map, rMul]
  refine ⟨by decide, by decide, by omega, by omega, by decide, ?_⟩
  rw [plan0, Int.toNat_natCast]
  refine lcW_map wholeF _ trivial (by rw [List.length_map]; omega) (fun x hx => ?_) ?_
  · obtain ⟨w, hm, rfl⟩ := List.mem_map.mp hx
    obtain ⟨w0, w1, w2⟩ := hws w hm
    refine ⟨_, rfl, fun acc Nx hl q => ?_⟩
    simp only [wayD, sSeq, sRet, sRetN, sNext, sIf, sAsg, sPar, sPar3, sSetI, sAug, sAugI, sDrop, sBreak, sCont, dOp, dUn, dCons, dNil, dFn, dC, dTup, dLst, dLstM, dIf, dTest, dTru, dAnd, dOr, dNot, dAndV, dOrV, dNotE, dChain, dSl, dNoPart, dPart, dSeq, dEnum, dZip, dRng1, dRng2, dYes, dCall, dMt, dVar, dDic0, dDic1, put_nm, put_tp, puts_nil, puts_cons, List.getElem?_cons_zero, List.getElem?_cons_succ, List.set_cons_zero, List.set_cons_succ, startD, List.map_cons, List.map_nil, List.cons_append, List.nil_append, List.length_cons, List.length_nil, List.replicate_succ, List.replicate_zero, Nat.reduceSub, Nat.reduceAdd, Nat.zero_add, wipeD, keyD, gSeq, gPlain, gNil, gYield, gFor, dTupP, dRngP, dCallG, sForG, dLcG, GE.at, dTupRg, dStar, if_true]
    exact ⟨by omega, by omega, by omega, by omega, hl, q⟩
  obtain ⟨Aw, Ww⟩ := wholes hrl hws
  have lW : ((ws.map wayD).filterMap wholeF).length ≤ 40 := Nat.le_trans (List.length_filterMap_le _ _) (by rw [List.length_map]; omega)
  generalize (ws.map wayD).filterMap wholeF = W at Aw Ww lW ⊢
  refine ⟨by decide, ?_⟩
  have AP : A2 (ps.map stD) 5 81000 ∧ ∀ x ∈ ps.map stD, wid x = true := by
    have key : ∀ x ∈ ps.map stD, F2 x 5 81000 ∧ wid x = true := fun x hx => by
      obtain ⟨s, hs, rfl⟩ := List.mem_map.mp hx
      have h9 : ∀ x ∈ s, x < 9 := fun x hx => by
        have := hst s hs x hx
        omega
      exact st_tupC h9 (few_of (hpa s hs) h9)
    exact ⟨fun x hx => (key x hx).1, fun x hx => (key x hx).2⟩
  have A0 : A2 ((List.replicate ws.length ([] : List Nat)).map stD) 5 81000 ∧ ∀ x ∈ (List.replicate ws.length ([] : List Nat)).map stD, wid x = true := by
    have key : ∀ x ∈ (List.replicate ws.length ([] : List Nat)).map stD, F2 x 5 81000 ∧ wid x = true := fun x hx => by
      obtain ⟨s, hs, rfl⟩ := List.mem_map.mp hx
      rw [(List.mem_replicate.mp hs).2]
      exact st_tupC (fun _ h => by cases h) (by decide)
    exact ⟨fun x hx => (key x hx).1, fun x hx => (key x hx).2⟩
  have valOk : ∀ {xs : List D}, A2 xs 5 81000 → (∀ x ∈ xs, wid x = true) → xs.length ≤ 40 → F2 (.tup xs) 10 7000000 ∧ wid2 (.tup xs) = true := fun {xs} h1 h2 h3 =>
    ⟨(h1.tup (L := 40) h3).mono (by decide) (by decide), wid2_tup h2⟩
  have v1 := valOk AP.1 AP.2 (by rw [List.length_map]; omega)
  have v2 := valOk At Wt lT
  have v3 := valOk A0.1 A0.2 (by rw [List.length_map, List.length_replicate]; omega)
  have v4 := valOk Aw Ww lW
  generalize hL : ([.tup (ps.map stD), .tup T, .tup (ps.map stD), .tup ((List.replicate ws.length ([] : List Nat)).map stD), .tup W] : List D) = L
  have hLl : L.length = 5 := by rw [← hL]; rfl
  have hLf : ∀ d ∈ L, F2 d 10 7000000 ∧ wid2 d = true := fun d hd => by
    rw [← hL] at hd
    simp only [List.mem_cons, List.not_mem_nil, or_false] at hd
    rcases hd with rfl | rfl | rfl | rfl | rfl
    · exact v1
    · exact v2
    · exact v1
    · exact v3
    · exact v4
  have frow : F2 (.tup (row.map D.int)) 10 20000 := by
    have A : A2 (row.map D.int) 0 1921 := fun x hx => by
      obtain ⟨s, hs, rfl⟩ := List.mem_map.mp hx
      obtain ⟨y0, y1⟩ := hrow s hs
      exact F2.int (by omega) (by omega)
    exact (A.tup (L := 10) (by rw [List.length_map]; exact hrl)).mono (by decide) (by decide)
  have fws : F2 (.tup (ws.map wayD)) 10 200000 := by
    have A : A2 (ws.map wayD) 1 3849 := fun x hx => F2.of (ways_allF hws (by omega) x hx).1
    exact (A.tup (L := 40) (by rw [List.length_map]; exact hwl')).mono (by decide) (by decide)
  simp only [sFor, dSeq, sSeq, sRet, sRetN, sNext, sIf, sAsg, sPar, sPar3, sSetI, sAug, sAugI, sDrop, sBreak, sCont, dOp, dUn, dCons, dNil, dFn, dC, dTup, dLst, dLstM, dIf, dTest, dTru, dAnd, dOr, dNot, dAndV, dOrV, dNotE, dChain, dSl, dNoPart, dPart, dSeq, dEnum, dZip, dRng1, dRng2, dYes, dCall, dMt, dVar, dDic0, dDic1, put_nm, put_tp, puts_nil, puts_cons, List.getElem?_cons_zero, List.getElem?_cons_succ, List.set_cons_zero, List.set_cons_succ, startD, List.map_cons, List.map_nil, List.cons_append, List.nil_append, List.length_cons, List.length_nil, List.replicate_succ, List.replicate_zero, Nat.reduceSub, Nat.reduceAdd, Nat.zero_add, wipeD, keyD, gSeq, gPlain, gNil, gYield, gFor, dTupP, dRngP, dCallG, sForG, dLcG, GE.at, dTupRg, dStar, dLc]
  rw [show ([.tup (ps.map stD), .tup T, .tup (ps.map stD), planD (List.replicate ws.length ([] : List Nat)), .tup W] : List D) = L from hL]
  refine ⟨by decide, by decide, ?_⟩
  refine lcW_inv (fun ds' acc M4 => Dk M4 a c (1000 * ds.length + 5 * ds'.length + 5) ∧ acc.length + ds'.length = 14 ∧ ∀ d ∈ acc, F2 d 10 7000000 ∧ wid2 d = true) (fun _ _ _ _ => trivial) (fun acc M4 q => ?_) (fun d' ds' acc M4 Nx4 q nx4 => ?_) _ _ _
    ⟨hD3.mono (by rw [rangeD_length]; show 1000 * ds.length + 5 * 14 + 5 ≤ _; omega), by rw [rangeD_length]; rfl, fun _ z => by cases z⟩
  · obtain ⟨q1, q2, q3⟩ := q
    have q2' : acc.length = 14 := by simpa using q2
    simp only [rAdd, seqL, seqA]
    refine ⟨by omega, ?_⟩
    refine use_odd (q1 : Dk M4 a c (1000 * ds.length + 4 + 1)) fun odd M5 hD5 hK5 hodd => ⟨by decide, by rw [List.length_append, List.length_cons, List.length_nil]; omega, ?_⟩
    have fodd : F2 odd 10 7000000 ∧ wid2 odd = true := by
      have := List.all_eq_true.mp odds_wid odd hodd
      simp only [Bool.and_eq_true] at this
      exact ⟨(F2.of this.2).mono (by decide) (by decide), this.1.2⟩
    refine forW_inv (fun ds' ρ M6 => (∃ r8 r9 r10 r11 r12 r13 r14 r15 r16 r17, ρ = [some (.scr ns), some (.ref a), some (.int i), some (.tup (row.map D.int)), some (.tup (ws.map wayD)), some (.tup (ps.map stD)), some (.tup T), some (.lst L), r8, r9, r10, r11, r12, r13, r14, r15, r16, r17]) ∧ Dk M6 a c (1000 * ds.length) ∧ ∀ d ∈ ds', F2 d 10 7000000 ∧ wid2 d = true) (fun _ _ _ _ => trivial) (fun ρ M6 q => ?_) (fun d'' ds'' ρ M6 Nx6 q nx6 => ?_) _ _ _
      ⟨⟨_, _, _, _, _, _, _, _, _, _, rfl⟩, hD5.mono (by omega), fun d hd => by
        rcases List.mem_append.mp hd with z | z
        · rcases List.mem_append.mp z with z | z
          · exact hLf d z
          · exact q3 d z
        · rw [List.mem_singleton.mp z]; exact fodd⟩
    · obtain ⟨⟨r8, r9, r10, r11, r12, r13, r14, r15, r16, r17, rfl⟩, qD, _⟩ := q
      exact nx _ _ ⟨⟨_, _, _, _, _, _, _, _, _, _, _, _, _, _, _, _, rfl⟩, qD, fun d hd => hds d (List.mem_cons_of_mem _ hd)⟩
    · obtain ⟨⟨r8, r9, r10, r11, r12, r13, r14, r15, r16, r17, rfl⟩, qD, hf⟩ := q
      obtain ⟨fd, wd⟩ := hf d'' (List.mem_cons_self ..)
      have w60 := wid2_60 wd
      have FF : Fin2 (.lst [.tup (row.map D.int), .tup (ws.map wayD), d'']) 7300000 := ((frow.three fws fd).mono (Nat.le_refl _) (by decide)).fin (by decide)
      refine ⟨_, rfl, ?_⟩
      simp only [sSeq, sRet, sRetN, sNext, sIf, sAsg, sPar, sPar3, sSetI, sAug, sAugI, sDrop, sBreak, sCont, dOp, dUn, dCons, dNil, dFn, dC, dTup, dLst, dLstM, dIf, dTest, dTru, dAnd, dOr, dNot, dAndV, dOrV, dNotE, dChain, dSl, dNoPart, dPart, dSeq, dEnum, dZip, dRng1, dRng2, dYes, dCall, dMt, dVar, dDic0, dDic1, put_nm, put_tp, puts_nil, puts_cons, List.getElem?_cons_zero, List.getElem?_cons_succ, List.set_cons_zero, List.set_cons_succ, startD, List.map_cons, List.map_nil, List.cons_append, List.nil_append, List.length_cons, List.length_nil, List.replicate_succ, List.replicate_zero, Nat.reduceSub, Nat.reduceAdd, Nat.zero_add, wipeD, keyD, gSeq, gPlain, gNil, gYield, gFor, dTupP, dRngP, dCallG, sForG, dLcG, GE.at, dTupRg, dStar, dLc]
      refine ⟨by decide, repr_fin2 FF (by decide) (use_isright hws nnr fd.1 (by omega) w60 fun M7 b x7 hb => repr_fine (fine_of fineB_bl (by decide)) (by decide) ?_)⟩
      refine ⟨by decide, by decide, ?_⟩
      refine lcW_inv (fun ds3 acc M8 => Ext M7 M8 ∧ acc = List.replicate acc.length (.str (rpr (.bl b))) ∧ acc.length + ds3.length = 2) (fun _ _ _ _ => trivial) (fun acc M8 q => ?_) (fun d3 ds3 acc M8 Nx8 q nx8 => ?_) _ _ _ ⟨Ext.refl, rfl, by rw [rangeD_length]; rfl⟩
      · obtain ⟨t1, t2, t3⟩ := q
        have t3' : acc.length = 2 := by simpa using t3
        rw [t3'] at t2
        rw [t2]
        refine ⟨by decide, rNe_still (by cases b <;> decide +kernel) (by cases b <;> decide) (by cases b <;> decide +kernel) (by cases b <;> decide) ?_⟩
        have er : eqd (.lst (List.replicate 2 (.str (rpr (.bl b))))) (.lst [.str (rpr (.bl b)), .str (rpr (.bl b))]) = true := by simp [eqd, eqds]
        rw [er]
        simp only [truD, Bool.not_true, Bool.false_eq_true, if_false]
        refine ⟨by decide, repr_fin2 FF (by decide) (rNe_s ?_)⟩
        simp only [BEq.rfl, Bool.not_true, Bool.false_eq_true, if_false]
        exact nx6 _ _ ⟨⟨_, _, _, _, _, _, _, _, _, _, rfl⟩, (x7.trans t1).dk qD, fun d hd => hf d (List.mem_cons_of_mem _ hd)⟩
      · obtain ⟨t1, t2, t3⟩ := q
        refine ⟨_, rfl, ?_⟩
        simp only [sSeq, sRet, sRetN, sNext, sIf, sAsg, sPar, sPar3, sSetI, sAug, sAugI, sDrop, sBreak, sCont, dOp, dUn, dCons, dNil, dFn, dC, dTup, dLst, dLstM, dIf, dTest, dTru, dAnd, dOr, dNot, dAndV, dOrV, dNotE, dChain, dSl, dNoPart, dPart, dSeq, dEnum, dZip, dRng1, dRng2, dYes, dCall, dMt, dVar, dDic0, dDic1, put_nm, put_tp, puts_nil, puts_cons, List.getElem?_cons_zero, List.getElem?_cons_succ, List.set_cons_zero, List.set_cons_succ, startD, List.map_cons, List.map_nil, List.cons_append, List.nil_append, List.length_cons, List.length_nil, List.replicate_succ, List.replicate_zero, Nat.reduceSub, Nat.reduceAdd, Nat.zero_add, wipeD, keyD, gSeq, gPlain, gNil, gYield, gFor, dTupP, dRngP, dCallG, sForG, dLcG, GE.at, dTupRg, dStar, if_true]
        refine use_isplan hws fd.1 (by omega) (wide_ok w60) fun M9 b' x9 hb' => ?_
        obtain rfl : b' = b := bb_eq hb' hb
        have t3' : acc.length + (ds3.length + 1) = 2 := by simpa using t3
        refine repr_fine (fine_of fineB_bl (by decide)) (by decide) ⟨by omega, nx8 _ _ ⟨t1.trans x9, ?_, by rw [List.length_append, List.length_cons, List.length_nil]; omega⟩⟩
        rw [List.length_append, List.length_cons, List.length_nil, List.replicate_succ', ← t2]
  · obtain ⟨q1, q2, q3⟩ := q
    refine ⟨_, rfl, ?_⟩
    simp only [sSeq, sRet, sRetN, sNext, sIf, sAsg, sPar, sPar3, sSetI, sAug, sAugI, sDrop, sBreak, sCont, dOp, dUn, dCons, dNil, dFn, dC, dTup, dLst, dLstM, dIf, dTest, dTru, dAnd, dOr, dNot, dAndV, dOrV, dNotE, dChain, dSl, dNoPart, dPart, dSeq, dEnum, dZip, dRng1, dRng2, dYes, dCall, dMt, dVar, dDic0, dDic1, put_nm, put_tp, puts_nil, puts_cons, List.getElem?_cons_zero, List.getElem?_cons_succ, List.set_cons_zero, List.set_cons_succ, startD, List.map_cons, List.map_nil, List.cons_append, List.nil_append, List.length_cons, List.length_nil, List.replicate_succ, List.replicate_zero, Nat.reduceSub, Nat.reduceAdd, Nat.zero_add, wipeD, keyD, gSeq, gPlain, gNil, gYield, gFor, dTupP, dRngP, dCallG, sForG, dLcG, GE.at, dTupRg, dStar, if_true]
    have q2' : acc.length + (ds'.length + 1) = 14 := by simpa using q2
    refine ⟨trivial, a, c, 1000 * ds.length + 5 * ds'.length + 5, row.length, ws, ps, rfl, hrl, hws, hwl', hlen, hst, hpa, q1.mono (by rw [List.length_cons]; omega), fun d M5 hD5 hK5 hf2 hw2 => ⟨by omega, nx4 _ _ ⟨hD5, by rw [List.length_append, List.length_cons, List.length_nil]; omega, fun x hx => ?_⟩⟩⟩
    rcases List.mem_append.mp hx with z | z
    · exact q3 x z
    · rw [List.mem_singleton.mp z]; exact ⟨hf2, hw2⟩
end DL

namespace DL
open PySem PySem.Spec PyProof.Rows L2 TL

abbrev T3 : Type := List Int × List (Int × Int) × List Int
def stD3 (s : T3) : D := stateD s.1 s.2.1 s.2.2
def ok3 (s : T3) : Prop := StOk s.1 s.2.1 s.2.2
def cor3 (s : T3) : Str := corT s.1 s.2.1 s.2.2
theorem cor3_inj {s t : T3} (hs : ok3 s) (ht : ok3 t) : (cor3 s == cor3 t) = decide (s = t) := by
  rw [Bool.eq_iff_iff, decide_eq_true_iff, beq_iff_eq]
  constructor
  · intro e
    obtain ⟨a, b, c⟩ := corT_inj hs ht e
    exact Prod.ext a (Prod.ext b c)
  · intro e; rw [e]
theorem ways_pl : ∀ ws : List (Int × Int), plains (ws.map wayD) = true ∧ deps (ws.map wayD) ≤ 1
  | [] => ⟨rfl, Nat.zero_le _⟩
  | w :: ws => by
    obtain ⟨a, b⟩ := ways_pl ws
    rw [List.map_cons, plains, deps, a]
    refine ⟨rfl, ?_⟩
    show max 1 (deps (ws.map wayD)) ≤ 1
    omega
theorem ways_eqd : ∀ a b : List (Int × Int), eqds (a.map wayD) (b.map wayD) = decide (a = b)
  | [], [] => rfl
  | [], _ :: _ => rfl
  | _ :: _, [] => rfl
  | x :: a, y :: b => by
    rw [List.map_cons, List.map_cons, eqds, ways_eqd a b]
    have e : eqd (wayD x) (wayD y) = decide (x = y) := by
      have := ints_eqd [x.1, x.2] [y.1, y.2]
      rw [show eqd (wayD x) (wayD y) = eqds ([x.1, x.2].map D.int) ([y.1, y.2].map D.int) by unfold wayD; rw [eqd]; rfl, this]
      rw [Bool.eq_iff_iff, decide_eq_true_iff, decide_eq_true_iff]
      constructor
      · intro h; injection h with h1 h2; injection h2 with h2 _; exact Prod.ext h1 h2
      · intro h; rw [h]
    rw [e, Bool.eq_iff_iff, Bool.and_eq_true, decide_eq_true_iff, decide_eq_true_iff, decide_eq_true_iff]
    constructor
    · rintro ⟨rfl, rfl⟩; rfl
    · intro h; injection h with h1 h2; exact ⟨h1, h2⟩
theorem st_pl (s : T3) : plain (stD3 s) = true ∧ dep (stD3 s) ≤ 60 := by
  obtain ⟨a, b⟩ := ways_pl s.2.1
  refine ⟨?_, ?_⟩
  · simp only [stD3, stateD, plain, plains, ints_plain, a, Bool.and_self]
  · simp only [stD3, stateD, dep, deps, ints_dep]
    omega
theorem st_eqd (s t : T3) : eqd (stD3 s) (stD3 t) = decide (s = t) := by
  simp only [stD3, stateD, eqd, eqds, ints_eqd, ways_eqd, Bool.and_true]
  rw [Bool.eq_iff_iff]
  simp only [Bool.and_eq_true, decide_eq_true_iff]
  constructor
  · rintro ⟨a, b, c⟩; exact Prod.ext a (Prod.ext b c)
  · intro h; rw [h]; exact ⟨rfl, rfl, rfl⟩
theorem bls_pl : ∀ bs : List Bool, plains (bs.map D.bl) = true ∧ deps (bs.map D.bl) = 0
  | [] => ⟨rfl, rfl⟩
  | b :: bs => by
    obtain ⟨x, y⟩ := bls_pl bs
    rw [List.map_cons, plains, deps, x, y]
    exact ⟨rfl, rfl⟩
theorem bls_eqd : ∀ bs : List Bool, eqds (bs.map D.bl) (bs.map D.bl) = true
  | [] => rfl
  | b :: bs => by rw [List.map_cons, eqds, bls_eqd bs]; cases b <;> rfl
theorem ok_fine {s : T3} (h : ok3 s) : Fin2 (.lst [.tup (s.1.map D.int), .tup (s.2.1.map wayD), .tup (s.2.2.map D.int)]) 300000 := by
  have A : ∀ {ns : List Int}, intsIn ns 600 → ns.length ≤ 10 → F2 (.tup (ns.map D.int)) 10 20000 := fun {ns} hn hl => by
    have A : A2 (ns.map D.int) 0 1921 := fun x hx => by
      obtain ⟨s, hs, rfl⟩ := List.mem_map.mp hx
      obtain ⟨y0, y1⟩ := hn s hs
      exact F2.int (by omega) (by omega)
    exact (A.tup (L := 10) (by rw [List.length_map]; exact hl)).mono (by decide) (by decide)
  have B : F2 (.tup (s.2.1.map wayD)) 10 200000 := by
    have A : A2 (s.2.1.map wayD) 1 3849 := fun x hx => by
      obtain ⟨w, hw, rfl⟩ := List.mem_map.mp hx
      obtain ⟨a, b, c, d⟩ := h.wi w hw
      exact F2.of (way_fine a (by omega) c (by omega)).1
    exact (A.tup (L := 40) (by rw [List.length_map]; exact h.w)).mono (by decide) (by decide)
  exact (((A h.ri h.r2).three B (A h.ui h.u2)).mono (Nat.le_refl _) (by decide)).fin (by decide)
def st3 : List T3 := [([0, 0], [], [0, 0]), (List.replicate 10 50, (List.replicate 20 [(0, 9), (8, 9)]).flatten, List.replicate 10 500), ([1, 0], [(0, 1)], [0, 0])]
def st6 : List T3 := [([1, 0], [(0, 1), (0, 1)], [0, 0]), ([1, 0, 0], [], [0, 0, 10]), ([10, 0], [], [0, 1])]
def okB (s : T3) : Bool := decide (1 ≤ s.1.length) && decide (s.1.length ≤ 10) && decide (1 ≤ s.2.2.length) && decide (s.2.2.length ≤ 10) && decide (s.2.1.length ≤ 40) && s.1.all (fun x => decide (0 ≤ x ∧ x ≤ 600)) && s.2.2.all (fun x => decide (0 ≤ x ∧ x ≤ 600)) && s.2.1.all (fun w => decide (0 ≤ w.1 ∧ w.1 ≤ 600 ∧ 0 ≤ w.2 ∧ w.2 ≤ 600))
theorem okB_ok {s : T3} (h : okB s = true) : ok3 s := by
  unfold okB at h
  simp only [Bool.and_eq_true, decide_eq_true_eq, List.all_eq_true] at h
  obtain ⟨⟨⟨⟨⟨⟨⟨a, b⟩, c⟩, d⟩, e⟩, f⟩, g⟩, i⟩ := h
  exact ⟨a, b, c, d, e, f, g, i⟩
theorem fm_same {α β : Type} {f : α → Option β} {g : α → β} : ∀ {l : List α}, (∀ x ∈ l, f x = some (g x)) → l.filterMap f = l.map g
  | [], _ => rfl
  | x :: l, h => by rw [List.filterMap_cons, h x (List.mem_cons_self ..), List.map_cons, fm_same fun y hy => h y (List.mem_cons_of_mem _ hy)]
theorem st36_ok : ((st3 ++ st6).all okB) = true := by decide +kernel
theorem use_cor {s : T3} {M : MS} {Φ : DQ} (h : ok3 s) (q : Φ (.str (cor3 s)) M) : True ∧ sp_corridor_text [.tup (s.1.map D.int), .tup (s.2.1.map wayD), .tup (s.2.2.map D.int)] M Φ noX := ⟨trivial, _, _, _, rfl, h, q⟩
theorem use_lcor {s : T3} {M : MS} {Φ : DQ} (h : ok3 s) (q : Φ (.str (cor3 s)) M) : True ∧ sp_law_corridor_text [.tup [.tup (s.1.map D.int), .tup (s.2.1.map wayD), .tup (s.2.2.map D.int)]] M Φ noX := ⟨trivial, _, _, _, rfl, h, q⟩
def sp_law_k55 : DSp := fun ds M Φ _ => ∃ ns : List Int, ds = [.scr ns] ∧ ∀ M', Φ (.bl true) M'
def t_law_k55 : DS := (sSeq (sAsg (dCall 1 sp_law_deck (dCons (dVar 0) dNil)) (.nm 1)) (sSeq (sAsg (dLst (dCons (dTup (dCons (dTup (dCons (dC (.int 0)) (dCons (dC (.int 0)) dNil))) (dCons (dTup dNil) (dCons (dTup (dCons (dC (.int 0)) (dCons (dC (.int 0)) dNil))) dNil)))) (dCons (dTup (dCons (dOp rMul (dTup (dCons (dC (.int 50)) dNil)) (dC (.int 10))) (dCons (dOp rMul (dTup (dCons (dTup (dCons (dC (.int 0)) (dCons (dC (.int 9)) dNil))) (dCons (dTup (dCons (dC (.int 8)) (dCons (dC (.int 9)) dNil))) dNil))) (dC (.int 20))) (dCons (dOp rMul (dTup (dCons (dC (.int 500)) dNil)) (dC (.int 10))) dNil)))) (dCons (dTup (dCons (dTup (dCons (dC (.int 1)) (dCons (dC (.int 0)) dNil))) (dCons (dTup (dCons (dTup (dCons (dC (.int 0)) (dCons (dC (.int 1)) dNil))) dNil)) (dCons (dTup (dCons (dC (.int 0)) (dCons (dC (.int 0)) dNil))) dNil)))) dNil)))) (.nm 2)) (sSeq (sAsg (dOp rAdd (dVar 2) (dLst (dCons (dTup (dCons (dTup (dCons (dC (.int 1)) (dCons (dC (.int 0)) dNil))) (dCons (dTup (dCons (dTup (dCons (dC (.int 0)) (dCons (dC (.int 1)) dNil))) (dCons (dTup (dCons (dC (.int 0)) (dCons (dC (.int 1)) dNil))) dNil))) (dCons (dTup (dCons (dC (.int 0)) (dCons (dC (.int 0)) dNil))) dNil)))) (dCons (dTup (dCons (dTup (dCons (dC (.int 1)) (dCons (dC (.int 0)) (dCons (dC (.int 0)) dNil)))) (dCons (dTup dNil) (dCons (dTup (dCons (dC (.int 0)) (dCons (dC (.int 0)) (dCons (dC (.int 10)) dNil)))) dNil)))) (dCons (dTup (dCons (dTup (dCons (dC (.int 10)) (dCons (dC (.int 0)) dNil))) (dCons (dTup dNil) (dCons (dTup (dCons (dC (.int 0)) (dCons (dC (.int 1)) dNil))) dNil)))) dNil))))) (.nm 2)) (sSeq (sAsg (dOp rAdd (dVar 2) (dLc (dRng1 (dC (.int 12))) (.nm 9) [9] dYes (dCall 3 sp_law_state (dCons (dVar 1) (dCons (dC (.int 10)) (dCons (dC (.int 40)) dNil)))))) (.nm 2)) (sSeq (sAsg (dLstM dNil) (.nm 3)) (sSeq (sFor (dSeq (dVar 2)) (.tp [(.nm 4), (.nm 5), (.nm 6)]) (sSeq (sAsg (dTup (dCons (dFn rRepr (dCons (dLst (dCons (dVar 4) (dCons (dVar 5) (dCons (dVar 6) dNil)))) dNil)) (dCons (dCall 3 sp_corridor_text (dCons (dVar 4) (dCons (dVar 5) (dCons (dVar 6) dNil)))) dNil))) (.tp [(.nm 7), (.nm 8)])) (sSeq (sIf (dOr (dNot (dTru (dFn rIsi (dCons (dVar 8) (dCons (dC (.ty .str)) dNil))))) (dTest (dOp rNe (dVar 8) (dCall 1 sp_law_corridor_text (dCons (dTup (dCons (dVar 4) (dCons (dVar 5) (dCons (dVar 6) dNil)))) dNil))))) (sSeq (sRet (dC (.bl false))) sNext) sNext) (sSeq (sIf (dOr (dTest (dOp rNe (dCall 3 sp_corridor_text (dCons (dVar 4) (dCons (dVar 5) (dCons (dVar 6) dNil)))) (dVar 8))) (dTest (dOp rNe (dFn rRepr (dCons (dLst (dCons (dVar 4) (dCons (dVar 5) (dCons (dVar 6) dNil)))) dNil)) (dVar 7)))) (sSeq (sRet (dC (.bl false))) sNext) sNext) (sSeq (sDrop (dMt rApp (dVar 3) (dCons (dVar 8) dNil))) sNext))))) (sSeq (sFor (dEnum 0 (dVar 3)) (.tp [(.nm 9), (.nm 8)]) (sSeq (sIf (dTest (dOp rNe (dLc (dSeq (dVar 3)) (.nm 10) [10] dYes (dOp rEq (dVar 8) (dVar 10))) (dLc (dSeq (dVar 2)) (.nm 10) [10] dYes (dOp rEq (dOp rIx (dVar 2) (dVar 9)) (dVar 10))))) (sSeq (sRet (dC (.bl false))) sNext) sNext) sNext)) (sSeq (sRet (dOp rEq (dCall 3 sp_corridor_text (dCons (dTup (dCons (dC (.int 2)) (dCons (dC (.int 0)) (dCons (dC (.int 0)) dNil)))) (dCons (dTup (dCons (dTup (dCons (dC (.int 0)) (dCons (dC (.int 1)) dNil))) (dCons (dTup (dCons (dC (.int 1)) (dCons (dC (.int 2)) dNil))) dNil))) (dCons (dTup (dCons (dC (.int 0)) (dCons (dC (.int 0)) (dCons (dC (.int 1)) dNil)))) dNil)))) (dC (.str "2,0,0 0-1 1-2 for 0,0,1")))) sNext))))))))
theorem p_law_k55 (ds : List D) (M : MS) (Φ : DQ) (h : sp_law_k55 ds M Φ noX) : t_law_k55 { nx := fun _ M' => Φ .non M', rt := Φ } (startD 11 ds) M := by
  obtain ⟨ns, rfl, h⟩ := h
  simp only [t_law_k55, rMul, dLc, wipeD, sFor, dRng1, sSeq, sRet, sRetN, sNext, sIf, sAsg, sPar, sPar3, sSetI, sAug, sAugI, sDrop, sBreak, sCont, dOp, dUn, dCons, dNil, dFn, dC, dTup, dLst, dLstM, dIf, dTest, dTru, dAnd, dOr, dNot, dAndV, dOrV, dNotE, dChain, dSl, dNoPart, dPart, dSeq, dEnum, dZip, dRng1, dRng2, dYes, dCall, dMt, dVar, dDic0, dDic1, put_nm, put_tp, puts_nil, puts_cons, List.getElem?_cons_zero, List.getElem?_cons_succ, List.set_cons_zero, List.set_cons_succ, startD, List.map_cons, List.map_nil, List.cons_append, List.nil_append, List.length_cons, List.length_nil, List.replicate_succ, List.replicate_zero, Nat.reduceSub, Nat.reduceAdd, Nat.zero_add, wipeD, keyD, gSeq, gPlain, gNil, gYield, gFor, dTupP, dRngP, dCallG, sForG, dLcG, GE.at, dTupRg, dStar]
  refine ⟨trivial, ns, rfl, fun a c M0 _ _ hD0 _ => ?_⟩
  dsimp only
  iterate 40 (refine ⟨by decide, ?_⟩)
  refine rAdd_l (xs := st3.map stD3) (ys := st6.map stD3) (by decide) ?_
  rw [← List.map_append]
  have h6 : ∀ s ∈ st3 ++ st6, ok3 s := fun s hs => okB_ok (List.all_eq_true.mp st36_ok s hs)
  have l6 : (st3 ++ st6).length = 6 := by decide
  generalize st3 ++ st6 = S6 at h6 l6 ⊢
  refine ⟨by decide, by decide, ?_⟩
  refine lcW_inv (fun ds acc M' => ∃ ss : List T3, acc = ss.map stD3 ∧ Dk M' a c (200 * ds.length) ∧ ss.length + ds.length = 12 ∧ ∀ s ∈ ss, ok3 s) (fun _ _ _ _ => trivial) (fun acc M' q => ?_) (fun d ds acc M' Nx q nx => ?_) _ _ _
    ⟨[], rfl, hD0.mono (by rw [rangeD_length]; decide), by rw [rangeD_length]; rfl, fun _ z => by cases z⟩
  rotate_left
  · obtain ⟨ss, rfl, q1, q2, q3⟩ := q
    rw [List.length_cons] at q2
    refine ⟨_, rfl, ?_⟩
    simp only [sSeq, sRet, sRetN, sNext, sIf, sAsg, sPar, sPar3, sSetI, sAug, sAugI, sDrop, sBreak, sCont, dOp, dUn, dCons, dNil, dFn, dC, dTup, dLst, dLstM, dIf, dTest, dTru, dAnd, dOr, dNot, dAndV, dOrV, dNotE, dChain, dSl, dNoPart, dPart, dSeq, dEnum, dZip, dRng1, dRng2, dYes, dCall, dMt, dVar, dDic0, dDic1, put_nm, put_tp, puts_nil, puts_cons, List.getElem?_cons_zero, List.getElem?_cons_succ, List.set_cons_zero, List.set_cons_succ, startD, List.map_cons, List.map_nil, List.cons_append, List.nil_append, List.length_cons, List.length_nil, List.replicate_succ, List.replicate_zero, Nat.reduceSub, Nat.reduceAdd, Nat.zero_add, wipeD, keyD, gSeq, gPlain, gNil, gYield, gFor, dTupP, dRngP, dCallG, sForG, dLcG, GE.at, dTupRg, dStar, if_true]
    refine ⟨trivial, a, c, 200 * ds.length, rfl, q1.mono (by rw [List.length_cons]; omega), fun row ws us M'' hD hK ok => ⟨by rw [List.length_map]; omega, nx _ _ ⟨ss ++ [(row, ws, us)], by simp [stD3], hD, by simp; omega, fun s hs => ?_⟩⟩⟩
    rcases List.mem_append.mp hs with z | z
    · exact q3 s z
    · rw [List.mem_singleton.mp z]; exact ok
  obtain ⟨ss, rfl, _, hl12, hss⟩ := q
  have hl12' : ss.length = 12 := by simpa using hl12
  refine rAdd_l (by rw [List.length_map, List.length_map]; omega) ?_
  rw [← List.map_append]
  have hL : ∀ s ∈ S6 ++ ss, ok3 s := fun s hs => by
    rcases List.mem_append.mp hs with z | z
    · exact h6 s z
    · exact hss s z
  have lL : (S6 ++ ss).length = 18 := by rw [List.length_append]; omega
  generalize S6 ++ ss = L at hL lL ⊢
  refine ⟨by decide, fun p hp => ?_⟩
  simp only [seqA]
  refine forW_inv (fun ds' ρ M6 => ∃ (done rest : List T3) (r4 r5 r6 r7 r8 r9 r10 : Option D), ρ = [some (.scr ns), some (.ref a), some (.lst (L.map stD3)), some (.ref p), r4, r5, r6, r7, r8, r9, r10] ∧ ds' = rest.map stD3 ∧ L = done ++ rest ∧ M6.map p = some (.lst (done.map fun s => D.str (cor3 s))))
    (fun _ _ _ _ => trivial) (fun ρ M6 q => ?_) (fun d' ds' ρ M6 Nx q nx => ?_) _ _ _ ⟨[], L, _, _, _, _, _, _, _, rfl, rfl, rfl, MS.put_same⟩
  rotate_left
  · obtain ⟨done, rest, r4, r5, r6, r7, r8, r9, r10, rfl, e, eL, em⟩ := q
    cases rest with
    | nil => cases e
    | cons s rest =>
      rw [List.map_cons] at e
      injection e with e1 e2
      subst e1 e2
      have hs : ok3 s := hL s (by rw [eL]; exact List.mem_append_right _ (List.mem_cons_self ..))
      have hdl : done.length ≤ 18 := by rw [← lL, eL, List.length_append]; omega
      refine ⟨_, rfl, ?_⟩
      simp only [stD3, stateD, sSeq, sRet, sRetN, sNext, sIf, sAsg, sPar, sPar3, sSetI, sAug, sAugI, sDrop, sBreak, sCont, dOp, dUn, dCons, dNil, dFn, dC, dTup, dLst, dLstM, dIf, dTest, dTru, dAnd, dOr, dNot, dAndV, dOrV, dNotE, dChain, dSl, dNoPart, dPart, dSeq, dEnum, dZip, dRng1, dRng2, dYes, dCall, dMt, dVar, dDic0, dDic1, put_nm, put_tp, puts_nil, puts_cons, List.getElem?_cons_zero, List.getElem?_cons_succ, List.set_cons_zero, List.set_cons_succ, startD, List.map_cons, List.map_nil, List.cons_append, List.nil_append, List.length_cons, List.length_nil, List.replicate_succ, List.replicate_zero, Nat.reduceSub, Nat.reduceAdd, Nat.zero_add, wipeD, keyD, gSeq, gPlain, gNil, gYield, gFor, dTupP, dRngP, dCallG, sForG, dLcG, GE.at, dTupRg, dStar]
      refine ⟨by decide, repr_fin2 (ok_fine hs) (by decide) (use_cor hs ⟨by decide, ?_⟩)⟩
      refine ⟨by decide, ?_⟩
      rw [show isaT Ty.str Ty.str = true from rfl]
      simp only [truD, Bool.not_true, Bool.false_eq_true, if_false]
      refine ⟨by decide, use_lcor hs (rNe_s ?_)⟩
      simp only [BEq.rfl, Bool.not_true, Bool.false_eq_true, if_false]
      refine use_cor hs (rNe_s ?_)
      simp only [BEq.rfl, Bool.not_true, Bool.false_eq_true, if_false]
      refine ⟨by decide, repr_fin2 (ok_fine hs) (by decide) (rNe_s ?_)⟩
      simp only [BEq.rfl, Bool.not_true, Bool.false_eq_true, if_false]
      refine ⟨isL_ref em, rApp_ref em (by rw [List.length_map]; omega) (nx _ _ ⟨done ++ [s], rest, _, _, _, _, _, r9, r10, rfl, rfl, by rw [eL]; simp, by rw [MS.put_same]; simp⟩)⟩
  obtain ⟨done, rest, r4, r5, r6, r7, r8, r9, r10, rfl, e, eL, em⟩ := q
  obtain rfl : rest = [] := by
    cases rest with
    | nil => rfl
    | cons _ _ => cases e
  rw [List.append_nil] at eL
  subst eL
  simp only [sFor, dEnum, sSeq, sRet, sRetN, sNext, sIf, sAsg, sPar, sPar3, sSetI, sAug, sAugI, sDrop, sBreak, sCont, dOp, dUn, dCons, dNil, dFn, dC, dTup, dLst, dLstM, dIf, dTest, dTru, dAnd, dOr, dNot, dAndV, dOrV, dNotE, dChain, dSl, dNoPart, dPart, dSeq, dEnum, dZip, dRng1, dRng2, dYes, dCall, dMt, dVar, dDic0, dDic1, put_nm, put_tp, puts_nil, puts_cons, List.getElem?_cons_zero, List.getElem?_cons_succ, List.set_cons_zero, List.set_cons_succ, startD, List.map_cons, List.map_nil, List.cons_append, List.nil_append, List.length_cons, List.length_nil, List.replicate_succ, List.replicate_zero, Nat.reduceSub, Nat.reduceAdd, Nat.zero_add, wipeD, keyD, gSeq, gPlain, gNil, gYield, gFor, dTupP, dRngP, dCallG, sForG, dLcG, GE.at, dTupRg, dStar, seqA, em]
  refine forW_inv (fun ds' ρ M7 => ∃ (k : Nat) (r4 r5 r6 r7 r8 r9 r10 : Option D), ρ = [some (.scr ns), some (.ref a), some (.lst (L.map stD3)), some (.ref p), r4, r5, r6, r7, r8, r9, r10] ∧ ds' = enumD (k : Nat) ((L.drop k).map fun s => D.str (cor3 s)) ∧ M7 = M6 ∧ k ≤ L.length)
    (fun _ _ _ q => by obtain ⟨_, _, _, _, _, _, _, _, _, _, rfl, _⟩ := q; simp only [em]) (fun ρ M7 q => ?_) (fun d' ds' ρ M7 Nx q nx => ?_) _ _ _ ⟨0, _, _, _, _, _, _, _, rfl, rfl, rfl, Nat.zero_le _⟩
  · obtain ⟨k, r4, r5, r6, r7, r8, r9, r10, rfl, e, rfl, hk⟩ := q
    simp only [sSeq, sRet, sRetN, sNext, sIf, sAsg, sPar, sPar3, sSetI, sAug, sAugI, sDrop, sBreak, sCont, dOp, dUn, dCons, dNil, dFn, dC, dTup, dLst, dLstM, dIf, dTest, dTru, dAnd, dOr, dNot, dAndV, dOrV, dNotE, dChain, dSl, dNoPart, dPart, dSeq, dEnum, dZip, dRng1, dRng2, dYes, dCall, dMt, dVar, dDic0, dDic1, put_nm, put_tp, puts_nil, puts_cons, List.getElem?_cons_zero, List.getElem?_cons_succ, List.set_cons_zero, List.set_cons_succ, startD, List.map_cons, List.map_nil, List.cons_append, List.nil_append, List.length_cons, List.length_nil, List.replicate_succ, List.replicate_zero, Nat.reduceSub, Nat.reduceAdd, Nat.zero_add, wipeD, keyD, gSeq, gPlain, gNil, gYield, gFor, dTupP, dRngP, dCallG, sForG, dLcG, GE.at, dTupRg, dStar]
    refine ⟨by decide, by decide, by decide, by decide, by decide, use_cor (s := ([2, 0, 0], [(0, 1), (1, 2)], [0, 0, 1])) (okB_ok (by decide +kernel)) (rEq_s ?_)⟩
    rw [show (cor3 ([2, 0, 0], [(0, 1), (1, 2)], [0, 0, 1]) == Str.ofString "2,0,0 0-1 1-2 for 0,0,1") = true by decide +kernel]
    exact h _
  · obtain ⟨k, r4, r5, r6, r7, r8, r9, r10, rfl, e, rfl, hk⟩ := q
    have hk : k < L.length := by
      rcases Nat.lt_or_ge k L.length with h | h
      · exact h
      · rw [List.drop_eq_nil_of_le h] at e; cases e
    have hs := List.getElem_mem hk
    have eg : L[k]? = some L[k] := List.getElem?_eq_getElem hk
    rw [List.drop_eq_getElem_cons hk, List.map_cons, enumD] at e
    generalize L[k] = s at e hs eg
    injection e with e1 e2
    subst e1 e2
    refine ⟨_, rfl, ?_⟩
    simp only [dLc, wipeD, sSeq, sRet, sRetN, sNext, sIf, sAsg, sPar, sPar3, sSetI, sAug, sAugI, sDrop, sBreak, sCont, dOp, dUn, dCons, dNil, dFn, dC, dTup, dLst, dLstM, dIf, dTest, dTru, dAnd, dOr, dNot, dAndV, dOrV, dNotE, dChain, dSl, dNoPart, dPart, dSeq, dEnum, dZip, dRng1, dRng2, dYes, dCall, dMt, dVar, dDic0, dDic1, put_nm, put_tp, puts_nil, puts_cons, List.getElem?_cons_zero, List.getElem?_cons_succ, List.set_cons_zero, List.set_cons_succ, startD, List.map_cons, List.map_nil, List.cons_append, List.nil_append, List.length_cons, List.length_nil, List.replicate_succ, List.replicate_zero, Nat.reduceSub, Nat.reduceAdd, Nat.zero_add, wipeD, keyD, gSeq, gPlain, gNil, gYield, gFor, dTupP, dRngP, dCallG, sForG, dLcG, GE.at, dTupRg, dStar, seqA, em]
    refine lcW_map (fun d => match d with
      | .str z => some (.bl (cor3 s == z))
      | _ => none) _ (by simp only [em]) (by rw [List.length_map]; omega) (fun x hx => ?_) ?_
    · obtain ⟨t, ht, rfl⟩ := List.mem_map.mp hx
      refine ⟨_, rfl, fun acc Nx hl k => ?_⟩
      simp only [sSeq, sRet, sRetN, sNext, sIf, sAsg, sPar, sPar3, sSetI, sAug, sAugI, sDrop, sBreak, sCont, dOp, dUn, dCons, dNil, dFn, dC, dTup, dLst, dLstM, dIf, dTest, dTru, dAnd, dOr, dNot, dAndV, dOrV, dNotE, dChain, dSl, dNoPart, dPart, dSeq, dEnum, dZip, dRng1, dRng2, dYes, dCall, dMt, dVar, dDic0, dDic1, put_nm, put_tp, puts_nil, puts_cons, List.getElem?_cons_zero, List.getElem?_cons_succ, List.set_cons_zero, List.set_cons_succ, startD, List.map_cons, List.map_nil, List.cons_append, List.nil_append, List.length_cons, List.length_nil, List.replicate_succ, List.replicate_zero, Nat.reduceSub, Nat.reduceAdd, Nat.zero_add, wipeD, keyD, gSeq, gPlain, gNil, gYield, gFor, dTupP, dRngP, dCallG, sForG, dLcG, GE.at, dTupRg, dStar, if_true]
      exact rEq_s ⟨hl, k⟩
    refine lcW_map (fun d => some (.bl (eqd (stD3 s) d))) _ (by trivial) (by rw [List.length_map]; omega) (fun x hx => ?_) ?_
    · obtain ⟨t, ht, rfl⟩ := List.mem_map.mp hx
      refine ⟨_, rfl, fun acc Nx hl kk => ?_⟩
      simp only [sSeq, sRet, sRetN, sNext, sIf, sAsg, sPar, sPar3, sSetI, sAug, sAugI, sDrop, sBreak, sCont, dOp, dUn, dCons, dNil, dFn, dC, dTup, dLst, dLstM, dIf, dTest, dTru, dAnd, dOr, dNot, dAndV, dOrV, dNotE, dChain, dSl, dNoPart, dPart, dSeq, dEnum, dZip, dRng1, dRng2, dYes, dCall, dMt, dVar, dDic0, dDic1, put_nm, put_tp, puts_nil, puts_cons, List.getElem?_cons_zero, List.getElem?_cons_succ, List.set_cons_zero, List.set_cons_succ, startD, List.map_cons, List.map_nil, List.cons_append, List.nil_append, List.length_cons, List.length_nil, List.replicate_succ, List.replicate_zero, Nat.reduceSub, Nat.reduceAdd, Nat.zero_add, wipeD, keyD, gSeq, gPlain, gNil, gYield, gFor, dTupP, dRngP, dCallG, sForG, dLcG, GE.at, dTupRg, dStar, if_true]
      refine rIx_seq (x := .lst _) rfl (d := stD3 s) (by rw [atI_n, List.getElem?_map, eg]; rfl) ?_
      exact rEq_still (st_pl s).1 (st_pl s).2 (st_pl t).1 (st_pl t).2 ⟨hl, kk⟩
    have f1 : (L.map fun s => D.str (cor3 s)).filterMap (fun d => match d with
      | .str z => some (.bl (cor3 s == z))
      | _ => none) = (L.map fun t => decide (s = t)).map D.bl := by
      rw [List.filterMap_map, List.map_map]
      refine fm_same fun t ht => ?_
      show some (D.bl (cor3 s == cor3 t)) = some (D.bl (decide (s = t)))
      rw [cor3_inj (hL s hs) (hL t ht)]
    have f2 : (L.map stD3).filterMap (fun d => some (D.bl (eqd (stD3 s) d))) = (L.map fun t => decide (s = t)).map D.bl := by
      rw [List.filterMap_map, List.map_map]
      refine fm_same fun t ht => ?_
      show some (D.bl (eqd (stD3 s) (stD3 t))) = some (D.bl (decide (s = t)))
      rw [st_eqd]
    rw [f1, f2]
    obtain ⟨b1, b2⟩ := bls_pl (L.map fun t => decide (s = t))
    refine rNe_still (by rw [plain]; exact b1) (by rw [dep, b2]; decide) (by rw [plain]; exact b1) (by rw [dep, b2]; decide) ?_
    rw [eqd, bls_eqd]
    simp only [Bool.not_true, Bool.false_eq_true, if_false]
    exact nx _ _ ⟨k + 1, _, _, _, _, _, _, _, rfl, by rw [show ((k : Nat) : Int) + 1 = ((k + 1 : Nat) : Int) by omega], rfl, hk⟩
end DL

namespace DL
open PySem PySem.Spec PyProof.Rows L2

/-! ### a law's end: the script's list is tracked as frozen where the module does not hold it -/
def scrO (vs : List Value) (ns : List Int) : HO := .frz { cls := .type "list", data := .seq vs.toArray } (.lst (ns.map V.int))
def scrH (K : PySem.W.Frag) (a : Addr) (vs : List Value) (ns : List Int) : Hp := fun b => if b = a ∧ K.lookup a = none then some (scrO vs ns) else none
section
variable {P : Program} {w : World} {K : PySem.W.Frag} {mg mb : Str → Option Value} {k : Nat} {fa a : Addr} {fd : FuncData} {x : Str} {sp : DSp} {s : Shared} {vs : List Value} {ns : List Int}
theorem scrH_some {b : Addr} {u : HO} (h : scrH K a vs ns b = some u) : b = a ∧ K.lookup a = none ∧ u = scrO vs ns := by
  unfold scrH at h
  by_cases z : b = a ∧ K.lookup a = none
  · rw [if_pos z] at h
    exact ⟨z.1, z.2, (Option.some.inj h).symm⟩
  · rw [if_neg z] at h
    cases h
theorem scrH_none {b : Addr} (h : b ≠ a) : scrH K a vs ns b = none := if_neg fun z => h z.1
theorem callG (KX : K.In s.heap) (G : s.heap.Ns mainGlobals mg) (B : s.heap.Ns builtinsNs mb) (hmb : ∀ y : Str, y ≠ "__name__" → mb y = bootBuiltins y) (lim : s.heap.NoLimit) (gn : s.gens = #[])
    (ho : s.heap.get? a = some { cls := .type "list", data := .seq vs.toArray }) (hints : IntsAre vs ns) (hl : ns.length ≤ sizeLine) (room : Room k callerA)
    (hF : ∀ base : Heap, K.In base → base.Ns mainGlobals mg → FnG P w K mg base CX0 k fa fd [x] (loSp K sp 1)) (hb : ∀ (s : Shared) (u : Value), BindsTo s fd ⟨[u], []⟩ [(x, u)])
    (hs : ∀ M Φ, (∀ M', Φ (.bl true) M') → sp [.scr ns] M Φ noX) :
    codeAny (model P w) callerA (.call (.ref fa) ⟨[.ref a], []⟩) (fun r s' => r = .ok (.ret (.bool true)) ∧ OldK s.heap s'.heap ∧ s'.os = s.os ∧ AllBare s'.gens) s := by
  have rv : Vals (ns.map V.int) vs := vals_ints hints
  have hlen : vs.length = ns.length := hints.length
  -- what stands in the heap and is not tracked stands in the base
  have inB : ∀ {b : Addr} {o : Obj}, s.heap.get? b = some o → (b = a → K.lookup a ≠ none) → (hidT s.heap (scrH K a vs ns)).get? b = some o := fun {b o} e hba =>
    hidT_get e (if_neg fun z => hba z.1 z.2)
  have notDict : ∀ {b : Addr} {o : Obj} {es : Array DictEntry} {ep : Nat}, s.heap.get? b = some o → o.data = .dict es ep → b ≠ a := fun {b o es ep} e d z => by
    subst z
    have : o = { cls := .type "list", data := .seq vs.toArray } := Option.some.inj (e.symm.trans ho)
    subst this
    exact nomatch d
  have nsB : ∀ {b : Addr} {m : Str → Option Value}, s.heap.Ns b m → (hidT s.heap (scrH K a vs ns)).Ns b m := by
    rintro b m ⟨o, es, ep, e, d, r⟩
    exact ⟨o, es, ep, inB e fun z => absurd z (notDict e d), d, r⟩
  have KB : K.In (hidT s.heap (scrH K a vs ns)) := fun b o e => inB (KX b o e) fun z => by rw [← z, e]; simp
  obtain ⟨mc, lc1, lc2⟩ := lim
  have okB : HOk P w (scrH K a vs ns) s.heap := by
    intro b u hbu
    obtain ⟨e1, _, e3⟩ := scrH_some hbu
    subst e1 e3
    exact ⟨ho, by rw [List.length_map]; exact hl, vs, _, rv, ho⟩
  have E0' : Env0 P w K mg (hidT s.heap (scrH K a vs ns)) callerA [] s (scrH K a vs ns) :=
    { frames := rfl, mod := ⟨KB, nsB G, ⟨mb, nsB B, hmb⟩, ⟨mc, nsB lc1, lc2⟩⟩, bs := fun b o e => of_hidT e, bsz := Nat.le_of_eq (hidT_size _ _), funs := trivial,
      frf := fun b hbm => absurd (show b ∈ ([] : List Addr) from hbm) List.not_mem_nil, hok := okB, bare := .of_eq gn }
  have sq : SqS K (scrH K a vs ns) a (ns.map V.int) := by
    cases hk : K.lookup a with
    | none => exact .inl ⟨_, if_pos ⟨rfl, hk⟩⟩
    | some o =>
      have eo : o = { cls := .type "list", data := .seq vs.toArray } := Option.some.inj ((KX a o hk).symm.trans ho)
      subst eo
      exact .inr (.inr ⟨_, vs.toArray, _, hk, rfl, rfl, rfl, by rw [List.size_toArray, hlen]; exact hl, by simpa using rv⟩)
  have start : loSp K sp 1 [.ref a] (scrH K a vs ns) (fun v _ => v = .bl true) fun _ _ _ => False := by
    refine ⟨fun _ => False, ⟨fun _ => none, 0⟩, [.scr ns], fun d _ => d = .bl true, rfl, ⟨fun _ f => f.elim, fun _ _ e => nomatch e⟩, Reps.cons ?_ Reps.nil, hs _ _ fun _ => rfl, fun v H' q => ?_⟩
    · simp only [Rep]
      exact ⟨a, rfl, sq⟩
    · obtain ⟨_, _, d, _, _, r, e⟩ := q
      subst e
      exact r
  refine codeAny_mono ((hF _ KB (nsB G)).run callerA [] s (scrH K a vs ns) ⟨[.ref a], []⟩ [.ref a] [.ref a] _ _ room rfl E0' (hb s (.ref a)) (.cons rfl .nil) start) ?_
  intro r s' hr
  match r, hr with
  | .error e, hr => exact hr.elim
  | .ok .next, hr => exact hr.elim
  | .ok .brk, hr => exact hr.elim
  | .ok .cont, hr => exact hr.elim
  | .ok (.ret u), hr =>
    obtain ⟨v, H', eos, bare, un, ok', rvu, ev⟩ := hr
    have ev' : v = .bl true := ev
    subst ev'
    have eu : u = Value.bool true := rvu
    subst eu
    refine ⟨rfl, OldK.of_keep fun b o e => ?_, eos, bare⟩
    cases hbH : scrH K a vs ns b with
    | none => exact un.keep b o e hbH (fun z => absurd (show b ∈ ([] : List Addr) from z) List.not_mem_nil) (by simp)
    | some u =>
      obtain ⟨e1, _, e3⟩ := scrH_some hbH
      subst e3
      obtain ⟨g1, _⟩ := okB b _ hbH
      obtain ⟨g2, _⟩ := ok' b _ (un.frzs b _ _ hbH)
      rw [Option.some.inj (e.symm.trans g1)]
      exact g2
end
/-- the end over a head by facts, the law's def read over trees -/
theorem walkG {l : PySem.W.OpenLaw} {n k : Nat} {q : Program} {loose : List Str} {XP : (Str → Option Value) → Heap → Prop} {YP : World → Heap → Prop} {d : DefRec} {x : Str} {sp : DSp}
    (hn : l.most = some n) (hsz : n ≤ sizeLine) (hdf : d.params.defaults = []) (room : Room k callerA) (hs : ∀ ns M Φ, (∀ M', Φ (.bl true) M') → sp [.scr ns] M Φ noX)
    (hF : ∀ (w : World) (mg : Str → Option Value) (fa : Addr) (h : Heap), YP w h → h.Ns mainGlobals mg → mg d.name = some (.ref fa) →
      ∃ (K : PySem.W.Frag) (fd : FuncData), K.In h ∧ (∀ (s : Shared) (u : Value), BindsTo s fd ⟨[u], []⟩ [(x, u)]) ∧ ∀ base : Heap, K.In base → base.Ns mainGlobals mg → FnG l.prog w K mg base CX0 k fa fd [x] (loSp K sp 1)) :
    PySem.W.WalkO q loose XP YP l.row.toRowW d [] (fun f vs => PySem.call f vs) := by
  refine Att.attach_call hn hdf ?_
  intro w s₀ s₁ mg mb fa o pm cd doc a vs ns G Y _ _ _ hm ho hints hlen hgn
  obtain ⟨K, fd, KX, hb, F⟩ := hF w mg fa _ Y G.T.g hm
  exact callG KX G.T.g G.T.b G.T.builtins G.T.nolimit hgn ho hints (Nat.le_trans hlen hsz) room F hb (hs ns)
end DL

namespace Hd
open PySem PySem.Spec PyProof.Rows L2
def top (i : Nat) : Stmt := PySem.Challenge.pw_chairwalks_k55_corridor_texts.main.body.getD i (.Pass ⟨0, 0, 0, 0⟩)
def clsB : Stmt → List Stmt
  | .ClassDef _ _ _ b _ _ _ _ _ _ _ => b
  | _ => []

abbrev s_numbers_text : Stmt := top 4
abbrev s_corridor_text : Stmt := top 5
abbrev s_law_deck : Stmt := top 7
abbrev s_law_draw : Stmt := top 8
abbrev s_law_state : Stmt := top 9
abbrev s_law_corridor_text : Stmt := top 10
abbrev s_law : Stmt := top 11
def ds_numbers_text : He.DefD := ⟨("numbers_text", none), "numbers_text", "numbers_text", defArgs s_numbers_text, defBody s_numbers_text, defScope s_numbers_text, [], []⟩
def ds_corridor_text : He.DefD := ⟨("corridor_text", none), "corridor_text", "corridor_text", defArgs s_corridor_text, defBody s_corridor_text, defScope s_corridor_text, [], []⟩
def ds_law_deck : He.DefD := ⟨("_law_deck", none), "_law_deck", "_law_deck", defArgs s_law_deck, defBody s_law_deck, defScope s_law_deck, [], []⟩
def ds_law_draw : He.DefD := ⟨("_law_draw", none), "_law_draw", "_law_draw", defArgs s_law_draw, defBody s_law_draw, defScope s_law_draw, [], []⟩
def ds_law_state : He.DefD := ⟨("_law_state", none), "_law_state", "_law_state", defArgs s_law_state, defBody s_law_state, defScope s_law_state, [], []⟩
def ds_law_corridor_text : He.DefD := ⟨("_law_corridor_text", none), "_law_corridor_text", "_law_corridor_text", defArgs s_law_corridor_text, defBody s_law_corridor_text, defScope s_law_corridor_text, [], []⟩
def ds_law : He.DefD := ⟨("law", none), "law", "law", defArgs s_law, defBody s_law, defScope s_law, [], []⟩
def fn : List He.DefD := [ds_numbers_text, ds_corridor_text, ds_law_deck, ds_law_draw, ds_law_state, ds_law_corridor_text, ds_law]
def fa : List He.Fa := [.glo "numbers_text", .glo "corridor_text", .glo "_law_deck", .glo "_law_draw", .glo "_law_state", .glo "_law_corridor_text", .glo "law", .free "abs", .free "enumerate", .free "int", .free "isinstance", .free "len", .free "range", .free "repr", .free "str", .free "tuple", .str "COMMA" ",", .str "DASH" "-", .str "MIDDLE" "for"]
def vals : List He.FnW := [ds_numbers_text.val, ds_corridor_text.val, ds_law_deck.val, ds_law_draw.val, ds_law_state.val, ds_law_corridor_text.val, ds_law.val]
abbrev R : PySem.W.OpenRow := PySem.W.OpenLaw.row PySem.Challenge.rw_chairwalks_k55_corridor_texts
def withM (K : PySem.W.Frag) (x : He.AlD) : He.AlD := (x.1 && (K.lookup sysModules).isSome, x.2)
def obsM (K : PySem.W.Frag) : He.AlD := withM K (He.obsD fa fn K)
theorem obsM_ok {K : PySem.W.Frag} (h : obsM K = (true, vals)) : (K.lookup sysModules).isSome = true ∧ He.obsD fa fn K = (true, vals) := by
  unfold obsM withM at h
  obtain ⟨h1, h2⟩ := Prod.mk.inj h
  rw [Bool.and_eq_true] at h1
  exact ⟨h1.2, Prod.ext h1.1 h2⟩
def obsMG (g : Addr → Option Obj) : He.AlD := obsM (He.frG g (sysModules :: He.asD g 4))
def hk : PySem.W.Hook where
  α := He.AlD
  obs := fun s => obsMG s.heap.get?
  val := fun _ => (true, vals)
  says := fun _ h => ∃ K : PySem.W.Frag, K.In h ∧ (K.lookup sysModules).isSome = true ∧ He.obsD fa fn K = (true, vals)
  of := fun _ _ e => ⟨_, He.frG_in, (obsM_ok e).1, (obsM_ok e).2⟩
  keeps := fun _ _ _ ⟨K, hK, c⟩ k => ⟨K, PySem.W.Frag.In.keeps hK k, c⟩
def ob (s : PySem.W.SharedT) : He.AlD := obsMG (HandSHeadRun.getT s)
theorem ob_eq (s : PySem.W.SharedT) : ob s = hk.obs s.abs := by
  have e : HandSHeadRun.getT s = s.abs.heap.get? := funext (HandSHeadRun.getT_eq s)
  unfold ob
  rw [e] <;> rfl
def loose : List PySem.Str := ["COMMA", "DASH", "MIDDLE", "numbers_text", "corridor_text", "_law_deck", "_law_draw", "_law_state", "_law_corridor_text"]
theorem run (w : World) : HandSHeadRun.RunEq R (PySem.W.view R.prog [11]) hk ob 4000 loose w := by
  intro os
  kernel_rfl
end Hd

namespace LK
open PySem PySem.Spec PyProof.Rows L2 DL
structure Tab (K : PySem.W.Frag) (mg : Str → Option Value) : Prop where
  sm : (K.lookup sysModules).isSome = true
  f_abs : mg "abs" = none
  f_enumerate : mg "enumerate" = none
  f_int : mg "int" = none
  f_isinstance : mg "isinstance" = none
  f_len : mg "len" = none
  f_range : mg "range" = none
  f_repr : mg "repr" = none
  f_str : mg "str" = none
  f_tuple : mg "tuple" = none
  s_COMMA : ∃ t, mg "COMMA" = some (.str "," t)
  s_DASH : ∃ t, mg "DASH" = some (.str "-" t)
  s_MIDDLE : ∃ t, mg "MIDDLE" = some (.str "for" t)
variable {P : Program} {w : World} {K : PySem.W.Frag} {mg : Str → Option Value} {base : Heap}
abbrev n_numbers_text : List Str := ["numbers", "number"]
theorem b_numbers_text (T : Tab K mg) {cdv : Value} {A : Around} {outer : List Env} {s : Shared} {H : Hp} {E : XK} {f : Addr} (hr : Room 0 (A.deeper (envOfC "numbers_text" (defScope Hd.s_numbers_text) s.heap.objs.size f cdv))) (hg : (A.deeper (envOfC "numbers_text" (defScope Hd.s_numbers_text) s.heap.objs.size f cdv)).guards = some []) :
    PSs (cxOf CX0 P w K mg base n_numbers_text "numbers_text" (defScope Hd.s_numbers_text) f cdv A outer s H E).nox (defBody Hd.s_numbers_text) (loS K t_numbers_text) := by
  have nd : n_numbers_text.Nodup := by decide +kernel
  exact (z_cons (z_ret (q_join (q_gstr rfl T.s_COMMA rfl) (q_lc (own := [("number", 1)]) rfl nd (pi_seq (q_var (i := 0) rfl (.inl rfl) rfl rfl)) (blkOk_by (by kernel_rfl)) (fun _ _ _ _ _ => (g_nm (i := 1) nd rfl (.inl rfl) (.inr rfl))) (fun _ _ _ _ _ => q_yes) (fun _ _ _ _ _ => (q_callT c_str rfl T.f_str bt_str (q_cons (q_var (i := 1) rfl (.inl rfl) rfl rfl) q_nil rfl) (by decide) rfl rfl rfl)) (fun _ => rfl) (by decide)) rfl rfl rfl)) z_nil)
abbrev n_corridor_text : List Str := ["row", "walkers", "wants", "ways", "first", "last"]
theorem b_corridor_text (T : Tab K mg) (C_numbers_text : Callee P w K mg base 1 "numbers_text" 1 sp_numbers_text) {cdv : Value} {A : Around} {outer : List Env} {s : Shared} {H : Hp} {E : XK} {f : Addr} (hr : Room 1 (A.deeper (envOfC "corridor_text" (defScope Hd.s_corridor_text) s.heap.objs.size f cdv))) (hg : (A.deeper (envOfC "corridor_text" (defScope Hd.s_corridor_text) s.heap.objs.size f cdv)).guards = some []) :
    PSs (cxOf CX0 P w K mg base n_corridor_text "corridor_text" (defScope Hd.s_corridor_text) f cdv A outer s H E).nox (defBody Hd.s_corridor_text) (loS K t_corridor_text) := by
  have nd : n_corridor_text.Nodup := by decide +kernel
  exact (z_cons (z_setLc0 (i := 3) (own := [("first", 4), ("last", 5)]) rfl nd rfl rfl (by kernel_rfl) (pi_seq (q_var (i := 1) rfl (.inl rfl) rfl rfl)) (blkOk_by (by kernel_rfl)) (fun _ _ _ _ _ => (g_tp rfl (gs_cons (g_nm (i := 4) nd rfl (.inl rfl) (.inr rfl)) (gs_cons (g_nm (i := 5) nd rfl (.inl rfl) (.inr rfl)) gs_nil rfl) rfl) rfl rfl)) (fun _ _ _ _ _ => q_yes) (fun _ _ _ _ _ => (q_joined (.cons (q_fmt (q_var (i := 4) rfl (.inl rfl) rfl rfl)) (.cons (q_fmt (q_gstr rfl T.s_DASH rfl)) (.cons (q_fmt (q_var (i := 5) rfl (.inl rfl) rfl rfl)) .nil))))) (fun _ => rfl) (by decide)) (z_cons (z_ret (q_join q_str (q_lst (q_cons (q_call C_numbers_text hr (by decide) hg rfl (q_cons (q_var (i := 0) rfl (.inl rfl) rfl rfl) q_nil rfl) rfl rfl rfl) (q_star (q_var (i := 3) rfl (.inl rfl) rfl rfl) (q_cons (q_gstr rfl T.s_MIDDLE rfl) (q_cons (q_call C_numbers_text hr (by decide) hg rfl (q_cons (q_var (i := 2) rfl (.inl rfl) rfl rfl) q_nil rfl) rfl rfl rfl) q_nil rfl) rfl) rfl) rfl)) rfl rfl rfl)) z_nil))
abbrev n_law_deck : List Str := ["script", "cell"]
theorem b_law_deck (T : Tab K mg) {cdv : Value} {A : Around} {outer : List Env} {s : Shared} {H : Hp} {E : XK} {f : Addr} (hr : Room 0 (A.deeper (envOfC "_law_deck" (defScope Hd.s_law_deck) s.heap.objs.size f cdv))) (hg : (A.deeper (envOfC "_law_deck" (defScope Hd.s_law_deck) s.heap.objs.size f cdv)).guards = some []) :
    PSs (cxOf CX0 P w K mg base n_law_deck "_law_deck" (defScope Hd.s_law_deck) f cdv A outer s H E).nox (defBody Hd.s_law_deck) (loS K t_law_deck) := by
  have nd : n_law_deck.Nodup := by decide +kernel
  exact (z_cons (z_ret (q_lstM (q_cons (q_lcM (own := [("cell", 1)]) rfl nd (pi_seq (q_sl (q_var (i := 0) rfl (.inl rfl) rfl rfl) q_nopart (q_part q_int))) (blkOk_by (by kernel_rfl)) (fun _ _ _ _ _ => (g_nm (i := 1) nd rfl (.inl rfl) (.inr rfl))) (fun _ _ _ _ _ => q_yes) (fun _ _ _ _ _ => (q_callB c_abs rfl T.f_abs bt_abs (q_cons (q_var (i := 1) rfl (.inl rfl) rfl rfl) q_nil rfl) (by decide) rfl rfl rfl)) (fun _ => rfl) (by decide)) (q_cons q_int q_nil rfl) rfl))) z_nil)
abbrev n_law_draw_v3 : List Str := ["deck", "many", "cell", "place"]
theorem b_law_draw_v3 (T : Tab K mg) {cdv : Value} {A : Around} {outer : List Env} {s : Shared} {H : Hp} {E : XK} {f : Addr} (hr : Room 0 (A.deeper (envOfC "_law_draw" (defScope Hd.s_law_draw) s.heap.objs.size f cdv))) (hg : (A.deeper (envOfC "_law_draw" (defScope Hd.s_law_draw) s.heap.objs.size f cdv)).guards = some []) :
    PSs (cxOf CX0 P w K mg base n_law_draw_v3 "_law_draw" (defScope Hd.s_law_draw) f cdv A outer s H E).nox (defBody Hd.s_law_draw) (loS K t_law_draw_v3) := by
  have nd : n_law_draw_v3.Nodup := by decide +kernel
  exact (z_cons (z_setI (q_op o_add (q_ix (q_var (i := 0) rfl (.inl rfl) rfl rfl) q_int (fun _ _ => rfl)) q_int) (q_var (i := 0) rfl (.inl rfl) rfl rfl) q_int (fun _ => rfl) rfl rfl rfl) (z_cons (z_set (i := 2) nd rfl (.inl rfl) q_int rfl (.inr rfl)) (z_cons (z_set (i := 3) nd rfl (.inl rfl) (q_un o_neg q_int) rfl (.inr rfl)) (z_cons (z_if (q_cmpT (o_cmp op_gt) (q_callB c_len rfl T.f_len bt_len (q_cons (q_ix (q_var (i := 0) rfl (.inl rfl) rfl rfl) q_int (fun _ _ => rfl)) q_nil rfl) (by decide) rfl rfl rfl) q_int (nomark _)) (z_cons (z_set (i := 3) nd rfl (.inl rfl) (q_op o_mod (q_ix (q_var (i := 0) rfl (.inl rfl) rfl rfl) q_int (fun _ _ => rfl)) (q_callB c_len rfl T.f_len bt_len (q_cons (q_ix (q_var (i := 0) rfl (.inl rfl) rfl rfl) q_int (fun _ _ => rfl)) q_nil rfl) (by decide) rfl rfl rfl)) rfl (.inr rfl)) (z_cons (z_set (i := 2) nd rfl (.inl rfl) (q_ix (q_ix (q_var (i := 0) rfl (.inl rfl) rfl rfl) q_int (fun _ _ => rfl)) (q_var (i := 3) rfl (.inl rfl) rfl rfl) (fun _ _ => rfl)) rfl (.inr rfl)) z_nil)) z_nil) (z_cons (z_if (q_cmpT (o_cmp op_ge) (q_var (i := 2) rfl (.inl rfl) rfl rfl) (q_op o_pow q_int q_int) (nomark _)) (z_cons (z_setI (q_op o_div (q_var (i := 2) rfl (.inl rfl) rfl rfl) (q_var (i := 1) rfl (.inl rfl) rfl rfl)) (q_ix (q_var (i := 0) rfl (.inl rfl) rfl rfl) q_int (fun _ _ => rfl)) (q_var (i := 3) rfl (.inl rfl) rfl rfl) (fun _ => rfl) rfl rfl rfl) (z_cons (z_ret (q_op o_mod (q_var (i := 2) rfl (.inl rfl) rfl rfl) (q_var (i := 1) rfl (.inl rfl) rfl rfl))) z_nil)) z_nil) (z_cons (z_ret (q_op o_mod (q_op o_mod (q_op o_pow (q_op o_add (q_op o_add (q_op o_mod (q_var (i := 2) rfl (.inl rfl) rfl rfl) q_int) (q_op o_mul q_int (q_ix (q_var (i := 0) rfl (.inl rfl) rfl rfl) q_int (fun _ _ => rfl)))) q_int) q_int) q_int) (q_var (i := 1) rfl (.inl rfl) rfl rfl))) z_nil))))))
abbrev n_law_state : List Str := ["deck", "stations", "most", "many", "top", "chairs", "walkers", "bound", "wants", "k", "first"]
theorem b_law_state (T : Tab K mg) (C_law_draw_v3 : Callee P w K mg base 1 "_law_draw" 2 sp_law_draw_v3) {cdv : Value} {A : Around} {outer : List Env} {s : Shared} {H : Hp} {E : XK} {f : Addr} (hr : Room 1 (A.deeper (envOfC "_law_state" (defScope Hd.s_law_state) s.heap.objs.size f cdv))) (hg : (A.deeper (envOfC "_law_state" (defScope Hd.s_law_state) s.heap.objs.size f cdv)).guards = some []) :
    PSs (cxOf CX0 P w K mg base n_law_state "_law_state" (defScope Hd.s_law_state) f cdv A outer s H E).nox (defBody Hd.s_law_state) (loS K t_law_state) := by
  have nd : n_law_state.Nodup := by decide +kernel
  exact (z_cons (z_asg (p := (.tp [(.nm 3), (.nm 4)])) (q_tup (q_cons (q_op o_add q_int (q_call C_law_draw_v3 hr (by decide) hg rfl (q_cons (q_var (i := 0) rfl (.inr (.inl rfl)) rfl rfl) (q_cons (q_op o_sub (q_var (i := 1) rfl (.inl rfl) rfl rfl) q_int) q_nil rfl) rfl) rfl rfl rfl)) (q_cons (q_ix (q_lst (q_cons q_int (q_cons q_int (q_cons q_int q_nil rfl) rfl) rfl)) (q_call C_law_draw_v3 hr (by decide) hg rfl (q_cons (q_var (i := 0) rfl (.inr (.inl rfl)) rfl rfl) (q_cons q_int q_nil rfl) rfl) rfl rfl rfl) (fun _ _ => rfl)) q_nil rfl) rfl)) (g_tp rfl (gs_cons (g_nm (i := 3) nd rfl (.inl rfl) (.inr rfl)) (gs_cons (g_nm (i := 4) nd rfl (.inr rfl) (.inl rfl)) gs_nil rfl) rfl) rfl rfl) rfl rfl rfl) (z_cons (z_set (i := 5) nd rfl (.inl rfl) (q_callT c_tuple rfl T.f_tuple bt_tuple (q_cons (q_lc (own := [("k", 9)]) rfl nd (pi_rng1 rfl T.f_range (q_var (i := 3) rfl (.inl rfl) rfl rfl) rfl rfl) (blkOk_by (by kernel_rfl)) (fun _ _ _ _ _ => (g_nm (i := 9) nd rfl (.inl rfl) (.inr rfl))) (fun _ _ _ _ _ => q_yes) (fun _ _ _ _ _ => (q_op o_mul (q_call C_law_draw_v3 hr (by decide) hg rfl (q_cons (q_var (i := 0) rfl (.inr (.inl rfl)) rfl rfl) (q_cons (q_op o_add (q_var (i := 4) rfl (.inr (.inl rfl)) rfl rfl) q_int) q_nil rfl) rfl) rfl rfl rfl) (q_callT c_int rfl T.f_int bt_int (q_cons (q_cmp (o_cmp op_gt) (q_call C_law_draw_v3 hr (by decide) hg rfl (q_cons (q_var (i := 0) rfl (.inr (.inl rfl)) rfl rfl) (q_cons q_int q_nil rfl) rfl) rfl rfl rfl) q_int (nomark _)) q_nil rfl) (by decide) rfl rfl rfl))) (fun _ => rfl) (by decide)) q_nil rfl) (by decide) rfl rfl rfl) rfl (.inr rfl)) (z_cons (z_par3 (i := 6) (j := 7) (l := 8) rfl nd rfl rfl rfl (by decide) (by decide) (by decide) rfl rfl rfl (q_cons (q_lstM q_nil) (q_cons (q_ix (q_lst (q_cons q_int (q_cons q_int (q_cons (q_op o_add (q_var (i := 4) rfl (.inr (.inl rfl)) rfl rfl) q_int) (q_cons q_int q_nil rfl) rfl) rfl) rfl)) (q_call C_law_draw_v3 hr (by decide) hg rfl (q_cons (q_var (i := 0) rfl (.inr (.inl rfl)) rfl rfl) (q_cons q_int q_nil rfl) rfl) rfl rfl rfl) (fun _ _ => rfl)) (q_cons (q_lstM q_nil) q_nil rfl) rfl) rfl) rfl rfl) (z_cons (z_for PassesOwn.never rfl (pi_rng1 rfl T.f_range (q_call C_law_draw_v3 hr (by decide) hg rfl (q_cons (q_var (i := 0) rfl (.inr (.inl rfl)) rfl rfl) (q_cons (q_op o_add (q_var (i := 2) rfl (.inl rfl) rfl rfl) q_int) q_nil rfl) rfl) rfl rfl rfl) rfl rfl) (g_nm (i := 9) nd rfl (.inl rfl) (.inr rfl)) (z_cons (z_set (i := 10) nd rfl (.inl rfl) (q_call C_law_draw_v3 hr (by decide) hg rfl (q_cons (q_var (i := 0) rfl (.inr (.inl rfl)) rfl rfl) (q_cons (q_op o_sub (q_var (i := 3) rfl (.inl rfl) rfl rfl) q_int) q_nil rfl) rfl) rfl rfl rfl) rfl (.inr rfl)) (z_cons (z_expr (q_append (q_var (i := 6) rfl (.inl rfl) rfl rfl) (q_tup (q_cons (q_var (i := 10) rfl (.inl rfl) rfl rfl) (q_cons (q_op o_add (q_op o_add (q_var (i := 10) rfl (.inl rfl) rfl rfl) q_int) (q_call C_law_draw_v3 hr (by decide) hg rfl (q_cons (q_var (i := 0) rfl (.inr (.inl rfl)) rfl rfl) (q_cons (q_ix (q_lst (q_cons q_int (q_cons (q_op o_sub (q_op o_sub (q_var (i := 3) rfl (.inl rfl) rfl rfl) q_int) (q_var (i := 10) rfl (.inl rfl) rfl rfl)) q_nil rfl) rfl)) (q_call C_law_draw_v3 hr (by decide) hg rfl (q_cons (q_var (i := 0) rfl (.inr (.inl rfl)) rfl rfl) (q_cons q_int q_nil rfl) rfl) rfl rfl rfl) (fun _ _ => rfl)) q_nil rfl) rfl) rfl rfl rfl)) q_nil rfl) rfl)) rfl rfl rfl rfl rfl) rfl) z_nil)) (fun _ => rfl)) (z_cons (z_for PassesOwn.never rfl (pi_rng1 rfl T.f_range (q_var (i := 3) rfl (.inl rfl) rfl rfl) rfl rfl) (g_nm (i := 9) nd rfl (.inl rfl) (.inr rfl)) (z_cons (z_expr (q_append (q_var (i := 8) rfl (.inl rfl) rfl rfl) (q_op o_mul (q_call C_law_draw_v3 hr (by decide) hg rfl (q_cons (q_var (i := 0) rfl (.inr (.inl rfl)) rfl rfl) (q_cons (q_op o_add (q_var (i := 7) rfl (.inl rfl) rfl rfl) q_int) q_nil rfl) rfl) rfl rfl rfl) (q_callT c_int rfl T.f_int bt_int (q_cons (q_cmp (o_eq hr.u64) (q_call C_law_draw_v3 hr (by decide) hg rfl (q_cons (q_var (i := 0) rfl (.inr (.inl rfl)) rfl rfl) (q_cons q_int q_nil rfl) rfl) rfl rfl rfl) q_int (nomark _)) q_nil rfl) (by decide) rfl rfl rfl)) rfl rfl rfl rfl rfl) rfl) z_nil) (fun _ => rfl)) (z_cons (z_ret (q_tup (q_cons (q_var (i := 5) rfl (.inl rfl) rfl rfl) (q_cons (q_callT c_tuple rfl T.f_tuple bt_tuple (q_cons (q_var (i := 6) rfl (.inl rfl) rfl rfl) q_nil rfl) (by decide) rfl rfl rfl) (q_cons (q_callT c_tuple rfl T.f_tuple bt_tuple (q_cons (q_var (i := 8) rfl (.inl rfl) rfl rfl) q_nil rfl) (by decide) rfl rfl rfl) q_nil rfl) rfl) rfl))) z_nil))))))
abbrev n_law_corridor_text : List Str := ["state", "words", "first", "last", "number"]
theorem b_law_corridor_text (T : Tab K mg) {cdv : Value} {A : Around} {outer : List Env} {s : Shared} {H : Hp} {E : XK} {f : Addr} (hr : Room 0 (A.deeper (envOfC "_law_corridor_text" (defScope Hd.s_law_corridor_text) s.heap.objs.size f cdv))) (hg : (A.deeper (envOfC "_law_corridor_text" (defScope Hd.s_law_corridor_text) s.heap.objs.size f cdv)).guards = some []) :
    PSs (cxOf CX0 P w K mg base n_law_corridor_text "_law_corridor_text" (defScope Hd.s_law_corridor_text) f cdv A outer s H E).nox (defBody Hd.s_law_corridor_text) (loS K t_law_corridor_text) := by
  have nd : n_law_corridor_text.Nodup := by decide +kernel
  exact (z_cons (z_set (i := 1) nd rfl (.inl rfl) (q_lst (q_cons (q_join q_str (q_lc (own := [("number", 4)]) rfl nd (pi_seq (q_ix (q_var (i := 0) rfl (.inl rfl) rfl rfl) q_int (fun _ _ => rfl))) (blkOk_by (by kernel_rfl)) (fun _ _ _ _ _ => (g_nm (i := 4) nd rfl (.inl rfl) (.inr rfl))) (fun _ _ _ _ _ => q_yes) (fun _ _ _ _ _ => (q_callT c_str rfl T.f_str bt_str (q_cons (q_var (i := 4) rfl (.inl rfl) rfl rfl) q_nil rfl) (by decide) rfl rfl rfl)) (fun _ => rfl) (by decide)) rfl rfl rfl) q_nil rfl)) rfl (.inr rfl)) (z_cons (z_set (i := 1) nd rfl (.inl rfl) (q_op o_add (q_var (i := 1) rfl (.inl rfl) rfl rfl) (q_lc (own := [("first", 2), ("last", 3)]) rfl nd (pi_seq (q_ix (q_var (i := 0) rfl (.inl rfl) rfl rfl) q_int (fun _ _ => rfl))) (blkOk_by (by kernel_rfl)) (fun _ _ _ _ _ => (g_tp rfl (gs_cons (g_nm (i := 2) nd rfl (.inl rfl) (.inr rfl)) (gs_cons (g_nm (i := 3) nd rfl (.inl rfl) (.inr rfl)) gs_nil rfl) rfl) rfl rfl)) (fun _ _ _ _ _ => q_yes) (fun _ _ _ _ _ => (q_op o_add (q_op o_add (q_callT c_str rfl T.f_str bt_str (q_cons (q_var (i := 2) rfl (.inl rfl) rfl rfl) q_nil rfl) (by decide) rfl rfl rfl) q_str) (q_callT c_str rfl T.f_str bt_str (q_cons (q_var (i := 3) rfl (.inl rfl) rfl rfl) q_nil rfl) (by decide) rfl rfl rfl))) (fun _ => rfl) (by decide))) rfl (.inr rfl)) (z_cons (z_ret (q_join q_str (q_op o_add (q_var (i := 1) rfl (.inl rfl) rfl rfl) (q_lst (q_cons q_str (q_cons (q_join q_str (q_lc (own := [("number", 4)]) rfl nd (pi_seq (q_ix (q_var (i := 0) rfl (.inl rfl) rfl rfl) q_int (fun _ _ => rfl))) (blkOk_by (by kernel_rfl)) (fun _ _ _ _ _ => (g_nm (i := 4) nd rfl (.inl rfl) (.inr rfl))) (fun _ _ _ _ _ => q_yes) (fun _ _ _ _ _ => (q_callT c_str rfl T.f_str bt_str (q_cons (q_var (i := 4) rfl (.inl rfl) rfl rfl) q_nil rfl) (by decide) rfl rfl rfl)) (fun _ => rfl) (by decide)) rfl rfl rfl) q_nil rfl) rfl))) rfl rfl rfl)) z_nil)))
abbrev n_law_k55 : List Str := ["script", "deck", "states", "texts", "chairs", "walkers", "wants", "kept", "text", "k", "other"]
theorem b_law_k55 (T : Tab K mg) (C_law_deck : Callee P w K mg base 1 "_law_deck" 1 sp_law_deck) (C_corridor_text : Callee P w K mg base 2 "corridor_text" 3 sp_corridor_text) (C_law_state : Callee P w K mg base 2 "_law_state" 3 sp_law_state) (C_law_corridor_text : Callee P w K mg base 1 "_law_corridor_text" 1 sp_law_corridor_text) {cdv : Value} {A : Around} {outer : List Env} {s : Shared} {H : Hp} {E : XK} {f : Addr} (hr : Room 2 (A.deeper (envOfC "law" (defScope Hd.s_law) s.heap.objs.size f cdv))) (hg : (A.deeper (envOfC "law" (defScope Hd.s_law) s.heap.objs.size f cdv)).guards = some []) :
    PSs (cxOf CX0 P w K mg base n_law_k55 "law" (defScope Hd.s_law) f cdv A outer s H E).nox (defBody Hd.s_law) (loS K t_law_k55) := by
  have nd : n_law_k55.Nodup := by decide +kernel
  exact (z_cons (z_set (i := 1) nd rfl (.inr rfl) (q_call C_law_deck hr (by decide) hg rfl (q_cons (q_var (i := 0) rfl (.inl rfl) rfl rfl) q_nil rfl) rfl rfl rfl) rfl (.inl rfl)) (z_cons (z_set (i := 2) nd rfl (.inr rfl) (q_lst (q_cons (q_tup (q_cons (q_tup (q_cons q_int (q_cons q_int q_nil rfl) rfl)) (q_cons (q_tup q_nil) (q_cons (q_tup (q_cons q_int (q_cons q_int q_nil rfl) rfl)) q_nil rfl) rfl) rfl)) (q_cons (q_tup (q_cons (q_op o_mul (q_tup (q_cons q_int q_nil rfl)) q_int) (q_cons (q_op o_mul (q_tup (q_cons (q_tup (q_cons q_int (q_cons q_int q_nil rfl) rfl)) (q_cons (q_tup (q_cons q_int (q_cons q_int q_nil rfl) rfl)) q_nil rfl) rfl)) q_int) (q_cons (q_op o_mul (q_tup (q_cons q_int q_nil rfl)) q_int) q_nil rfl) rfl) rfl)) (q_cons (q_tup (q_cons (q_tup (q_cons q_int (q_cons q_int q_nil rfl) rfl)) (q_cons (q_tup (q_cons (q_tup (q_cons q_int (q_cons q_int q_nil rfl) rfl)) q_nil rfl)) (q_cons (q_tup (q_cons q_int (q_cons q_int q_nil rfl) rfl)) q_nil rfl) rfl) rfl)) q_nil rfl) rfl) rfl)) rfl (.inl rfl)) (z_cons (z_set (i := 2) nd rfl (.inr rfl) (q_op o_add (q_var (i := 2) rfl (.inr (.inl rfl)) rfl rfl) (q_lst (q_cons (q_tup (q_cons (q_tup (q_cons q_int (q_cons q_int q_nil rfl) rfl)) (q_cons (q_tup (q_cons (q_tup (q_cons q_int (q_cons q_int q_nil rfl) rfl)) (q_cons (q_tup (q_cons q_int (q_cons q_int q_nil rfl) rfl)) q_nil rfl) rfl)) (q_cons (q_tup (q_cons q_int (q_cons q_int q_nil rfl) rfl)) q_nil rfl) rfl) rfl)) (q_cons (q_tup (q_cons (q_tup (q_cons q_int (q_cons q_int (q_cons q_int q_nil rfl) rfl) rfl)) (q_cons (q_tup q_nil) (q_cons (q_tup (q_cons q_int (q_cons q_int (q_cons q_int q_nil rfl) rfl) rfl)) q_nil rfl) rfl) rfl)) (q_cons (q_tup (q_cons (q_tup (q_cons q_int (q_cons q_int q_nil rfl) rfl)) (q_cons (q_tup q_nil) (q_cons (q_tup (q_cons q_int (q_cons q_int q_nil rfl) rfl)) q_nil rfl) rfl) rfl)) q_nil rfl) rfl) rfl))) rfl (.inl rfl)) (z_cons (z_set (i := 2) nd rfl (.inr rfl) (q_op o_add (q_var (i := 2) rfl (.inr (.inl rfl)) rfl rfl) (q_lc (own := [("k", 9)]) rfl nd (pi_rng1 rfl T.f_range q_int rfl rfl) (blkOk_by (by kernel_rfl)) (fun _ _ _ _ _ => (g_nm (i := 9) nd rfl (.inl rfl) (.inr rfl))) (fun _ _ _ _ _ => q_yes) (fun _ _ _ _ _ => (q_call C_law_state hr (by decide) hg rfl (q_cons (q_var (i := 1) rfl (.inr (.inl rfl)) rfl rfl) (q_cons q_int (q_cons q_int q_nil rfl) rfl) rfl) rfl rfl rfl)) (fun _ => rfl) (by decide))) rfl (.inl rfl)) (z_cons (z_set (i := 3) nd rfl (.inl rfl) (q_lstM q_nil) rfl (.inr rfl)) (z_cons (z_for PassesOwn.never rfl (pi_seq (q_var (i := 2) rfl (.inr (.inl rfl)) rfl rfl)) (g_tp rfl (gs_cons (g_nm (i := 4) nd rfl (.inl rfl) (.inr rfl)) (gs_cons (g_nm (i := 5) nd rfl (.inl rfl) (.inr rfl)) (gs_cons (g_nm (i := 6) nd rfl (.inl rfl) (.inr rfl)) gs_nil rfl) rfl) rfl) rfl rfl) (z_cons (z_asg (p := (.tp [(.nm 7), (.nm 8)])) (q_tup (q_cons (q_callB (c_repr hg hr.u64 T.sm) rfl T.f_repr bt_repr (q_cons (q_lst (q_cons (q_var (i := 4) rfl (.inl rfl) rfl rfl) (q_cons (q_var (i := 5) rfl (.inl rfl) rfl rfl) (q_cons (q_var (i := 6) rfl (.inl rfl) rfl rfl) q_nil rfl) rfl) rfl)) q_nil rfl) (by decide) rfl rfl rfl) (q_cons (q_call C_corridor_text hr (by decide) hg rfl (q_cons (q_var (i := 4) rfl (.inl rfl) rfl rfl) (q_cons (q_var (i := 5) rfl (.inl rfl) rfl rfl) (q_cons (q_var (i := 6) rfl (.inl rfl) rfl rfl) q_nil rfl) rfl) rfl) rfl rfl rfl) q_nil rfl) rfl)) (g_tp rfl (gs_cons (g_nm (i := 7) nd rfl (.inl rfl) (.inr rfl)) (gs_cons (g_nm (i := 8) nd rfl (.inr rfl) (.inl rfl)) gs_nil rfl) rfl) rfl rfl) rfl rfl rfl) (z_cons (z_if (PW.pt (q_or (q_not (q_tru (q_callB c_isi rfl T.f_isinstance bt_isinstance (q_cons (q_var (i := 8) rfl (.inr (.inl rfl)) rfl rfl) (q_cons (q_ty .str rfl T.f_str bt_str (by decide) rfl) q_nil rfl) rfl) (by decide) rfl rfl rfl) (fun _ => rfl))) (q_or1 (q_cmpT (o_ne hr.u64) (q_var (i := 8) rfl (.inr (.inl rfl)) rfl rfl) (q_call C_law_corridor_text hr (by decide) hg rfl (q_cons (q_tup (q_cons (q_var (i := 4) rfl (.inl rfl) rfl rfl) (q_cons (q_var (i := 5) rfl (.inl rfl) rfl rfl) (q_cons (q_var (i := 6) rfl (.inl rfl) rfl rfl) q_nil rfl) rfl) rfl)) q_nil rfl) rfl rfl rfl) (nomark _))))) (z_cons (z_ret q_bl) z_nil) z_nil) (z_cons (z_if (PW.pt (q_or (q_cmpT (o_ne hr.u64) (q_call C_corridor_text hr (by decide) hg rfl (q_cons (q_var (i := 4) rfl (.inl rfl) rfl rfl) (q_cons (q_var (i := 5) rfl (.inl rfl) rfl rfl) (q_cons (q_var (i := 6) rfl (.inl rfl) rfl rfl) q_nil rfl) rfl) rfl) rfl rfl rfl) (q_var (i := 8) rfl (.inr (.inl rfl)) rfl rfl) (nomark _)) (q_or1 (q_cmpT (o_ne hr.u64) (q_callB (c_repr hg hr.u64 T.sm) rfl T.f_repr bt_repr (q_cons (q_lst (q_cons (q_var (i := 4) rfl (.inl rfl) rfl rfl) (q_cons (q_var (i := 5) rfl (.inl rfl) rfl rfl) (q_cons (q_var (i := 6) rfl (.inl rfl) rfl rfl) q_nil rfl) rfl) rfl)) q_nil rfl) (by decide) rfl rfl rfl) (q_var (i := 7) rfl (.inl rfl) rfl rfl) (nomark _))))) (z_cons (z_ret q_bl) z_nil) z_nil) (z_cons (z_expr (q_append (q_var (i := 3) rfl (.inl rfl) rfl rfl) (q_var (i := 8) rfl (.inr (.inl rfl)) rfl rfl) rfl rfl rfl rfl rfl) rfl) z_nil)))) (fun _ => rfl)) (z_cons (z_for PassesOwn.never rfl (pi_enumK rfl T.f_enumerate (q_var (i := 3) rfl (.inl rfl) rfl rfl) rfl rfl) (g_tp rfl (gs_cons (g_nm (i := 9) nd rfl (.inr rfl) (.inl rfl)) (gs_cons (g_nm (i := 8) nd rfl (.inr rfl) (.inl rfl)) gs_nil rfl) rfl) rfl rfl) (z_cons (z_if (q_cmpT (o_ne hr.u64) (q_lc (own := [("other", 10)]) rfl nd (pi_seq (q_var (i := 3) rfl (.inl rfl) rfl rfl)) (blkOk_by (by kernel_rfl)) (fun _ _ _ _ _ => (g_nm (i := 10) nd rfl (.inl rfl) (.inr rfl))) (fun _ _ _ _ _ => q_yes) (fun _ _ _ _ _ => (q_cmp (o_eq hr.u64) (q_var (i := 8) rfl (.inr (.inl rfl)) rfl rfl) (q_var (i := 10) rfl (.inl rfl) rfl rfl) (nomark _))) (fun _ => rfl) (by decide)) (q_lc (own := [("other", 10)]) rfl nd (pi_seq (q_var (i := 2) rfl (.inr (.inl rfl)) rfl rfl)) (blkOk_by (by kernel_rfl)) (fun _ _ _ _ _ => (g_nm (i := 10) nd rfl (.inl rfl) (.inr rfl))) (fun _ _ _ _ _ => q_yes) (fun _ _ _ _ _ => (q_cmp (o_eq hr.u64) (q_ix (q_var (i := 2) rfl (.inr (.inl rfl)) rfl rfl) (q_var (i := 9) rfl (.inr (.inl rfl)) rfl rfl) (fun _ _ => rfl)) (q_var (i := 10) rfl (.inl rfl) rfl rfl) (nomark _))) (fun _ => rfl) (by decide)) (nomark _)) (z_cons (z_ret q_bl) z_nil) z_nil) z_nil) (fun _ => rfl)) (z_cons (z_ret (q_cmp (o_eq hr.u64) (q_call C_corridor_text hr (by decide) hg rfl (q_cons (q_tup (q_cons q_int (q_cons q_int (q_cons q_int q_nil rfl) rfl) rfl)) (q_cons (q_tup (q_cons (q_tup (q_cons q_int (q_cons q_int q_nil rfl) rfl)) (q_cons (q_tup (q_cons q_int (q_cons q_int q_nil rfl) rfl)) q_nil rfl) rfl)) (q_cons (q_tup (q_cons q_int (q_cons q_int (q_cons q_int q_nil rfl) rfl) rfl)) q_nil rfl) rfl) rfl) rfl rfl rfl) q_str (nomark _))) z_nil))))))))
theorem sc_numbers_text : FnScope n_numbers_text ["numbers"] (defScope Hd.s_numbers_text) := ⟨rfl, rfl, rfl, by decide +kernel, rfl, by decide +kernel, by decide +kernel⟩
abbrev F_numbers_text (K : PySem.W.Frag) (f : Addr) (fd : FuncData) : Prop := FunD K "numbers_text" "numbers_text" (defArgs Hd.s_numbers_text) (defBody Hd.s_numbers_text) (defScope Hd.s_numbers_text) [] [] f fd
theorem bi_numbers_text {f : Addr} {fd : FuncData} (F : F_numbers_text K f fd) : Binds K fd ["numbers"] [] :=
  F.bindsN fun _ _ _ _ _ _ us hl => match us, hl with | [_], _ => rfl
theorem r_numbers_text (T : Tab K mg) {f : Addr} {fd : FuncData} (F : F_numbers_text K f fd) : FnG P w K mg base CX0 1 f fd ["numbers"] (loSp K sp_numbers_text 1) :=
  fnR F sc_numbers_text rfl (fun _ _ _ _ _ _ hr hg => b_numbers_text T hr hg) fun ds M Φ _ h => p_numbers_text ds M Φ h
theorem c_numbers_text (T : Tab K mg) {f : Addr} {fd : FuncData} (F : F_numbers_text K f fd) (hm : mg "numbers_text" = some (.ref f)) : Callee P w K mg base 1 "numbers_text" 1 sp_numbers_text :=
  ⟨f, fd, _, rfl, hm, F.kp, bi_numbers_text F, r_numbers_text T F⟩
theorem sc_corridor_text : FnScope n_corridor_text ["row", "walkers", "wants"] (defScope Hd.s_corridor_text) := ⟨rfl, rfl, rfl, by decide +kernel, rfl, by decide +kernel, by decide +kernel⟩
abbrev F_corridor_text (K : PySem.W.Frag) (f : Addr) (fd : FuncData) : Prop := FunD K "corridor_text" "corridor_text" (defArgs Hd.s_corridor_text) (defBody Hd.s_corridor_text) (defScope Hd.s_corridor_text) [] [] f fd
theorem bi_corridor_text {f : Addr} {fd : FuncData} (F : F_corridor_text K f fd) : Binds K fd ["row", "walkers", "wants"] [] :=
  F.bindsN fun _ _ _ _ _ _ us hl => match us, hl with | [_, _, _], _ => rfl
theorem r_corridor_text (T : Tab K mg) (C_numbers_text : Callee P w K mg base 1 "numbers_text" 1 sp_numbers_text) {f : Addr} {fd : FuncData} (F : F_corridor_text K f fd) : FnG P w K mg base CX0 2 f fd ["row", "walkers", "wants"] (loSp K sp_corridor_text 3) :=
  fnR F sc_corridor_text rfl (fun _ _ _ _ _ _ hr hg => b_corridor_text T C_numbers_text hr hg) fun ds M Φ _ h => p_corridor_text ds M Φ h
theorem c_corridor_text (T : Tab K mg) (C_numbers_text : Callee P w K mg base 1 "numbers_text" 1 sp_numbers_text) {f : Addr} {fd : FuncData} (F : F_corridor_text K f fd) (hm : mg "corridor_text" = some (.ref f)) : Callee P w K mg base 2 "corridor_text" 3 sp_corridor_text :=
  ⟨f, fd, _, rfl, hm, F.kp, bi_corridor_text F, r_corridor_text T C_numbers_text F⟩
theorem sc_law_deck : FnScope n_law_deck ["script"] (defScope Hd.s_law_deck) := ⟨rfl, rfl, rfl, by decide +kernel, rfl, by decide +kernel, by decide +kernel⟩
abbrev F_law_deck (K : PySem.W.Frag) (f : Addr) (fd : FuncData) : Prop := FunD K "_law_deck" "_law_deck" (defArgs Hd.s_law_deck) (defBody Hd.s_law_deck) (defScope Hd.s_law_deck) [] [] f fd
theorem bi_law_deck {f : Addr} {fd : FuncData} (F : F_law_deck K f fd) : Binds K fd ["script"] [] :=
  F.bindsN fun _ _ _ _ _ _ us hl => match us, hl with | [_], _ => rfl
theorem r_law_deck (T : Tab K mg) {f : Addr} {fd : FuncData} (F : F_law_deck K f fd) : FnG P w K mg base CX0 1 f fd ["script"] (loSp K sp_law_deck 1) :=
  fnR F sc_law_deck rfl (fun _ _ _ _ _ _ hr hg => b_law_deck T hr hg) fun ds M Φ _ h => p_law_deck ds M Φ h
theorem c_law_deck (T : Tab K mg) {f : Addr} {fd : FuncData} (F : F_law_deck K f fd) (hm : mg "_law_deck" = some (.ref f)) : Callee P w K mg base 1 "_law_deck" 1 sp_law_deck :=
  ⟨f, fd, _, rfl, hm, F.kp, bi_law_deck F, r_law_deck T F⟩
theorem sc_law_draw_v3 : FnScope n_law_draw_v3 ["deck", "many"] (defScope Hd.s_law_draw) := ⟨rfl, rfl, rfl, by decide +kernel, rfl, by decide +kernel, by decide +kernel⟩
abbrev F_law_draw_v3 (K : PySem.W.Frag) (f : Addr) (fd : FuncData) : Prop := FunD K "_law_draw" "_law_draw" (defArgs Hd.s_law_draw) (defBody Hd.s_law_draw) (defScope Hd.s_law_draw) [] [] f fd
theorem bi_law_draw_v3 {f : Addr} {fd : FuncData} (F : F_law_draw_v3 K f fd) : Binds K fd ["deck", "many"] [] :=
  F.bindsN fun _ _ _ _ _ _ us hl => match us, hl with | [_, _], _ => rfl
theorem r_law_draw_v3 (T : Tab K mg) {f : Addr} {fd : FuncData} (F : F_law_draw_v3 K f fd) : FnG P w K mg base CX0 1 f fd ["deck", "many"] (loSp K sp_law_draw_v3 2) :=
  fnR F sc_law_draw_v3 rfl (fun _ _ _ _ _ _ hr hg => b_law_draw_v3 T hr hg) fun ds M Φ _ h => p_law_draw_v3 ds M Φ h
theorem c_law_draw_v3 (T : Tab K mg) {f : Addr} {fd : FuncData} (F : F_law_draw_v3 K f fd) (hm : mg "_law_draw" = some (.ref f)) : Callee P w K mg base 1 "_law_draw" 2 sp_law_draw_v3 :=
  ⟨f, fd, _, rfl, hm, F.kp, bi_law_draw_v3 F, r_law_draw_v3 T F⟩
theorem sc_law_state : FnScope n_law_state ["deck", "stations", "most"] (defScope Hd.s_law_state) := ⟨rfl, rfl, rfl, by decide +kernel, rfl, by decide +kernel, by decide +kernel⟩
abbrev F_law_state (K : PySem.W.Frag) (f : Addr) (fd : FuncData) : Prop := FunD K "_law_state" "_law_state" (defArgs Hd.s_law_state) (defBody Hd.s_law_state) (defScope Hd.s_law_state) [] [] f fd
theorem bi_law_state {f : Addr} {fd : FuncData} (F : F_law_state K f fd) : Binds K fd ["deck", "stations", "most"] [] :=
  F.bindsN fun _ _ _ _ _ _ us hl => match us, hl with | [_, _, _], _ => rfl
theorem r_law_state (T : Tab K mg) (C_law_draw_v3 : Callee P w K mg base 1 "_law_draw" 2 sp_law_draw_v3) {f : Addr} {fd : FuncData} (F : F_law_state K f fd) : FnG P w K mg base CX0 2 f fd ["deck", "stations", "most"] (loSp K sp_law_state 3) :=
  fnR F sc_law_state rfl (fun _ _ _ _ _ _ hr hg => b_law_state T C_law_draw_v3 hr hg) fun ds M Φ _ h => p_law_state ds M Φ h
theorem c_law_state (T : Tab K mg) (C_law_draw_v3 : Callee P w K mg base 1 "_law_draw" 2 sp_law_draw_v3) {f : Addr} {fd : FuncData} (F : F_law_state K f fd) (hm : mg "_law_state" = some (.ref f)) : Callee P w K mg base 2 "_law_state" 3 sp_law_state :=
  ⟨f, fd, _, rfl, hm, F.kp, bi_law_state F, r_law_state T C_law_draw_v3 F⟩
theorem sc_law_corridor_text : FnScope n_law_corridor_text ["state"] (defScope Hd.s_law_corridor_text) := ⟨rfl, rfl, rfl, by decide +kernel, rfl, by decide +kernel, by decide +kernel⟩
abbrev F_law_corridor_text (K : PySem.W.Frag) (f : Addr) (fd : FuncData) : Prop := FunD K "_law_corridor_text" "_law_corridor_text" (defArgs Hd.s_law_corridor_text) (defBody Hd.s_law_corridor_text) (defScope Hd.s_law_corridor_text) [] [] f fd
theorem bi_law_corridor_text {f : Addr} {fd : FuncData} (F : F_law_corridor_text K f fd) : Binds K fd ["state"] [] :=
  F.bindsN fun _ _ _ _ _ _ us hl => match us, hl with | [_], _ => rfl
theorem r_law_corridor_text (T : Tab K mg) {f : Addr} {fd : FuncData} (F : F_law_corridor_text K f fd) : FnG P w K mg base CX0 1 f fd ["state"] (loSp K sp_law_corridor_text 1) :=
  fnR F sc_law_corridor_text rfl (fun _ _ _ _ _ _ hr hg => b_law_corridor_text T hr hg) fun ds M Φ _ h => p_law_corridor_text ds M Φ h
theorem c_law_corridor_text (T : Tab K mg) {f : Addr} {fd : FuncData} (F : F_law_corridor_text K f fd) (hm : mg "_law_corridor_text" = some (.ref f)) : Callee P w K mg base 1 "_law_corridor_text" 1 sp_law_corridor_text :=
  ⟨f, fd, _, rfl, hm, F.kp, bi_law_corridor_text F, r_law_corridor_text T F⟩
theorem sc_law_k55 : FnScope n_law_k55 ["script"] (defScope Hd.s_law) := ⟨rfl, rfl, rfl, by decide +kernel, rfl, by decide +kernel, by decide +kernel⟩
abbrev F_law_k55 (K : PySem.W.Frag) (f : Addr) (fd : FuncData) : Prop := FunD K "law" "law" (defArgs Hd.s_law) (defBody Hd.s_law) (defScope Hd.s_law) [] [] f fd
theorem bi_law_k55 {f : Addr} {fd : FuncData} (F : F_law_k55 K f fd) : Binds K fd ["script"] [] :=
  F.bindsN fun _ _ _ _ _ _ us hl => match us, hl with | [_], _ => rfl
theorem r_law_k55 (T : Tab K mg) (C_law_deck : Callee P w K mg base 1 "_law_deck" 1 sp_law_deck) (C_corridor_text : Callee P w K mg base 2 "corridor_text" 3 sp_corridor_text) (C_law_state : Callee P w K mg base 2 "_law_state" 3 sp_law_state) (C_law_corridor_text : Callee P w K mg base 1 "_law_corridor_text" 1 sp_law_corridor_text) {f : Addr} {fd : FuncData} (F : F_law_k55 K f fd) : FnG P w K mg base CX0 3 f fd ["script"] (loSp K sp_law_k55 1) :=
  fnR F sc_law_k55 rfl (fun _ _ _ _ _ _ hr hg => b_law_k55 T C_law_deck C_corridor_text C_law_state C_law_corridor_text hr hg) fun ds M Φ _ h => p_law_k55 ds M Φ h
theorem c_law_k55 (T : Tab K mg) (C_law_deck : Callee P w K mg base 1 "_law_deck" 1 sp_law_deck) (C_corridor_text : Callee P w K mg base 2 "corridor_text" 3 sp_corridor_text) (C_law_state : Callee P w K mg base 2 "_law_state" 3 sp_law_state) (C_law_corridor_text : Callee P w K mg base 1 "_law_corridor_text" 1 sp_law_corridor_text) {f : Addr} {fd : FuncData} (F : F_law_k55 K f fd) (hm : mg "law" = some (.ref f)) : Callee P w K mg base 3 "law" 1 sp_law_k55 :=
  ⟨f, fd, _, rfl, hm, F.kp, bi_law_k55 F, r_law_k55 T C_law_deck C_corridor_text C_law_state C_law_corridor_text F⟩
theorem facts {h : Heap} {fa : Addr} (X : K.In h) (hsn : (K.lookup sysModules).isSome = true) (G : h.Ns mainGlobals mg) (hfa : mg "law" = some (.ref fa)) (c : He.SaysD Hd.fa Hd.fn K) :
    ∃ fd : FuncData, (∀ (s : Shared) (u : Value), BindsTo s fd ⟨[u], []⟩ [("script", u)]) ∧ ∀ base : Heap, K.In base → base.Ns mainGlobals mg → FnG P w K mg base CX0 3 fa fd ["script"] (loSp K sp_law_k55 1) := by
  have T : Tab K mg := ⟨hsn, He.free_ok X G (c.fact 7 (f := .free "abs") rfl), He.free_ok X G (c.fact 8 (f := .free "enumerate") rfl), He.free_ok X G (c.fact 9 (f := .free "int") rfl), He.free_ok X G (c.fact 10 (f := .free "isinstance") rfl), He.free_ok X G (c.fact 11 (f := .free "len") rfl), He.free_ok X G (c.fact 12 (f := .free "range") rfl), He.free_ok X G (c.fact 13 (f := .free "repr") rfl), He.free_ok X G (c.fact 14 (f := .free "str") rfl), He.free_ok X G (c.fact 15 (f := .free "tuple") rfl), He.str_ok X G (c.fact 16 (f := .str "COMMA" ",") rfl), He.str_ok X G (c.fact 17 (f := .str "DASH" "-") rfl), He.str_ok X G (c.fact 18 (f := .str "MIDDLE" "for") rfl)⟩
  obtain ⟨fd0, F0⟩ := c.def_ 0 (d := Hd.ds_numbers_text) rfl
  obtain ⟨fd1, F1⟩ := c.def_ 1 (d := Hd.ds_corridor_text) rfl
  obtain ⟨fd2, F2⟩ := c.def_ 2 (d := Hd.ds_law_deck) rfl
  obtain ⟨fd3, F3⟩ := c.def_ 3 (d := Hd.ds_law_draw) rfl
  obtain ⟨fd4, F4⟩ := c.def_ 4 (d := Hd.ds_law_state) rfl
  obtain ⟨fd5, F5⟩ := c.def_ 5 (d := Hd.ds_law_corridor_text) rfl
  obtain ⟨fd6, F6⟩ := c.def_ 6 (d := Hd.ds_law) rfl
  have e := hfa.symm.trans (He.glo_ok X G (c.fact 6 (f := .glo "law") rfl))
  cases e
  refine ⟨fd6, fun s v => FunD.bindsA (ps := ["script"]) F6 (fun _ _ _ _ _ _ us hl => match us, hl with | [_], _ => rfl) s [v] rfl, fun base KB GB => ?_⟩
  have C_numbers_text : Callee P w K mg base 1 "numbers_text" 1 sp_numbers_text := c_numbers_text T F0 (He.glo_ok X G (c.fact 0 (f := .glo "numbers_text") rfl))
  have C_law_deck : Callee P w K mg base 1 "_law_deck" 1 sp_law_deck := c_law_deck T F2 (He.glo_ok X G (c.fact 2 (f := .glo "_law_deck") rfl))
  have C_law_draw_v3 : Callee P w K mg base 1 "_law_draw" 2 sp_law_draw_v3 := c_law_draw_v3 T F3 (He.glo_ok X G (c.fact 3 (f := .glo "_law_draw") rfl))
  have C_law_corridor_text : Callee P w K mg base 1 "_law_corridor_text" 1 sp_law_corridor_text := c_law_corridor_text T F5 (He.glo_ok X G (c.fact 5 (f := .glo "_law_corridor_text") rfl))
  have C_corridor_text : Callee P w K mg base 2 "corridor_text" 3 sp_corridor_text := c_corridor_text T C_numbers_text F1 (He.glo_ok X G (c.fact 1 (f := .glo "corridor_text") rfl))
  have C_law_state : Callee P w K mg base 2 "_law_state" 3 sp_law_state := c_law_state T C_law_draw_v3 F4 (He.glo_ok X G (c.fact 4 (f := .glo "_law_state") rfl))
  exact r_law_k55 T C_law_deck C_corridor_text C_law_state C_law_corridor_text F6
end LK
open PySem PySem.W PySem.Calls PyProof.Rows
theorem PySem.Challenge.cw_chairwalks_k55_corridor_texts_holds : PySem.Challenge.rw_chairwalks_k55_corridor_texts.Holds := by
  w_on; o_law
  refine HandSHeadRun.head_any (r := OpenLaw.row PySem.Challenge.rw_chairwalks_k55_corridor_texts) (q := view (OpenLaw.row PySem.Challenge.rw_chairwalks_k55_corridor_texts).prog [11]) (H := Hd.hk) (ob := Hd.ob) (M := 4000) (loose := Hd.loose) (d := HandSHeadRun.topDef (OpenLaw.row PySem.Challenge.rw_chairwalks_k55_corridor_texts).prog 11) (kwd := []) Hd.ob_eq
    (by kernel_rfl) (fun s => by kernel_rfl) Hd.run (by kernel_rfl) (by kernel_rfl) (by kernel_rfl) (by rfl) (by first | assumption | decide +kernel) (by decide +kernel) ⟨rfl, rfl, rfl, rfl, rfl, by decide +kernel⟩ ?hw ?hc
  case hw => w_witness2
  case hc =>
    refine DL.walkG (l := PySem.Challenge.rw_chairwalks_k55_corridor_texts) (n := 63) (k := 3) (x := "script") (sp := DL.sp_law_k55) rfl (by decide) (by kernel_rfl) ⟨rfl, by decide, by decide⟩ (fun ns M Φ h => ⟨ns, rfl, h⟩) ?F
    intro w mg fa h Y G hmg0
    obtain ⟨K, KX, hsn, c⟩ := Y
    have hmg : mg ("law" : PySem.Str) = some (.ref fa) := by
      have e : (HandSHeadRun.topDef (OpenLaw.row PySem.Challenge.rw_chairwalks_k55_corridor_texts).prog 11).name = ("law" : PySem.Str) := by kernel_rfl
      rw [← e]; exact hmg0
    obtain ⟨fd, hb, hF⟩ := LK.facts (P := (PySem.Challenge.rw_chairwalks_k55_corridor_texts).prog) (w := w) KX hsn G hmg c
    exact ⟨K, fd, KX, hb, hF⟩
