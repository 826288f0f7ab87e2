import PyProof.Rows.All
import HandS.ForMost
import HandS.Wide
import HandS.Exc
import HandS.IsInst
import HandS.Text
import HandS.StrMore
import HandS.ExcOwn
import HandS.ExcCtx
import HandS.Defaults
import HandS.Comp
import HandS.Iter
import KE.GoesZip
import KE.GoesMore
import KE.GoesEnum
import HandS.Deep
import HandS.Style
import HandS.TupAny
import HandS.Sort
import HandS.WordsDict
import PyProof.Rows.ListStrD
import PyProof.Rows.TupleMadeD
import PyProof.CollectStr
import KE.SortData
import PyProof.Rows.StrStep
import PyProof.SliceStr2
import KE.KRevSl
import PyProof.ReprRoads
import HandS.HeadEnd
import HandS.EndBits
import HandS.Dict
import HandS.HeadHook1
import HandS.HeadHook2
import HandS.Property
import HandS.ClsMeth
import HandS.CallLocal
import HandS.HeadNt
import PyProof.Rules2
import PyProof.CallFns
import HandS.HotCalls
import HandS.ExcIs
import PyProof.TupleIter
import KE.KExcIs
import HandS.ExcBuiltin
import PyProof.ReprLen
import PyProof.Rows.ReprOcc
import PySem.Challenge.RW_paircounts_k06_errors_of_counts
import KE.KStateDown
import Wide.All
import OpenK.AllK
import Wide.FinOn
import Lean
import HandS.WordsExc
import HandS.Head0
import HandS.Head1
import HandS.Head2
set_option Elab.async false
set_option linter.all false
set_option maxRecDepth 100000
set_option maxHeartbeats 4000000
namespace O
open PySem PySem.Spec PyProof.Rows L2
/-- data without addresses -/
inductive T where
  | non | bl (b : Bool) | int (i : Int) | str (s : List Nat) | ty (n : String) | fn (a : Addr)
  | lst (xs : List T) | tup (xs : List T) | scr (xs : List T)
  | dK (kvs : List (Key × T)) | dT (kvs : List (List Key × T))
  | ins (C : Addr) (fs : List (Str × T))
  | exc (a C : Addr) (d : Option Addr) (fs : List (Str × T))
abbrev Ad := Addr → Prop
/-- the text of these code points -/
def S (l : List Nat) : Str := ⟨l.toArray⟩
theorem S_len (l : List Nat) : (S l).length = l.length := by show l.toArray.size = l.length; exact List.size_toArray
theorem S_of (x : Str) : S x.cps.toList = x := by cases x; rfl
theorem S_inj {a b : List Nat} (h : S a = S b) : a = b := by have := congrArg (fun x : Str => x.cps.toList) h; simpa [S] using this
theorem S_append (a b : List Nat) : S a ++ S b = S (a ++ b) := by show (⟨a.toArray ++ b.toArray⟩ : Str) = ⟨(a ++ b).toArray⟩; rw [List.append_toArray]
/-- a list, a tuple of the written part -/
def KL (K : PySem.W.Frag) (a : Addr) (xs : List V) : Prop :=
  ∃ (o : Obj) (its : Array Value) (n : Nat), K.lookup a = some o ∧ o.cls = .type "list" ∧ o.dict = none ∧ o.data = .seq its n ∧ its.size ≤ sizeLine ∧ Vals xs its.toList
def KT (K : PySem.W.Frag) (a : Addr) (xs : List V) : Prop :=
  ∃ (o : Obj) (its : Array Value) (n : Nat), K.lookup a = some o ∧ o.cls = .type "tuple" ∧ o.data = .seq its n ∧ its.size ≤ sizeLine ∧ Vals xs its.toList
/-- what is known of an own class -/
structure InsK (K : PySem.W.Frag) (C : Addr) : Prop where
  cl : Cls K C
  ha : PySem.W.findIn K (.ref C) "__class__" = some (some (.builtin "object.__class__"))
  hn : PySem.W.specialIn K (.builtin "object.__class__") "__get__" = some (some (.builtin "getset_descriptor.__get__"))
  ht : PySem.W.takesIn K (.builtin "object.__class__") = some true
  hm : PySem.W.mroIn K C (.type "object") = some true
  ty : ∀ n ∈ ["int", "bool", "str", "list", "tuple", "dict"], PySem.W.kitOne K (.ref C) (.type n) = some false
  up : ∀ n ∈ ["NoneType", "int", "bool", "str", "list", "tuple", "dict"], PySem.W.kitOne K (.type n) (.ref C) = some false
mutual
/-- v stands for the tree t; no object of it is in W (those that some name owns alone) -/
inductive Is (K : PySem.W.Frag) (W : Ad) (H : Hp) : V → T → Prop
  | non : Is K W H .non .non
  | bl (b : Bool) : Is K W H (.bl b) (.bl b)
  | int (i : Int) : Is K W H (.int i) (.int i)
  | str (s : List Nat) : Is K W H (.str (S s)) (.str s)
  | ty (n : String) : Is K W H (.ty n) (.ty n)
  | fn (a : Addr) : Is K W H (.ref a) (.fn a)
  | lst {p : Addr} {xs : List V} {ts : List T} : H p = some (.lst xs) → ¬ W p → IsL K W H xs ts → Is K W H (.ref p) (.lst ts)
  | scr {p : Addr} {o : Obj} {xs : List V} {ts : List T} : H p = some (.frz o (.lst xs)) → ¬ W p → IsL K W H xs ts → Is K W H (.ref p) (.scr ts)
  | scrK {p : Addr} {xs : List V} {ts : List T} : KL K p xs → IsL K W H xs ts → Is K W H (.ref p) (.scr ts)
  | tup {p : Addr} {xs : List V} {ts : List T} : H p = some (.tup xs) → ¬ W p → IsL K W H xs ts → Is K W H (.ref p) (.tup ts)
  | tupK {p : Addr} {xs : List V} {ts : List T} : KT K p xs → IsL K W H xs ts → Is K W H (.ref p) (.tup ts)
  | dK {p : Addr} {xs : List (Key × V)} {ts : List (Key × T)} : H p = some (.dK xs) → ¬ W p → IsP K W H Key xs ts → Is K W H (.ref p) (.dK ts)
  | dT {p : Addr} {xs : List (List Key × V)} {ts : List (List Key × T)} : H p = some (.dT xs) → ¬ W p → IsP K W H (List Key) xs ts → Is K W H (.ref p) (.dT ts)
  | ins {p C dx : Addr} {xs : List (Str × V)} {ts : List (Str × T)} : InsK K C → H p = some (.ins C dx xs) → ¬ W p → IsP K W H Str xs ts → Is K W H (.ref p) (.ins C ts)
  | exc0 (a C : Addr) : Is K W H (.ref a) (.exc a C none [])
  | exc1 {a C dd : Addr} {xs : List (Str × V)} {ts : List (Str × T)} : H dd = some (.xd xs) → ¬ W dd → IsP K W H Str xs ts → Is K W H (.ref a) (.exc a C (some dd) ts)
inductive IsL (K : PySem.W.Frag) (W : Ad) (H : Hp) : List V → List T → Prop
  | nil : IsL K W H [] []
  | cons {v : V} {t : T} {vs : List V} {ts : List T} : Is K W H v t → IsL K W H vs ts → IsL K W H (v :: vs) (t :: ts)
inductive IsP (K : PySem.W.Frag) (W : Ad) (H : Hp) : (κ : Type) → List (κ × V) → List (κ × T) → Prop
  | nil {κ : Type} : IsP K W H κ [] []
  | cons {κ : Type} {k : κ} {v : V} {t : T} {vs : List (κ × V)} {ts : List (κ × T)} : Is K W H v t → IsP K W H κ vs ts → IsP K W H κ ((k, v) :: vs) ((k, t) :: ts)
end
section
variable {K : PySem.W.Frag} {W W' P : Ad} {H H' : Hp}
mutual
theorem Is.keep (hA : ∀ q o, H q = some o → ¬ P q → H' q = some o) (hP : ∀ q, P q → W q) (hW : ∀ q, W' q → W q ∨ H q = none) : ∀ {v : V} {t : T}, Is K W H v t → Is K W' H' v t
  | _, _, .non => .non
  | _, _, .bl b => .bl b
  | _, _, .int i => .int i
  | _, _, .str s => .str s
  | _, _, .ty n => .ty n
  | _, _, .fn a => .fn a
  | _, _, .lst r n l => .lst (hA _ _ r (fun z => n (hP _ z))) (fun z => (hW _ z).elim n (fun e => by rw [e] at r; cases r)) (IsL.keep hA hP hW l)
  | _, _, .scr r n l => .scr (hA _ _ r (fun z => n (hP _ z))) (fun z => (hW _ z).elim n (fun e => by rw [e] at r; cases r)) (IsL.keep hA hP hW l)
  | _, _, .tup r n l => .tup (hA _ _ r (fun z => n (hP _ z))) (fun z => (hW _ z).elim n (fun e => by rw [e] at r; cases r)) (IsL.keep hA hP hW l)
  | _, _, .tupK r l => .tupK r (IsL.keep hA hP hW l)
  | _, _, .scrK r l => .scrK r (IsL.keep hA hP hW l)
  | _, _, .dK r n l => .dK (hA _ _ r (fun z => n (hP _ z))) (fun z => (hW _ z).elim n (fun e => by rw [e] at r; cases r)) (IsP.keep hA hP hW l)
  | _, _, .dT r n l => .dT (hA _ _ r (fun z => n (hP _ z))) (fun z => (hW _ z).elim n (fun e => by rw [e] at r; cases r)) (IsP.keep hA hP hW l)
  | _, _, .ins kc r n l => .ins kc (hA _ _ r (fun z => n (hP _ z))) (fun z => (hW _ z).elim n (fun e => by rw [e] at r; cases r)) (IsP.keep hA hP hW l)
  | _, _, .exc0 a C => .exc0 a C
  | _, _, .exc1 r n l => .exc1 (hA _ _ r (fun z => n (hP _ z))) (fun z => (hW _ z).elim n (fun e => by rw [e] at r; cases r)) (IsP.keep hA hP hW l)
theorem IsL.keep (hA : ∀ q o, H q = some o → ¬ P q → H' q = some o) (hP : ∀ q, P q → W q) (hW : ∀ q, W' q → W q ∨ H q = none) : ∀ {v : List V} {t : List T}, IsL K W H v t → IsL K W' H' v t
  | _, _, .nil => .nil
  | _, _, .cons a b => .cons (Is.keep hA hP hW a) (IsL.keep hA hP hW b)
theorem IsP.keep {κ : Type} (hA : ∀ q o, H q = some o → ¬ P q → H' q = some o) (hP : ∀ q, P q → W q) (hW : ∀ q, W' q → W q ∨ H q = none) : ∀ {v : List (κ × V)} {t : List (κ × T)}, IsP K W H κ v t → IsP K W' H' κ v t
  | _, _, .nil => .nil
  | _, _, .cons a b => .cons (Is.keep hA hP hW a) (IsP.keep hA hP hW b)
end
theorem IsL.length : ∀ {xs : List V} {ts : List T}, IsL K W H xs ts → xs.length = ts.length
  | _, _, .nil => rfl
  | _, _, .cons _ b => by rw [List.length_cons, List.length_cons, b.length]
theorem IsL.get : ∀ {xs : List V} {ts : List T} {i : Nat} {t : T}, IsL K W H xs ts → ts[i]? = some t → ∃ v, xs[i]? = some v ∧ Is K W H v t
  | _, _, _, _, .nil, e => by simp at e
  | _, _, 0, _, .cons a _, e => by simp at e; subst e; exact ⟨_, rfl, a⟩
  | _, _, i + 1, _, .cons _ b, e => by obtain ⟨v, h1, h2⟩ := IsL.get (i := i) b (by simpa using e); exact ⟨v, by simpa using h1, h2⟩
theorem IsL.append : ∀ {xs ys : List V} {ts us : List T}, IsL K W H xs ts → IsL K W H ys us → IsL K W H (xs ++ ys) (ts ++ us)
  | _, _, _, _, .nil, s => s
  | _, _, _, _, .cons a b, s => .cons a (IsL.append b s)
theorem IsL.set {v : V} {t : T} (r : Is K W H v t) : ∀ {xs : List V} {ts : List T} (i : Nat), IsL K W H xs ts → IsL K W H (xs.set i v) (ts.set i t)
  | _, _, _, .nil => .nil
  | _, _, 0, .cons _ b => .cons r b
  | _, _, i + 1, .cons a b => .cons a (IsL.set r i b)
theorem IsL.take : ∀ {xs : List V} {ts : List T} (n : Nat), IsL K W H xs ts → IsL K W H (xs.take n) (ts.take n)
  | _, _, 0, _ => .nil
  | _, _, _ + 1, .nil => .nil
  | _, _, n + 1, .cons a b => .cons a (IsL.take n b)
theorem IsL.drop : ∀ {xs : List V} {ts : List T} (n : Nat), IsL K W H xs ts → IsL K W H (xs.drop n) (ts.drop n)
  | _, _, 0, r => r
  | _, _, _ + 1, .nil => .nil
  | _, _, n + 1, .cons _ b => IsL.drop n b
theorem IsL.reverse {xs : List V} {ts : List T} (h : IsL K W H xs ts) : IsL K W H xs.reverse ts.reverse := by
  induction xs generalizing ts with
  | nil => cases h; exact .nil
  | cons x xs ih => cases h with | cons a b => rw [List.reverse_cons, List.reverse_cons]; exact (ih b).append (.cons a .nil)
theorem IsL.rep {xs : List V} {ts : List T} (h : IsL K W H xs ts) : ∀ k : Nat, IsL K W H (List.replicate k xs).flatten (List.replicate k ts).flatten
  | 0 => .nil
  | k + 1 => by
    rw [List.replicate_succ, List.replicate_succ, List.flatten_cons, List.flatten_cons]
    exact h.append (IsL.rep h k)
end
/-- the object at p and its tree; p is owned: what is within is shared -/
def OwnAt (K : PySem.W.Frag) (W : Ad) (H : Hp) (p : Addr) : T → Prop
  | .lst ts => ∃ xs, H p = some (.lst xs) ∧ IsL K W H xs ts
  | .dK ts => ∃ xs, H p = some (.dK xs) ∧ IsP K W H Key xs ts
  | .dT ts => ∃ xs, H p = some (.dT xs) ∧ IsP K W H (List Key) xs ts
  | .ins C ts => InsK K C ∧ ∃ dx xs, H p = some (.ins C dx xs) ∧ IsP K W H Str xs ts
  | _ => False
theorem OwnAt.some {K : PySem.W.Frag} {W : Ad} {H : Hp} {p : Addr} {t : T} (h : OwnAt K W H p t) : ∃ o, H p = some o := by
  cases t with
  | lst ts => obtain ⟨xs, e, _⟩ := h; exact ⟨_, e⟩
  | dK ts => obtain ⟨xs, e, _⟩ := h; exact ⟨_, e⟩
  | dT ts => obtain ⟨xs, e, _⟩ := h; exact ⟨_, e⟩
  | ins C ts => obtain ⟨_, dx, xs, e, _⟩ := h; exact ⟨_, e⟩
  | _ => exact h.elim
/-- the object itself stays, what is within is kept -/
theorem OwnAt.keep {K : PySem.W.Frag} {W W' P : Ad} {H H' : Hp} {p : Addr} {t : T} (hA : ∀ q o, H q = Option.some o → ¬ P q → H' q = Option.some o) (hP : ∀ q, P q → W q) (hW : ∀ q, W' q → W q ∨ H q = none)
    (hp : ∀ o, H p = Option.some o → H' p = Option.some o) (h : OwnAt K W H p t) : OwnAt K W' H' p t := by
  cases t with
  | lst ts => obtain ⟨xs, e, l⟩ := h; exact ⟨xs, hp _ e, l.keep hA hP hW⟩
  | dK ts => obtain ⟨xs, e, l⟩ := h; exact ⟨xs, hp _ e, l.keep hA hP hW⟩
  | dT ts => obtain ⟨xs, e, l⟩ := h; exact ⟨xs, hp _ e, l.keep hA hP hW⟩
  | ins C ts => obtain ⟨kc, dx, xs, e, l⟩ := h; exact ⟨kc, dx, xs, hp _ e, l.keep hA hP hW⟩
  | _ => exact h.elim
/-- W without p -/
def less (W : Ad) (p : Addr) : Ad := fun q => W q ∧ q ≠ p
theorem less_sub {W : Ad} {H : Hp} {p : Addr} : ∀ q, less W p q → W q ∨ H q = none := fun _ h => .inl h.1
theorem OwnAt.is {K : PySem.W.Frag} {W : Ad} {H : Hp} {p : Addr} {t : T} (h : OwnAt K W H p t) : Is K (less W p) H (.ref p) t := by
  have k : ∀ q o, H q = Option.some o → ¬ (fun _ : Addr => False) q → H q = Option.some o := fun _ _ e _ => e
  have k2 : ∀ q, (fun _ : Addr => False) q → W q := fun _ e => e.elim
  have n : ¬ less W p p := fun z => z.2 rfl
  cases t with
  | lst ts => obtain ⟨xs, e, l⟩ := h; exact .lst e n (l.keep k k2 less_sub)
  | dK ts => obtain ⟨xs, e, l⟩ := h; exact .dK e n (l.keep k k2 less_sub)
  | dT ts => obtain ⟨xs, e, l⟩ := h; exact .dT e n (l.keep k k2 less_sub)
  | ins C ts => obtain ⟨kc, dx, xs, e, l⟩ := h; exact .ins kc e n (l.keep k k2 less_sub)
  | _ => exact h.elim
theorem Is.weak {K : PySem.W.Frag} {W W' : Ad} {H : Hp} {v : V} {t : T} (h : Is K W H v t) (s : ∀ q, W' q → W q) : Is K W' H v t :=
  h.keep (P := fun _ => False) (fun _ _ e _ => e) (fun _ e => e.elim) fun q z => .inl (s q z)
theorem OwnAt.weak {K : PySem.W.Frag} {W W' : Ad} {H : Hp} {p : Addr} {t : T} (h : OwnAt K W H p t) (s : ∀ q, W' q → W q) : OwnAt K W' H p t :=
  h.keep (P := fun _ => False) (fun _ _ e _ => e) (fun _ e => e.elim) (fun q z => .inl (s q z)) fun _ e => e
inductive Sl where
  | no | sh (t : T) | ow (t : T) | io (t : T) | sd (t : T)
abbrev Rho := List Sl
def Sl.own : Sl → Prop
  | .ow _ => True
  | .io _ => True
  | _ => False
/-- a parameter that the caller owns: never stored anew -/
def Sl.pin : Sl → Bool
  | .io _ => true
  | .sd _ => true
  | _ => false
def RepS (K : PySem.W.Frag) (W : Ad) (H : Hp) : Option V → Sl → Prop
  | _, .no => True
  | o, .sh t => ∃ v, o = some v ∧ Is K W H v t
  | o, .sd t => ∃ p, o = some (.ref p) ∧ (¬ W p ∧ ∃ ob, H p = some ob) ∧ Is K W H (.ref p) t
  | o, .ow t => ∃ p, o = some (.ref p) ∧ W p ∧ OwnAt K W H p t
  | o, .io t => ∃ p, o = some (.ref p) ∧ W p ∧ OwnAt K W H p t
abbrev at_ (σ : L2.St) (i : Nat) : Option V := σ.getD i none
abbrev sl_ (ρ : Rho) (i : Nat) : Sl := ρ.getD i .no
structure Rep (K : PySem.W.Frag) (W : Ad) (H : Hp) (σ : L2.St) (ρ : Rho) : Prop where
  len : ρ.length = σ.length
  sl : ∀ i, RepS K W H (at_ σ i) (sl_ ρ i)
  inj : ∀ i j p, (sl_ ρ i).own → (sl_ ρ j).own → at_ σ i = some (.ref p) → at_ σ j = some (.ref p) → i = j
  wd : ∀ p, W p → ∃ o, H p = some o
/-- the roots that the frame owns -/
def Rt (σ : L2.St) (ρ : Rho) : Ad := fun p => ∃ i, (sl_ ρ i).own ∧ at_ σ i = some (.ref p)
theorem RepS.own {K : PySem.W.Frag} {W : Ad} {H : Hp} {o : Option V} {s : Sl} (h : RepS K W H o s) (w : s.own) {p : Addr} (e : o = some (.ref p)) : W p := by
  cases s with
  | ow t => obtain ⟨q, e', hw, _⟩ := h; rw [e'] at e; cases e; exact hw
  | io t => obtain ⟨q, e', hw, _⟩ := h; rw [e'] at e; cases e; exact hw
  | _ => exact w.elim
theorem Rep.rt {K : PySem.W.Frag} {W : Ad} {H : Hp} {σ : L2.St} {ρ : Rho} (h : Rep K W H σ ρ) : ∀ p, Rt σ ρ p → W p := fun p ⟨i, w, e⟩ => (h.sl i).own w e
/-- from (P, W, H) to (P', W', H'): only P's objects and new ones may have changed -/
structure Step (P W : Ad) (H : Hp) (P' W' : Ad) (H' : Hp) : Prop where
  keep : ∀ p o, H p = some o → ¬ P p → H' p = some o
  dom : ∀ p o, H p = some o → ∃ o', H' p = some o'
  stay : ∀ p, W p → ¬ P p → W' p
  new : ∀ p, W' p → W p ∨ H p = none
  newP : ∀ p, P' p → P p ∨ H p = none
theorem Step.refl (P W : Ad) (H : Hp) : Step P W H P W H := ⟨fun _ _ e _ => e, fun _ o e => ⟨o, e⟩, fun _ h _ => h, fun _ h => .inl h, fun _ h => .inl h⟩
theorem Step.trans {P W P1 W1 P2 W2 : Ad} {H H1 H2 : Hp} (wd : ∀ p, W p → ∃ o, H p = some o) (a : Step P W H P1 W1 H1) (b : Step P1 W1 H1 P2 W2 H2) : Step P W H P2 W2 H2 where
  keep := fun p o e n => b.keep p o (a.keep p o e n) fun z => (a.newP p z).elim n fun q => by rw [e] at q; cases q
  dom := fun p o e => by obtain ⟨o1, e1⟩ := a.dom p o e; exact b.dom p o1 e1
  stay := fun p h n => b.stay p (a.stay p h n) fun z => (a.newP p z).elim n fun q => by obtain ⟨o, e⟩ := wd p h; rw [e] at q; cases q
  new := fun p h => (b.new p h).elim (a.new p) fun q => .inr (by
    cases e : H p with
    | none => rfl
    | some o => obtain ⟨o1, e1⟩ := a.dom p o e; rw [q] at e1; cases e1)
  newP := fun p h => (b.newP p h).elim (a.newP p) fun q => .inr (by
    cases e : H p with
    | none => rfl
    | some o => obtain ⟨o1, e1⟩ := a.dom p o e; rw [q] at e1; cases e1)
theorem Step.subP {P W P' W' P'' : Ad} {H H' : Hp} (a : Step P W H P' W' H') (h : ∀ p, P'' p → P' p) : Step P W H P'' W' H' := ⟨a.keep, a.dom, a.stay, a.new, fun p z => a.newP p (h p z)⟩
theorem Step.none_of {P W P' W' : Ad} {H H' : Hp} (a : Step P W H P' W' H') {p : Addr} (e : H' p = none) : H p = none := by
  cases q : H p with
  | none => rfl
  | some o => obtain ⟨o1, e1⟩ := a.dom p o q; rw [e] at e1; cases e1
theorem Is.step {K : PySem.W.Frag} {P W P' W' : Ad} {H H' : Hp} {v : V} {t : T} (h : Is K W H v t) (s : Step P W H P' W' H') (hP : ∀ q, P q → W q) : Is K W' H' v t := h.keep s.keep hP s.new
theorem IsL.step {K : PySem.W.Frag} {P W P' W' : Ad} {H H' : Hp} {v : List V} {t : List T} (h : IsL K W H v t) (s : Step P W H P' W' H') (hP : ∀ q, P q → W q) : IsL K W' H' v t := h.keep s.keep hP s.new
end O
namespace O
open PySem PySem.Spec PyProof.Rows L2
/-- what is wanted: of a value, of an exception (its class, its fields) -/
structure Po (α : Type) where
  ok : α → Rho → Prop
  ex : Addr → List (Str × T) → Rho → Prop
abbrev Dn (α : Type) := Rho → Po α → Prop
def Mn {α : Type} (d : Dn α) : Prop := ∀ ρ Q Q', d ρ Q → (∀ x ρ', Q.ok x ρ' → Q'.ok x ρ') → (∀ c f ρ', Q.ex c f ρ' → Q'.ex c f ρ') → d ρ Q'
/-- the value of an expression: a new object that nobody else has, or a shared value -/
abbrev Rv := Bool × T
/-- an operand: a value, or the object of a name -/
inductive Hn where
  | tm (t : T) | sl (i : Nat)
def Sl.tr : Sl → Option T
  | .no => none
  | .sh t => some t
  | .ow t => some t
  | .io t => some t
  | .sd t => some t
/-- the operand's tree, as it is now -/
def Hn.get (ρ : Rho) : Hn → Option T
  | .tm t => some t
  | .sl i => (sl_ ρ i).tr
def Hn.is (ρ : Rho) (h : Hn) (t : T) : Prop := h.get ρ = some t
/-- the exception's own dict holds the fields -/
def ExD (K : PySem.W.Frag) (W : Ad) (H : Hp) : Option Addr → List (Str × T) → Prop
  | none, fs => fs = []
  | some d, fs => fs ≠ [] ∧ ∃ xs, H d = some (.xd xs) ∧ ¬ W d ∧ IsP K W H Str xs fs
section
variable (K : PySem.W.Frag)
/-- extra roots of a value -/
def xr (v : V) (r : Rv) : Ad := fun p => r.1 = true ∧ v = .ref p
def relE (σ : L2.St) (ρ' : Rho) (W' : Ad) (H' : Hp) (v : V) (r : Rv) : Prop :=
  if r.1 = true then ∃ p, v = .ref p ∧ W' p ∧ OwnAt K W' H' p r.2 ∧ ¬ Rt σ ρ' p else Is K W' H' v r.2
def relO (σ : L2.St) (ρ' : Rho) (W' : Ad) (H' : Hp) (v : V) : Hn → Prop
  | .tm t => Is K W' H' v t
  | .sl i => at_ σ i = some v
def relB (_ : L2.St) (_ : Rho) (_ : Ad) (_ : Hp) (b : Bool) (c : Bool) : Prop := b = c
def relOs (σ : L2.St) (ρ' : Rho) (W' : Ad) (H' : Hp) (vs : List V) (hs : List Hn) : Prop := Paired (relO K σ ρ' W' H') vs hs
def nox {α β : Type} (_ : β) (_ : α) : Ad := fun _ => False
def rooted (a b : Ad) : Ad := fun p => a p ∨ b p
/-- the parameters that the caller owns stay such -/
def Pn (ρ ρ' : Rho) : Prop := ∀ i, (sl_ ρ i).pin = true → (sl_ ρ' i).pin = true
theorem Pn.refl (ρ : Rho) : Pn ρ ρ := fun _ h => h
theorem Pn.trans {a b c : Rho} (x : Pn a b) (y : Pn b c) : Pn a c := fun i h => y i (x i h)
/-- the wish over the heap -/
def cpost {α β : Type} (rel : L2.St → Rho → Ad → Hp → β → α → Prop) (ext : β → α → Ad) (X : WX) (σ : L2.St) (ρ : Rho) (W : Ad) (H : Hp) (Q : β → Hp → Prop) : Po α where
  ok := fun a ρ' => ∀ b W' H', rel σ ρ' W' H' b a → Rep K W' H' σ ρ' → Step (Rt σ ρ) W H (rooted (Rt σ ρ') (ext b a)) W' H' → Pn ρ ρ' → Q b H'
  ex := fun C fs ρ' => ∀ d W' H', ExD K W' H' d fs → Rep K W' H' σ ρ' → Step (Rt σ ρ) W H (Rt σ ρ') W' H' → Pn ρ ρ' → X (.ref C) d σ H'
def RD {α β : Type} (rel : L2.St → Rho → Ad → Hp → β → α → Prop) (ext : β → α → Ad) (X : WX) (d : Dn α) : L2.St → Hp → (β → Hp → Prop) → Prop :=
  fun σ H Q => ∃ W ρ, Rep K W H σ ρ ∧ d ρ (cpost K rel ext X σ ρ W H Q)
end
/-- an expression, an operand, a test, an argument list -/
structure XE (X : Cx) (Wx : WX) (e : Expr) (d : Dn Rv) : Prop where
  pe : PE X e (RD X.K (relE X.K) xr Wx d)
  mn : Mn d
structure XO (X : Cx) (Wx : WX) (e : Expr) (d : Dn Hn) : Prop where
  pe : PE X e (RD X.K (relO X.K) nox Wx d)
  mn : Mn d
structure XT (X : Cx) (Wx : WX) (e : Expr) (d : Dn Bool) : Prop where
  pt : PT X e (RD X.K relB nox Wx d)
  mn : Mn d
structure XA (X : Cx) (Wx : WX) (es : List Expr) (d : Dn (List Hn)) : Prop where
  pa : PA X es (RD X.K (relOs X.K) nox Wx d)
  mn : Mn d
theorem PE.imp {X : Cx} {e : Expr} {t t' : TE} (h : PE X e t) (i : ∀ σ H Q, t' σ H Q → t σ H Q) : PE X e t' := ⟨fun pins s σ H Q I q => h.run pins s σ H Q I (i σ H Q q)⟩
theorem PT.imp {X : Cx} {e : Expr} {t t' : TT} (h : PT X e t) (i : ∀ σ H Q, t' σ H Q → t σ H Q) : PT X e t' := ⟨fun pins s σ H Q I q => h.run pins s σ H Q I (i σ H Q q)⟩
theorem PW.imp {X : Cx} {e : Expr} {t t' : TT} (h : PW X e t) (i : ∀ σ H Q, t' σ H Q → t σ H Q) : PW X e t' := ⟨fun wh pins s σ H Q I q => h.run wh pins s σ H Q I (i σ H Q q)⟩
theorem PA.imp {X : Cx} {e : List Expr} {t t' : TA} (h : PA X e t) (i : ∀ σ H Q, t' σ H Q → t σ H Q) : PA X e t' := ⟨fun pos pins s σ H Q I q => h.run pos pins s σ H Q I (i σ H Q q)⟩
section
variable {K : PySem.W.Frag} {Wx : WX} {σ : L2.St} {ρ ρ1 : Rho} {W W1 : Ad} {H H1 : Hp}
theorem rooted_nox {α β : Type} {a : Ad} {x : β} {y : α} : rooted a (nox x y) = a := by
  funext p; exact propext ⟨fun h => h.elim id fun z => z.elim, .inl⟩
/-- a further part runs behind the step st: the wish k is taken up by Q1 -/
theorem rd_next {α β γ δ : Type} {rel : L2.St → Rho → Ad → Hp → β → α → Prop} {ext : β → α → Ad} {rel1 : L2.St → Rho → Ad → Hp → δ → γ → Prop} {ext1 : δ → γ → Ad} {Q : β → Hp → Prop} {Q1 : δ → Hp → Prop} {b : Dn γ} {k : γ → Rho → Prop}
    (mb : Mn b) (rep : Rep K W H σ ρ) (st : Step (Rt σ ρ) W H (Rt σ ρ1) W1 H1) (pn : Pn ρ ρ1) (rep1 : Rep K W1 H1 σ ρ1) (h : b ρ1 ⟨k, (cpost K rel ext Wx σ ρ W H Q).ex⟩)
    (hk : ∀ y ρ2, k y ρ2 → ∀ v W2 H2, rel1 σ ρ2 W2 H2 v y → Rep K W2 H2 σ ρ2 → Step (Rt σ ρ1) W1 H1 (rooted (Rt σ ρ2) (ext1 v y)) W2 H2 → Step (Rt σ ρ) W H (rooted (Rt σ ρ2) (ext1 v y)) W2 H2 → Pn ρ ρ2 → Q1 v H2) :
    RD K rel1 ext1 Wx b σ H1 Q1 :=
  ⟨W1, ρ1, rep1, mb ρ1 _ _ h (fun y ρ2 z v W2 H2 r rp s p2 => hk y ρ2 z v W2 H2 r rp s (st.trans rep.wd s) (pn.trans p2)) fun C fs ρ' z d W' H' e rp s p2 => z d W' H' e rp (st.trans rep.wd s) (pn.trans p2)⟩
/-- the first part -/
theorem rd_first {α β γ δ : Type} {rel : L2.St → Rho → Ad → Hp → β → α → Prop} {ext : β → α → Ad} {rel1 : L2.St → Rho → Ad → Hp → δ → γ → Prop} {ext1 : δ → γ → Ad} {Q : β → Hp → Prop} {Q1 : δ → Hp → Prop} {b : Dn γ} {k : γ → Rho → Prop}
    (mb : Mn b) (rep : Rep K W H σ ρ) (h : b ρ ⟨k, (cpost K rel ext Wx σ ρ W H Q).ex⟩)
    (hk : ∀ y ρ2, k y ρ2 → ∀ v W2 H2, rel1 σ ρ2 W2 H2 v y → Rep K W2 H2 σ ρ2 → Step (Rt σ ρ) W H (rooted (Rt σ ρ2) (ext1 v y)) W2 H2 → Pn ρ ρ2 → Q1 v H2) :
    RD K rel1 ext1 Wx b σ H Q1 := rd_next mb rep (Step.refl _ _ _) (Pn.refl _) rep h fun y ρ2 z v W2 H2 r rp _ s => hk y ρ2 z v W2 H2 r rp s
/-- a value is shared from here on -/
theorem demote {P0 W0 : Ad} {H0 : Hp} {v : V} {rv : Rv} (wd0 : ∀ p, W0 p → ∃ o, H0 p = some o) (r : relE K σ ρ1 W1 H1 v rv) (rep : Rep K W1 H1 σ ρ1) (st : Step P0 W0 H0 (rooted (Rt σ ρ1) (xr v rv)) W1 H1) :
    ∃ W2, (∀ q, W2 q → W1 q) ∧ Is K W2 H1 v rv.2 ∧ Rep K W2 H1 σ ρ1 ∧ Step P0 W0 H0 (Rt σ ρ1) W2 H1 := by
  unfold relE at r
  by_cases c : rv.1 = true
  · rw [if_pos c] at r
    obtain ⟨p, e, hw, ho, hn⟩ := r
    refine ⟨less W1 p, fun q z => z.1, by rw [e]; exact ho.is, ⟨rep.len, fun i => ?_, rep.inj, fun q z => rep.wd q z.1⟩, ⟨st.keep, st.dom, fun q z n => ⟨st.stay q z n, fun eq => ?_⟩, fun q z => st.new q z.1, fun q z => st.newP q (.inl z)⟩⟩
    · have h := rep.sl i
      cases q : sl_ ρ1 i with
      | no => trivial
      | sh t => rw [q] at h; obtain ⟨u, e1, e2⟩ := h; exact ⟨u, e1, e2.weak fun _ z => z.1⟩
      | sd t => rw [q] at h; obtain ⟨u, e1, e2, e3⟩ := h; exact ⟨u, e1, ⟨fun z => e2.1 z.1, e2.2⟩, e3.weak fun _ z => z.1⟩
      | ow t => rw [q] at h; obtain ⟨u, e1, e2, e3⟩ := h; exact ⟨u, e1, ⟨e2, fun z => hn ⟨i, by rw [q]; trivial, by rw [← z]; exact e1⟩⟩, e3.weak fun _ z => z.1⟩
      | io t => rw [q] at h; obtain ⟨u, e1, e2, e3⟩ := h; exact ⟨u, e1, ⟨e2, fun z => hn ⟨i, by rw [q]; trivial, by rw [← z]; exact e1⟩⟩, e3.weak fun _ z => z.1⟩
    · rcases st.newP q (.inr ⟨c, by rw [eq]; exact e⟩) with z1 | z1
      · exact n z1
      · obtain ⟨o, z2⟩ := wd0 q z; rw [z1] at z2; cases z2
  · rw [if_neg c] at r
    exact ⟨W1, fun _ z => z, r, rep, st.subP fun p z => .inl z⟩
theorem Step.noxx {α β : Type} {P0 W0 : Ad} {H0 : Hp} {P : Ad} {x : β} {y : α} (st : Step P0 W0 H0 (rooted P (nox x y)) W1 H1) : Step P0 W0 H0 P W1 H1 := st.subP fun p z => .inl z
theorem Step.toNox {α β : Type} {P0 W0 : Ad} {H0 : Hp} {P : Ad} {x : β} {y : α} (st : Step P0 W0 H0 P W1 H1) : Step P0 W0 H0 (rooted P (nox x y)) W1 H1 := by rw [rooted_nox]; exact st
theorem relE_sh {v : V} {t : T} (h : Is K W H v t) : relE K σ ρ W H v (false, t) := by unfold relE; rw [if_neg (fun z : false = true => Bool.noConfusion z)]; exact h
theorem xr_sh {v : V} {t : T} {P : Ad} : rooted P (xr v (false, t)) = P := by
  funext p
  exact propext ⟨fun h => h.elim id fun z => Bool.noConfusion z.1, fun h => Or.inl h⟩
end
def dVar (i : Nat) : Dn Rv := fun ρ Q => match sl_ ρ i with
  | .no => False
  | .sh t => Q.ok (false, t) ρ
  | .sd t => Q.ok (false, t) ρ
  | .ow t => Q.ok (false, t) (ρ.set i (.sh t))
  | .io t => Q.ok (false, t) (ρ.set i (.sd t))
def dNm (i : Nat) : Dn Hn := fun ρ Q => (sl_ ρ i).tr.isSome = true ∧ Q.ok (.sl i) ρ
theorem mn_var (i : Nat) : Mn (dVar i) := fun ρ Q Q' h k _ => by
  unfold dVar at h ⊢
  cases q : sl_ ρ i <;> rw [q] at h <;> first | exact h.elim | exact k _ _ h
theorem mn_nm (i : Nat) : Mn (dNm i) := fun ρ Q Q' h k _ => ⟨h.1, k _ _ h.2⟩
theorem at_get {σ : L2.St} {i : Nat} {v : V} : at_ σ i = some v ↔ σ[i]? = some (some v) := by
  unfold at_
  rw [List.getD_eq_getElem?_getD]
  cases σ[i]? with
  | none => simp
  | some o => simp
theorem sl_set {ρ : Rho} {i j : Nat} {s : Sl} : sl_ (ρ.set i s) j = if i = j ∧ i < ρ.length then s else sl_ ρ j := by
  unfold sl_
  rw [List.getD_eq_getElem?_getD, List.getD_eq_getElem?_getD, List.getElem?_set]
  by_cases h : i = j
  · subst h
    by_cases l : i < ρ.length
    · simp [l]
    · simp [l]
  · simp [h]
theorem pn_set {ρ : Rho} {i : Nat} {s : Sl} (h : (sl_ ρ i).pin = true → s.pin = true) : Pn ρ (ρ.set i s) := fun j p => by
  rw [sl_set]
  by_cases c : i = j ∧ i < ρ.length
  · rw [if_pos c]; exact h (by rw [c.1]; exact p)
  · rw [if_neg c]; exact p
theorem at_set {σ : L2.St} {i j : Nat} {s : Option V} : at_ (σ.set i s) j = if i = j ∧ i < σ.length then s else at_ σ j := by
  unfold at_
  rw [List.getD_eq_getElem?_getD, List.getD_eq_getElem?_getD, List.getElem?_set]
  by_cases h : i = j
  · subst h
    by_cases l : i < σ.length
    · simp [l]
    · simp [l]
  · simp [h]
section
variable {K : PySem.W.Frag} {σ : L2.St} {ρ : Rho} {W : Ad} {H : Hp}
theorem RepS.less {o : Option V} {s : Sl} {p : Addr} (h : RepS K W H o s) (n : s.own → o ≠ some (.ref p)) : RepS K (less W p) H o s := by
  cases s with
  | no => trivial
  | sh t => obtain ⟨u, e1, e2⟩ := h; exact ⟨u, e1, e2.weak fun _ z => z.1⟩
  | sd t => obtain ⟨u, e1, e2, e3⟩ := h; exact ⟨u, e1, ⟨fun z => e2.1 z.1, e2.2⟩, e3.weak fun _ z => z.1⟩
  | ow t => obtain ⟨u, e1, e2, e3⟩ := h; exact ⟨u, e1, ⟨e2, fun z => n trivial (by rw [← z]; exact e1)⟩, e3.weak fun _ z => z.1⟩
  | io t => obtain ⟨u, e1, e2, e3⟩ := h; exact ⟨u, e1, ⟨e2, fun z => n trivial (by rw [← z]; exact e1)⟩, e3.weak fun _ z => z.1⟩
/-- an owned name's object is shared from here on -/
theorem Rep.share {i : Nat} {s' : Sl} {p : Addr} (r : Rep K W H σ ρ) (hi : (sl_ ρ i).own) (hp : at_ σ i = some (.ref p)) (hs : ¬ s'.own) (h' : RepS K (O.less W p) H (at_ σ i) s') :
    Rep K (O.less W p) H σ (ρ.set i s') ∧ Step (Rt σ ρ) W H (Rt σ (ρ.set i s')) (O.less W p) H := by
  have own' : ∀ j, (sl_ (ρ.set i s') j).own → j ≠ i ∧ (sl_ ρ j).own := fun j w => by
    rw [sl_set] at w
    by_cases c : i = j ∧ i < ρ.length
    · rw [if_pos c] at w; exact (hs w).elim
    · rw [if_neg c] at w
      refine ⟨fun e => ?_, w⟩
      subst e
      have l : ¬ j < ρ.length := fun z => c ⟨rfl, z⟩
      have : sl_ ρ j = .no := by unfold sl_; rw [List.getD_eq_getElem?_getD, List.getElem?_eq_none (by omega)]; rfl
      rw [this] at w; exact w
  refine ⟨⟨by rw [List.length_set]; exact r.len, fun j => ?_, fun a b q wa wb ea eb => r.inj a b q (own' a wa).2 (own' b wb).2 ea eb, fun q z => r.wd q z.1⟩, ⟨fun _ _ e _ => e, fun _ o e => ⟨o, e⟩, fun q z n => ⟨z, fun e => n ⟨i, hi, by rw [e]; exact hp⟩⟩, fun q z => .inl z.1, fun q ⟨j, w, e⟩ => .inl ⟨j, (own' j w).2, e⟩⟩⟩
  rw [sl_set]
  by_cases c : i = j ∧ i < ρ.length
  · rw [if_pos c, ← c.1]; exact h'
  · rw [if_neg c]
    refine (r.sl j).less fun w e => ?_
    have := r.inj i j p hi w hp e
    subst this
    have l : ¬ i < ρ.length := fun z => c ⟨rfl, z⟩
    have : sl_ ρ i = .no := by unfold sl_; rw [List.getD_eq_getElem?_getD, List.getElem?_eq_none (by omega)]; rfl
    rw [this] at w; exact w
theorem Rep.shared {i : Nat} {t : T} (r : Rep K W H σ ρ) (h : sl_ ρ i = .ow t ∨ sl_ ρ i = .io t) :
    ∃ v s' W', at_ σ i = some v ∧ s' = (if (sl_ ρ i).pin = true then Sl.sd t else Sl.sh t) ∧ Is K W' H v t ∧ Rep K W' H σ (ρ.set i s') ∧ Step (Rt σ ρ) W H (Rt σ (ρ.set i s')) W' H := by
  have hr := r.sl i
  rcases h with h | h
  · rw [h] at hr
    obtain ⟨p, e1, e2, e3⟩ := hr
    have w : (sl_ ρ i).own := by rw [h]; trivial
    obtain ⟨a, b⟩ := r.share (s' := .sh t) w e1 (fun z => z) ⟨_, e1, e3.is⟩
    exact ⟨_, .sh t, _, e1, by rw [h]; rfl, e3.is, a, b⟩
  · rw [h] at hr
    obtain ⟨p, e1, e2, e3⟩ := hr
    have w : (sl_ ρ i).own := by rw [h]; trivial
    obtain ⟨a, b⟩ := r.share (s' := .sd t) w e1 (fun z => z) ⟨_, e1, ⟨fun z => z.2 rfl, e3.some⟩, e3.is⟩
    exact ⟨_, .sd t, _, e1, by rw [h]; rfl, e3.is, a, b⟩
end
section
variable {X : Cx} {Wx : WX}
theorem xe_name (i : Nat) {x : Str} {pos : Pos} (hN : X.N[i]? = some x := by rfl) (hv : Vis X.env.scope x := by first | exact Or.inl rfl | exact Or.inr (Or.inl rfl) | exact Or.inr (Or.inr rfl)) (hd : (x == ("__debug__" : Str)) = false := by decide)
    (hcd : (x == ("__classdict__" : Str)) = false := by decide) : XE X Wx (.Name x pos) (dVar i) := by
  refine ⟨PE.imp (pv i hN hv hd hcd) fun σ H Q ⟨W, ρ, rep, h⟩ => ?_, mn_var i⟩
  have hs := rep.sl i
  unfold dVar at h
  cases q : sl_ ρ i with
  | no => rw [q] at h; exact h.elim
  | sh t =>
    rw [q] at h hs
    obtain ⟨v, e, hi⟩ := hs
    exact ⟨v, at_get.mp e, h v W H (relE_sh hi) rep (by rw [xr_sh]; exact Step.refl _ _ _) (Pn.refl _)⟩
  | sd t =>
    rw [q] at h hs
    obtain ⟨p, e, n, hi⟩ := hs
    exact ⟨.ref p, at_get.mp e, h _ W H (relE_sh hi) rep (by rw [xr_sh]; exact Step.refl _ _ _) (Pn.refl _)⟩
  | ow t =>
    obtain ⟨v, s', W', e, e2, hi, rp, st⟩ := rep.shared (.inl q)
    rw [q] at h e2
    have e2 : s' = .sh t := e2
    subst e2
    exact ⟨v, at_get.mp e, h v W' H (relE_sh hi) rp (by rw [xr_sh]; exact st) (pn_set fun z => by rw [q] at z; cases z)⟩
  | io t =>
    obtain ⟨v, s', W', e, e2, hi, rp, st⟩ := rep.shared (.inr q)
    rw [q] at h e2
    have e2 : s' = .sd t := e2
    subst e2
    exact ⟨v, at_get.mp e, h v W' H (relE_sh hi) rp (by rw [xr_sh]; exact st) (pn_set fun _ => rfl)⟩
theorem xo_name (i : Nat) {x : Str} {pos : Pos} (hN : X.N[i]? = some x := by rfl) (hv : Vis X.env.scope x := by first | exact Or.inl rfl | exact Or.inr (Or.inl rfl) | exact Or.inr (Or.inr rfl)) (hd : (x == ("__debug__" : Str)) = false := by decide)
    (hcd : (x == ("__classdict__" : Str)) = false := by decide) : XO X Wx (.Name x pos) (dNm i) := by
  refine ⟨PE.imp (pv i hN hv hd hcd) fun σ H Q ⟨W, ρ, rep, h1, h⟩ => ?_, mn_nm i⟩
  have hs := rep.sl i
  have : ∃ v, at_ σ i = some v := by
    cases q : sl_ ρ i with
    | no => rw [q] at h1; cases h1
    | sh t => rw [q] at hs; obtain ⟨v, e, _⟩ := hs; exact ⟨_, e⟩
    | sd t => rw [q] at hs; obtain ⟨v, e, _⟩ := hs; exact ⟨_, e⟩
    | ow t => rw [q] at hs; obtain ⟨v, e, _⟩ := hs; exact ⟨_, e⟩
    | io t => rw [q] at hs; obtain ⟨v, e, _⟩ := hs; exact ⟨_, e⟩
  obtain ⟨v, e⟩ := this
  exact ⟨v, at_get.mp e, h v W H e rep (by rw [rooted_nox]; exact Step.refl _ _ _) (Pn.refl _)⟩
/-- a value as an operand -/
def dTm (d : Dn Rv) : Dn Hn := fun ρ Q => d ρ ⟨fun r ρ' => Q.ok (.tm r.2) ρ', Q.ex⟩
theorem mn_tm {d : Dn Rv} (m : Mn d) : Mn (dTm d) := fun ρ Q Q' h k e => m ρ _ _ h (fun r ρ' => k _ _) e
theorem xo_val {e : Expr} {d : Dn Rv} (h : XE X Wx e d) : XO X Wx e (dTm d) := by
  refine ⟨PE.imp h.pe fun σ H Q ⟨W, ρ, rep, q⟩ => ?_, mn_tm h.mn⟩
  refine rd_first h.mn rep q fun r ρ2 k v W2 H2 rl rp st pn => ?_
  obtain ⟨W3, s, i, rp3, st3⟩ := demote rep.wd rl rp st
  exact k v W3 H2 i rp3 st3.toNox pn
def dC (t : T) : Dn Rv := fun ρ Q => Q.ok (false, t) ρ
theorem mn_c (t : T) : Mn (dC t) := fun ρ Q Q' h k _ => k _ _ h
theorem xe_c {e : Expr} {v : V} {t : T} (h : PE X e (tC v)) (hi : ∀ W H, Is X.K W H v t) : XE X Wx e (dC t) :=
  ⟨PE.imp h fun σ H Q ⟨W, ρ, rep, q⟩ => q v W H (relE_sh (hi W H)) rep (by rw [xr_sh]; exact Step.refl _ _ _) (Pn.refl _), mn_c t⟩
theorem xe_int {i : Int} {j : Nat} {pos : Pos} : XE X Wx (.Constant (.int i) j pos) (dC (.int i)) := xe_c pe_int fun _ _ => .int i
theorem xe_bl {b : Bool} {j : Nat} {pos : Pos} : XE X Wx (.Constant (.bool b) j pos) (dC (.bl b)) := xe_c pe_bl fun _ _ => .bl b
theorem xe_non {j : Nat} {pos : Pos} : XE X Wx (.Constant .none j pos) (dC .non) := xe_c pe_non fun _ _ => .non
theorem xe_str (l : List Nat) {x : Str} {j : Nat} {pos : Pos} (h : x = S l := by rfl) : XE X Wx (.Constant (.str x) j pos) (dC (.str l)) := xe_c pe_str fun _ _ => by rw [h]; exact .str l
theorem xe_glob {x : Str} {v : V} {t : T} {u : Value} {pos : Pos} (hg : Gl X x) (hm : X.mg x = some u) (r : RelV v u) (hi : ∀ W H, Is X.K W H v t) (hd : (x == ("__debug__" : Str)) = false := by decide) : XE X Wx (.Name x pos) (dC t) := xe_c (pe_glob hg hm r hd) hi
theorem xe_bltn {x : Str} {v : V} {t : T} {u : Value} {pos : Pos} (hg : Gl X x) (hm : X.mg x = none) (hv : bootBuiltins x = some u) (r : RelV v u) (hi : ∀ W H, Is X.K W H v t) (hn : x ≠ "__name__" := by decide) (hd : (x == ("__debug__" : Str)) = false := by decide) : XE X Wx (.Name x pos) (dC t) :=
  xe_c (pe_bltn hg hm hv r hn hd) hi
end
end O
namespace O
open PySem PySem.Spec PyProof.Rows L2
/-- what may be read: a shared value, or the owned object itself -/
def IsR (K : PySem.W.Frag) (W : Ad) (H : Hp) (v : V) (t : T) : Prop := Is K W H v t ∨ ∃ p, v = .ref p ∧ OwnAt K W H p t
def plus (W : Ad) (p : Addr) : Ad := fun q => W q ∨ q = p
/-- the value of a pure operation: shared, or a new object -/
structure Res (K : PySem.W.Frag) (W : Ad) (H : Hp) (rv : Rv) (v : V) (H' : Hp) : Prop where
  same : ∀ p o, H p = some o → H' p = some o
  val : if rv.1 = true then ∃ p, v = .ref p ∧ H p = none ∧ OwnAt K (plus W p) H' p rv.2 else Is K W H' v rv.2
section
variable {K : PySem.W.Frag} {Wx : WX} {σ : L2.St} {ρ ρ1 : Rho} {W W1 : Ad} {H H1 : Hp} {v : V} {rv : Rv}
theorem isR_of {h : Hn} {t : T} (rep : Rep K W H σ ρ) (r : relO K σ ρ W H v h) (e : h.is ρ t) : IsR K W H v t := by
  cases h with
  | tm u => have e' : some u = some t := e; cases e'; exact .inl r
  | sl i =>
    have r' : at_ σ i = some v := r
    have e' : (sl_ ρ i).tr = some t := e
    have hs := rep.sl i
    rw [r'] at hs
    cases q : sl_ ρ i with
    | no => rw [q] at e'; cases e'
    | sh u => rw [q] at e' hs; cases e'; obtain ⟨w, e1, e2⟩ := hs; cases e1; exact .inl e2
    | sd u => rw [q] at e' hs; cases e'; obtain ⟨w, e1, _, e2⟩ := hs; cases e1; exact .inl e2
    | ow u => rw [q] at e' hs; cases e'; obtain ⟨w, e1, _, e2⟩ := hs; cases e1; exact .inr ⟨_, rfl, e2⟩
    | io u => rw [q] at e' hs; cases e'; obtain ⟨w, e1, _, e2⟩ := hs; cases e1; exact .inr ⟨_, rfl, e2⟩
theorem relO_step {h : Hn} {P1 W2 : Ad} {H2 : Hp} {ρ2 : Rho} (r : relO K σ ρ1 W1 H1 v h) (rep : Rep K W1 H1 σ ρ1) (st : Step (Rt σ ρ1) W1 H1 P1 W2 H2) : relO K σ ρ2 W2 H2 v h := by
  cases h with
  | tm u => exact Is.step r st rep.rt
  | sl i => exact r
theorem Rep.grow {p : Addr} (rep : Rep K W H σ ρ) (same : ∀ q o, H q = some o → H1 q = some o) (hn : H p = none) (h1 : ∃ o, H1 p = some o) : Rep K (plus W p) H1 σ ρ := by
  have k : ∀ q o, H q = some o → ¬ (fun _ : Addr => False) q → H1 q = some o := fun q o e _ => same q o e
  have kw : ∀ q, plus W p q → W q ∨ H q = none := fun q z => z.elim .inl fun e => .inr (by rw [e]; exact hn)
  refine ⟨rep.len, fun i => ?_, rep.inj, fun q z => z.elim (fun z => by obtain ⟨o, e⟩ := rep.wd q z; exact ⟨o, same _ _ e⟩) fun e => by rw [e]; exact h1⟩
  have h := rep.sl i
  cases q : sl_ ρ i with
  | no => trivial
  | sh t => rw [q] at h; obtain ⟨u, e1, e2⟩ := h; exact ⟨u, e1, e2.keep k (fun _ z => z.elim) kw⟩
  | sd t =>
    rw [q] at h; obtain ⟨u, e1, ⟨e2, ob, eo⟩, e3⟩ := h
    refine ⟨u, e1, ⟨fun z => z.elim e2 fun e => ?_, ⟨ob, same _ _ eo⟩⟩, e3.keep k (fun _ z => z.elim) kw⟩
    rw [e, hn] at eo
    cases eo
  | ow t => rw [q] at h; obtain ⟨u, e1, e2, e3⟩ := h; exact ⟨u, e1, .inl e2, e3.keep k (fun _ z => z.elim) kw fun o e => same _ _ e⟩
  | io t => rw [q] at h; obtain ⟨u, e1, e2, e3⟩ := h; exact ⟨u, e1, .inl e2, e3.keep k (fun _ z => z.elim) kw fun o e => same _ _ e⟩
theorem Rep.same (rep : Rep K W H σ ρ) (same : ∀ q o, H q = some o → H1 q = some o) : Rep K W H1 σ ρ := by
  have k : ∀ q o, H q = some o → ¬ (fun _ : Addr => False) q → H1 q = some o := fun q o e _ => same q o e
  refine ⟨rep.len, fun i => ?_, rep.inj, fun q z => by obtain ⟨o, e⟩ := rep.wd q z; exact ⟨o, same _ _ e⟩⟩
  have h := rep.sl i
  cases q : sl_ ρ i with
  | no => trivial
  | sh t => rw [q] at h; obtain ⟨u, e1, e2⟩ := h; exact ⟨u, e1, e2.keep k (fun _ z => z.elim) fun _ z => .inl z⟩
  | sd t => rw [q] at h; obtain ⟨u, e1, ⟨e2, ob, eo⟩, e3⟩ := h; exact ⟨u, e1, ⟨e2, ob, same _ _ eo⟩, e3.keep k (fun _ z => z.elim) fun _ z => .inl z⟩
  | ow t => rw [q] at h; obtain ⟨u, e1, e2, e3⟩ := h; exact ⟨u, e1, e2, e3.keep k (fun _ z => z.elim) (fun _ z => .inl z) fun o e => same _ _ e⟩
  | io t => rw [q] at h; obtain ⟨u, e1, e2, e3⟩ := h; exact ⟨u, e1, e2, e3.keep k (fun _ z => z.elim) (fun _ z => .inl z) fun o e => same _ _ e⟩
theorem Step.same {P : Ad} (same : ∀ q o, H q = some o → H1 q = some o) : Step P W H P W H1 := ⟨fun p o e _ => same p o e, fun p o e => ⟨o, same p o e⟩, fun p z _ => z, fun p z => .inl z, fun p z => .inl z⟩
/-- behind a pure operation -/
theorem Res.post (rep : Rep K W H σ ρ) (r : Res K W H rv v H1) : ∃ W', relE K σ ρ W' H1 v rv ∧ Rep K W' H1 σ ρ ∧ Step (Rt σ ρ) W H (rooted (Rt σ ρ) (xr v rv)) W' H1 := by
  have hv := r.val
  by_cases c : rv.1 = true
  · rw [if_pos c] at hv
    obtain ⟨p, e, hn, ho⟩ := hv
    have hnr : ¬ Rt σ ρ p := fun z => by obtain ⟨o, e⟩ := rep.wd p (rep.rt p z); rw [hn] at e; cases e
    refine ⟨plus W p, ?_, rep.grow r.same hn ho.some, ⟨fun q o z _ => r.same q o z, fun q o z => ⟨o, r.same q o z⟩, fun q z _ => .inl z, fun q z => z.elim .inl fun z => .inr (by rw [z]; exact hn), fun q z => z.elim .inl fun z => .inr ?_⟩⟩
    · unfold relE; rw [if_pos c]; exact ⟨p, e, .inr rfl, ho, hnr⟩
    · have : v = .ref q := z.2
      rw [e] at this; cases this; exact hn
  · rw [if_neg c] at hv
    refine ⟨W, ?_, rep.same r.same, (Step.same (P := Rt σ ρ) r.same).subP fun p z => z.elim id fun z => absurd z.1 c⟩
    unfold relE; rw [if_neg c]; exact hv
theorem Res.sh {t : T} (h : Is K W H v t) : Res K W H (false, t) v H := ⟨fun _ _ e => e, by rw [if_neg (fun z : false = true => Bool.noConfusion z)]; exact h⟩
theorem Res.newO {t : T} {p : Addr} {o : HO} (hn : H p = none) (h : OwnAt K (plus W p) (upd H p o) p t) : Res K W H (true, t) (.ref p) (upd H p o) :=
  ⟨fun q u e => by rw [upd_ne (ne_of_none e hn)]; exact e, by rw [if_pos rfl]; exact ⟨p, rfl, hn, h⟩⟩
theorem kept_upd {p : Addr} {o : HO} (hn : H p = none) : ∀ q u, H q = some u → upd H p o q = some u := fun q u e => by rw [upd_ne (ne_of_none e hn)]; exact e
theorem Res.newL {xs : List V} {ts : List T} {p : Addr} (hn : H p = none) (h : IsL K W H xs ts) : Res K W H (true, .lst ts) (.ref p) (upd H p (.lst xs)) :=
  .newO hn ⟨xs, upd_same, h.keep (P := fun _ => False) (fun q u e _ => kept_upd hn q u e) (fun _ z => z.elim) fun q z => z.elim .inl fun e => .inr (by rw [e]; exact hn)⟩
theorem Res.newT {xs : List V} {ts : List T} {p : Addr} (wd : ∀ q, W q → ∃ o, H q = some o) (hn : H p = none) (h : IsL K W H xs ts) : Res K W H (false, .tup ts) (.ref p) (upd H p (.tup xs)) :=
  ⟨kept_upd hn, by
    rw [if_neg (fun z : false = true => Bool.noConfusion z)]
    exact .tup upd_same (fun z => by obtain ⟨o, e⟩ := wd p z; rw [hn] at e; cases e) (h.keep (P := fun _ => False) (fun q u e _ => kept_upd hn q u e) (fun _ z => z.elim) fun q z => .inl z)⟩
/-- a new object that is shared from the start -/
theorem IsL.fresh {xs : List V} {ts : List T} {p : Addr} {o : HO} (hn : H p = none) (h : IsL K W H xs ts) : IsL K W (upd H p o) xs ts := h.keep (P := fun _ => False) (fun q u e _ => kept_upd hn q u e) (fun _ z => z.elim) fun q z => .inl z
end
/-- what an operation asks of the trees, and its value -/
structure Ot where
  pre : Prop
  val : Rv
def Ot.no : Ot := ⟨False, (false, .non)⟩
def Ot.sh (t : T) : Ot := ⟨True, (false, t)⟩
def Ot.when (p : Prop) (t : T) : Ot := ⟨p, (false, t)⟩
def Ot.new (p : Prop) (t : T) : Ot := ⟨p, (true, t)⟩
def Wd (W : Ad) (H : Hp) : Prop := ∀ q, W q → ∃ o, H q = some o
/-- the reading r does what f says of the trees -/
def Pure2 (K : PySem.W.Frag) (r : R2) (f : T → T → Ot) : Prop := ∀ W H v u a b (Q : VK), Wd W H → IsR K W H v a → IsR K W H u b → (f a b).pre → (∀ v' H', Res K W H (f a b).val v' H' → Q v' H') → r v u H Q
def Pure1 (K : PySem.W.Frag) (r : V → Hp → VK → Prop) (f : T → Ot) : Prop := ∀ W H v a (Q : VK), Wd W H → IsR K W H v a → (f a).pre → (∀ v' H', Res K W H (f a).val v' H' → Q v' H') → r v H Q
def PureN (K : PySem.W.Frag) (r : List V → Hp → VK → Prop) (f : List T → Ot) : Prop := ∀ W H vs as (Q : VK), Wd W H → Paired (IsR K W H) vs as → (f as).pre → (∀ v' H', Res K W H (f as).val v' H' → Q v' H') → r vs H Q
/-- a receiver and arguments -/
def PureM (K : PySem.W.Frag) (r : V → List V → Hp → VK → Prop) (f : T → List T → Ot) : Prop := ∀ W H v vs a as (Q : VK), Wd W H → IsR K W H v a → Paired (IsR K W H) vs as → (f a as).pre → (∀ v' H', Res K W H (f a as).val v' H' → Q v' H') → r v vs H Q
def dOp2 (f : T → T → Ot) (a b : Dn Hn) : Dn Rv := fun ρ Q => a ρ ⟨fun h1 ρ1 => b ρ1 ⟨fun h2 ρ2 => ∃ t, h1.is ρ2 t ∧ ∃ u, h2.is ρ2 u ∧ (f t u).pre ∧ Q.ok (f t u).val ρ2, Q.ex⟩, Q.ex⟩
def dOp1 (f : T → Ot) (a : Dn Hn) : Dn Rv := fun ρ Q => a ρ ⟨fun h ρ1 => ∃ t, h.is ρ1 t ∧ (f t).pre ∧ Q.ok (f t).val ρ1, Q.ex⟩
def Hn.gets (ρ : Rho) : List Hn → Option (List T)
  | [] => some []
  | h :: hs => match h.get ρ, Hn.gets ρ hs with
    | some t, some ts => some (t :: ts)
    | _, _ => none
def Hn.all (ρ : Rho) (hs : List Hn) (ts : List T) : Prop := Hn.gets ρ hs = some ts
theorem Hn.all_cons {ρ : Rho} {h : Hn} {hs : List Hn} {ts : List T} (e : Hn.all ρ (h :: hs) ts) : ∃ t us, ts = t :: us ∧ h.is ρ t ∧ Hn.all ρ hs us := by
  unfold Hn.all at e
  unfold Hn.gets at e
  cases q : h.get ρ with
  | none => rw [q] at e; cases e
  | some t =>
    rw [q] at e
    cases q2 : Hn.gets ρ hs with
    | none => rw [q2] at e; cases e
    | some us => rw [q2] at e; cases e; exact ⟨t, us, rfl, q, q2⟩
/-- all of them values -/
def tms : List Hn → Option (List T)
  | [] => some []
  | .tm t :: hs => match tms hs with
    | some ts => some (t :: ts)
    | none => none
  | .sl _ :: _ => none
theorem tms_map : ∀ {hs : List Hn} {ts : List T}, tms hs = some ts → hs = ts.map Hn.tm
  | [], _, e => by cases e; rfl
  | .tm t :: hs, ts, e => by
    unfold tms at e
    cases q : tms hs with
    | none => rw [q] at e; cases e
    | some us => rw [q] at e; cases e; rw [tms_map q]; rfl
  | .sl _ :: _, _, e => by cases e
def dOpN (f : List T → Ot) (a : Dn (List Hn)) : Dn Rv := fun ρ Q => a ρ ⟨fun hs ρ1 => ∃ ts, Hn.all ρ1 hs ts ∧ (f ts).pre ∧ Q.ok (f ts).val ρ1, Q.ex⟩
theorem mn_op2 {f : T → T → Ot} {a b : Dn Hn} (ma : Mn a) (mb : Mn b) : Mn (dOp2 f a b) := fun ρ Q Q' h k e =>
  ma _ _ _ h (fun h1 ρ1 h => mb _ _ _ h (fun h2 ρ2 ⟨t, i, u, j, p, q⟩ => ⟨t, i, u, j, p, k _ _ q⟩) e) e
theorem mn_op1 {f : T → Ot} {a : Dn Hn} (ma : Mn a) : Mn (dOp1 f a) := fun ρ Q Q' h k e => ma _ _ _ h (fun h1 ρ1 ⟨t, i, p, q⟩ => ⟨t, i, p, k _ _ q⟩) e
theorem mn_opN {f : List T → Ot} {a : Dn (List Hn)} (ma : Mn a) : Mn (dOpN f a) := fun ρ Q Q' h k e => ma _ _ _ h (fun h1 ρ1 ⟨t, i, p, q⟩ => ⟨t, i, p, k _ _ q⟩) e
section
variable {X : Cx} {Wx : WX} {e a b : Expr} {es : List Expr} {d da db : Dn Hn} {ds : Dn (List Hn)} {pos : Pos}
theorem all_isR {K : PySem.W.Frag} {σ : L2.St} {ρ : Rho} {W : Ad} {H : Hp} (rep : Rep K W H σ ρ) : ∀ {vs : List V} {hs : List Hn} {ts : List T}, relOs K σ ρ W H vs hs → Hn.all ρ hs ts → Paired (IsR K W H) vs ts
  | _, _, _, .nil, e => by cases e; exact .nil
  | _, _, _, .cons r rs, e => by
    obtain ⟨t, us, e1, e2, e3⟩ := Hn.all_cons e
    subst e1
    exact .cons (isR_of rep r e2) (all_isR rep rs e3)
/-- two operands, then a pure operation -/
theorem op2_run {r : R2} {f : T → T → Ot} (hp : Pure2 X.K r f) (ma : Mn da) (mb : Mn db) (σ : L2.St) (H : Hp) (Q : VK) (h : RD X.K (relE X.K) xr Wx (dOp2 f da db) σ H Q) :
    tOp r (RD X.K (relO X.K) nox Wx da) (RD X.K (relO X.K) nox Wx db) σ H Q := by
  obtain ⟨W, ρ, rep, h⟩ := h
  refine rd_first ma rep h fun h1 ρ1 k1 v W1 H1 r1 rep1 st1 pn1 => ?_
  refine rd_next mb rep st1.noxx pn1 rep1 k1 fun h2 ρ2 ⟨t, i, u, j, p, q⟩ w W2 H2 r2 rep2 st12 st2 pn2 => ?_
  have r1' := relO_step (ρ2 := ρ2) r1 rep1 st12
  refine hp W2 H2 v w t u Q rep2.wd (isR_of rep2 r1' i) (isR_of rep2 r2 j) p fun v' H' rs => ?_
  obtain ⟨W', rl, rep', st'⟩ := rs.post rep2
  exact q v' W' H' rl rep' (st2.noxx.trans rep.wd st') pn2
theorem xe_op {op : Operator} {r : R2} {f : T → T → Ot} (ho : OpR X (binaryOp op) r) (hp : Pure2 X.K r f) (ha : XO X Wx a da) (hb : XO X Wx b db) : XE X Wx (.BinOp a op b pos) (dOp2 f da db) :=
  ⟨PE.imp (pe_op ho ha.pe hb.pe) fun σ H Q h => op2_run hp ha.mn hb.mn σ H Q h, mn_op2 ha.mn hb.mn⟩
theorem xe_cmp {op : CmpOp} {r : R2} {f : T → T → Ot} (ho : OpR X (compareOp op) r) (hp : Pure2 X.K r f) (ha : XO X Wx a da) (hb : XO X Wx b db) (hm : behindInMarks op b = false := by first | exact nomark _ | rfl) : XE X Wx (.Compare a [op] [b] pos) (dOp2 f da db) :=
  ⟨PE.imp (pe_cmpR ho ha.pe hb.pe hm) fun σ H Q h => op2_run hp ha.mn hb.mn σ H Q h, mn_op2 ha.mn hb.mn⟩
theorem xe_ix {r : R2} {f : T → T → Ot} (ho : IxR X r) (hp : Pure2 X.K r f) (ha : XO X Wx a da) (hb : XO X Wx b db) (hs : PlainIx b := by exact fun _ _ => rfl) : XE X Wx (.Subscript a b pos) (dOp2 f da db) :=
  ⟨PE.imp (pe_ix ho ha.pe hb.pe hs) fun σ H Q h => op2_run hp ha.mn hb.mn σ H Q h, mn_op2 ha.mn hb.mn⟩
theorem xe_un {op : UnaryOp} {r : V → Hp → VK → Prop} {f : T → Ot} (ho : UnR X (unaryOp op) r) (hp : Pure1 X.K r f) (ha : XO X Wx a da) : XE X Wx (.UnaryOp op a pos) (dOp1 f da) := by
  refine ⟨PE.imp (pe_un ho ha.pe) fun σ H Q ⟨W, ρ, rep, h⟩ => ?_, mn_op1 ha.mn⟩
  refine rd_first ha.mn rep h fun h1 ρ1 ⟨t, i, p, q⟩ v W1 H1 r1 rep1 st1 pn1 => ?_
  refine hp W1 H1 v t Q rep1.wd (isR_of rep1 r1 i) p fun v' H' rs => ?_
  obtain ⟨W', rl, rep', st'⟩ := rs.post rep1
  exact q v' W' H' rl rep' (st1.noxx.trans rep.wd st') pn1
def dNil : Dn (List Hn) := fun ρ Q => Q.ok [] ρ
def dCons (a : Dn Hn) (b : Dn (List Hn)) : Dn (List Hn) := fun ρ Q => a ρ ⟨fun h ρ1 => b ρ1 ⟨fun hs ρ2 => Q.ok (h :: hs) ρ2, Q.ex⟩, Q.ex⟩
theorem mn_cons {a : Dn Hn} {b : Dn (List Hn)} (ma : Mn a) (mb : Mn b) : Mn (dCons a b) := fun ρ Q Q' h k e => ma _ _ _ h (fun h1 ρ1 h => mb _ _ _ h (fun h2 ρ2 q => k _ _ q) e) e
theorem xa_nil : XA X Wx [] dNil := ⟨PA.imp pa_nil fun σ H Q ⟨W, ρ, rep, h⟩ => h [] W H .nil rep (Step.refl _ _ _).toNox (Pn.refl _), fun ρ Q Q' h k _ => k _ _ h⟩
theorem xa_cons (ha : XO X Wx e d) (hr : XA X Wx es ds) (hs : starEach (e :: es) X.env = (false, eval e X.env) :: starEach es X.env := by rfl) : XA X Wx (e :: es) (dCons d ds) := by
  refine ⟨PA.imp (pa_cons ha.pe hr.pa hs) fun σ H Q ⟨W, ρ, rep, h⟩ => ?_, mn_cons ha.mn hr.mn⟩
  refine rd_first ha.mn rep h fun h1 ρ1 k1 v W1 H1 r1 rep1 st1 pn1 => ?_
  refine rd_next hr.mn rep st1.noxx pn1 rep1 k1 fun h2 ρ2 q w W2 H2 r2 rep2 st12 st2 pn2 => ?_
  exact q (v :: w) W2 H2 (.cons (relO_step r1 rep1 st12) r2) rep2 (st2.noxx.toNox) pn2
theorem opN_run {r : List V → Hp → VK → Prop} {f : List T → Ot} (hp : PureN X.K r f) (ma : Mn ds) (σ : L2.St) (H : Hp) (Q : VK) (h : RD X.K (relE X.K) xr Wx (dOpN f ds) σ H Q) : RD X.K (relOs X.K) nox Wx ds σ H fun vs H1 => r vs H1 Q := by
  obtain ⟨W, ρ, rep, h⟩ := h
  refine rd_first ma rep h fun h1 ρ1 ⟨t, i, p, q⟩ v W1 H1 r1 rep1 st1 pn1 => ?_
  refine hp W1 H1 v t Q rep1.wd (all_isR rep1 r1 i) p fun v' H' rs => ?_
  obtain ⟨W', rl, rep', st'⟩ := rs.post rep1
  exact q v' W' H' rl rep' (st1.noxx.trans rep.wd st') pn1
variable {x : Str} {p : Pos} {id Ty : String}
theorem xe_callB {r : List V → Hp → VK → Prop} {f : List T → Ot} (hc : CallR X (.builtin id) r) (hp : PureN X.K r f) (hg : Gl X x) (hm : X.mg x = none) (hv : bootBuiltins x = some (.builtin id)) (ha : XA X Wx (e :: es) ds) (hn : x ≠ "__name__" := by decide) (hd : (x == ("__debug__" : Str)) = false := by decide)
    (hst : starEach (e :: es) X.env = (false, eval e X.env) :: starEach es X.env := by rfl) (hno : (backTo pos (starEach es X.env)).any (·.1) = false := by rfl) : XE X Wx (.Call (.Name x p) (e :: es) [] pos) (dOpN f ds) :=
  ⟨PE.imp (pe_callB hc hg hm hv ha.pa hn hd hst hno) fun σ H Q h => opN_run hp ha.mn σ H Q h, mn_opN ha.mn⟩
theorem xe_callTy {r : List V → Hp → VK → Prop} {f : List T → Ot} (hc : CallR X (.type Ty) r) (hp : PureN X.K r f) (hg : Gl X x) (hm : X.mg x = none) (hv : bootBuiltins x = some (.type Ty)) (ha : XA X Wx (e :: es) ds) (hn : x ≠ "__name__" := by decide) (hd : (x == ("__debug__" : Str)) = false := by decide)
    (hst : starEach (e :: es) X.env = (false, eval e X.env) :: starEach es X.env := by rfl) (hno : (backTo pos (starEach es X.env)).any (·.1) = false := by rfl) : XE X Wx (.Call (.Name x p) (e :: es) [] pos) (dOpN f ds) :=
  ⟨PE.imp (pe_callTy hc hg hm hv ha.pa hn hd hst hno) fun σ H Q h => opN_run hp ha.mn σ H Q h, mn_opN ha.mn⟩
end
end O
namespace O
open PySem PySem.Spec PyProof.Rows L2
/-- by the answer -/
def ifB (c : Bool) (A B : Prop) : Prop := (c = true → A) ∧ (c = false → B)
theorem ifB_t {A B : Prop} : ifB true A B ↔ A := ⟨fun h => h.1 rfl, fun h => ⟨fun _ => h, fun z => Bool.noConfusion z⟩⟩
theorem ifB_f {A B : Prop} : ifB false A B ↔ B := ⟨fun h => h.2 rfl, fun h => ⟨fun z => Bool.noConfusion z, fun _ => h⟩⟩
theorem ifB_mono {c : Bool} {A B A' B' : Prop} (h : ifB c A B) (a : A → A') (b : B → B') : ifB c A' B' := ⟨fun z => a (h.1 z), fun z => b (h.2 z)⟩
def dBv (d : Dn Rv) : Dn Bool := fun ρ Q => d ρ ⟨fun r ρ' => ∃ b, r = (false, .bl b) ∧ Q.ok b ρ', Q.ex⟩
theorem mn_bv {d : Dn Rv} (m : Mn d) : Mn (dBv d) := fun ρ Q Q' h k e => m ρ _ _ h (fun r ρ' ⟨b, i, q⟩ => ⟨b, i, k _ _ q⟩) e
def dAndT (a b : Dn Bool) : Dn Bool := fun ρ Q => a ρ ⟨fun c ρ1 => ifB c (b ρ1 Q) (Q.ok false ρ1), Q.ex⟩
def dOrT (a b : Dn Bool) : Dn Bool := fun ρ Q => a ρ ⟨fun c ρ1 => ifB c (Q.ok true ρ1) (b ρ1 Q), Q.ex⟩
def dNotT (a : Dn Bool) : Dn Bool := fun ρ Q => a ρ ⟨fun c ρ1 => Q.ok (!c) ρ1, Q.ex⟩
theorem mn_andT {a b : Dn Bool} (ma : Mn a) (mb : Mn b) : Mn (dAndT a b) := fun ρ Q Q' h k e => ma _ _ _ h (fun c ρ1 q => ifB_mono q (fun z => mb _ _ _ z k e) (k _ _)) e
theorem mn_orT {a b : Dn Bool} (ma : Mn a) (mb : Mn b) : Mn (dOrT a b) := fun ρ Q Q' h k e => ma _ _ _ h (fun c ρ1 q => ifB_mono q (k _ _) fun z => mb _ _ _ z k e) e
theorem mn_notT {a : Dn Bool} (ma : Mn a) : Mn (dNotT a) := fun ρ Q Q' h k e => ma _ _ _ h (fun c ρ1 q => k _ _ q) e
/-- values -/
def dAndV (a b : Dn Rv) : Dn Rv := fun ρ Q => a ρ ⟨fun r ρ1 => ∃ c, r = (false, .bl c) ∧ ifB c (b ρ1 Q) (Q.ok (false, .bl false) ρ1), Q.ex⟩
def dOrV (a b : Dn Rv) : Dn Rv := fun ρ Q => a ρ ⟨fun r ρ1 => ∃ c, r = (false, .bl c) ∧ ifB c (Q.ok (false, .bl true) ρ1) (b ρ1 Q), Q.ex⟩
def dNotV (a : Dn Rv) : Dn Rv := fun ρ Q => a ρ ⟨fun r ρ1 => ∃ c, r = (false, .bl c) ∧ Q.ok (false, .bl (!c)) ρ1, Q.ex⟩
theorem mn_andV {a b : Dn Rv} (ma : Mn a) (mb : Mn b) : Mn (dAndV a b) := fun ρ Q Q' h k e => ma _ _ _ h (fun c ρ1 ⟨d, i, q⟩ => ⟨d, i, ifB_mono q (fun z => mb _ _ _ z k e) (k _ _)⟩) e
theorem mn_orV {a b : Dn Rv} (ma : Mn a) (mb : Mn b) : Mn (dOrV a b) := fun ρ Q Q' h k e => ma _ _ _ h (fun c ρ1 ⟨d, i, q⟩ => ⟨d, i, ifB_mono q (k _ _) fun z => mb _ _ _ z k e⟩) e
def dIf {α : Type} (t : Dn Bool) (a b : Dn α) : Dn α := fun ρ Q => t ρ ⟨fun c ρ1 => ifB c (a ρ1 Q) (b ρ1 Q), Q.ex⟩
theorem mn_if {α : Type} {t : Dn Bool} {a b : Dn α} (mt : Mn t) (ma : Mn a) (mb : Mn b) : Mn (dIf t a b) := fun ρ Q Q' h k e => mt _ _ _ h (fun c ρ1 q => ifB_mono q (fun z => ma _ _ _ z k e) fun z => mb _ _ _ z k e) e
/-- a value of any kind, as a test -/
def T.truth : T → Bool → Prop
  | .non, k => k = false
  | .bl b, k => k = b
  | .int i, k => k = (i != 0)
  | .str l, k => l.length ≤ sizeLine ∧ k = !l.isEmpty
  | .lst ts, k => k = !ts.isEmpty
  | .tup ts, k => k = !ts.isEmpty
  | .dK ts, k => k = !ts.isEmpty
  | _, _ => False
def dTru (a : Dn Hn) : Dn Bool := fun ρ Q => a ρ ⟨fun h ρ1 => ∃ t, h.is ρ1 t ∧ ∃ k, t.truth k ∧ Q.ok k ρ1, Q.ex⟩
/-- and, or within a test -/
structure XW (X : Cx) (Wx : WX) (e : Expr) (d : Dn Bool) : Prop where
  pw : PW X e (RD X.K relB nox Wx d)
  mn : Mn d
section
variable {X : Cx} {Wx : WX} {e a b c : Expr} {rest : List Expr} {d da db : Dn Rv} {ta tb : Dn Bool} {pos : Pos}
theorem tB_run {K : PySem.W.Frag} (m : Mn d) (σ : L2.St) (H : Hp) (Q : Bool → Hp → Prop) (h : RD K relB nox Wx (dBv d) σ H Q) : tB (RD K (relE K) xr Wx d) σ H Q := by
  obtain ⟨W, ρ, rep, h⟩ := h
  refine rd_first m rep h fun r ρ1 ⟨b, i, q⟩ v W1 H1 rl rep1 st pn => ?_
  subst i
  rw [xr_sh] at st
  unfold relE at rl
  rw [if_neg (fun z : false = true => Bool.noConfusion z)] at rl
  cases rl
  exact ⟨b, rfl, q b W1 H1 rfl rep1 st.toNox pn⟩
theorem xt_val (h : XE X Wx e d) (he : ∀ whole, isTrue e X.env whole = (do let v ← whole; standAt e.pos; holding [v] (truthy v)) := by intro _; rfl) : XT X Wx e (dBv d) :=
  ⟨PT.imp (pt_val h.pe he) fun σ H Q q => tB_run h.mn σ H Q q, mn_bv h.mn⟩
theorem xt_cmp {oa ob : Dn Hn} {op : CmpOp} {r : R2} {f : T → T → Ot} (ho : OpR X (compareOp op) r) (hp : Pure2 X.K r f) (ha : XO X Wx a oa) (hb : XO X Wx b ob) (hm : behindInMarks op b = false := by first | exact nomark _ | rfl) : XT X Wx (.Compare a [op] [b] pos) (dBv (dOp2 f oa ob)) :=
  have z := xe_cmp (pos := pos) ho hp ha hb hm
  ⟨PT.imp (pt_cmpR ho ha.pe hb.pe hm) fun σ H Q q => by
    have q2 := tB_run z.mn σ H Q q
    exact op2_run hp ha.mn hb.mn σ H _ q2, mn_bv z.mn⟩
theorem xt_not (h : XT X Wx e ta) : XT X Wx (.UnaryOp .Not e pos) (dNotT ta) := by
  refine ⟨PT.imp (pt_not h.pt) fun σ H Q ⟨W, ρ, rep, q⟩ => ?_, mn_notT h.mn⟩
  refine rd_first h.mn rep q fun c ρ1 q v W1 H1 rl rep1 st pn => ?_
  have rl : v = c := rl
  subst rl
  exact q (!v) W1 H1 rfl rep1 st.noxx.toNox pn
theorem XW.t (h : XW X Wx e ta) : XT X Wx e ta := ⟨h.pw.pt, h.mn⟩
theorem xw_and1 (h : XT X Wx a ta) : XW X Wx (.BoolOp .And [a] pos) ta := ⟨pw_and1 h.pt, h.mn⟩
theorem xw_or1 (h : XT X Wx a ta) : XW X Wx (.BoolOp .Or [a] pos) ta := ⟨pw_or1 h.pt, h.mn⟩
theorem xw_and (h : XT X Wx a ta) (h2 : XW X Wx (.BoolOp .And (b :: rest) pos) tb) : XW X Wx (.BoolOp .And (a :: b :: rest) pos) (dAndT ta tb) := by
  refine ⟨PW.imp (pw_and h.pt h2.pw) fun σ H Q ⟨W, ρ, rep, q⟩ => ?_, mn_andT h.mn h2.mn⟩
  refine rd_first h.mn rep q fun c ρ1 q v W1 H1 rl rep1 st pn => ?_
  have rl : v = c := rl
  subst rl
  by_cases k : v = true
  · rw [if_pos k]
    exact rd_next (rel := relB) (ext := nox) (Q := Q) h2.mn rep st.noxx pn rep1 (q.1 k) fun c ρ2 q w W2 H2 r2 rep2 st12 st2 pn2 => q w W2 H2 r2 rep2 st2.noxx.toNox pn2
  · rw [if_neg k]
    exact q.2 (by cases v <;> first | rfl | exact absurd rfl k) false W1 H1 rfl rep1 st.noxx.toNox pn
theorem xw_or (h : XT X Wx a ta) (h2 : XW X Wx (.BoolOp .Or (b :: rest) pos) tb) : XW X Wx (.BoolOp .Or (a :: b :: rest) pos) (dOrT ta tb) := by
  refine ⟨PW.imp (pw_or h.pt h2.pw) fun σ H Q ⟨W, ρ, rep, q⟩ => ?_, mn_orT h.mn h2.mn⟩
  refine rd_first h.mn rep q fun c ρ1 q v W1 H1 rl rep1 st pn => ?_
  have rl : v = c := rl
  subst rl
  by_cases k : v = true
  · rw [if_pos k]
    exact q.1 k true W1 H1 rfl rep1 st.noxx.toNox pn
  · rw [if_neg k]
    exact rd_next (rel := relB) (ext := nox) (Q := Q) h2.mn rep st.noxx pn rep1 (q.2 (by cases v <;> first | rfl | exact absurd rfl k)) fun c ρ2 q w W2 H2 r2 rep2 st12 st2 pn2 => q w W2 H2 r2 rep2 st2.noxx.toNox pn2
theorem relE_bl {K : PySem.W.Frag} {σ : L2.St} {ρ : Rho} {W : Ad} {H : Hp} {v : V} {c : Bool} (h : relE K σ ρ W H v (false, .bl c)) : v = .bl c := by
  unfold relE at h
  rw [if_neg (fun z : false = true => Bool.noConfusion z)] at h
  cases h
  rfl
theorem xe_one {op : BoolOp} (h : XE X Wx a d) : XE X Wx (.BoolOp op [a] pos) d := ⟨pe_one h.pe, h.mn⟩
theorem xe_and (h : XE X Wx a da) (h2 : XE X Wx (.BoolOp .And (b :: rest) pos) db) : XE X Wx (.BoolOp .And (a :: b :: rest) pos) (dAndV da db) := by
  refine ⟨PE.imp (pe_and h.pe h2.pe) fun σ H Q ⟨W, ρ, rep, q⟩ => ?_, mn_andV h.mn h2.mn⟩
  refine rd_first h.mn rep q fun r ρ1 ⟨c, i, q⟩ v W1 H1 rl rep1 st pn => ?_
  subst i
  rw [xr_sh] at st
  refine ⟨c, relE_bl rl, ?_⟩
  by_cases k : c = true
  · rw [if_pos k]
    exact rd_next (rel := relE X.K) (ext := xr) (Q := Q) h2.mn rep st pn rep1 (q.1 k) fun c ρ2 q w W2 H2 r2 rep2 st12 st2 pn2 => q w W2 H2 r2 rep2 st2 pn2
  · rw [if_neg k]
    exact q.2 (by cases c <;> first | rfl | exact absurd rfl k) (.bl false) W1 H1 (relE_sh (.bl false)) rep1 (by rw [xr_sh]; exact st) pn
theorem xe_or (h : XE X Wx a da) (h2 : XE X Wx (.BoolOp .Or (b :: rest) pos) db) : XE X Wx (.BoolOp .Or (a :: b :: rest) pos) (dOrV da db) := by
  refine ⟨PE.imp (pe_or h.pe h2.pe) fun σ H Q ⟨W, ρ, rep, q⟩ => ?_, mn_orV h.mn h2.mn⟩
  refine rd_first h.mn rep q fun r ρ1 ⟨c, i, q⟩ v W1 H1 rl rep1 st pn => ?_
  subst i
  rw [xr_sh] at st
  refine ⟨c, relE_bl rl, ?_⟩
  by_cases k : c = true
  · rw [if_pos k]
    exact q.1 k (.bl true) W1 H1 (relE_sh (.bl true)) rep1 (by rw [xr_sh]; exact st) pn
  · rw [if_neg k]
    exact rd_next (rel := relE X.K) (ext := xr) (Q := Q) h2.mn rep st pn rep1 (q.2 (by cases c <;> first | rfl | exact absurd rfl k)) fun c ρ2 q w W2 H2 r2 rep2 st12 st2 pn2 => q w W2 H2 r2 rep2 st2 pn2
theorem xe_if (ht : XT X Wx c ta) (ha : XE X Wx a da) (hb : XE X Wx b db) : XE X Wx (.IfExp c a b pos) (dIf ta da db) := by
  refine ⟨PE.imp (pe_ifExp ht.pt ha.pe hb.pe) fun σ H Q ⟨W, ρ, rep, q⟩ => ?_, mn_if ht.mn ha.mn hb.mn⟩
  refine rd_first ht.mn rep q fun c ρ1 q v W1 H1 rl rep1 st pn => ?_
  have rl : v = c := rl
  subst rl
  by_cases k : v = true
  · rw [if_pos k]
    exact rd_next (rel := relE X.K) (ext := xr) (Q := Q) ha.mn rep st.noxx pn rep1 (q.1 k) fun c ρ2 q w W2 H2 r2 rep2 st12 st2 pn2 => q w W2 H2 r2 rep2 st2 pn2
  · rw [if_neg k]
    exact rd_next (rel := relE X.K) (ext := xr) (Q := Q) hb.mn rep st.noxx pn rep1 (q.2 (by cases v <;> first | rfl | exact absurd rfl k)) fun c ρ2 q w W2 H2 r2 rep2 st12 st2 pn2 => q w W2 H2 r2 rep2 st2 pn2
end
structure PoS where
  nx : Rho → Prop
  rt : Rv → Rho → Prop
  bk : Rho → Prop
  ct : Rho → Prop
  ex : Addr → List (Str × T) → Rho → Prop
abbrev Ds := Rho → PoS → Prop
def MnS (d : Ds) : Prop := ∀ ρ Q Q', d ρ Q → (∀ ρ', Q.nx ρ' → Q'.nx ρ') → (∀ r ρ', Q.rt r ρ' → Q'.rt r ρ') → (∀ ρ', Q.bk ρ' → Q'.bk ρ') → (∀ ρ', Q.ct ρ' → Q'.ct ρ') → (∀ c f ρ', Q.ex c f ρ' → Q'.ex c f ρ') → d ρ Q'
/-- the caller's parameters: pinned, and their slots as they were -/
def IoK (σ : L2.St) (ρ : Rho) (σ' : L2.St) (ρ' : Rho) : Prop := ∀ i, (sl_ ρ i).pin = true → (sl_ ρ' i).pin = true ∧ at_ σ' i = at_ σ i
theorem IoK.refl (σ : L2.St) (ρ : Rho) : IoK σ ρ σ ρ := fun _ h => ⟨h, rfl⟩
theorem IoK.of {σ : L2.St} {ρ ρ' : Rho} (h : Pn ρ ρ') : IoK σ ρ σ ρ' := fun i z => ⟨h i z, rfl⟩
theorem IoK.trans {σ σ1 σ2 : L2.St} {ρ ρ1 ρ2 : Rho} (a : IoK σ ρ σ1 ρ1) (b : IoK σ1 ρ1 σ2 ρ2) : IoK σ ρ σ2 ρ2 := fun i h => ⟨(b i (a i h).1).1, (b i (a i h).1).2.trans (a i h).2⟩
def spost (K : PySem.W.Frag) (X : WX) (σ : L2.St) (ρ : Rho) (W : Ad) (H : Hp) (D : Ends) : PoS where
  nx := fun ρ' => ∀ σ' W' H', Rep K W' H' σ' ρ' → Step (Rt σ ρ) W H (Rt σ' ρ') W' H' → IoK σ ρ σ' ρ' → D.nx σ' H'
  rt := fun r ρ' => ∀ v σ' W' H', relE K σ' ρ' W' H' v r → Rep K W' H' σ' ρ' → Step (Rt σ ρ) W H (rooted (Rt σ' ρ') (xr v r)) W' H' → IoK σ ρ σ' ρ' → D.rt v H'
  bk := fun ρ' => ∀ σ' W' H', Rep K W' H' σ' ρ' → Step (Rt σ ρ) W H (Rt σ' ρ') W' H' → IoK σ ρ σ' ρ' → D.bk σ' H'
  ct := fun ρ' => ∀ σ' W' H', Rep K W' H' σ' ρ' → Step (Rt σ ρ) W H (Rt σ' ρ') W' H' → IoK σ ρ σ' ρ' → D.ct σ' H'
  ex := fun C fs ρ' => ∀ d σ' W' H', ExD K W' H' d fs → Rep K W' H' σ' ρ' → Step (Rt σ ρ) W H (Rt σ' ρ') W' H' → IoK σ ρ σ' ρ' → X (.ref C) d σ' H'
def RS (K : PySem.W.Frag) (X : WX) (d : Ds) : TS := fun D σ H => ∃ W ρ, Rep K W H σ ρ ∧ d ρ (spost K X σ ρ W H D)
structure XS (X : Cx) (Wx : WX) (st : Stmt) (d : Ds) : Prop where
  ps : PS X st (RS X.K Wx d)
  mn : MnS d
structure XSs (X : Cx) (Wx : WX) (st : List Stmt) (d : Ds) : Prop where
  pss : PSs X st (RS X.K Wx d)
  mn : MnS d
theorem PS.imp {X : Cx} {st : Stmt} {t t' : TS} (h : PS X st t) (i : ∀ D σ H, t' D σ H → t D σ H) : PS X st t' := ⟨fun pins s σ H D I q => h.run pins s σ H D I (i D σ H q)⟩
theorem PSs.imp {X : Cx} {st : List Stmt} {t t' : TS} (h : PSs X st t) (i : ∀ D σ H, t' D σ H → t D σ H) : PSs X st t' := ⟨fun pins s σ H D I q => h.run pins s σ H D I (i D σ H q)⟩
section
variable {K : PySem.W.Frag} {Wx : WX} {σ σ1 : L2.St} {ρ ρ1 : Rho} {W W1 : Ad} {H H1 : Hp} {D D1 : Ends}
/-- a statement runs behind what was done: its wish Q is taken up -/
theorem rs_next {d : Ds} {Q : PoS} (m : MnS d) (rep : Rep K W H σ ρ) (st : Step (Rt σ ρ) W H (Rt σ1 ρ1) W1 H1) (io : IoK σ ρ σ1 ρ1) (rep1 : Rep K W1 H1 σ1 ρ1) (h : d ρ1 Q)
    (n : ∀ ρ2, Q.nx ρ2 → ∀ σ' W' H', Rep K W' H' σ' ρ2 → Step (Rt σ1 ρ1) W1 H1 (Rt σ' ρ2) W' H' → Step (Rt σ ρ) W H (Rt σ' ρ2) W' H' → IoK σ ρ σ' ρ2 → D1.nx σ' H')
    (r : ∀ r ρ2, Q.rt r ρ2 → (spost K Wx σ ρ W H D1).rt r ρ2) (b : ∀ ρ2, Q.bk ρ2 → (spost K Wx σ ρ W H D1).bk ρ2) (c : ∀ ρ2, Q.ct ρ2 → (spost K Wx σ ρ W H D1).ct ρ2)
    (e : ∀ C fs ρ2, Q.ex C fs ρ2 → (spost K Wx σ ρ W H D1).ex C fs ρ2) : RS K Wx d D1 σ1 H1 :=
  ⟨W1, ρ1, rep1, m ρ1 _ _ h (fun ρ2 z σ' W' H' rp s i => n ρ2 z σ' W' H' rp s (st.trans rep.wd s) (io.trans i)) (fun x ρ2 z v σ' W' H' rl rp s i => r x ρ2 z v σ' W' H' rl rp (st.trans rep.wd s) (io.trans i))
    (fun ρ2 z σ' W' H' rp s i => b ρ2 z σ' W' H' rp (st.trans rep.wd s) (io.trans i)) (fun ρ2 z σ' W' H' rp s i => c ρ2 z σ' W' H' rp (st.trans rep.wd s) (io.trans i))
    fun C fs ρ2 z x σ' W' H' ed rp s i => e C fs ρ2 z x σ' W' H' ed rp (st.trans rep.wd s) (io.trans i)⟩
/-- an expression within a statement -/
theorem rd_stmt {α β : Type} {rel : L2.St → Rho → Ad → Hp → β → α → Prop} {ext : β → α → Ad} {Q1 : β → Hp → Prop} {d : Dn α} {k : α → Rho → Prop} (m : Mn d) (rep : Rep K W H σ ρ) (h : d ρ ⟨k, (spost K Wx σ ρ W H D).ex⟩)
    (hk : ∀ y ρ2, k y ρ2 → ∀ v W2 H2, rel σ ρ2 W2 H2 v y → Rep K W2 H2 σ ρ2 → Step (Rt σ ρ) W H (rooted (Rt σ ρ2) (ext v y)) W2 H2 → Pn ρ ρ2 → Q1 v H2) : RD K rel ext Wx d σ H Q1 :=
  ⟨W, ρ, rep, m ρ _ _ h (fun y ρ2 z v W2 H2 r rp s p2 => hk y ρ2 z v W2 H2 r rp s p2) fun C fs ρ' z d W' H' e rp s p2 => z d σ W' H' e rp s (.of p2)⟩
end
def sSeq (a b : Ds) : Ds := fun ρ Q => a ρ { Q with nx := fun ρ1 => b ρ1 Q }
theorem mn_seq {a b : Ds} (ma : MnS a) (mb : MnS b) : MnS (sSeq a b) := fun ρ Q Q' h n r bk c e => ma _ _ _ h (fun ρ1 q => mb _ _ _ q n r bk c e) r bk c e
def sNext : Ds := fun ρ Q => Q.nx ρ
def sBrk : Ds := fun ρ Q => Q.bk ρ
def sCnt : Ds := fun ρ Q => Q.ct ρ
def sDrop (d : Dn Rv) : Ds := fun ρ Q => d ρ ⟨fun _ ρ1 => Q.nx ρ1, Q.ex⟩
def sIf (t : Dn Bool) (a b : Ds) : Ds := fun ρ Q => t ρ ⟨fun c ρ1 => ifB c (a ρ1 Q) (b ρ1 Q), Q.ex⟩
def sRet (d : Dn Rv) : Ds := fun ρ Q => d ρ ⟨fun r ρ1 => Q.rt r ρ1, Q.ex⟩
def sRetN : Ds := fun ρ Q => Q.rt (false, .non) ρ
theorem mn_drop {d : Dn Rv} (m : Mn d) : MnS (sDrop d) := fun ρ Q Q' h n r bk c e => m _ _ _ h (fun _ ρ1 q => n _ q) e
theorem mn_sif {t : Dn Bool} {a b : Ds} (mt : Mn t) (ma : MnS a) (mb : MnS b) : MnS (sIf t a b) := fun ρ Q Q' h n r bk c e => mt _ _ _ h (fun k ρ1 q => ifB_mono q (fun z => ma _ _ _ z n r bk c e) fun z => mb _ _ _ z n r bk c e) e
theorem mn_ret {d : Dn Rv} (m : Mn d) : MnS (sRet d) := fun ρ Q Q' h n r bk c e => m _ _ _ h (fun _ ρ1 q => r _ _ q) e
section
variable {X : Cx} {Wx : WX} {st : Stmt} {rest body orelse : List Stmt} {e c : Expr} {d : Dn Rv} {dt : Dn Bool} {a b : Ds} {pos : Pos}
theorem xs_nil : XSs X Wx [] sNext := ⟨PSs.imp pss_nil fun D σ H ⟨W, ρ, rep, h⟩ => h σ W H rep (Step.refl _ _ _) (IoK.refl _ _), fun ρ Q Q' h n _ _ _ _ => n _ h⟩
theorem xs_one (h : XS X Wx st a) : XSs X Wx [st] a := ⟨pss_one h.ps, h.mn⟩
theorem xs_cons (h : XS X Wx st a) (hr : XSs X Wx rest b) : XSs X Wx (st :: rest) (sSeq a b) := by
  refine ⟨PSs.imp (pss_cons h.ps hr.pss) fun D σ H ⟨W, ρ, rep, q⟩ => ?_, mn_seq h.mn hr.mn⟩
  refine rs_next h.mn rep (Step.refl _ _ _) (IoK.refl _ _) rep q (fun ρ2 z σ' W' H' rp s s2 io => ?_) (fun _ _ z => z) (fun _ z => z) (fun _ z => z) (fun _ _ _ z => z)
  exact rs_next hr.mn rep s2 io rp z (fun ρ2 z σ' W' H' rp _ s io => z σ' W' H' rp s io) (fun _ _ z => z) (fun _ z => z) (fun _ z => z) (fun _ _ _ z => z)
theorem xs_expr (h : XE X Wx e d) (hs : swapsWith e none pos.line X.env = pure false := by rfl) : XS X Wx (.Expr e pos) (sDrop d) := by
  refine ⟨PS.imp (ps_expr h.pe hs) fun D σ H ⟨W, ρ, rep, q⟩ => ?_, mn_drop h.mn⟩
  refine rd_stmt h.mn rep q fun r ρ1 q v W1 H1 rl rep1 st pn => ?_
  exact q σ W1 H1 rep1 (st.subP fun p z => .inl z) (.of pn)
theorem xs_ret (h : XE X Wx e d) : XS X Wx (.Return (some e) pos) (sRet d) := by
  refine ⟨PS.imp (ps_ret h.pe) fun D σ H ⟨W, ρ, rep, q⟩ => ?_, mn_ret h.mn⟩
  exact rd_stmt h.mn rep q fun r ρ1 q v W1 H1 rl rep1 st pn => q v σ W1 H1 rl rep1 st (.of pn)
theorem xs_if (ht : XT X Wx c dt) (ha : XSs X Wx body a) (hb : XSs X Wx orelse b) : XS X Wx (.If c body orelse pos) (sIf dt a b) := by
  refine ⟨PS.imp (ps_if ht.pt ha.pss hb.pss) fun D σ H ⟨W, ρ, rep, q⟩ => ?_, mn_sif ht.mn ha.mn hb.mn⟩
  refine rd_stmt ht.mn rep q fun r ρ1 q v W1 H1 rl rep1 st pn => ?_
  have rl : v = r := rl
  subst rl
  by_cases k : v = true
  · rw [if_pos k]
    exact rs_next ha.mn rep st.noxx (.of pn) rep1 (q.1 k) (fun ρ2 z σ' W' H' rp _ s io => z σ' W' H' rp s io) (fun _ _ z => z) (fun _ z => z) (fun _ z => z) (fun _ _ _ z => z)
  · rw [if_neg k]
    exact rs_next hb.mn rep st.noxx (.of pn) rep1 (q.2 (by cases v <;> first | rfl | exact absurd rfl k)) (fun ρ2 z σ' W' H' rp _ s io => z σ' W' H' rp s io) (fun _ _ z => z) (fun _ z => z) (fun _ z => z) (fun _ _ _ z => z)
end
end O
namespace O
open PySem PySem.Spec PyProof.Rows L2
def Sl.of (r : Rv) : Sl := if r.1 = true then .ow r.2 else .sh r.2
section
variable {K : PySem.W.Frag} {Wx : WX} {σ σ1 : L2.St} {ρ ρ1 : Rho} {W W1 : Ad} {H H1 : Hp} {v : V} {r : Rv} {i : Nat}
theorem Sl.of_pin (r : Rv) : (Sl.of r).pin = false := by unfold Sl.of; split <;> rfl
theorem own_of {r : Rv} (h : (Sl.of r).own) : r.1 = true := by
  unfold Sl.of at h
  by_cases c : r.1 = true
  · exact c
  · rw [if_neg c] at h; exact h.elim
theorem repS_of (h : relE K σ ρ W H v r) : RepS K W H (some v) (Sl.of r) := by
  unfold relE at h
  unfold Sl.of
  by_cases c : r.1 = true
  · rw [if_pos c] at h ⊢
    obtain ⟨p, e, hw, ho, _⟩ := h
    exact ⟨p, by rw [e], hw, ho⟩
  · rw [if_neg c] at h ⊢
    exact ⟨v, rfl, h⟩
/-- a slot takes a value -/
theorem Rep.put (rep : Rep K W H σ ρ) (h : relE K σ ρ W H v r) (i : Nat) : Rep K W H (σ.set i (some v)) (ρ.set i (Sl.of r)) ∧ ∀ p, Rt (σ.set i (some v)) (ρ.set i (Sl.of r)) p → rooted (Rt σ ρ) (xr v r) p := by
  have hl := rep.len
  have own1 : ∀ j p, (sl_ (ρ.set i (Sl.of r)) j).own → at_ (σ.set i (some v)) j = some (.ref p) → (i = j ∧ r.1 = true ∧ v = .ref p) ∨ (¬ (i = j ∧ i < ρ.length) ∧ (sl_ ρ j).own ∧ at_ σ j = some (.ref p)) := fun j p w e => by
    rw [sl_set] at w
    rw [at_set, ← hl] at e
    by_cases c : i = j ∧ i < ρ.length
    · rw [if_pos c] at w e
      exact .inl ⟨c.1, own_of w, by cases e; rfl⟩
    · rw [if_neg c] at w e
      exact .inr ⟨c, w, e⟩
  have new : ∀ p, r.1 = true → v = .ref p → ¬ Rt σ ρ p := fun p c e => by
    unfold relE at h
    rw [if_pos c] at h
    obtain ⟨q, e', _, _, n⟩ := h
    rw [e'] at e; cases e; exact n
  refine ⟨⟨by rw [List.length_set, List.length_set]; exact hl, fun j => ?_, fun a b p wa wb ea eb => ?_, rep.wd⟩, fun p ⟨j, w, e⟩ => ?_⟩
  · rw [sl_set, at_set, ← hl]
    by_cases c : i = j ∧ i < ρ.length
    · rw [if_pos c, if_pos c]; exact repS_of h
    · rw [if_neg c, if_neg c]; exact rep.sl j
  · rcases own1 a p wa ea with ⟨x1, x2, x3⟩ | ⟨x1, x2, x3⟩ <;> rcases own1 b p wb eb with ⟨y1, y2, y3⟩ | ⟨y1, y2, y3⟩
    · exact x1.symm.trans y1
    · exact (new p x2 x3 ⟨b, y2, y3⟩).elim
    · exact (new p y2 y3 ⟨a, x2, x3⟩).elim
    · exact rep.inj a b p x2 y2 x3 y3
  · rcases own1 j p w e with ⟨_, x2, x3⟩ | ⟨_, x2, x3⟩
    · exact .inr ⟨x2, x3⟩
    · exact .inl ⟨j, x2, x3⟩
theorem ioK_put (h : (sl_ ρ i).pin = false) {s : Sl} {o : Option V} : IoK σ ρ (σ.set i o) (ρ.set i s) := fun j z => by
  have ne : i ≠ j := fun e => by subst e; rw [h] at z; cases z
  rw [sl_set, at_set, if_neg fun c => ne c.1, if_neg fun c => ne c.1]
  exact ⟨z, rfl⟩
end
def sSet (i : Nat) (d : Dn Rv) : Ds := fun ρ Q => d ρ ⟨fun r ρ1 => (sl_ ρ1 i).pin = false ∧ Q.nx (ρ1.set i (Sl.of r)), Q.ex⟩
theorem mn_set {i : Nat} {d : Dn Rv} (m : Mn d) : MnS (sSet i d) := fun ρ Q Q' h n r bk c e => m _ _ _ h (fun _ ρ1 q => ⟨q.1, n _ q.2⟩) e
section
variable {X : Cx} {Wx : WX} {e : Expr} {d : Dn Rv} {pos pos' : Pos}
theorem xs_set (i : Nat) {x : Str} (h : XE X Wx e d) (hN : X.N.Nodup) (hi : X.N[i]? = some x := by rfl) (hx : Loc X.env.scope x := by first | exact Or.inl rfl | exact Or.inr rfl)
    (hs : swapsWith e (some (.Name x pos')) pos.line X.env = pure false := by rfl) (hf : X.fn x = true ∨ X.env.scope.names.lookup x = some .local := by first | exact .inl rfl | exact .inr rfl) :
    XS X Wx (.Assign [.Name x pos'] e pos) (sSet i d) := by
  refine ⟨PS.imp (ps_set hN hi hx h.pe hs hf) fun D σ H ⟨W, ρ, rep, q⟩ => ?_, mn_set h.mn⟩
  refine rd_stmt h.mn rep q fun r ρ1 ⟨pf, q⟩ v W1 H1 rl rep1 st pn => ?_
  obtain ⟨rp, sub⟩ := rep1.put rl i
  exact q _ W1 H1 rp (st.subP sub) ((IoK.of pn).trans (ioK_put pf))
end
abbrev Dg := T → Rho → Po Unit → Prop
abbrev Dgs := List T → Rho → Po Unit → Prop
def MnG (g : Dg) : Prop := ∀ t ρ Q Q', g t ρ Q → (∀ x ρ', Q.ok x ρ' → Q'.ok x ρ') → (∀ c f ρ', Q.ex c f ρ' → Q'.ex c f ρ') → g t ρ Q'
def MnGs (g : Dgs) : Prop := ∀ t ρ Q Q', g t ρ Q → (∀ x ρ', Q.ok x ρ' → Q'.ok x ρ') → (∀ c f ρ', Q.ex c f ρ' → Q'.ex c f ρ') → g t ρ Q'
def gpost (K : PySem.W.Frag) (X : WX) (σ : L2.St) (ρ : Rho) (W : Ad) (H : Hp) (Q : L2.St → Hp → Prop) : Po Unit where
  ok := fun _ ρ' => ∀ σ' W' H', Rep K W' H' σ' ρ' → Step (Rt σ ρ) W H (Rt σ' ρ') W' H' → IoK σ ρ σ' ρ' → Q σ' H'
  ex := fun C fs ρ' => ∀ d σ' W' H', ExD K W' H' d fs → Rep K W' H' σ' ρ' → Step (Rt σ ρ) W H (Rt σ' ρ') W' H' → IoK σ ρ σ' ρ' → X (.ref C) d σ' H'
def RG (K : PySem.W.Frag) (X : WX) (g : Dg) : TG := fun v σ H Q => ∃ W ρ t, Rep K W H σ ρ ∧ Is K W H v t ∧ g t ρ (gpost K X σ ρ W H Q)
def RGs (K : PySem.W.Frag) (X : WX) (g : Dgs) : TGs := fun vs σ H Q => ∃ W ρ ts, Rep K W H σ ρ ∧ IsL K W H vs ts ∧ g ts ρ (gpost K X σ ρ W H Q)
structure XG (X : Cx) (Wx : WX) (e : Expr) (g : Dg) : Prop where
  pg : PG X e (RG X.K Wx g)
  mn : MnG g
structure XGs (X : Cx) (Wx : WX) (es : List Expr) (g : Dgs) : Prop where
  pgs : PGs X es (RGs X.K Wx g)
  mn : MnGs g
theorem PG.imp {X : Cx} {e : Expr} {t t' : TG} (h : PG X e t) (i : ∀ v σ H Q, t' v σ H Q → t v σ H Q) : PG X e t' := ⟨fun pins s σ H v u Q I r q => h.run pins s σ H v u Q I r (i v σ H Q q)⟩
theorem PGs.imp {X : Cx} {e : List Expr} {t t' : TGs} (h : PGs X e t) (i : ∀ v σ H Q, t' v σ H Q → t v σ H Q) : PGs X e t' := ⟨fun pins s σ H v u Q I r q => h.run pins s σ H v u Q I r (i v σ H Q q)⟩
def gNm (i : Nat) : Dg := fun t ρ Q => (sl_ ρ i).pin = false ∧ Q.ok () (ρ.set i (.sh t))
def gTp (n : Nat) (g : Dgs) : Dg := fun t ρ Q => ∃ ts, t = .tup ts ∧ ts.length = n ∧ g ts ρ Q
def gNi : Dgs := fun ts ρ Q => ts = [] ∧ Q.ok () ρ
def gCn (g : Dg) (gs : Dgs) : Dgs := fun ts ρ Q => ∃ t r, ts = t :: r ∧ g t ρ ⟨fun _ ρ1 => gs r ρ1 Q, Q.ex⟩
theorem mn_gNm (i : Nat) : MnG (gNm i) := fun t ρ Q Q' h k e => ⟨h.1, k _ _ h.2⟩
theorem mn_gTp {n : Nat} {g : Dgs} (m : MnGs g) : MnG (gTp n g) := fun t ρ Q Q' ⟨ts, i, l, h⟩ k e => ⟨ts, i, l, m _ _ _ _ h k e⟩
theorem mn_gNi : MnGs gNi := fun t ρ Q Q' h k e => ⟨h.1, k _ _ h.2⟩
theorem mn_gCn {g : Dg} {gs : Dgs} (m : MnG g) (ms : MnGs gs) : MnGs (gCn g gs) := fun t ρ Q Q' ⟨a, r, i, h⟩ k e => ⟨a, r, i, m _ _ _ _ h (fun _ _ z => ms _ _ _ _ z k e) e⟩
section
variable {X : Cx} {Wx : WX} {e : Expr} {es : List Expr} {g : Dg} {gs : Dgs} {pos : Pos}
theorem xg_name (i : Nat) {x : Str} (hN : X.N.Nodup) (hi : X.N[i]? = some x := by rfl) (hx : Loc X.env.scope x := by first | exact Or.inl rfl | exact Or.inr rfl) (hf : X.fn x = true ∨ X.env.scope.names.lookup x = some .local := by first | exact .inl rfl | exact .inr rfl) : XG X Wx (.Name x pos) (gNm i) := by
  refine ⟨PG.imp (pg_name hN hi hx hf) fun v σ H Q ⟨W, ρ, t, rep, is, pf, q⟩ => ?_, mn_gNm i⟩
  obtain ⟨rp, sub⟩ := rep.put (r := (false, t)) (relE_sh is) i
  rw [xr_sh] at sub
  exact q _ W H rp ((Step.refl _ _ _).subP sub) (ioK_put pf)
theorem xg_tup {k n : Nat} (hc : X.calm = true) (h : XGs X Wx es gs) (hn : (assignEach es X.env).length = n := by rfl) (hst : (assignEach es X.env).findIdx? (·.1) = none := by rfl) : XG X Wx (.Tuple es k pos) (gTp n gs) := by
  refine ⟨PG.imp (pg_tup hc h.pgs hn hst) fun v σ H Q ⟨W, ρ, t, rep, is, ts, e, hl, q⟩ => ?_, mn_gTp h.mn⟩
  subst e
  cases is with
  | tup r w l => exact ⟨_, _, rfl, .of r, by rw [l.length]; exact hl, W, ρ, ts, rep, l, q⟩
  | tupK r l => exact ⟨_, _, rfl, .inr r, by rw [l.length]; exact hl, W, ρ, ts, rep, l, q⟩
theorem xgs_nil : XGs X Wx [] gNi := ⟨PGs.imp pgs_nil fun vs σ H Q ⟨W, ρ, ts, rep, is, e, q⟩ => by
  subst e
  cases is
  exact ⟨rfl, q σ W H rep (Step.refl _ _ _) (IoK.refl _ _)⟩, mn_gNi⟩
theorem xgs_cons (h : XG X Wx e g) (hr : XGs X Wx es gs) (hs : (assignEach (e :: es) X.env).map (·.2) = assign e X.env :: (assignEach es X.env).map (·.2) := by rfl) : XGs X Wx (e :: es) (gCn g gs) := by
  refine ⟨PGs.imp (pgs_cons h.pg hr.pgs hs) fun vs σ H Q ⟨W, ρ, ts, rep, is, t, r, e, q⟩ => ?_, mn_gCn h.mn hr.mn⟩
  subst e
  cases is with
  | cons i1 i2 =>
    refine ⟨_, _, rfl, W, ρ, t, rep, i1, h.mn _ _ _ _ q (fun _ ρ1 z σ' W' H' rp st io => ?_) fun C fs ρ' z => z⟩
    refine ⟨W', ρ1, r, rp, i2.step st rep.rt, hr.mn _ _ _ _ z (fun _ ρ2 z σ2 W2 H2 rp2 st2 io2 => z σ2 W2 H2 rp2 (st.trans rep.wd st2) (io.trans io2)) fun C fs ρ2 z d σ2 W2 H2 ed rp2 st2 io2 => z d σ2 W2 H2 ed rp2 (st.trans rep.wd st2) (io.trans io2)⟩
end
/-- target = value, the value shared -/
def sAsg (d : Dn Rv) (g : Dg) : Ds := fun ρ Q => d ρ ⟨fun r ρ1 => g r.2 ρ1 ⟨fun _ ρ2 => Q.nx ρ2, Q.ex⟩, Q.ex⟩
theorem mn_asg {d : Dn Rv} {g : Dg} (m : Mn d) (mg : MnG g) : MnS (sAsg d g) := fun ρ Q Q' h n r bk c e => m _ _ _ h (fun _ ρ1 q => mg _ _ _ _ q (fun _ ρ2 z => n _ z) e) e
section
variable {X : Cx} {Wx : WX} {e tg : Expr} {d : Dn Rv} {g : Dg} {pos pos' : Pos}
theorem xs_asg (h : XE X Wx e d) (hg : XG X Wx tg g) (hs : swapsWithSole [tg] e pos.line X.env = pure false := by rfl) (hw : swappedStores [tg] e X.env = pure none := by rfl) (h1 : (assignEach [tg] X.env).map (·.2) = [assign tg X.env] := by rfl) :
    XS X Wx (.Assign [tg] e pos) (sAsg d g) := by
  refine ⟨PS.imp (ps_asg h.pe hg.pg hs hw h1) fun D σ H ⟨W, ρ, rep, q⟩ => ?_, mn_asg h.mn hg.mn⟩
  refine rd_stmt h.mn rep q fun r ρ1 q v W1 H1 rl rep1 st pn => ?_
  obtain ⟨W2, s, is, rp2, st2⟩ := demote rep.wd rl rep1 st
  exact ⟨W2, ρ1, r.2, rp2, is, hg.mn _ _ _ _ q (fun _ ρ3 z σ' W' H' rp st3 io => z σ' W' H' rp (st2.trans rep.wd st3) ((IoK.of pn).trans io)) fun C fs ρ3 z d σ' W' H' ed rp st3 io => z d σ' W' H' ed rp (st2.trans rep.wd st3) ((IoK.of pn).trans io)⟩
end
structure Lt (W : Ad) (H : Hp) (W2 : Ad) (H2 : Hp) : Prop where
  keep : ∀ p o, H p = some o → ¬ W p → H2 p = some o
  new : ∀ p, W2 p → W p ∨ H p = none
  dom : ∀ p o, H p = some o → ∃ o', H2 p = some o'
theorem Lt.refl (W : Ad) (H : Hp) : Lt W H W H := ⟨fun _ _ e _ => e, fun _ h => .inl h, fun _ o e => ⟨o, e⟩⟩
theorem Lt.step {W W1 W2 P P2 : Ad} {H H1 H2 : Hp} (a : Lt W H W1 H1) (hP : ∀ p, P p → W1 p) (s : Step P W1 H1 P2 W2 H2) : Lt W H W2 H2 where
  keep := fun p o e n => s.keep p o (a.keep p o e n) fun z => (a.new p (hP p z)).elim n fun q => by rw [e] at q; cases q
  new := fun p z => (s.new p z).elim (a.new p) fun q => .inr (by
    cases e : H p with
    | none => rfl
    | some o => obtain ⟨o1, e1⟩ := a.dom p o e; rw [q] at e1; cases e1)
  dom := fun p o e => by obtain ⟨o1, e1⟩ := a.dom p o e; exact s.dom p o1 e1
theorem Is.lt {K : PySem.W.Frag} {W W2 : Ad} {H H2 : Hp} {v : V} {t : T} (h : Is K W H v t) (l : Lt W H W2 H2) : Is K W2 H2 v t := h.keep (P := W) l.keep (fun _ z => z) l.new
theorem IsL.lt {K : PySem.W.Frag} {W W2 : Ad} {H H2 : Hp} {v : List V} {t : List T} (h : IsL K W H v t) (l : Lt W H W2 H2) : IsL K W2 H2 v t := h.keep (P := W) l.keep (fun _ z => z) l.new
/-- the iterator gives these trees, whatever happens to what is owned -/
def Yl (K : PySem.W.Frag) (W : Ad) (H : Hp) (J : It) (ts : List T) : Prop :=
  ∀ W2 H2, Lt W H W2 H2 → Wd W2 H2 → J.stop ts.length H2 ∧ ∀ i t, ts[i]? = some t → J.go i H2 ∧ ∀ x H3, J.yld i H2 x H3 → (∀ p o, H2 p = some o → H3 p = some o) ∧ Is K W2 H3 x t
abbrev Di := Dn (List T)
def RI (K : PySem.W.Frag) (X : WX) (d : Di) : TI := fun σ H R => ∃ W ρ, Rep K W H σ ρ ∧ d ρ
  ⟨fun ts ρ' => ∀ J W' H', Rep K W' H' σ ρ' → Step (Rt σ ρ) W H (Rt σ ρ') W' H' → Pn ρ ρ' → Yl K W' H' J ts → R J H',
   fun C fs ρ' => ∀ d W' H', ExD K W' H' d fs → Rep K W' H' σ ρ' → Step (Rt σ ρ) W H (Rt σ ρ') W' H' → Pn ρ ρ' → X (.ref C) d σ H'⟩
structure XI (X : Cx) (Wx : WX) (tg e : Expr) (d : Di) : Prop where
  pi : PI X tg e (RI X.K Wx d)
  mn : Mn d
theorem PI.imp {X : Cx} {tg e : Expr} {t t' : TI} (h : PI X tg e t) (i : ∀ σ H R, t' σ H R → t σ H R) : PI X tg e t' := ⟨fun pins s σ H R I q => h.run pins s σ H R I (i σ H R q)⟩
def forD (g : Dg) (b : Ds) (Q : PoS) : List T → Rho → Prop
  | [], ρ => Q.nx ρ
  | t :: ts, ρ => g t ρ ⟨fun _ ρ1 => b ρ1 { Q with nx := forD g b Q ts, ct := forD g b Q ts, bk := Q.nx }, Q.ex⟩
def sFor (d : Di) (g : Dg) (b : Ds) : Ds := fun ρ Q => d ρ ⟨fun ts ρ1 => forD g b Q ts ρ1, Q.ex⟩
theorem mn_forD {g : Dg} {b : Ds} (mg : MnG g) (mb : MnS b) {Q Q' : PoS} (n : ∀ ρ', Q.nx ρ' → Q'.nx ρ') (r : ∀ r ρ', Q.rt r ρ' → Q'.rt r ρ') (e : ∀ c f ρ', Q.ex c f ρ' → Q'.ex c f ρ') : ∀ ts ρ, forD g b Q ts ρ → forD g b Q' ts ρ
  | [], ρ, h => n ρ h
  | t :: ts, ρ, h => mg _ _ _ _ h (fun _ ρ1 z => mb _ _ _ z (fun ρ2 z => mn_forD mg mb n r e ts ρ2 z) r n (fun ρ2 z => mn_forD mg mb n r e ts ρ2 z) e) e
theorem mn_for {d : Di} {g : Dg} {b : Ds} (md : Mn d) (mg : MnG g) (mb : MnS b) : MnS (sFor d g b) := fun ρ Q Q' h n r bk c e => md _ _ _ h (fun ts ρ1 z => mn_forD mg mb n r e ts ρ1 z) e
section
variable {X : Cx} {Wx : WX} {tg e c : Expr} {body : List Stmt} {d : Di} {g : Dg} {b : Ds} {dt : Dn Bool} {pos : Pos}
theorem xs_for (hp : PassesOwn (model X.prog X.w) X.A X.env X.xe) (hc : X.calm = true) (hi : XI X Wx tg e d) (hg : XG X Wx tg g) (hb : XSs X Wx body b) (hs : ∀ x, foldedSetIterable e X.env x = pure x := by intro _; rfl) :
    XS X Wx (.For tg e body [] pos) (sFor d g b) := by
  refine ⟨PS.imp (ps_for hp hc hi.pi hg.pg hb.pss hs) fun D σ H ⟨W, ρ, rep, q⟩ => ?_, mn_for hi.mn hg.mn hb.mn⟩
  refine ⟨W, ρ, rep, hi.mn _ _ _ q (fun ts ρ1 q J W1 H1 rep1 st1 pn1 yl => ?_) fun C fs ρ1 z d W1 H1 ed rp st pn => z d σ W1 H1 ed rp st (.of pn)⟩
  -- the state ahead of a turn
  let St := fun (k : Nat) (σ' : L2.St) (H' : Hp) => ∃ W' ρ', Rep X.K W' H' σ' ρ' ∧ forD g b (spost X.K Wx σ ρ W H D) (ts.drop k) ρ' ∧ Lt W1 H1 W' H' ∧ Step (Rt σ ρ) W H (Rt σ' ρ') W' H' ∧ IoK σ ρ σ' ρ'
  refine ⟨fun i m σ' H' => m = ts.length - i ∧ i ≤ ts.length ∧ St i σ' H', ⟨_, rfl, Nat.zero_le _, W1, ρ1, rep1, by rw [List.drop_zero]; exact q, .refl _ _, st1, .of pn1⟩, ?_⟩
  rintro i m σ2 H2 ⟨rfl, hle, W2, ρ2, rep2, q2, lt2, st2, io2⟩
  obtain ⟨ys, yg⟩ := yl W2 H2 lt2 rep2.wd
  by_cases hlt : i < ts.length
  · rw [List.drop_eq_getElem_cons hlt] at q2
    obtain ⟨go, yi⟩ := yg i ts[i] (List.getElem?_eq_getElem hlt)
    refine .inr ⟨go, St (i + 1), fun σ' H' z => ⟨ts.length - (i + 1), by omega, rfl, hlt, z⟩, fun x H3 y => ?_⟩
    obtain ⟨same, is⟩ := yi x H3 y
    have sm : Step (Rt σ2 ρ2) W2 H2 (Rt σ2 ρ2) W2 H3 := Step.same same
    refine ⟨W2, ρ2, ts[i], rep2.same same, is, hg.mn _ _ _ _ q2 (fun _ ρ4 z σ4 W4 H4 rp4 st4 io4 => ?_) fun C fs ρ4 z d σ4 W4 H4 ed rp4 st4 io4 => z d σ4 W4 H4 ed rp4 ((st2.trans rep.wd sm).trans rep.wd st4) (io2.trans io4)⟩
    have rel4 : Step (Rt σ2 ρ2) W2 H2 (Rt σ4 ρ4) W4 H4 := sm.trans rep2.wd st4
    have lt4 := lt2.step rep2.rt rel4
    have tot4 := st2.trans rep.wd rel4
    refine ⟨W4, ρ4, rp4, hb.mn _ _ _ z (fun ρ5 z σ5 W5 H5 rp5 st5 io5 => ?_) (fun r ρ5 z v σ5 W5 H5 rl rp5 st5 io5 => z v σ5 W5 H5 rl rp5 (tot4.trans rep.wd st5) ((io2.trans io4).trans io5)) (fun ρ5 z σ5 W5 H5 rp5 st5 io5 => z σ5 W5 H5 rp5 (tot4.trans rep.wd st5) ((io2.trans io4).trans io5)) (fun ρ5 z σ5 W5 H5 rp5 st5 io5 => ?_)
      fun C fs ρ5 z d σ5 W5 H5 ed rp5 st5 io5 => z d σ5 W5 H5 ed rp5 (tot4.trans rep.wd st5) ((io2.trans io4).trans io5)⟩
    · exact ⟨W5, ρ5, rp5, z, lt4.step rp4.rt st5, tot4.trans rep.wd st5, (io2.trans io4).trans io5⟩
    · exact ⟨W5, ρ5, rp5, z, lt4.step rp4.rt st5, tot4.trans rep.wd st5, (io2.trans io4).trans io5⟩
  · have e : i = ts.length := by omega
    subst e
    rw [List.drop_length] at q2
    exact .inl ⟨ys, q2 σ2 W2 H2 rep2 st2 io2⟩
def whN (t : Dn Bool) (b : Ds) (Q : PoS) : Nat → Rho → Prop
  | 0, _ => False
  | n + 1, ρ => t ρ ⟨fun c ρ1 => ifB c (b ρ1 { Q with nx := whN t b Q n, ct := whN t b Q n, bk := Q.nx }) (Q.nx ρ1), Q.ex⟩
def sWhile (t : Dn Bool) (b : Ds) : Ds := fun ρ Q => ∃ n, whN t b Q n ρ
theorem mn_whN {t : Dn Bool} {b : Ds} (mt : Mn t) (mb : MnS b) {Q Q' : PoS} (n : ∀ ρ', Q.nx ρ' → Q'.nx ρ') (r : ∀ r ρ', Q.rt r ρ' → Q'.rt r ρ') (e : ∀ c f ρ', Q.ex c f ρ' → Q'.ex c f ρ') : ∀ k ρ, whN t b Q k ρ → whN t b Q' k ρ
  | 0, _, h => h
  | k + 1, ρ, h => mt _ _ _ h (fun c ρ1 z => ifB_mono z (fun z => mb _ _ _ z (fun ρ2 z => mn_whN mt mb n r e k ρ2 z) r n (fun ρ2 z => mn_whN mt mb n r e k ρ2 z) e) (n _)) e
theorem mn_while {t : Dn Bool} {b : Ds} (mt : Mn t) (mb : MnS b) : MnS (sWhile t b) := fun ρ Q Q' ⟨k, h⟩ n r bk c e => ⟨k, mn_whN mt mb n r e k ρ h⟩
theorem xs_while (hp : PassesOwn (model X.prog X.w) X.A X.env X.xe) (ht : XT X Wx c dt) (hb : XSs X Wx body b) : XS X Wx (.While c body [] pos) (sWhile dt b) := by
  refine ⟨PS.imp (ps_while hp ht.pt hb.pss) fun D σ H ⟨W, ρ, rep, k, q⟩ => ?_, mn_while ht.mn hb.mn⟩
  let St := fun (k : Nat) (σ' : L2.St) (H' : Hp) => ∃ W' ρ', Rep X.K W' H' σ' ρ' ∧ whN dt b (spost X.K Wx σ ρ W H D) k ρ' ∧ Step (Rt σ ρ) W H (Rt σ' ρ') W' H' ∧ IoK σ ρ σ' ρ'
  refine ⟨fun m σ' H' => St m σ' H', ⟨k, W, ρ, rep, q, Step.refl _ _ _, IoK.refl _ _⟩, ?_⟩
  rintro m σ2 H2 ⟨W2, ρ2, rep2, q2, st2, io2⟩
  cases m with
  | zero => exact q2.elim
  | succ m =>
    refine ⟨W2, ρ2, rep2, ht.mn _ _ _ q2 (fun c ρ3 z v W3 H3 rl rp3 st3 pn3 => ?_) fun C fs ρ3 z d W3 H3 ed rp3 st3 pn3 => z d σ2 W3 H3 ed rp3 (st2.trans rep.wd st3) (io2.trans (.of pn3))⟩
    have rl : v = c := rl
    subst rl
    have st3 := st3.noxx
    have tot := st2.trans rep.wd st3
    have io3 := io2.trans (.of pn3)
    show if v = true then _ else _
    by_cases k : v = true
    · rw [if_pos k]
      refine ⟨St m, fun σ' H' z => ⟨m, Nat.lt_succ_self _, z⟩, W3, ρ3, rp3, hb.mn _ _ _ (z.1 k) (fun ρ5 z σ5 W5 H5 rp5 st5 io5 => ?_) (fun r ρ5 z v σ5 W5 H5 rl rp5 st5 io5 => z v σ5 W5 H5 rl rp5 (tot.trans rep.wd st5) (io3.trans io5)) (fun ρ5 z σ5 W5 H5 rp5 st5 io5 => z σ5 W5 H5 rp5 (tot.trans rep.wd st5) (io3.trans io5)) (fun ρ5 z σ5 W5 H5 rp5 st5 io5 => ?_)
        fun C fs ρ5 z d σ5 W5 H5 ed rp5 st5 io5 => z d σ5 W5 H5 ed rp5 (tot.trans rep.wd st5) (io3.trans io5)⟩
      · exact ⟨W5, ρ5, rp5, z, tot.trans rep.wd st5, io3.trans io5⟩
      · exact ⟨W5, ρ5, rp5, z, tot.trans rep.wd st5, io3.trans io5⟩
    · rw [if_neg k]
      exact z.2 (by cases v <;> first | rfl | exact absurd rfl k) σ2 W3 H3 rp3 tot io3
end
end O
namespace O
open PySem PySem.Spec PyProof.Rows L2
/-- return x: the owned object goes with it -/
def dMove (i : Nat) : Dn Rv := fun ρ Q => match sl_ ρ i with
  | .no => False
  | .sh t => Q.ok (false, t) ρ
  | .sd t => Q.ok (false, t) ρ
  | .ow t => Q.ok (true, t) (ρ.set i .no)
  | .io t => Q.ok (false, t) (ρ.set i (.sd t))
theorem mn_move (i : Nat) : Mn (dMove i) := fun ρ Q Q' h k _ => by
  unfold dMove at h ⊢
  cases q : sl_ ρ i <;> rw [q] at h <;> first | exact h.elim | exact k _ _ h
section
variable {K : PySem.W.Frag} {σ : L2.St} {ρ : Rho} {W : Ad} {H : Hp}
theorem sl_lt {i : Nat} (h : sl_ ρ i ≠ .no) : i < ρ.length := by
  rcases Nat.lt_or_ge i ρ.length with l | l
  · exact l
  · exact absurd (by unfold sl_; rw [List.getD_eq_getElem?_getD, List.getElem?_eq_none l]; rfl) h
theorem own_ne {s : Sl} (h : s.own) : s ≠ .no := fun e => by rw [e] at h; exact h
theorem Rep.move {i : Nat} {t : T} (r : Rep K W H σ ρ) (h : sl_ ρ i = .ow t) :
    ∃ p, at_ σ i = some (.ref p) ∧ relE K σ (ρ.set i .no) W H (.ref p) (true, t) ∧ Rep K W H σ (ρ.set i .no) ∧ Step (Rt σ ρ) W H (rooted (Rt σ (ρ.set i .no)) (xr (.ref p) (true, t))) W H := by
  have hr := r.sl i
  rw [h] at hr
  obtain ⟨p, e1, e2, e3⟩ := hr
  have w : (sl_ ρ i).own := by rw [h]; trivial
  have li := sl_lt (own_ne w)
  have own' : ∀ j, (sl_ (ρ.set i .no) j).own → j ≠ i ∧ (sl_ ρ j).own := fun j z => by
    rw [sl_set] at z
    by_cases c : i = j ∧ i < ρ.length
    · rw [if_pos c] at z; exact z.elim
    · rw [if_neg c] at z; exact ⟨fun e => c ⟨e.symm, li⟩, z⟩
  refine ⟨p, e1, ?_, ⟨by rw [List.length_set]; exact r.len, fun j => ?_, fun a b q wa wb => r.inj a b q (own' a wa).2 (own' b wb).2, r.wd⟩, (Step.refl _ _ _).subP fun q z => ?_⟩
  · unfold relE
    rw [if_pos rfl]
    exact ⟨p, rfl, e2, e3, fun ⟨j, wj, ej⟩ => (own' j wj).1 (r.inj j i p (own' j wj).2 w ej e1)⟩
  · rw [sl_set]
    by_cases c : i = j ∧ i < ρ.length
    · rw [if_pos c]; trivial
    · rw [if_neg c]; exact r.sl j
  · rcases z with ⟨j, wj, ej⟩ | ⟨_, e⟩
    · exact ⟨j, (own' j wj).2, ej⟩
    · cases e; exact ⟨i, w, e1⟩
/-- the owned object is written -/
theorem Rep.write {i : Nat} {t' : T} {p : Addr} {o : HO} (r : Rep K W H σ ρ) (hi : (sl_ ρ i).own) (hp : at_ σ i = some (.ref p)) (ho : OwnAt K W (upd H p o) p t') :
    Rep K W (upd H p o) σ (ρ.set i (if (sl_ ρ i).pin = true then .io t' else .ow t')) ∧ Step (Rt σ ρ) W H (Rt σ (ρ.set i (if (sl_ ρ i).pin = true then .io t' else .ow t'))) W (upd H p o) := by
  have hw := r.rt p ⟨i, hi, hp⟩
  have li := sl_lt (own_ne hi)
  have k : ∀ q u, H q = some u → ¬ q = p → upd H p o q = some u := fun q u e n => by rw [upd_ne n]; exact e
  have kw : ∀ q, q = p → W q := fun q e => by rw [e]; exact hw
  have own' : ∀ j, (sl_ (ρ.set i (if (sl_ ρ i).pin = true then Sl.io t' else .ow t')) j).own → (sl_ ρ j).own := fun j z => by
    rw [sl_set] at z
    by_cases c : i = j ∧ i < ρ.length
    · rw [← c.1]; exact hi
    · rw [if_neg c] at z; exact z
  have dom : ∀ q u, H q = some u → ∃ u', upd H p o q = some u' := fun q u e => by
    by_cases c : q = p
    · rw [c, upd_same]; exact ⟨_, rfl⟩
    · exact ⟨u, k q u e c⟩
  refine ⟨⟨by rw [List.length_set]; exact r.len, fun j => ?_, fun a b q wa wb => r.inj a b q (own' a wa) (own' b wb), fun q z => by obtain ⟨u, e⟩ := r.wd q z; exact dom q u e⟩,
    ⟨fun q u e n => k q u e fun c => n ⟨i, hi, by rw [c]; exact hp⟩, dom, fun q z _ => z, fun q z => .inl z, fun q ⟨j, w, e⟩ => .inl ⟨j, own' j w, e⟩⟩⟩
  rw [sl_set]
  by_cases c : i = j ∧ i < ρ.length
  · rw [if_pos c, ← c.1]
    by_cases pn : (sl_ ρ i).pin = true
    · rw [if_pos pn]; exact ⟨p, hp, hw, ho⟩
    · rw [if_neg pn]; exact ⟨p, hp, hw, ho⟩
  · rw [if_neg c]
    have hs := r.sl j
    have ne : ∀ q, (sl_ ρ j).own → at_ σ j = some (.ref q) → q ≠ p := fun q w e z => by
      rw [z] at e
      exact c ⟨(r.inj j i p w hi e hp).symm, li⟩
    cases q : sl_ ρ j with
    | no => trivial
    | sh t => rw [q] at hs; obtain ⟨u, e1, e2⟩ := hs; exact ⟨u, e1, e2.keep (P := fun q => q = p) k kw fun _ z => .inl z⟩
    | sd t => rw [q] at hs; obtain ⟨u, e1, ⟨e2, ob, eo⟩, e3⟩ := hs; exact ⟨u, e1, ⟨e2, dom _ _ eo⟩, e3.keep (P := fun q => q = p) k kw fun _ z => .inl z⟩
    | ow t => rw [q] at hs; obtain ⟨u, e1, e2, e3⟩ := hs; exact ⟨u, e1, e2, e3.keep (P := fun q => q = p) k kw (fun _ z => .inl z) fun v e => k u v e (ne u (by rw [q]; trivial) e1)⟩
    | io t => rw [q] at hs; obtain ⟨u, e1, e2, e3⟩ := hs; exact ⟨u, e1, e2, e3.keep (P := fun q => q = p) k kw (fun _ z => .inl z) fun v e => k u v e (ne u (by rw [q]; trivial) e1)⟩
theorem Is.write {v : V} {t : T} {p : Addr} {o : HO} (h : Is K W H v t) (hw : W p) : Is K W (upd H p o) v t :=
  h.keep (P := fun q => q = p) (fun q u e n => by rw [upd_ne n]; exact e) (fun q e => by rw [e]; exact hw) fun _ z => .inl z
theorem IsL.write {v : List V} {t : List T} {p : Addr} {o : HO} (h : IsL K W H v t) (hw : W p) : IsL K W (upd H p o) v t :=
  h.keep (P := fun q => q = p) (fun q u e n => by rw [upd_ne n]; exact e) (fun q e => by rw [e]; exact hw) fun _ z => .inl z
end
section
variable {X : Cx} {Wx : WX}
theorem xe_move (i : Nat) {x : Str} {pos : Pos} (hN : X.N[i]? = some x := by rfl) (hv : Vis X.env.scope x := by first | exact Or.inl rfl | exact Or.inr (Or.inl rfl) | exact Or.inr (Or.inr rfl)) (hd : (x == ("__debug__" : Str)) = false := by decide)
    (hcd : (x == ("__classdict__" : Str)) = false := by decide) : XE X Wx (.Name x pos) (dMove i) := by
  refine ⟨PE.imp (pv i hN hv hd hcd) fun σ H Q ⟨W, ρ, rep, h⟩ => ?_, mn_move i⟩
  have hs := rep.sl i
  unfold dMove at h
  cases q : sl_ ρ i with
  | no => rw [q] at h; exact h.elim
  | sh t =>
    rw [q] at h hs
    obtain ⟨v, e, hi⟩ := hs
    exact ⟨v, at_get.mp e, h v W H (relE_sh hi) rep (by rw [xr_sh]; exact Step.refl _ _ _) (Pn.refl _)⟩
  | sd t =>
    rw [q] at h hs
    obtain ⟨p, e, n, hi⟩ := hs
    exact ⟨.ref p, at_get.mp e, h _ W H (relE_sh hi) rep (by rw [xr_sh]; exact Step.refl _ _ _) (Pn.refl _)⟩
  | ow t =>
    rw [q] at h
    obtain ⟨p, e, rl, rp, st⟩ := rep.move q
    exact ⟨.ref p, at_get.mp e, h _ W H rl rp st (pn_set fun z => by rw [q] at z; cases z)⟩
  | io t =>
    obtain ⟨v, s', W', e, e2, hi, rp, st⟩ := rep.shared (.inr q)
    rw [q] at h e2
    have e2 : s' = .sd t := e2
    subst e2
    exact ⟨v, at_get.mp e, h v W' H (relE_sh hi) rp (by rw [xr_sh]; exact st) (pn_set fun _ => rfl)⟩
end
structure Om where
  pre : Prop
  new : T
  val : T
def Om.no : Om := ⟨False, .non, .non⟩
def T.isTy (Ty : String) : T → Prop
  | .lst _ => Ty = "list"
  | .dK _ => Ty = "dict"
  | .dT _ => Ty = "dict"
  | .str _ => Ty = "str"
  | _ => False
/-- a method's reading does g to the receiver's tree -/
def MutR (K : PySem.W.Frag) (r : V → List V → Hp → VK → Prop) (g : T → List T → Om) : Prop := ∀ W H p vs t ts (Q : VK), Wd W H → W p → OwnAt K W H p t → IsL K W H vs ts → (g t ts).pre →
  (∀ v o, OwnAt K W (upd H p o) p (g t ts).new → Is K W (upd H p o) v (g t ts).val → Q v (upd H p o)) → r (.ref p) vs H Q
def ownT : Sl → Option T
  | .ow t => some t
  | .io t => some t
  | _ => none
def reown (s : Sl) (t : T) : Sl := if s.pin = true then .io t else .ow t
def dMut (i : Nat) (Ty : String) (g : T → List T → Om) (d : Dn (List Hn)) : Dn Rv := fun ρ Q => (∃ t0, ownT (sl_ ρ i) = some t0 ∧ t0.isTy Ty) ∧
  d ρ ⟨fun hs ρ1 => ∃ t, ownT (sl_ ρ1 i) = some t ∧ ∃ ts, tms hs = some ts ∧ (g t ts).pre ∧ Q.ok (false, (g t ts).val) (ρ1.set i (reown (sl_ ρ1 i) (g t ts).new)), Q.ex⟩
theorem mn_mut {i : Nat} {Ty : String} {g : T → List T → Om} {d : Dn (List Hn)} (m : Mn d) : Mn (dMut i Ty g d) := fun ρ Q Q' h k e => ⟨h.1, m _ _ _ h.2 (fun hs ρ1 ⟨t, a, ts, b, c, q⟩ => ⟨t, a, ts, b, c, k _ _ q⟩) e⟩
theorem mn_nil : Mn dNil := fun ρ Q Q' h k _ => k _ _ h
theorem relOs_tm {K : PySem.W.Frag} {σ : L2.St} {ρ : Rho} {W : Ad} {H : Hp} : ∀ {vs : List V} {ts : List T}, relOs K σ ρ W H vs (ts.map Hn.tm) → IsL K W H vs ts
  | _, [], h => by cases h; exact .nil
  | _, t :: ts, h => by cases h with | cons a b => exact .cons a (relOs_tm b)
theorem own_at {K : PySem.W.Frag} {σ : L2.St} {ρ : Rho} {W : Ad} {H : Hp} {i : Nat} {t : T} (rep : Rep K W H σ ρ) (h : ownT (sl_ ρ i) = some t) : ∃ p, at_ σ i = some (.ref p) ∧ W p ∧ OwnAt K W H p t ∧ (sl_ ρ i).own := by
  have hs := rep.sl i
  cases q : sl_ ρ i with
  | ow u => rw [q] at hs h; cases h; obtain ⟨p, a, b, c⟩ := hs; exact ⟨p, a, b, c, trivial⟩
  | io u => rw [q] at hs h; cases h; obtain ⟨p, a, b, c⟩ := hs; exact ⟨p, a, b, c, trivial⟩
  | _ => rw [q] at h; cases h
theorem tyV_own {K : PySem.W.Frag} {W : Ad} {H : Hp} {p : Addr} {t : T} {Ty : String} (h : OwnAt K W H p t) (i : t.isTy Ty) : tyV K Ty (.ref p) H := by
  cases t with
  | lst ts => obtain ⟨xs, e, _⟩ := h; exact .inl ⟨i, xs, .of e⟩
  | dK ts => obtain ⟨xs, e, _⟩ := h; exact .inr (.inr (.inl ⟨i, .inl ⟨xs, e⟩⟩))
  | dT ts => obtain ⟨xs, e, _⟩ := h; exact .inr (.inr (.inl ⟨i, .inr ⟨xs, e⟩⟩))
  | _ => first | exact h.elim | exact i.elim
theorem reown_pin {s : Sl} {t : T} : (reown s t).pin = s.pin := by unfold reown; cases s <;> rfl
section
variable {X : Cx} {Wx : WX} {e : Expr} {es : List Expr} {ds : Dn (List Hn)}
theorem mut_run {i : Nat} {Ty : String} {r : V → List V → Hp → VK → Prop} {g : T → List T → Om} (hg : MutR X.K r g) (ma : Mn ds) (σ : L2.St) (H : Hp) (Q : VK) (h : RD X.K (relE X.K) xr Wx (dMut i Ty g ds) σ H Q) :
    ∃ v, σ[i]? = some (some v) ∧ tyV X.K Ty v H ∧ RD X.K (relOs X.K) nox Wx ds σ H fun xs H2 => r v xs H2 Q := by
  obtain ⟨W, ρ, rep, ⟨t0, o0, y0⟩, h⟩ := h
  obtain ⟨p, a, w, o, _⟩ := own_at rep o0
  refine ⟨.ref p, at_get.mp a, tyV_own o y0, rd_first ma rep h fun hs ρ1 ⟨t, ot, ts, e, pr, q⟩ vs W1 H1 rl rep1 st pn => ?_⟩
  have e := tms_map e
  subst e
  obtain ⟨p', a', w', o', hown⟩ := own_at rep1 ot
  rw [a] at a'; cases a'
  refine hg W1 H1 p vs t ts Q rep1.wd w' o' (relOs_tm rl) pr fun v ob h1 h2 => ?_
  obtain ⟨rp, st'⟩ := rep1.write hown a h1
  exact q v W1 _ (relE_sh h2) rp (by rw [xr_sh]; exact st.noxx.trans rep.wd st') (pn.trans (pn_set fun z => by rw [reown_pin]; exact z))
/-- x.m(..) of a list, a dict that x owns -/
theorem xe_mut (i : Nat) {x name : Str} {p apos cpos : Pos} {Ty id : String} {r : V → List V → Hp → VK → Prop} {g : T → List T → Om} (hg : MutR X.K r g) (pa : PlainAttrs Ty) (slot : Slot Ty name id) (hty : typeOf (.builtin id) = pure (.type "method_descriptor")) (hm : MtR X id r) (ha : XA X Wx (e :: es) ds)
    (hN : X.N[i]? = some x := by rfl) (hv : Vis X.env.scope x := by first | exact Or.inl rfl | exact Or.inr (Or.inl rfl) | exact Or.inr (Or.inr rfl)) (hd : (x == ("__debug__" : Str)) = false := by decide) (hcd : (x == ("__classdict__" : Str)) = false := by decide)
    (hbase : attributeBase (.Name x p) name X.env (eval (.Name x p) X.env) = eval (.Name x p) X.env := by rfl)
    (hfew : ((backTo cpos (starEach (e :: es) X.env)).all (fun x => !x.1) && (backToKw cpos (keywordEach [] X.env)).all (fun x => x.1.isSome)
      && decide ((e :: es).length + ([] : List Keyword).length + (if ([] : List Keyword).isEmpty then 0 else 1) < 30)) = true := by rfl)
    (hline : (apos.endLine == cpos.line) = true := by rfl) (hs : starEach (e :: es) X.env = (false, eval e X.env) :: starEach es X.env := by rfl) (hplain : (backTo cpos (starEach es X.env)).any (·.1) = false := by rfl) :
    XE X Wx (.Call (.Attribute (.Name x p) name apos) (e :: es) [] cpos) (dMut i Ty g ds) :=
  ⟨PE.imp (pe_bm pa slot hty hm (pv i hN hv hd hcd) ha.pa hbase hfew hline hs hplain) fun σ H Q h => by
    obtain ⟨v, a, b, c⟩ := mut_run hg ha.mn σ H Q h
    exact ⟨v, a, b, c⟩, mn_mut ha.mn⟩
end
def SetR (K : PySem.W.Frag) (r : TSet) (g : T → T → T → Om) : Prop := ∀ W H p iv v u ti t (Q : Hp → Prop), Wd W H → W p → OwnAt K W H p u → IsR K W H iv ti → Is K W H v t → (g u ti t).pre →
  (∀ o, OwnAt K W (upd H p o) p (g u ti t).new → Q (upd H p o)) → r (.ref p) iv v H Q
def gIt (i : Nat) (g : T → T → T → Om) (d : Dn Hn) : Dg := fun t ρ Q => (∃ u0, ownT (sl_ ρ i) = some u0) ∧ d ρ ⟨fun h ρ1 => ∃ ti, h.is ρ1 ti ∧ ∃ u, ownT (sl_ ρ1 i) = some u ∧ (g u ti t).pre ∧ Q.ok () (ρ1.set i (reown (sl_ ρ1 i) (g u ti t).new)), Q.ex⟩
theorem mn_it {i : Nat} {g : T → T → T → Om} {d : Dn Hn} (m : Mn d) : MnG (gIt i g d) := fun t ρ Q Q' h k e => ⟨h.1, m _ _ _ h.2 (fun hs ρ1 ⟨ti, a, u, b, c, q⟩ => ⟨ti, a, u, b, c, k _ _ q⟩) e⟩
section
variable {X : Cx} {Wx : WX} {e : Expr} {d : Dn Hn}
theorem xg_item (i : Nat) {x : Str} {p pos : Pos} {r : TSet} {g : T → T → T → Om} (hg : SetR X.K r g) (hr : PSet X r) (h : XO X Wx e d)
    (hN : X.N[i]? = some x := by rfl) (hv : Vis X.env.scope x := by first | exact Or.inl rfl | exact Or.inr (Or.inl rfl) | exact Or.inr (Or.inr rfl)) (hd : (x == ("__debug__" : Str)) = false := by decide) (hcd : (x == ("__classdict__" : Str)) = false := by decide)
    (ha : ∀ v, assign (.Subscript (.Name x p) e pos) X.env v = (do
      let ov ← holding [v] (eval (.Name x p) X.env)
      let iv ← holding [v, ov] (eval e X.env)
      standAt pos
      holding [v, ov, iv] (setItem ov iv v)
      release [v, ov, iv] []) := by intro _; rfl) : XG X Wx (.Subscript (.Name x p) e pos) (gIt i g d) := by
  refine ⟨PG.imp (pg_sub (pv i hN hv hd hcd) h.pe hr ha) fun v σ H Q ⟨W, ρ, t, rep, is, ⟨u0, o0⟩, q⟩ => ?_, mn_it h.mn⟩
  obtain ⟨p', ea, _, _, _⟩ := own_at rep o0
  refine ⟨.ref p', at_get.mp ea, W, ρ, rep, h.mn _ _ _ q (fun hn ρ1 ⟨ti, hi, u, ot, pr, q⟩ iv W1 H1 rl rep1 st pn => ?_) fun C fs ρ1 z d W1 H1 ed rp st pn => z d σ W1 H1 ed rp st (.of pn)⟩
  obtain ⟨p'', a', w', o', hown⟩ := own_at rep1 ot
  rw [ea] at a'; cases a'
  refine hg W1 H1 p' iv v u ti t _ rep1.wd w' o' (isR_of rep1 rl hi) (is.step st.noxx rep.rt) pr fun ob h1 => ?_
  obtain ⟨rp, st'⟩ := rep1.write hown ea h1
  exact q σ W1 _ rp (st.noxx.trans rep.wd st') (.of (pn.trans (pn_set fun z => by rw [reown_pin]; exact z)))
end
structure RoomG (k : Nat) (A : Around) : Prop where
  room : Room k A
  none : A.guards = some []
theorem RoomG.mono {j k : Nat} {A : Around} (r : RoomG k A) (h : j ≤ k) : RoomG j A := ⟨r.room.mono h, r.none⟩
theorem RoomG.u64 {k : Nat} {A : Around} (r : RoomG k A) : A.units + 64 < cLine := r.room.units
theorem RoomG.u66 {k : Nat} {A : Around} (r : RoomG k A) : A.units + 66 < cLine := by have := r.room.un; omega
theorem RoomG.u65 {k : Nat} {A : Around} (r : RoomG k A) : A.units + 65 < cLine := by have := r.room.un; omega
structure FnG (P : Program) (w : World) (K : PySem.W.Frag) (mg : Str → Option Value) (base : Heap) (k : Nat) (f : Addr) (fd : FuncData) (ps : List Str) (sp : Sp) : Prop where
  len : ∀ vs H Q E, sp vs H Q E → vs.length = ps.length
  go : ∀ {A : Around} {outer : List Env} {s : Shared} {H : Hp} {as : Args} {us : List Value} {vs : List V} {Q : VK} {E : XK}, RoomG k A → Env0 P w K mg base A outer s H → BindsTo s fd as (ps.zip us) → Vals vs us → sp vs H Q E →
    codeAny (model P w) A (.call (.ref f) as) (CR (L2N.CX P w) outer P w H s Q E) s
theorem FnG.mono {P : Program} {w : World} {K : PySem.W.Frag} {mg : Str → Option Value} {base : Heap} {j k : Nat} {f : Addr} {fd : FuncData} {ps : List Str} {sp : Sp} (F : FnG P w K mg base j f fd ps sp) (h : j ≤ k) : FnG P w K mg base k f fd ps sp := ⟨F.len, fun r => F.go (r.mono h)⟩
theorem call_G {X : Cx} {Wx : WX} {k : Nat} {f : Addr} {fd : FuncData} {ps : List Str} {sp : Sp} {pins : List (Addr × Obj)} {σ : L2.St} {H : Hp} {s : Shared} {Q : VK} {us : List Value} {vs : List V} (F : FnG X.prog X.w X.K X.mg X.base k f fd ps sp) (hr : RoomG k X.A)
    (bd : Binds X.K fd ps []) (tk : L2N.Takes X Wx) (I : Inv X pins σ H s) (r : Vals vs us) (h : sp vs H Q (WE Wx σ)) : wpAny (model X.prog X.w) X.A (call (.ref f) us) (EP X pins σ Q) X.xe s := by
  have bd := bd s us I.kIn (by rw [List.append_nil, ← r.length, F.len _ _ _ _ h])
  rw [List.append_nil] at bd
  refine wpAny_call (codeAny_mono (F.go hr I.env0 bd r h) fun r s' z => ?_)
  rcases r with e | (_ | _ | _ | u) <;> first | exact L2N.passAt tk σ pins H s _ s' I z | exact I.after z | exact False.elim z
/-- a def's promise by its body -/
theorem FnG.by {P : Program} {w : World} {K : PySem.W.Frag} {mg : Str → Option Value} {base : Heap} {x qual : Str} {params : Arguments} {body : List Stmt} {sc : Scope} {f : Addr} {fd : FuncData} {N ps : List Str} {k : Nat} {sp : Sp} {dvs : List V} {kws : List (Str × V)}
    (F : FunD K x qual params body sc dvs kws f fd) (Sc : FnScope N ps sc) (len : ∀ vs H Q E, sp vs H Q E → vs.length = ps.length)
    (run : ∀ (cdv : Value) (A : Around) (outer : List Env) (s : Shared) (H : Hp) (vs : List V) (Q : VK) (E : XK), RoomG k (A.deeper (envOfC qual sc s.heap.objs.size f cdv)) → sp vs H Q E →
      ∃ t, PSs (cxOf (L2N.CX P w) P w K mg base N qual sc f cdv A outer s H E) body t ∧ t { nx := fun _ H' => Q .non H', rt := Q } (start N vs) H) : FnG P w K mg base (k + 1) f fd ps sp := by
  obtain ⟨_, _, _, _, _, _, _, cdv, _, _, rfl, look, code, _, _⟩ := F.ex
  refine ⟨len, fun {A outer s H as us vs Q E} room env bd r h => ?_⟩
  have keep : ∀ b o, base.get? b = some o → s.heap.get? b = some o := fun b o e => (env.bs b o e).1
  have KX : K.In s.heap := env.mod.kin.keeps keep
  refine codeAny_call_function room.room.depth (KX _ _ look) rfl Sc.co Sc.gen rfl (PySem.W.codeRec_of KX code) (bd _ _ _ _ (wpAny_newFunctionEnv_cells Sc.kind (fun y hy => ?_) fun ev he s1 made => ?_))
  · refine (Sc.par y.1 (List.of_mem_zip (show (y.1, y.2) ∈ ps.zip us from hy)).1).imp id fun c => ⟨c, ?_⟩
    exact PySem.W.cellsFrom_some _ _ _ (.inl c)
  · cases he
    refine ⟨env.mod.nolimit.keeps fun b o e => made.toInCall.keep b o (keep b o e), codeAny_func ?_⟩
    obtain ⟨t, pss, ht⟩ := run cdv A outer s H vs Q E ⟨room.room.deeper _, room.none⟩ h
    have go := pss.run [] s1 (start N vs) H _ (inv_start Sc room.room.hd env (len _ _ _ _ h) r made) ht
    refine wpAny_mono go (fun fl s' z => ?_) fun _ _ z => z
    match fl, z with
    | .ret u, ⟨v, σ', H', J, rv, q⟩ => exact ⟨v, H', J.os, J.bare, J.base, J.hok, rv, q⟩
    | .next, ⟨σ', H', J, q⟩ => exact ⟨.non, H', J.os, J.bare, J.base, J.hok, rfl, q⟩
    | .brk, ⟨_, _, _, q⟩ => exact q.elim
    | .cont, ⟨_, _, _, q⟩ => exact q.elim
/-- f(e, ..) -/
theorem pe_callG {X : Cx} {Wx : WX} {k : Nat} {f : Addr} {fd : FuncData} {ps : List Str} {sp : Sp} {x : Str} {p pos : Pos} {e : Expr} {es : List Expr} {t : TA} (F : FnG X.prog X.w X.K X.mg X.base k f fd ps sp) (hr : RoomG k X.A) (gl : Gl X x) (m : X.mg x = some (.ref f)) (kp : PySem.W.keepIn X.K (.ref f) = true)
    (bd : Binds X.K fd ps []) (tk : L2N.Takes X Wx) (ha : PA X (e :: es) t) (nd : (x == ("__debug__" : Str)) = false) (s1 : starEach (e :: es) X.env = (false, eval e X.env) :: starEach es X.env) (s2 : (backTo pos (starEach es X.env)).any (·.1) = false) :
    PE X (.Call (.Name x p) (e :: es) [] pos) (fun σ H Q => t σ H fun vs H1 => sp vs H1 Q (WE Wx σ)) :=
  ⟨fun pins s σ H Q I h => wpAny_Call_Name_kw (ld_glob I gl m (PySem.W.callWith_K (h₀ := X.base) I.ok.mod.kin kp (thn (ha.run pos pins s σ H _ I h) fun us s' ⟨vs, H1, I1, r, q⟩ => ⟨I1.kIn, call_G F hr bd tk I1 r q⟩) s1 s2) nd)⟩
/-- what a def does: from its parameters' slots to its value and what becomes of them -/
abbrev Sx := Dn Rv
/-- a parameter that is handed in: shared, or the caller's own -/
def Sl.arg : Sl → Bool
  | .sh _ => true
  | .io _ => true
  | _ => false
def OutOk (ars outs : Rho) : Prop := outs.length = ars.length ∧ ∀ i, match sl_ ars i, sl_ outs i with
  | .io _, .io _ => True
  | .io _, .sd _ => True
  | .io _, _ => False
  | _, .no => True
  | _, _ => False
def spOf (K : PySem.W.Frag) (n : Nat) (S : Sx) : Sp := fun vs H Q E => ∃ W ars, ars.length = n ∧ Rep K W H (vs.map some) ars ∧ (∀ i, i < n → (sl_ ars i).arg = true) ∧ S ars
  ⟨fun r outs => ∀ v W' H', relE K (vs.map some) outs W' H' v r → (r.1 = true → ∀ p, v = .ref p → H p = none) → Rep K W' H' (vs.map some) outs → Step (Rt (vs.map some) ars) W H (rooted (Rt (vs.map some) outs) (xr v r)) W' H' → OutOk ars outs → Q v H',
   fun C fs outs => ∀ d W' H', ExD K W' H' d fs → Rep K W' H' (vs.map some) outs → Step (Rt (vs.map some) ars) W H (Rt (vs.map some) outs) W' H' → OutOk ars outs → E (.ref C) d H'⟩
structure FnX (P : Program) (w : World) (K : PySem.W.Frag) (mg : Str → Option Value) (base : Heap) (k : Nat) (x : Str) (S : Sx) : Prop where
  ex : ∃ (f : Addr) (fd : FuncData) (ps : List Str), mg x = some (.ref f) ∧ PySem.W.keepIn K (.ref f) = true ∧ FnG P w K mg base k f fd ps (spOf K ps.length S) ∧ Binds K fd ps [] ∧ ∀ ars Q, S ars Q → ars.length = ps.length
  mn : Mn S
/-- the slot of an argument, as the callee has it -/
def argS : Sl → Sl
  | .ow t => .io t
  | .io t => .io t
  | .sh t => .sh t
  | .sd t => .sh t
  | .no => .no
def argOf (ρ : Rho) : Hn → Sl
  | .tm t => .sh t
  | .sl i => argS (sl_ ρ i)
/-- what becomes of the argument's name -/
def conv : Sl → Sl → Sl
  | .ow _, .io t => .ow t
  | .ow _, .sd t => .sh t
  | .io _, .io t => .io t
  | .io _, .sd t => .sd t
  | s, _ => s
def put1 (ρ : Rho) : Hn → Sl → Rho
  | .tm _, _ => ρ
  | .sl i, o => ρ.set i (conv (sl_ ρ i) o)
def putOut : Rho → List Hn → Rho → Rho
  | ρ, h :: hs, o :: os => putOut (put1 ρ h o) hs os
  | ρ, _, _ => ρ
/-- no owned name is handed in twice -/
def ndOwn (ρ : Rho) : List Hn → Prop
  | [] => True
  | .tm _ :: hs => ndOwn ρ hs
  | .sl i :: hs => ((sl_ ρ i).own → Hn.sl i ∉ hs) ∧ ndOwn ρ hs
theorem conv_no (o : Sl) : conv .no o = .no := by cases o <;> rfl
theorem conv_sh {s o : Sl} (h : ¬ s.own) : conv s o = s := by cases s <;> first | (cases o <;> rfl) | exact (h trivial).elim
theorem own_conv {s o : Sl} (h : (conv s o).own) : s.own := by cases s <;> cases o <;> first | exact h | exact h.elim
theorem sl_put1 {ρ : Rho} {i k : Nat} {o : Sl} : sl_ (put1 ρ (.sl i) o) k = if i = k then conv (sl_ ρ k) o else sl_ ρ k := by
  show sl_ (ρ.set i _) k = _
  rw [sl_set]
  by_cases e : i = k
  · subst e
    by_cases l : i < ρ.length
    · rw [if_pos ⟨rfl, l⟩, if_pos rfl]
    · rw [if_neg (fun c => l c.2), if_pos rfl]
      have : sl_ ρ i = .no := by unfold sl_; rw [List.getD_eq_getElem?_getD, List.getElem?_eq_none (by omega)]; rfl
      rw [this, conv_no]
  · rw [if_neg (fun c => e c.1), if_neg e]
theorem ndOwn_put1 {ρ : Rho} {h : Hn} {o : Sl} : ∀ {hs : List Hn}, ndOwn ρ hs → ndOwn (put1 ρ h o) hs
  | [], _ => trivial
  | .tm _ :: hs, n => ndOwn_put1 (hs := hs) n
  | .sl i :: hs, n => ⟨fun w => n.1 (by
      cases h with
      | tm t => exact w
      | sl k =>
        rw [sl_put1] at w
        by_cases e : k = i
        · rw [if_pos e] at w; exact own_conv w
        · rw [if_neg e] at w; exact w), ndOwn_put1 (hs := hs) n.2⟩
theorem len_putOut : ∀ (hs : List Hn) (os : Rho) (ρ : Rho), (putOut ρ hs os).length = ρ.length
  | [], _, _ => by unfold putOut; rfl
  | _ :: _, [], _ => by unfold putOut; rfl
  | h :: hs, o :: os, ρ => by
    unfold putOut
    rw [len_putOut hs os]
    cases h with
    | tm t => rfl
    | sl i => exact List.length_set
theorem putOut_spec : ∀ (hs : List Hn) (os : Rho) (ρ : Rho) (i : Nat), ndOwn ρ hs → hs.length = os.length →
    (sl_ (putOut ρ hs os) i = sl_ ρ i ∧ ((sl_ ρ i).own → ∀ j : Nat, hs[j]? ≠ some (Hn.sl i))) ∨ ((sl_ ρ i).own ∧ ∃ j : Nat, hs[j]? = some (Hn.sl i) ∧ sl_ (putOut ρ hs os) i = conv (sl_ ρ i) (sl_ os j))
  | [], os, ρ, i, _, _ => .inl ⟨by unfold putOut; rfl, fun _ j => by simp⟩
  | _ :: _, [], _, _, _, l => by simp at l
  | .tm t :: hs, o :: os, ρ, i, n, l => by
    have ih := putOut_spec hs os ρ i n (by simpa using l)
    have e : putOut ρ (.tm t :: hs) (o :: os) = putOut ρ hs os := rfl
    rw [e]
    rcases ih with ⟨a, b⟩ | ⟨w, j, a, b⟩
    · refine .inl ⟨a, fun w j => ?_⟩
      cases j with
      | zero => simp
      | succ j => simpa using b w j
    · exact .inr ⟨w, j + 1, by simpa using a, by rw [b]; rfl⟩
  | .sl k :: hs, o :: os, ρ, i, n, l => by
    have ih := putOut_spec hs os (put1 ρ (.sl k) o) i (ndOwn_put1 n.2) (by simpa using l)
    have e : putOut ρ (.sl k :: hs) (o :: os) = putOut (put1 ρ (.sl k) o) hs os := rfl
    rw [e]
    rw [sl_put1] at ih
    by_cases ek : k = i
    · subst ek
      rw [if_pos rfl] at ih
      by_cases w : (sl_ ρ k).own
      · rcases ih with ⟨a, b⟩ | ⟨w', j, a, b⟩
        · exact .inr ⟨w, 0, rfl, a⟩
        · exact absurd (List.mem_of_getElem? a) (n.1 w)
      · rw [conv_sh w] at ih
        rcases ih with ⟨a, b⟩ | ⟨w', j, a, b⟩
        · exact .inl ⟨a, fun z => (w z).elim⟩
        · exact (w w').elim
    · rw [if_neg ek] at ih
      rcases ih with ⟨a, b⟩ | ⟨w, j, a, b⟩
      · refine .inl ⟨a, fun w j => ?_⟩
        cases j with
        | zero => simp [ek]
        | succ j => simpa using b w j
      · exact .inr ⟨w, j + 1, by simpa using a, by rw [b]; rfl⟩
def dCall (S : Sx) (d : Dn (List Hn)) : Dn Rv := fun ρ Q => d ρ ⟨fun hs ρ1 => ndOwn ρ1 hs ∧ (∀ h ∈ hs, (argOf ρ1 h).arg = true) ∧ S (hs.map (argOf ρ1)) ⟨fun r outs => Q.ok r (putOut ρ1 hs outs), fun C fs outs => Q.ex C fs (putOut ρ1 hs outs)⟩, Q.ex⟩
theorem mn_call {S : Sx} {d : Dn (List Hn)} (mS : Mn S) (m : Mn d) : Mn (dCall S d) := fun ρ Q Q' h k e => m _ _ _ h (fun hs ρ1 ⟨a, b, q⟩ => ⟨a, b, mS _ _ _ q (fun _ _ z => k _ _ z) fun _ _ _ z => e _ _ _ z⟩) e
section
variable {K : PySem.W.Frag} {σ : L2.St} {ρ : Rho} {W : Ad} {H : Hp} {vs : List V} {hs : List Hn}
theorem relOs_len : ∀ {vs : List V} {hs : List Hn}, relOs K σ ρ W H vs hs → vs.length = hs.length
  | _, _, .nil => rfl
  | _, _, .cons _ r => by rw [List.length_cons, List.length_cons, relOs_len r]
theorem relOs_get : ∀ {vs : List V} {hs : List Hn} {j : Nat} {h : Hn}, relOs K σ ρ W H vs hs → hs[j]? = some h → ∃ v, vs[j]? = some v ∧ relO K σ ρ W H v h
  | _, _, _, _, .nil, e => by simp at e
  | _, _, 0, _, .cons a _, e => by simp at e; subst e; exact ⟨_, rfl, a⟩
  | _, _, j + 1, _, .cons _ b, e => by obtain ⟨v, x, y⟩ := relOs_get (j := j) b (by simpa using e); exact ⟨v, by simpa using x, y⟩
theorem at_map {vs : List V} {j : Nat} {v : V} : at_ (vs.map some) j = some v ↔ vs[j]? = some v := by
  rw [at_get, List.getElem?_map]
  cases vs[j]? with
  | none => simp
  | some u => simp
theorem sl_map {f : Hn → Sl} {j : Nat} {h : Hn} (e : hs[j]? = some h) : sl_ (hs.map f) j = f h := by
  unfold sl_
  rw [List.getD_eq_getElem?_getD, List.getElem?_map, e]
  rfl
theorem sl_map_none {f : Hn → Sl} {j : Nat} (e : hs[j]? = none) : sl_ (hs.map f) j = .no := by
  unfold sl_
  rw [List.getD_eq_getElem?_getD, List.getElem?_map, e]
  rfl
/-- an owned argument is an owned name -/
theorem arg_own {h : Hn} (w : (argOf ρ h).own) : ∃ i t, h = .sl i ∧ (sl_ ρ i).own ∧ argOf ρ h = .io t ∧ (sl_ ρ i).tr = some t := by
  cases h with
  | tm t => exact w.elim
  | sl i =>
    have w : (argS (sl_ ρ i)).own := w
    cases q : sl_ ρ i with
    | ow t => exact ⟨i, t, rfl, by rw [q]; trivial, by show argS (sl_ ρ i) = _; rw [q]; rfl, by rw [q]; rfl⟩
    | io t => exact ⟨i, t, rfl, by rw [q]; trivial, by show argS (sl_ ρ i) = _; rw [q]; rfl, by rw [q]; rfl⟩
    | sh t => rw [q] at w; exact w.elim
    | sd t => rw [q] at w; exact w.elim
    | no => rw [q] at w; exact w.elim
theorem nd_eq : ∀ {hs : List Hn} {j k i : Nat}, ndOwn ρ hs → (sl_ ρ i).own → hs[j]? = some (.sl i) → hs[k]? = some (.sl i) → j = k
  | [], _, _, _, _, _, e, _ => by simp at e
  | .tm _ :: hs, 0, _, _, _, _, e, _ => by simp at e
  | .tm _ :: hs, _, 0, _, _, _, _, e => by simp at e
  | .tm _ :: hs, j + 1, k + 1, i, n, w, a, b => congrArg (· + 1) (nd_eq (hs := hs) (j := j) (k := k) n w (by simpa using a) (by simpa using b))
  | .sl m :: hs, 0, 0, _, _, _, _, _ => rfl
  | .sl m :: hs, 0, k + 1, i, n, w, a, b => by
    have a' : m = i := by simpa using a
    subst a'
    exact absurd (List.mem_of_getElem? (by simpa using b)) (n.1 w)
  | .sl m :: hs, j + 1, 0, i, n, w, a, b => by
    have b' : m = i := by simpa using b
    subst b'
    exact absurd (List.mem_of_getElem? (by simpa using a)) (n.1 w)
  | .sl m :: hs, j + 1, k + 1, i, n, w, a, b => congrArg (· + 1) (nd_eq (hs := hs) (j := j) (k := k) n.2 w (by simpa using a) (by simpa using b))
/-- the callee's view of its parameters -/
theorem args_rep (rep : Rep K W H σ ρ) (r : relOs K σ ρ W H vs hs) (nd : ndOwn ρ hs) : Rep K W H (vs.map some) (hs.map (argOf ρ)) ∧ ∀ p, Rt (vs.map some) (hs.map (argOf ρ)) p → ∃ (i j : Nat), hs[j]? = some (.sl i) ∧ (sl_ ρ i).own ∧ at_ σ i = some (.ref p) := by
  have own1 : ∀ j, (sl_ (hs.map (argOf ρ)) j).own → ∃ i v, hs[j]? = some (.sl i) ∧ (sl_ ρ i).own ∧ at_ (vs.map some) j = some v ∧ at_ σ i = some v := fun j w => by
    cases e : hs[j]? with
    | none => rw [sl_map_none e] at w; exact w.elim
    | some h =>
      rw [sl_map e] at w
      obtain ⟨i, t, e1, w1, _, _⟩ := arg_own w
      subst e1
      obtain ⟨v, e2, e3⟩ := relOs_get r e
      exact ⟨i, v, rfl, w1, at_map.mpr e2, e3⟩
  refine ⟨⟨by rw [List.length_map, List.length_map, relOs_len r], fun j => ?_, fun a b p wa wb ea eb => ?_, rep.wd⟩, fun p ⟨j, w, e⟩ => ?_⟩
  · cases e : hs[j]? with
    | none => rw [sl_map_none e]; trivial
    | some h =>
      obtain ⟨v, e2, e3⟩ := relOs_get r e
      rw [sl_map e, at_map.mpr e2]
      cases h with
      | tm t => exact ⟨v, rfl, e3⟩
      | sl i =>
        have e3 : at_ σ i = some v := e3
        have hz := rep.sl i
        rw [e3] at hz
        show RepS K W H (some v) (argS (sl_ ρ i))
        cases q : sl_ ρ i with
        | no => trivial
        | sh t => rw [q] at hz; exact hz
        | sd t => rw [q] at hz; obtain ⟨p, a, _, b⟩ := hz; exact ⟨_, a, b⟩
        | ow t => rw [q] at hz; exact hz
        | io t => rw [q] at hz; exact hz
  · obtain ⟨i, v, a1, a2, a3, a4⟩ := own1 a wa
    obtain ⟨i', v', b1, b2, b3, b4⟩ := own1 b wb
    rw [a3] at ea; cases ea
    rw [b3] at eb; cases eb
    have := rep.inj i i' p a2 b2 a4 b4
    subst this
    exact nd_eq nd a2 a1 b1
  · obtain ⟨i, v, a1, a2, a3, a4⟩ := own1 j w
    rw [a3] at e; cases e
    exact ⟨i, j, a1, a2, a4⟩
theorem own_final {os : Rho} (nd : ndOwn ρ hs) (hl : hs.length = os.length) {i : Nat} (w : (sl_ (putOut ρ hs os) i).own) : (sl_ ρ i).own := by
  rcases putOut_spec hs os ρ i nd hl with ⟨a, _⟩ | ⟨w', _⟩
  · rw [a] at w; exact w
  · exact w'
theorem call_post {outs : Rho} {W' : Ad} {H' : Hp} {ext : Ad} (rep : Rep K W H σ ρ) (r : relOs K σ ρ W H vs hs) (nd : ndOwn ρ hs) (repO : Rep K W' H' (vs.map some) outs)
    (st : Step (Rt (vs.map some) (hs.map (argOf ρ))) W H (rooted (Rt (vs.map some) outs) ext) W' H') (ok : OutOk (hs.map (argOf ρ)) outs) :
    Rep K W' H' σ (putOut ρ hs outs) ∧ Step (Rt σ ρ) W H (rooted (Rt σ (putOut ρ hs outs)) ext) W' H' ∧ Pn ρ (putOut ρ hs outs) := by
  obtain ⟨repA, hP⟩ := args_rep rep r nd
  have hl : hs.length = outs.length := by rw [ok.1, List.length_map]
  have sub : ∀ p, Rt (vs.map some) (hs.map (argOf ρ)) p → Rt σ ρ p := fun p z => by obtain ⟨i, j, _, w, e⟩ := hP p z; exact ⟨i, w, e⟩
  have own' : ∀ i, (sl_ (putOut ρ hs outs) i).own → (sl_ ρ i).own := fun i w => own_final nd hl w
  refine ⟨⟨by rw [len_putOut]; exact rep.len, fun i => ?_, fun a b p wa wb => rep.inj a b p (own' a wa) (own' b wb), repO.wd⟩,
    ⟨fun p o e n => st.keep p o e fun z => n (sub p z), st.dom, fun p w n => st.stay p w fun z => n (sub p z), st.new, fun p z => ?_⟩, fun i pn => ?_⟩
  · rcases putOut_spec hs outs ρ i nd hl with ⟨a, b⟩ | ⟨w, j, ej, a⟩
    · rw [a]
      have hz := rep.sl i
      have np : ∀ p, (sl_ ρ i).own → at_ σ i = some (.ref p) → ¬ Rt (vs.map some) (hs.map (argOf ρ)) p := fun p w e z => by
        obtain ⟨i', j', e1, w', e2⟩ := hP p z
        have := rep.inj i' i p w' w e2 e
        subst this
        exact b w j' e1
      cases q : sl_ ρ i with
      | no => trivial
      | sh t => rw [q] at hz; obtain ⟨v, e1, e2⟩ := hz; exact ⟨v, e1, e2.step st repA.rt⟩
      | sd t =>
        rw [q] at hz
        obtain ⟨p, e1, ⟨e2, ob, eo⟩, e3⟩ := hz
        refine ⟨p, e1, ⟨fun z => (st.new p z).elim e2 fun z => ?_, st.dom p ob eo⟩, e3.step st repA.rt⟩
        rw [eo] at z
        cases z
      | ow t =>
        rw [q] at hz np
        obtain ⟨p, e1, e2, e3⟩ := hz
        have n := np p trivial e1
        exact ⟨p, e1, st.stay p e2 n, e3.keep st.keep repA.rt st.new fun o e => st.keep p o e n⟩
      | io t =>
        rw [q] at hz np
        obtain ⟨p, e1, e2, e3⟩ := hz
        have n := np p trivial e1
        exact ⟨p, e1, st.stay p e2 n, e3.keep st.keep repA.rt st.new fun o e => st.keep p o e n⟩
    · rw [a]
      obtain ⟨v, ev, rv⟩ := relOs_get r ej
      have rv : at_ σ i = some v := rv
      have ho := repO.sl j
      rw [at_map.mpr ev] at ho
      have hok := ok.2 j
      have ea : sl_ (hs.map (argOf ρ)) j = argS (sl_ ρ i) := by rw [sl_map ej]; rfl
      rw [ea] at hok
      rw [rv]
      cases q : sl_ ρ i with
      | ow t =>
        rw [q] at hok
        cases q2 : sl_ outs j with
        | io u => rw [q2] at ho; exact ho
        | sd u => rw [q2] at ho; obtain ⟨p, x, _, y⟩ := ho; exact ⟨_, x, y⟩
        | _ => rw [q2] at hok; exact hok.elim
      | io t =>
        rw [q] at hok
        cases q2 : sl_ outs j with
        | io u => rw [q2] at ho; exact ho
        | sd u => rw [q2] at ho; exact ho
        | _ => rw [q2] at hok; exact hok.elim
      | _ => rw [q] at w; exact w.elim
  · rcases z with ⟨i, w, e⟩ | z
    · exact .inl ⟨i, own' i w, e⟩
    · exact (st.newP p (.inr z)).elim (fun z => .inl (sub p z)) .inr
  · rcases putOut_spec hs outs ρ i nd hl with ⟨a, _⟩ | ⟨w, j, ej, a⟩
    · rw [a]; exact pn
    · rw [a]
      cases q : sl_ ρ i with
      | io t => cases sl_ outs j <;> rfl
      | _ => rw [q] at pn w; first | exact w.elim | cases pn
end
section
variable {X : Cx} {Wx : WX} {e : Expr} {es : List Expr} {ds : Dn (List Hn)} {S : Sx} {j k : Nat} {x : Str} {p pos : Pos}
theorem call_run {f : Addr} {fd : FuncData} {ps : List Str} (mS : Mn S) (ma : Mn ds) (F : FnG X.prog X.w X.K X.mg X.base k f fd ps (spOf X.K ps.length S)) (len : ∀ ars Q, S ars Q → ars.length = ps.length)
    (σ : L2.St) (H : Hp) (Q : VK) (h : RD X.K (relE X.K) xr Wx (dCall S ds) σ H Q) : RD X.K (relOs X.K) nox Wx ds σ H fun vs H1 => spOf X.K ps.length S vs H1 Q (WE Wx σ) := by
  obtain ⟨W, ρ, rep, h⟩ := h
  refine rd_first ma rep h fun hs ρ1 ⟨nd, harg, q⟩ vs W1 H1 rl rep1 st pn => ?_
  obtain ⟨repA, hP⟩ := args_rep rep1 rl nd
  have hl : hs.length = ps.length := by rw [← len _ _ q, List.length_map]
  refine ⟨W1, hs.map (argOf ρ1), by rw [List.length_map]; exact hl, repA, fun i hi => ?_, mS _ _ _ q (fun r outs z v W' H' rlv fr repO stO ok => ?_) fun C fs outs z d W' H' ed repO stO ok => ?_⟩
  · have hi' : i < hs.length := by omega
    rw [sl_map (List.getElem?_eq_getElem hi')]
    exact harg _ (List.getElem_mem hi')
  · obtain ⟨rp, s2, p2⟩ := call_post rep1 rl nd repO stO ok
    have hlo : hs.length = outs.length := by rw [ok.1, List.length_map]
    refine z v W' H' ?_ rp (st.noxx.trans rep.wd s2) (pn.trans p2)
    unfold relE at rlv ⊢
    by_cases c : r.1 = true
    · rw [if_pos c] at rlv ⊢
      obtain ⟨p, e1, e2, e3, _⟩ := rlv
      refine ⟨p, e1, e2, e3, fun ⟨i, w, e⟩ => ?_⟩
      have w' := own_final nd hlo w
      obtain ⟨o, eo⟩ := rep1.wd p (rep1.rt p ⟨i, w', e⟩)
      rw [fr c p e1] at eo; cases eo
    · rw [if_neg c] at rlv ⊢; exact rlv
  · obtain ⟨rp, s2, p2⟩ := call_post (ext := fun _ => False) rep1 rl nd repO (by
      have : rooted (Rt (vs.map some) outs) (fun _ => False) = Rt (vs.map some) outs := by funext p; exact propext ⟨fun z => z.elim id False.elim, Or.inl⟩
      rw [this]; exact stO) ok
    exact z d W' H' ed rp (st.noxx.trans rep.wd (s2.subP fun p z => .inl z)) (pn.trans p2)
end
section
variable {X : Cx} {Wx : WX} {e : Expr} {es : List Expr} {ds : Dn (List Hn)} {S : Sx} {j k : Nat} {x : Str} {p pos : Pos}
/-- f(e, ..) -/
theorem xe_call (F : FnX X.prog X.w X.K X.mg X.base k x S) (hr : RoomG j X.A) (hk : k ≤ j) (tk : L2N.Takes X Wx) (ha : XA X Wx (e :: es) ds) (hg : Gl X x := by rfl) (hdb : (x == ("__debug__" : Str)) = false := by decide)
    (he : starEach (e :: es) X.env = (false, eval e X.env) :: starEach es X.env := by rfl) (hpl : (backTo pos (starEach es X.env)).any (·.1) = false := by rfl) : XE X Wx (.Call (.Name x p) (e :: es) [] pos) (dCall S ds) := by
  obtain ⟨⟨f, fd, ps, hm, hkp, F, hb, len⟩, mS⟩ := F
  exact ⟨PE.imp (pe_callG F (hr.mono hk) hg hm hkp hb tk ha.pa hdb he hpl) fun σ H Q h => call_run mS ha.mn F len σ H Q h, mn_call mS ha.mn⟩
end
/-- what becomes of the parameters -/
def outS : Sl → Sl
  | .io t => .io t
  | .sd t => .sd t
  | _ => .no
def outA : Sl → Sl → Sl
  | .io _, r => outS r
  | _, _ => .no
def outs : Rho → Rho → Rho
  | [], _ => []
  | a :: as, r :: rs => outA a r :: outs as rs
  | a :: as, [] => outA a .no :: outs as []
def fwish (ars : Rho) (Q : Po Rv) : PoS := ⟨fun ρ => Q.ok (false, .non) (outs ars ρ), fun r ρ => Q.ok r (outs ars ρ), fun _ => False, fun _ => False, fun C fs ρ => Q.ex C fs (outs ars ρ)⟩
theorem sl_cons {a : Sl} {as : Rho} : ∀ {i : Nat}, sl_ (a :: as) (i + 1) = sl_ as i := fun {i} => by unfold sl_; rw [List.getD_cons_succ]
theorem sl_nil {i : Nat} : sl_ [] i = .no := by unfold sl_; rw [List.getD_nil]
theorem sl_outs : ∀ (ars ρ : Rho) (i : Nat), sl_ (outs ars ρ) i = outA (sl_ ars i) (sl_ ρ i)
  | [], ρ, i => by unfold outs; rw [sl_nil]; rfl
  | a :: as, r :: rs, 0 => rfl
  | a :: as, [], 0 => by unfold outs; rw [sl_nil]; rfl
  | a :: as, r :: rs, i + 1 => by unfold outs; rw [sl_cons, sl_cons, sl_cons]; exact sl_outs as rs i
  | a :: as, [], i + 1 => by unfold outs; rw [sl_cons, sl_cons, sl_outs as [] i, sl_nil, sl_nil]
theorem len_outs : ∀ (ars ρ : Rho), (outs ars ρ).length = ars.length
  | [], _ => rfl
  | a :: as, r :: rs => by unfold outs; rw [List.length_cons, List.length_cons, len_outs as rs]
  | a :: as, [] => by unfold outs; rw [List.length_cons, List.length_cons, len_outs as []]
theorem outA_own {a r : Sl} (h : (outA a r).own) : (∃ t, a = .io t) ∧ ∃ t, r = .io t := by
  cases a with
  | io t => exact ⟨⟨t, rfl⟩, by cases r <;> first | exact ⟨_, rfl⟩ | exact h.elim⟩
  | _ => exact h.elim
section
variable {K : PySem.W.Frag} {W W' : Ad} {H H' : Hp} {vs : List V} {ars ρ' : Rho} {σ' : L2.St} {N : List Str} {n : Nat}
theorem sl_start {i m : Nat} : sl_ (ars ++ List.replicate m .no) i = sl_ ars i := by
  unfold sl_
  rw [List.getD_eq_getElem?_getD, List.getD_eq_getElem?_getD, List.getElem?_append]
  by_cases h : i < ars.length
  · rw [if_pos h]
  · rw [if_neg h, List.getElem?_eq_none (l := ars) (by omega)]
    cases q : (List.replicate m Sl.no)[i - ars.length]? with
    | none => rfl
    | some s => have := List.eq_of_mem_replicate (List.mem_of_getElem? q); rw [this]; rfl
theorem at_start {i m : Nat} : at_ (vs.map some ++ List.replicate m none) i = at_ (vs.map some) i := by
  unfold at_
  rw [List.getD_eq_getElem?_getD, List.getD_eq_getElem?_getD, List.getElem?_append]
  by_cases h : i < (vs.map some).length
  · rw [if_pos h]
  · rw [if_neg h, List.getElem?_eq_none (l := vs.map some) (by omega)]
    cases q : (List.replicate m (none : Option V))[i - (vs.map some).length]? with
    | none => rfl
    | some s => have := List.eq_of_mem_replicate (List.mem_of_getElem? q); rw [this]; rfl
theorem rt_start {m : Nat} : Rt (vs.map some ++ List.replicate m none) (ars ++ List.replicate m .no) = Rt (vs.map some) ars := by
  funext p
  unfold Rt
  simp only [sl_start, at_start]
theorem Rep.start {m : Nat} (rep : Rep K W H (vs.map some) ars) : Rep K W H (vs.map some ++ List.replicate m none) (ars ++ List.replicate m .no) :=
  ⟨by rw [List.length_append, List.length_append, List.length_replicate, List.length_replicate, rep.len], fun i => by rw [sl_start, at_start]; exact rep.sl i, fun i j p => by rw [sl_start, sl_start, at_start, at_start]; exact rep.inj i j p, rep.wd⟩
/-- at a def's end -/
theorem ends {m : Nat} (rep : Rep K W H (vs.map some) ars) (harg : ∀ i, i < ars.length → (sl_ ars i).arg = true) (rep' : Rep K W' H' σ' ρ')
    (io : IoK (vs.map some ++ List.replicate m none) (ars ++ List.replicate m .no) σ' ρ') : Rep K W' H' (vs.map some) (outs ars ρ') ∧ OutOk ars (outs ars ρ') ∧ (∀ p, Rt (vs.map some) (outs ars ρ') p → Rt σ' ρ' p) ∧
      ∀ p, Rt (vs.map some) ars p → W' p → Rt σ' ρ' p := by
  have iok : ∀ i, (sl_ ars i).pin = true → (sl_ ρ' i).pin = true ∧ at_ σ' i = at_ (vs.map some) i := fun i h => by
    have := io i (by rw [sl_start]; exact h)
    rw [at_start] at this
    exact this
  have own' : ∀ i, (sl_ (outs ars ρ') i).own → (sl_ ρ' i).own ∧ at_ σ' i = at_ (vs.map some) i := fun i w => by
    rw [sl_outs] at w
    obtain ⟨⟨t, e1⟩, u, e2⟩ := outA_own w
    exact ⟨by rw [e2]; trivial, (iok i (by rw [e1]; rfl)).2⟩
  refine ⟨⟨by rw [len_outs]; exact rep.len, fun i => ?_, fun a b p wa wb ea eb => rep'.inj a b p (own' a wa).1 (own' b wb).1 (by rw [(own' a wa).2]; exact ea) (by rw [(own' b wb).2]; exact eb), rep'.wd⟩, ⟨len_outs _ _, fun i => ?_⟩,
    fun p ⟨i, w, e⟩ => ⟨i, (own' i w).1, by rw [(own' i w).2]; exact e⟩, fun p ⟨i, w, e⟩ hw => ?_⟩
  · rw [sl_outs]
    cases q : sl_ ars i with
    | io t =>
      obtain ⟨pn, ea⟩ := iok i (by rw [q]; rfl)
      have hs := rep'.sl i
      rw [ea] at hs
      cases q2 : sl_ ρ' i with
      | io u => rw [q2] at hs; exact hs
      | sd u => rw [q2] at hs; exact hs
      | _ => trivial
    | _ => trivial
  · rw [sl_outs]
    cases q : sl_ ars i with
    | io t =>
      obtain ⟨pn, _⟩ := iok i (by rw [q]; rfl)
      cases q2 : sl_ ρ' i with
      | io u => trivial
      | sd u => trivial
      | _ => rw [q2] at pn; cases pn
    | _ => trivial
  · have hi := sl_lt (own_ne w)
    have ha := harg i hi
    cases q : sl_ ars i with
    | io t =>
      obtain ⟨pn, ea⟩ := iok i (by rw [q]; rfl)
      have hs := rep'.sl i
      rw [ea, e] at hs
      cases q2 : sl_ ρ' i with
      | io u => exact ⟨i, by rw [q2]; trivial, by rw [ea]; exact e⟩
      | sd u => rw [q2] at hs; obtain ⟨p', e', ⟨n, _⟩, _⟩ := hs; cases e'; exact (n hw).elim
      | _ => rw [q2] at pn; cases pn
    | sh t => rw [q] at w; exact w.elim
    | _ => rw [q] at ha; cases ha
/-- a def's body does what S says -/
theorem body_run {S : Sx} {d : Ds} {m : Nat} {E : XK} {Q : VK} {C : Addr} (mS : Mn S) (md : MnS d) (hS : ∀ ars Q, S ars Q → d (ars ++ List.replicate m .no) (fwish ars Q)) (h : spOf K n S vs H Q E) :
    RS K (fun cls d _ H => E cls d H) d { nx := fun _ H' => Q .non H', rt := Q } (vs.map some ++ List.replicate m none) H := by
  obtain ⟨W, ars, hn, rep, harg, q⟩ := h
  have harg : ∀ i, i < ars.length → (sl_ ars i).arg = true := fun i hi => harg i (by rw [← hn]; exact hi)
  refine ⟨W, ars ++ List.replicate m .no, rep.start, md _ _ _ (hS _ _ q) (fun ρ' z σ' W' H' rp st io => ?_) (fun r ρ' z v σ' W' H' rl rp st io => ?_) (fun _ z => False.elim z) (fun _ z => False.elim z) fun C fs ρ' z dx σ' W' H' ed rp st io => ?_⟩
  · obtain ⟨r1, r2, r3, _⟩ := ends rep harg rp io
    rw [rt_start] at st
    exact z .non W' H' (relE_sh .non) (fun h => Bool.noConfusion h) r1 (by rw [xr_sh]; exact st.subP r3) r2
  · obtain ⟨r1, r2, r3, r4⟩ := ends rep harg rp io
    rw [rt_start] at st
    refine z v W' H' ?_ (fun c p e => ?_) r1 (st.subP fun p z => z.elim (fun z => .inl (r3 p z)) .inr) r2
    · unfold relE at rl ⊢
      by_cases c : r.1 = true
      · rw [if_pos c] at rl ⊢
        obtain ⟨p, e1, e2, e3, e4⟩ := rl
        exact ⟨p, e1, e2, e3, fun z => e4 (r3 p z)⟩
      · rw [if_neg c] at rl ⊢; exact rl
    · unfold relE at rl
      rw [if_pos c] at rl
      obtain ⟨p', e1, e2, e3, e4⟩ := rl
      rw [e] at e1; cases e1
      exact (st.newP p (.inr ⟨c, e⟩)).elim (fun z => (e4 (r4 p z e2)).elim) id
  · obtain ⟨r1, r2, r3, _⟩ := ends rep harg rp io
    rw [rt_start] at st
    exact z dx W' H' ed r1 (st.subP r3) r2
end
/-- THE RULE for a def: its body's denotation, and what that does -/
theorem FnX.of {P : Program} {w : World} {K : PySem.W.Frag} {mg : Str → Option Value} {base : Heap} {k : Nat} {x : Str} {S : Sx} {qual : Str} {st : Stmt} {N ps : List Str} {f : Addr} {fd : FuncData} (d : Ds)
    (F : FunD K x qual (defArgs st) (defBody st) (defScope st) [] [] f fd) (hm : mg x = some (.ref f)) (Sc : FnScope N ps (defScope st))
    (hb : ∀ (kV doc pm : Value) (an : Option Addr) (cdv ct : Value) (us : List Value), us.length = ps.length → bindArgs (PySem.W.fnOf x qual (defArgs st) (defBody st) (defScope st) .none kV doc pm an cdv ct) ⟨us, []⟩ = pure (ps.zip us))
    (mS : Mn S) (len : ∀ ars Q, S ars Q → ars.length = ps.length)
    (body : ∀ (cdv : Value) (A : Around) (outer : List Env) (s : Shared) (H : Hp) (E : XK), RoomG k (A.deeper (envOfC qual (defScope st) s.heap.objs.size f cdv)) → XSs (cxOf (L2N.CX P w) P w K mg base N qual (defScope st) f cdv A outer s H E) (fun cls d _ H => E cls d H) (defBody st) d)
    (hS : ∀ ars Q, S ars Q → d (ars ++ List.replicate (N.length - ps.length) .no) (fwish ars Q)) : FnX P w K mg base (k + 1) x S := by
  refine ⟨⟨f, fd, ps, hm, F.kp, FnG.by F Sc (fun vs H Q E h => ?_) (fun cdv A outer s H vs Q E hr h => ?_), F.bindsN hb, len⟩, mS⟩
  · obtain ⟨W, ars, hn, rep, _⟩ := h
    rw [← hn, rep.len, List.length_map]
  · have hl : vs.length = ps.length := by obtain ⟨W, ars, hn, rep, _⟩ := h; rw [← hn, rep.len, List.length_map]
    have B := body cdv A outer s H E hr
    refine ⟨_, B.pss, ?_⟩
    show RS K _ d _ (vs.map some ++ List.replicate (N.length - vs.length) none) H
    rw [hl]
    exact body_run (C := f) mS B.mn hS h
end O
namespace O
open PySem PySem.Spec PyProof.Rows L2
/-- a target of names alone -/
inductive Tg where
  | one (i : Nat) | tup (is : List Nat)
def gNms : List Nat → TGs
  | [] => gNil
  | i :: is => gCons (gName i) (gNms is)
def gTg (K : PySem.W.Frag) : Tg → TG
  | .one i => gName i
  | .tup is => gTup K is.length (gNms is)
def Tg.ix : Tg → List Nat
  | .one i => [i]
  | .tup is => is
def cNms : List Nat → List T → Rho → (Rho → Prop) → Prop
  | [], ts, ρ, Q => ts = [] ∧ Q ρ
  | i :: is, ts, ρ, Q => ∃ t r, ts = t :: r ∧ (sl_ ρ i).pin = false ∧ cNms is r (ρ.set i (.sh t)) Q
def cTg : Tg → T → Rho → (Rho → Prop) → Prop
  | .one i, t, ρ, Q => (sl_ ρ i).pin = false ∧ Q (ρ.set i (.sh t))
  | .tup is, t, ρ, Q => ∃ ts, t = .tup ts ∧ ts.length = is.length ∧ cNms is ts ρ Q
theorem mn_cNms : ∀ (is : List Nat) (ts : List T) (ρ : Rho) (Q Q' : Rho → Prop), cNms is ts ρ Q → (∀ ρ', Q ρ' → Q' ρ') → cNms is ts ρ Q'
  | [], _, _, _, _, h, k => ⟨h.1, k _ h.2⟩
  | i :: is, _, _, _, _, ⟨t, r, e, p, h⟩, k => ⟨t, r, e, p, mn_cNms is _ _ _ _ h k⟩
theorem mn_cTg {g : Tg} {t : T} {ρ : Rho} {Q Q' : Rho → Prop} (h : cTg g t ρ Q) (k : ∀ ρ', Q ρ' → Q' ρ') : cTg g t ρ Q' := by
  cases g with
  | one i => exact ⟨h.1, k _ h.2⟩
  | tup is => obtain ⟨ts, e, l, h⟩ := h; exact ⟨ts, e, l, mn_cNms _ _ _ _ _ h k⟩
section
variable {X : Cx} {is : List Nat} {es : List Expr} {e : Expr} {pos : Pos}
theorem pc_name (i : Nat) {x : Str} (hN : X.N.Nodup) (hi : X.N[i]? = some x := by rfl) (hx : Loc X.env.scope x := by first | exact Or.inl rfl | exact Or.inr rfl) (hf : X.fn x = true ∨ X.env.scope.names.lookup x = some .local := by first | exact .inl rfl | exact .inr rfl) : PG X (.Name x pos) (gTg X.K (.one i)) := pg_name hN hi hx hf
theorem pc_nil : PGs X [] (gNms []) := pgs_nil
theorem pc_cons (i : Nat) {x : Str} (hN : X.N.Nodup) (hr : PGs X es (gNms is)) (hi : X.N[i]? = some x := by rfl) (hx : Loc X.env.scope x := by first | exact Or.inl rfl | exact Or.inr rfl) (hf : X.fn x = true ∨ X.env.scope.names.lookup x = some .local := by first | exact .inl rfl | exact .inr rfl)
    (hs : (assignEach (.Name x pos :: es) X.env).map (·.2) = assign (.Name x pos) X.env :: (assignEach es X.env).map (·.2) := by rfl) : PGs X (.Name x pos :: es) (gNms (i :: is)) := pgs_cons (pg_name hN hi hx hf) hr hs
theorem pc_tup {k : Nat} (hc : X.calm = true) (h : PGs X es (gNms is)) (hn : (assignEach es X.env).length = is.length := by rfl) (hst : (assignEach es X.env).findIdx? (·.1) = none := by rfl) : PG X (.Tuple es k pos) (gTg X.K (.tup is)) := pg_tup hc h hn hst
end
def wipeR (ρ : Rho) : List Nat → Rho
  | [] => ρ
  | v :: vs => (wipeR ρ vs).set v .no
/-- the slots vs of a, the others of b -/
def restore (a b : Rho) : List Nat → Rho
  | [] => b
  | v :: vs => (restore a b vs).set v (sl_ a v)
theorem len_wipe (ρ : Rho) : ∀ vs : List Nat, (wipeR ρ vs).length = ρ.length
  | [] => rfl
  | v :: vs => by unfold wipeR; rw [List.length_set, len_wipe ρ vs]
theorem len_restore (a b : Rho) : ∀ vs : List Nat, (restore a b vs).length = b.length
  | [] => rfl
  | v :: vs => by unfold restore; rw [List.length_set, len_restore a b vs]
theorem sl_wipe {ρ : Rho} {i : Nat} : ∀ {vs : List Nat}, sl_ (wipeR ρ vs) i = if i ∈ vs then .no else sl_ ρ i
  | [] => by simp [wipeR]
  | v :: vs => by
    unfold wipeR
    rw [sl_set, sl_wipe (vs := vs), len_wipe]
    by_cases e : v = i
    · subst e
      by_cases l : v < ρ.length
      · simp [l]
      · have : sl_ ρ v = .no := by unfold sl_; rw [List.getD_eq_getElem?_getD, List.getElem?_eq_none (by omega)]; rfl
        simp [l, this]
    · have e' : ¬ i = v := fun z => e z.symm
      simp [e, e']
theorem sl_restore {a b : Rho} (hl : a.length = b.length) {i : Nat} : ∀ {vs : List Nat}, sl_ (restore a b vs) i = if i ∈ vs then sl_ a i else sl_ b i
  | [] => by simp [restore]
  | v :: vs => by
    unfold restore
    rw [sl_set, sl_restore hl (vs := vs), len_restore]
    by_cases e : v = i
    · subst e
      by_cases l : v < b.length
      · simp [l]
      · have h1 : sl_ a v = .no := by unfold sl_; rw [List.getD_eq_getElem?_getD, List.getElem?_eq_none (by omega)]; rfl
        have h2 : sl_ b v = .no := by unfold sl_; rw [List.getD_eq_getElem?_getD, List.getElem?_eq_none (by omega)]; rfl
        rw [h1, h2, if_neg (fun c => l c.2), ite_self, ite_self]
    · have e' : ¬ i = v := fun z => e z.symm
      simp [e, e']
theorem at_wipe {σ : L2.St} {i : Nat} : ∀ {vs : List Nat}, at_ (wipe σ vs) i = if i ∈ vs then none else at_ σ i
  | [] => by simp [wipe]
  | v :: vs => by
    unfold wipe
    rw [at_set, at_wipe (vs := vs), wipe_length]
    by_cases e : v = i
    · subst e
      by_cases l : v < σ.length
      · simp [l]
      · have : at_ σ v = none := by unfold at_; rw [List.getD_eq_getElem?_getD, List.getElem?_eq_none (by omega)]; rfl
        simp [l, this]
    · have e' : ¬ i = v := fun z => e z.symm
      simp [e, e']
theorem st_ext {a b : L2.St} (hl : a.length = b.length) (h : ∀ j, at_ a j = at_ b j) : a = b := by
  apply List.ext_getElem?
  intro j
  have : ∀ (τ : L2.St), τ[j]? = if j < τ.length then some (at_ τ j) else none := fun τ => by
    unfold at_
    rw [List.getD_eq_getElem?_getD]
    by_cases l : j < τ.length
    · rw [if_pos l, List.getElem?_eq_getElem l]; rfl
    · rw [if_neg l, List.getElem?_eq_none (by omega)]
  rw [this, this, hl, h j]
theorem wipe_set {σ : L2.St} {i : Nat} {o : Option V} {vs : List Nat} (h : i ∈ vs) : wipe (σ.set i o) vs = wipe σ vs := by
  refine st_ext (by rw [wipe_length, wipe_length, List.length_set]) fun j => ?_
  rw [at_wipe, at_wipe, at_set]
  by_cases hj : j ∈ vs
  · rw [if_pos hj, if_pos hj]
  · rw [if_neg hj, if_neg hj, if_neg (fun c : i = j ∧ i < σ.length => hj (c.1 ▸ h))]
theorem wipe_idem {σ : L2.St} {vs : List Nat} : wipe (wipe σ vs) vs = wipe σ vs := by
  refine st_ext (by rw [wipe_length]) fun j => ?_
  rw [at_wipe, at_wipe]
  by_cases hj : j ∈ vs
  · rw [if_pos hj, if_pos hj]
  · rw [if_neg hj, if_neg hj]
def noex : Addr → List (Str × T) → Rho → Prop := fun _ _ _ => False
def compD (vs : List Nat) (g : Tg) (tt : Dn Bool) (te : Dn Rv) (k : List T → Rho → Prop) : List T → List T → Rho → Prop
  | [], acc, ρ => k acc ρ
  | t :: ts, acc, ρ => cTg g t ρ fun ρ1 => tt ρ1 ⟨fun b ρ2 => ifB b (te ρ2 ⟨fun r ρ3 => acc.length < sizeLine ∧ compD vs g tt te k ts (acc ++ [r.2]) (wipeR ρ3 vs), noex⟩) (compD vs g tt te k ts acc (wipeR ρ2 vs)), noex⟩
/-- [te for g in di if tt] -/
def dComp (vs : List Nat) (di : Di) (g : Tg) (tt : Dn Bool) (te : Dn Rv) : Dn Rv := fun ρ Q => di ρ ⟨fun ts ρ1 => compD vs g tt te (fun acc ρ2 => Q.ok (true, .lst acc) (restore ρ1 ρ2 vs)) ts [] (wipeR ρ1 vs), Q.ex⟩
def dYes : Dn Bool := fun ρ Q => Q.ok true ρ
theorem mn_compD {vs : List Nat} {g : Tg} {tt : Dn Bool} {te : Dn Rv} {k k' : List T → Rho → Prop} (mt : Mn tt) (me : Mn te) (h : ∀ a ρ, k a ρ → k' a ρ) : ∀ ts acc ρ, compD vs g tt te k ts acc ρ → compD vs g tt te k' ts acc ρ
  | [], acc, ρ, q => h _ _ q
  | t :: ts, acc, ρ, q => mn_cTg q fun ρ1 z => mt _ _ _ z (fun b ρ2 z => ifB_mono z (fun z => me _ _ _ z (fun r ρ3 z => ⟨z.1, mn_compD mt me h ts _ _ z.2⟩) fun _ _ _ z => z) fun z => mn_compD mt me h ts _ _ z) fun _ _ _ z => z
theorem mn_comp {vs : List Nat} {di : Di} {g : Tg} {tt : Dn Bool} {te : Dn Rv} (mi : Mn di) (mt : Mn tt) (me : Mn te) : Mn (dComp vs di g tt te) := fun ρ Q Q' h k e => mi _ _ _ h (fun ts ρ1 z => mn_compD mt me (fun a ρ2 z => k _ _ z) _ _ _ z) e
section
variable {K : PySem.W.Frag} {σ : L2.St} {ρ : Rho} {W : Ad} {H : Hp}
/-- a free owned object is written -/
theorem Rep.writeFree {p : Addr} {o : HO} (r : Rep K W H σ ρ) (hw : W p) (hn : ¬ Rt σ ρ p) : Rep K W (upd H p o) σ ρ := by
  have k : ∀ q u, H q = some u → ¬ q = p → upd H p o q = some u := fun q u e n => by rw [upd_ne n]; exact e
  have kw : ∀ q, q = p → W q := fun q e => by rw [e]; exact hw
  have dom : ∀ q u, H q = some u → ∃ u', upd H p o q = some u' := fun q u e => by
    by_cases c : q = p
    · rw [c, upd_same]; exact ⟨_, rfl⟩
    · exact ⟨u, k q u e c⟩
  refine ⟨r.len, fun j => ?_, r.inj, fun q z => by obtain ⟨u, e⟩ := r.wd q z; exact dom q u e⟩
  have hs := r.sl j
  have ne : ∀ q, (sl_ ρ j).own → at_ σ j = some (.ref q) → q ≠ p := fun q w e z => hn ⟨j, w, by rw [← z]; exact e⟩
  cases q : sl_ ρ j with
  | no => trivial
  | sh t => rw [q] at hs; obtain ⟨u, e1, e2⟩ := hs; exact ⟨u, e1, e2.write hw⟩
  | sd t => rw [q] at hs; obtain ⟨u, e1, ⟨e2, ob, eo⟩, e3⟩ := hs; exact ⟨u, e1, ⟨e2, dom _ _ eo⟩, e3.write hw⟩
  | ow t => rw [q] at hs; obtain ⟨u, e1, e2, e3⟩ := hs; exact ⟨u, e1, e2, e3.keep (P := fun q => q = p) k kw (fun _ z => .inl z) fun v e => k u v e (ne u (by rw [q]; trivial) e1)⟩
  | io t => rw [q] at hs; obtain ⟨u, e1, e2, e3⟩ := hs; exact ⟨u, e1, e2, e3.keep (P := fun q => q = p) k kw (fun _ z => .inl z) fun v e => k u v e (ne u (by rw [q]; trivial) e1)⟩
/-- the target's names -/
theorem nms_run {vs : List Nat} : ∀ (is : List Nat) (xs : List V) (ts : List T) (σ : L2.St) (ρ : Rho) (Q : Rho → Prop) (R : L2.St → Hp → Prop), (∀ i ∈ is, i ∈ vs) → Rep K W H σ ρ → IsL K W H xs ts → cNms is ts ρ Q →
    (∀ σ2 ρ2, Rep K W H σ2 ρ2 → (∀ p, Rt σ2 ρ2 p → Rt σ ρ p) → IoK σ ρ σ2 ρ2 → wipe σ2 vs = wipe σ vs → Q ρ2 → R σ2 H) → gNms is xs σ H R
  | [], xs, ts, σ, ρ, Q, R, hv, rep, is, ⟨e, q⟩, k => by
    subst e
    cases is
    exact ⟨rfl, k σ ρ rep (fun _ z => z) (IoK.refl _ _) rfl q⟩
  | i :: is, xs, ts, σ, ρ, Q, R, hv, rep, hl, ⟨t, r, e, pf, q⟩, k => by
    subst e
    cases hl with
    | cons a b =>
      refine ⟨_, _, rfl, ?_⟩
      obtain ⟨rp, sub⟩ := rep.put (r := (false, t)) (relE_sh a) i
      rw [xr_sh] at sub
      refine nms_run is _ _ _ _ Q R (fun j hj => hv j (List.mem_cons_of_mem _ hj)) rp b q fun σ2 ρ2 r2 s2 io w q2 => ?_
      exact k σ2 ρ2 r2 (fun p z => sub p (s2 p z)) ((ioK_put pf).trans io) (by rw [w, wipe_set (hv i List.mem_cons_self)]) q2
theorem tg_run {vs : List Nat} {g : Tg} {v : V} {t : T} {Q : Rho → Prop} {R : L2.St → Hp → Prop} (hv : ∀ i ∈ g.ix, i ∈ vs) (rep : Rep K W H σ ρ) (is : Is K W H v t) (h : cTg g t ρ Q)
    (k : ∀ σ2 ρ2, Rep K W H σ2 ρ2 → (∀ p, Rt σ2 ρ2 p → Rt σ ρ p) → IoK σ ρ σ2 ρ2 → wipe σ2 vs = wipe σ vs → Q ρ2 → R σ2 H) : gTg K g v σ H R := by
  cases g with
  | one i =>
    obtain ⟨pf, q⟩ := h
    obtain ⟨rp, sub⟩ := rep.put (r := (false, t)) (relE_sh is) i
    rw [xr_sh] at sub
    exact k _ _ rp sub (ioK_put pf) (wipe_set (hv i List.mem_cons_self)) q
  | tup is' =>
    obtain ⟨ts, e, l, q⟩ := h
    subst e
    cases is with
    | tup r w ll => exact ⟨_, _, rfl, .of r, by rw [ll.length]; exact l, nms_run is' _ _ _ _ Q R hv rep ll q k⟩
    | tupK r ll => exact ⟨_, _, rfl, .inr r, by rw [ll.length]; exact l, nms_run is' _ _ _ _ Q R hv rep ll q k⟩
theorem Step.widen {P Q W P' W' : Ad} {H H' : Hp} (a : Step P W H P' W' H') (h : ∀ p, P p → Q p) : Step Q W H P' W' H' := ⟨fun p o e n => a.keep p o e fun z => n (h p z), a.dom, fun p w n => a.stay p w fun z => n (h p z), a.new, fun p z => (a.newP p z).elim (fun z => .inl (h p z)) .inr⟩
theorem Step.keepP {P W P' P'' W' : Ad} {H H' : Hp} (a : Step P W H P' W' H') (h : ∀ p, P'' p → P p ∨ H p = none) : Step P W H P'' W' H' := ⟨a.keep, a.dom, a.stay, a.new, h⟩
theorem rep_wipe {vs : List Nat} (rep : Rep K W H σ ρ) : Rep K W H (wipe σ vs) (wipeR ρ vs) ∧ ∀ p, Rt (wipe σ vs) (wipeR ρ vs) p → Rt σ ρ p := by
  have own' : ∀ i, (sl_ (wipeR ρ vs) i).own → i ∉ vs ∧ (sl_ ρ i).own := fun i w => by
    rw [sl_wipe] at w
    by_cases c : i ∈ vs
    · rw [if_pos c] at w; exact w.elim
    · rw [if_neg c] at w; exact ⟨c, w⟩
  have at' : ∀ i, i ∉ vs → at_ (wipe σ vs) i = at_ σ i := fun i c => by rw [at_wipe, if_neg c]
  refine ⟨⟨by rw [len_wipe, wipe_length]; exact rep.len, fun i => ?_, fun a b p wa wb ea eb => ?_, rep.wd⟩, fun p ⟨i, w, e⟩ => ?_⟩
  · rw [sl_wipe]
    by_cases c : i ∈ vs
    · rw [if_pos c]; trivial
    · rw [if_neg c, at' i c]; exact rep.sl i
  · rw [at' a (own' a wa).1] at ea
    rw [at' b (own' b wb).1] at eb
    exact rep.inj a b p (own' a wa).2 (own' b wb).2 ea eb
  · rw [at' i (own' i w).1] at e
    exact ⟨i, (own' i w).2, e⟩
end
/-- no exception leaves a comprehension's block -/
def noW : WX := fun _ _ _ _ => False
theorem takes_blk {X : Cx} {s : Shared} {H : Hp} {scope : Scope} {cenv : Env} {fp : List Addr} : L2N.Takes (X.blk s H scope cenv fp) noW := fun u s' h => by
  obtain ⟨a, B, sI, pins, σ, H, cls, d, _, _, _, _, _, _, _, _, w⟩ := h
  exact w
structure XTs (X : Cx) (Wx : WX) (ifs : List Expr) (d : Dn Bool) : Prop where
  pts : PTs X ifs (RD X.K relB nox Wx d)
  mn : Mn d
theorem PTs.imp {X : Cx} {e : List Expr} {t t' : TT} (h : PTs X e t) (i : ∀ σ H Q, t' σ H Q → t σ H Q) : PTs X e t' := ⟨fun pins s σ H Q I q => h.run pins s σ H Q I (i σ H Q q)⟩
theorem xts_nil {X : Cx} {Wx : WX} : XTs X Wx [] dYes := ⟨PTs.imp pts_nil fun σ H Q ⟨W, ρ, rep, q⟩ => q true W H rfl rep (Step.refl _ _ _).toNox (Pn.refl _), fun ρ Q Q' h k _ => k _ _ h⟩
theorem xts_one {X : Cx} {Wx : WX} {c : Expr} {d : Dn Bool} (h : XT X Wx c d) : XTs X Wx [c] d := ⟨pts_one h.pt, h.mn⟩
section
variable {K : PySem.W.Frag} {Wx : WX}
theorem lc_run {vs : List Nat} {di : Di} {g : Tg} {tt : Dn Bool} {te : Dn Rv} (mi : Mn di) (mt : Mn tt) (me : Mn te) (hv : ∀ i ∈ g.ix, i ∈ vs) (σ : L2.St) (H : Hp) (Q : VK) (h : RD K (relE K) xr Wx (dComp vs di g tt te) σ H Q) :
    tLc (RI K Wx di) (gTg K g) (RD K relB nox noW tt) (RD K (relE K) xr noW te) vs σ H Q := by
  obtain ⟨W, ρ, rep, h⟩ := h
  refine ⟨W, ρ, rep, mi _ _ _ h (fun ts ρ1 q J W1 H1 rep1 st1 pn1 yl => ?_) fun _ _ _ z => z⟩
  intro D hD
  obtain ⟨repw, subw⟩ := rep_wipe (vs := vs) rep1
  let τ := wipe σ vs
  let P0 := Rt τ (wipeR ρ1 vs)
  have wdD : ¬ W1 D := fun z => by obtain ⟨o, e⟩ := rep1.wd D z; rw [hD] at e; cases e
  -- the state ahead of a turn
  let Z := fun (k : Nat) (H' : Hp) => ∃ W' ρ' acc accV, Rep K W' H' τ ρ' ∧ (∀ i ∈ vs, sl_ ρ' i = .no) ∧ H' D = some (.lst accV) ∧ IsL K W' H' accV acc ∧ W' D ∧ ¬ Rt τ ρ' D ∧
    compD vs g tt te (fun acc ρ2 => (cpost K (relE K) xr Wx σ ρ W H Q).ok (true, .lst acc) (restore ρ1 ρ2 vs)) (ts.drop k) acc ρ' ∧ Step P0 W1 H1 (rooted (Rt τ ρ') fun p => p = D) W' H' ∧ Lt W1 H1 W' H' ∧ Pn (wipeR ρ1 vs) ρ'
  have hZ0 : Z 0 (upd H1 D (.lst [])) := by
    have same := kept_upd (o := .lst []) hD
    refine ⟨plus W1 D, wipeR ρ1 vs, [], [], repw.grow same hD ⟨_, upd_same⟩, fun i hi => by rw [sl_wipe, if_pos hi], upd_same, .nil, .inr rfl, fun z => wdD (repw.rt _ z), by rw [List.drop_zero]; exact q,
      ⟨fun p o e _ => same p o e, fun p o e => ⟨o, same p o e⟩, fun p z _ => .inl z, fun p z => z.elim .inl fun e => .inr (by rw [e]; exact hD), fun p z => z.elim .inl fun e => .inr (by rw [e]; exact hD)⟩,
      ⟨fun p o e _ => same p o e, fun p z => z.elim .inl fun e => .inr (by rw [e]; exact hD), fun p o e => ⟨o, same p o e⟩⟩, Pn.refl _⟩
  refine ⟨fun i m H' => m = ts.length - i ∧ i ≤ ts.length ∧ Z i H', ⟨_, rfl, Nat.zero_le _, hZ0⟩, ?_⟩
  rintro i m H2 ⟨rfl, hle, W2, ρ2, acc, accV, rep2, nov, eD, lD, wD, nD, q2, st2, lt2, pn2⟩
  obtain ⟨ys, yg⟩ := yl W2 H2 lt2 rep2.wd
  have hP0 : ∀ p, P0 p → W1 p := fun p z => repw.rt p z
  -- behind a part of the turn
  have go_on : ∀ {σ4 : L2.St} {W4 : Ad} {ρ4 : Rho} {H4 : Hp}, Rep K W4 H4 σ4 ρ4 → wipe σ4 vs = τ → Step (Rt τ ρ2) W2 H2 (Rt σ4 ρ4) W4 H4 → Pn ρ2 ρ4 → H4 D = some (.lst accV) ∧ IsL K W4 H4 accV acc ∧ W4 D ∧ ¬ Rt σ4 ρ4 D := fun {σ4 W4 ρ4 H4} rp e st pn =>
    ⟨st.keep D _ eD nD, lD.step st rep2.rt, st.stay D wD nD, fun z => (st.newP D z).elim nD fun e => by rw [eD] at e; cases e⟩
  have close : ∀ {σ4 : L2.St} {W4 : Ad} {ρ4 : Rho} {H6 H4 : Hp} (acc' : List T) (accV' : List V) (k : Nat), Rep K W4 H4 σ4 ρ4 → wipe σ4 vs = τ → Step (Rt τ ρ2) W2 H2 (Rt σ4 ρ4) W4 H6 → (∀ p, p ≠ D → H4 p = H6 p) → Pn ρ2 ρ4 → H4 D = some (.lst accV') → IsL K W4 H4 accV' acc' → W4 D → ¬ Rt σ4 ρ4 D →
      compD vs g tt te (fun acc ρ2 => (cpost K (relE K) xr Wx σ ρ W H Q).ok (true, .lst acc) (restore ρ1 ρ2 vs)) (ts.drop k) acc' (wipeR ρ4 vs) → Z k H4 := fun {σ4 W4 ρ4 H6 H4} acc' accV' k rp e st oD pn h1 h2 h3 h4 h5 => by
    obtain ⟨r', s'⟩ := rep_wipe (vs := vs) rp
    rw [e] at r' s'
    have neD : ∀ p o, H1 p = some o → p ≠ D := fun p o e z => by rw [z, hD] at e; cases e
    have lt4 := lt2.step rep2.rt st
    refine ⟨W4, wipeR ρ4 vs, acc', accV', r', fun i hi => by rw [sl_wipe, if_pos hi], h1, h2, h3, fun z => h4 (s' _ z), h5, ?_, ⟨fun p o e n => by rw [oD p (neD p o e)]; exact lt4.keep p o e n, lt4.new, fun p o e => by rw [oD p (neD p o e)]; exact lt4.dom p o e⟩, fun i z => ?_⟩
    · refine ⟨fun p o e n => ?_, fun p o e => ?_, fun p w n => ?_, fun p z => ?_, fun p z => ?_⟩
      · rw [oD p (neD p o e)]
        exact st.keep p o (st2.keep p o e n) fun z => (st2.newP p (.inl z)).elim n fun q => by rw [e] at q; cases q
      · rw [oD p (neD p o e)]
        obtain ⟨o', e'⟩ := st2.dom p o e; exact st.dom p o' e'
      · exact st.stay p (st2.stay p w n) fun z => (st2.newP p (.inl z)).elim n fun q => by obtain ⟨o, e⟩ := rep1.wd p w; rw [q] at e; cases e
      · exact (st.new p z).elim (st2.new p) fun q => .inr (st2.none_of q)
      · rcases z with z | z
        · exact (st.newP p (s' p z)).elim (fun z => st2.newP p (.inl z)) fun q => .inr (st2.none_of q)
        · exact .inr (by rw [z]; exact hD)
    · have hi : i ∉ vs := fun hi => by rw [sl_wipe, if_pos hi] at z; cases z
      rw [sl_wipe, if_neg hi]
      exact pn i (pn2 i z)
  by_cases hlt : i < ts.length
  · rw [List.drop_eq_getElem_cons hlt] at q2
    obtain ⟨go, yi⟩ := yg i ts[i] (List.getElem?_eq_getElem hlt)
    refine .inr ⟨go, Z (i + 1), fun H' z => ⟨ts.length - (i + 1), by omega, rfl, hlt, z⟩, fun x H3 y => ?_⟩
    obtain ⟨same, is⟩ := yi x H3 y
    have sm : Step (Rt τ ρ2) W2 H2 (Rt τ ρ2) W2 H3 := Step.same same
    refine tg_run (K := K) (vs := vs) hv (rep2.same same) is q2 fun σ4 ρ4 rp4 sub4 io4 w4 q4 => ?_
    have w4' : wipe σ4 vs = τ := by rw [w4]; exact wipe_idem
    refine ⟨w4', ?_⟩
    have pn4 : Pn ρ2 ρ4 := fun i z => (io4 i z).1
    have sm4 : Step (Rt τ ρ2) W2 H2 (Rt σ4 ρ4) W2 H3 := sm.subP sub4
    refine ⟨W2, ρ4, rp4, mt _ _ _ q4 (fun b ρ5 z b' W5 H5 rl5 rp5 st5 pn5 => ?_) fun _ _ _ z => z.elim⟩
    have rl5 : b' = b := rl5
    subst rl5
    have tot5 := sm4.trans rep2.wd st5.noxx
    have pnt5 := pn4.trans pn5
    show if b' = true then _ else _
    by_cases kb : b' = true
    · rw [if_pos kb]
      refine ⟨W5, ρ5, rp5, me _ _ _ (z.1 kb) (fun r ρ6 z v W6 H6 rl6 rp6 st6 pn6 => ?_) fun _ _ _ z => z.elim⟩
      obtain ⟨W7, s7, is7, rp7, st7⟩ := demote rp5.wd rl6 rp6 st6
      have tot7 := tot5.trans rep2.wd st7
      have pnt7 := pnt5.trans pn6
      obtain ⟨e1, e2, e3, e4⟩ := go_on rp7 w4' tot7 pnt7
      refine ⟨accV, e1, by rw [e2.length]; exact z.1, ?_⟩
      exact close (acc ++ [r.2]) (accV ++ [v]) (i + 1) (rp7.writeFree e3 e4) w4' tot7 (fun p n => upd_ne n) pnt7 upd_same ((e2.append (.cons is7 .nil)).write e3) e3 e4 z.2
    · rw [if_neg kb]
      obtain ⟨e1, e2, e3, e4⟩ := go_on rp5 w4' tot5 pnt5
      exact close acc accV (i + 1) rp5 w4' tot5 (fun _ _ => rfl) pnt5 e1 e2 e3 e4 (z.2 (by cases b' <;> first | rfl | exact absurd rfl kb))
  · have e : i = ts.length := by omega
    subst e
    rw [List.drop_length] at q2
    refine .inl ⟨ys, ?_⟩
    have hlen : ρ1.length = ρ2.length := by rw [rep1.len, rep2.len, wipe_length]
    -- the names that the block hid
    have hid : ∀ i p, i ∈ vs → (sl_ ρ1 i).own → at_ σ i = some (.ref p) → ¬ P0 p := fun i p hi w e ⟨j, wj, ej⟩ => by
      rw [sl_wipe] at wj
      by_cases c : j ∈ vs
      · rw [if_pos c] at wj; exact wj
      · rw [if_neg c] at wj
        rw [at_wipe, if_neg c] at ej
        have := rep1.inj i j p w wj e ej
        subst this
        exact c hi
    have own' : ∀ i, (sl_ (restore ρ1 ρ2 vs) i).own → (i ∈ vs ∧ (sl_ ρ1 i).own) ∨ (i ∉ vs ∧ (sl_ ρ2 i).own) := fun i w => by
      rw [sl_restore hlen] at w
      by_cases c : i ∈ vs
      · rw [if_pos c] at w; exact .inl ⟨c, w⟩
      · rw [if_neg c] at w; exact .inr ⟨c, w⟩
    have rt2 : ∀ p, Rt τ ρ2 p → P0 p ∨ H1 p = none := fun p z => st2.newP p (.inl z)
    have inner : ∀ i p, i ∉ vs → (sl_ ρ2 i).own → at_ σ i = some (.ref p) → Rt τ ρ2 p := fun i p c w e => ⟨i, w, by rw [at_wipe, if_neg c]; exact e⟩
    have apart : ∀ a b p, a ∈ vs → (sl_ ρ1 a).own → at_ σ a = some (.ref p) → b ∉ vs → (sl_ ρ2 b).own → at_ σ b = some (.ref p) → False := fun a b p ha wa ea hb wb eb => by
      rcases rt2 p (inner b p hb wb eb) with z | z
      · exact hid a p ha wa ea z
      · obtain ⟨o, e⟩ := rep1.wd p (rep1.rt p ⟨a, wa, ea⟩); rw [z] at e; cases e
    have repF : Rep K W2 H2 σ (restore ρ1 ρ2 vs) := by
      refine ⟨by rw [len_restore, rep2.len, wipe_length], fun i => ?_, fun a b p wa wb ea eb => ?_, rep2.wd⟩
      · rw [sl_restore hlen]
        by_cases c : i ∈ vs
        · rw [if_pos c]
          have hz := rep1.sl i
          have np := hid i
          cases q : sl_ ρ1 i with
          | no => trivial
          | sh t => rw [q] at hz; obtain ⟨v, e1, e2⟩ := hz; exact ⟨v, e1, e2.step st2 hP0⟩
          | sd t =>
            rw [q] at hz; obtain ⟨p, e1, ⟨e2, ob, eo⟩, e3⟩ := hz
            refine ⟨p, e1, ⟨fun z => (st2.new p z).elim e2 fun z => ?_, st2.dom p ob eo⟩, e3.step st2 hP0⟩
            rw [eo] at z; cases z
          | ow t => rw [q] at hz np; obtain ⟨p, e1, e2, e3⟩ := hz; have n := np p c trivial e1; exact ⟨p, e1, st2.stay p e2 n, e3.keep st2.keep hP0 st2.new fun o e => st2.keep p o e n⟩
          | io t => rw [q] at hz np; obtain ⟨p, e1, e2, e3⟩ := hz; have n := np p c trivial e1; exact ⟨p, e1, st2.stay p e2 n, e3.keep st2.keep hP0 st2.new fun o e => st2.keep p o e n⟩
        · rw [if_neg c]
          have hz := rep2.sl i
          rw [at_wipe, if_neg c] at hz
          exact hz
      · rcases own' a wa with ⟨ha, wa⟩ | ⟨ha, wa⟩ <;> rcases own' b wb with ⟨hb, wb⟩ | ⟨hb, wb⟩
        · exact rep1.inj a b p wa wb ea eb
        · exact (apart a b p ha wa ea hb wb eb).elim
        · exact (apart b a p hb wb eb ha wa ea).elim
        · exact rep2.inj a b p wa wb (by rw [at_wipe, if_neg ha]; exact ea) (by rw [at_wipe, if_neg hb]; exact eb)
    have nDF : ¬ Rt σ (restore ρ1 ρ2 vs) D := fun ⟨i, w, e⟩ => by
      rcases own' i w with ⟨c, w⟩ | ⟨c, w⟩
      · obtain ⟨o, e'⟩ := rep1.wd D (rep1.rt D ⟨i, w, e⟩); rw [hD] at e'; cases e'
      · exact nD (inner i D c w e)
    have stF : Step (Rt σ ρ1) W1 H1 (rooted (Rt σ (restore ρ1 ρ2 vs)) (xr (.ref D) (true, .lst acc))) W2 H2 := by
      refine (st2.widen subw).keepP fun p z => ?_
      rcases z with ⟨i, w, e⟩ | ⟨_, e⟩
      · rcases own' i w with ⟨c, w⟩ | ⟨c, w⟩
        · exact .inl ⟨i, w, e⟩
        · exact (rt2 p (inner i p c w e)).elim (fun z => .inl (subw p z)) .inr
      · cases e; exact .inr hD
    refine q2 (.ref D) W2 H2 ?_ repF (st1.trans rep.wd stF) (pn1.trans fun i z => ?_)
    · unfold relE
      rw [if_pos rfl]
      exact ⟨D, rfl, wD, ⟨accV, eD, lD⟩, nDF⟩
    · rw [sl_restore hlen]
      by_cases c : i ∈ vs
      · rw [if_pos c]; exact z
      · rw [if_neg c]; exact pn2 i (by rw [sl_wipe, if_neg c]; exact z)
end
section
variable {X : Cx} {Wx : WX}
theorem xe_lc {elt tg iter : Expr} {ifs : List Expr} {scope : Scope} {own : List (Str × Nat)} {pos : Pos} {di : Di} {g : Tg} {tt : Dn Bool} {te : Dn Rv} (hc : X.calm = true) (hN : X.N.Nodup) (hi : XI X Wx tg iter di) (ok : BlkOk X.N X.env.scope scope own) (hv : ∀ i ∈ g.ix, i ∈ own.map (·.2))
    (hg : ∀ (s : Shared) (H : Hp) (C : Addr) (cl : List (Str × Addr)) (fp : List Addr), PG (X.blk s H scope (compEnvC scope cl C X.env) fp) tg (gTg X.K g)) (ht : ∀ (s : Shared) (H : Hp) (C : Addr) (cl : List (Str × Addr)) (fp : List Addr), XTs (X.blk s H scope (compEnvC scope cl C X.env) fp) noW ifs tt)
    (he : ∀ (s : Shared) (H : Hp) (C : Addr) (cl : List (Str × Addr)) (fp : List Addr), XE (X.blk s H scope (compEnvC scope cl C X.env) fp) noW elt te) (hs : ∀ x, foldedSetIterable iter X.env x = pure x := by intro _; rfl) :
    XE X Wx (.ListComp elt [⟨tg, iter, ifs, 0⟩] scope pos) (dComp (own.map (·.2)) di g tt te) := by
  have mt := (ht X.s_0 X.H_0 0 [] []).mn
  have me := (he X.s_0 X.H_0 0 [] []).mn
  exact ⟨PE.imp (pe_lc (g := gTg X.K g) (tt := RD X.K relB nox noW tt) (te := RD X.K (relE X.K) xr noW te) hc hN hi.pi ok hg (fun s H C cl fp => (ht s H C cl fp).pts) (fun s H C cl fp => (he s H C cl fp).pe) hs) fun σ H Q h => lc_run hi.mn mt me hv σ H Q h, mn_comp hi.mn mt me⟩
/-- x = [..], x a local -/
theorem xs_setLc (i : Nat) {y : Str} {py : Pos} {elt tg iter : Expr} {ifs : List Expr} {scope : Scope} {own : List (Str × Nat)} {pos spos : Pos} {di : Di} {g : Tg} {tt : Dn Bool} {te : Dn Rv} (hc : X.calm = true) (hN : X.N.Nodup) (hi : XI X Wx tg iter di) (ok : BlkOk X.N X.env.scope scope own) (hv : ∀ i ∈ g.ix, i ∈ own.map (·.2))
    (hg : ∀ (s : Shared) (H : Hp) (C : Addr) (cl : List (Str × Addr)) (fp : List Addr), PG (X.blk s H scope (compEnvC scope cl C X.env) fp) tg (gTg X.K g)) (ht : ∀ (s : Shared) (H : Hp) (C : Addr) (cl : List (Str × Addr)) (fp : List Addr), XTs (X.blk s H scope (compEnvC scope cl C X.env) fp) noW ifs tt)
    (he : ∀ (s : Shared) (H : Hp) (C : Addr) (cl : List (Str × Addr)) (fp : List Addr), XE (X.blk s H scope (compEnvC scope cl C X.env) fp) noW elt te)
    (hsw : swapsWith (.ListComp elt [⟨tg, iter, ifs, 0⟩] scope pos) (some (.Name y py)) spos.line X.env = pure true) (hyl : X.env.scope.names.lookup y = some .local) (hy : X.N[i]? = some y := by rfl) (hs : ∀ x, foldedSetIterable iter X.env x = pure x := by intro _; rfl) :
    XS X Wx (.Assign [.Name y py] (.ListComp elt [⟨tg, iter, ifs, 0⟩] scope pos) spos) (sSet i (dComp (own.map (·.2)) di g tt te)) := by
  have mt := (ht X.s_0 X.H_0 0 [] []).mn
  have me := (he X.s_0 X.H_0 0 [] []).mn
  have mc := mn_comp (vs := own.map (·.2)) (g := g) hi.mn mt me
  refine ⟨PS.imp (ps_setLc (g := gTg X.K g) (tt := RD X.K relB nox noW tt) (te := RD X.K (relE X.K) xr noW te) hc hN hy hyl hsw hi.pi ok hg (fun s H C cl fp => (ht s H C cl fp).pts) (fun s H C cl fp => (he s H C cl fp).pe) hs) fun D σ H ⟨W, ρ, rep, q⟩ => ?_, mn_set mc⟩
  refine lc_run (Wx := Wx) hi.mn mt me hv σ H _ ?_
  refine rd_stmt mc rep q fun r ρ1 ⟨pf, q⟩ v W1 H1 rl rep1 st pn => ?_
  obtain ⟨rp, sub⟩ := rep1.put rl i
  exact q _ W1 H1 rp (st.subP sub) ((IoK.of pn).trans (ioK_put pf))
end
end O
namespace O
open PySem PySem.Spec PyProof.Rows L2
/-- what is drawn from: a list, a tuple, a text -/
inductive Sc where
  | lst (a : Addr) | tup (a : Addr) | txt (x : Str)
def Sc.v : Sc → V
  | .lst a => .ref a
  | .tup a => .ref a
  | .txt x => .str x
def sgn (x : Str) : List V := x.cps.toList.map fun c => V.str ⟨#[c]⟩
def Sc.has (K : PySem.W.Frag) (H : Hp) : Sc → List V → Prop
  | .lst a, xs => SqL K H a xs
  | .tup a, xs => SqT K H a xs
  | .txt x, xs => xs = sgn x
/-- its iterator at it, ahead of turn i -/
def Sc.tn (it : Addr) (i : Nat) (h : Heap) : Sc → Prop
  | .lst a => h.IsListIter it a i
  | .tup a => h.IsTupleIter it a i
  | .txt x => ∃ t, h.IsStrIter it (strIterType x) x t i
theorem Sc.obj {it : Addr} {i : Nat} {h : Heap} {c : Sc} (s : c.tn it i h) : ∃ o, h.get? it = some o ∧ ∀ v, o.data ≠ .cell v := by
  cases c with
  | lst a => obtain ⟨o, e, c, d⟩ := s; exact ⟨o, e, fun v z => by rw [d] at z; cases z⟩
  | tup a => obtain ⟨o, e, c, d⟩ := s; exact ⟨o, e, fun v z => by rw [d] at z; cases z⟩
  | txt x => obtain ⟨t, o, e, c, d⟩ := s; exact ⟨o, e, fun v z => by rw [d] at z; cases z⟩
theorem Sc.keep {it : Addr} {i : Nat} {h h' : Heap} {c : Sc} (s : c.tn it i h) (k : ∀ o, h.get? it = some o → h'.get? it = some o) : c.tn it i h' := by
  cases c with
  | lst a => obtain ⟨o, e, c⟩ := s; exact ⟨o, k o e, c⟩
  | tup a => obtain ⟨o, e, c⟩ := s; exact ⟨o, k o e, c⟩
  | txt x => obtain ⟨t, o, e, c⟩ := s; exact ⟨t, o, k o e, c⟩
section
variable {X : Cx} {pins : List (Addr × Obj)} {σ : L2.St} {H : Hp} {s : Shared}
theorem Sc.inj {c : Sc} {xs ys : List V} (I : Inv X pins σ H s) (a : c.has X.K H xs) (b : c.has X.K H ys) : xs = ys := by
  cases c with
  | lst p => exact I.list_inj a b
  | tup p => exact I.tuple_inj a b
  | txt x => exact (show xs = _ from a).trans (show ys = _ from b).symm
/-- the iterator draws the items; the addresses that it leans on -/
theorem Sc.draws {c : Sc} {xs : List V} {it : Addr} {i : Nat} {A : Around} (I : Inv X pins σ H s) (hh : A.handled = none) (hit : H it = none) (a : c.has X.K H xs) (st : c.tn it i s.heap) :
    ∃ (fp : List Addr) (P : Nat → Value → Prop) (St : Nat → Heap → Prop), Draws X.prog X.w A it fp xs.length P St ∧ St i s.heap ∧ it ∈ fp ∧ (∀ b ∈ fp, b = it ∨ ((∃ o, s.heap.get? b = some o) ∧ ∀ z, H z = none → ∀ o, s.heap.get? z = some o → X.base.get? z = none → b ≠ z)) ∧
      (∀ j u, P j u → ∃ x, xs[j]? = some x ∧ RelV x u) ∧ ∀ j h, St j h → c.tn it j h := by
  cases c with
  | lst p =>
    obtain ⟨its, rv, pl, hz⟩ := I.list a
    have hne : p ≠ it := fun e => by
      obtain ⟨o, e1, c1, _⟩ := pl.isList
      obtain ⟨o2, e2, c2, _⟩ := st
      rw [e, e2] at e1; cases e1
      rw [c2] at c1
      exact absurd (Value.type.inj c1) (by decide)
    refine ⟨[it, p], fun i v => its.toArray[i]? = some v, fun i h => h.IsListIter it p i ∧ h.IsList p its.toArray, by rw [rv.length]; simpa using Draws.list (prog := X.prog) (w := X.w) hh it p hne its.toArray, ⟨st, pl.isList⟩, by simp, fun b hb => ?_, fun j u e => ?_, fun j h e => e.1⟩
    · rcases List.mem_cons.mp hb with e | hb
      · exact .inl e
      · rw [List.mem_singleton.mp hb]
        obtain ⟨o, e1, _⟩ := id pl.isList
        refine .inr ⟨⟨o, e1⟩, fun z hz o2 e2 hb2 e => ?_⟩
        subst e
        rcases a with (a | ⟨o3, a⟩) | ⟨o3, _, _, k, _⟩
        · rw [hz] at a; cases a
        · rw [hz] at a; cases a
        · rw [I.ok.mod.kin p o3 k] at hb2; cases hb2
    · have e' : its[j]? = some u := by simpa using e
      obtain ⟨l, _⟩ := List.getElem?_eq_some_iff.mp e'
      have l2 : j < xs.length := by rw [rv.length]; exact l
      obtain ⟨u', e1, r⟩ := rv.get (List.getElem?_eq_getElem l2)
      rw [e'] at e1; cases e1
      exact ⟨_, List.getElem?_eq_getElem l2, r⟩
  | tup p =>
    obtain ⟨its, rv, pl, hz⟩ := I.tuple a
    have pl' : s.heap.IsTuple p its.toArray := pl
    have hne : p ≠ it := fun e => by
      obtain ⟨o, e1, c1, _⟩ := pl'
      obtain ⟨o2, e2, c2, _⟩ := st
      rw [e, e2] at e1; cases e1
      rw [c2] at c1
      exact absurd (Value.type.inj c1) (by decide)
    refine ⟨[it, p], fun i v => its.toArray[i]? = some v, fun i h => h.IsTupleIter it p i ∧ h.IsTuple p its.toArray, by rw [rv.length]; simpa using Draws.tuple (prog := X.prog) (w := X.w) hh it p hne its.toArray, ⟨st, pl'⟩, by simp, fun b hb => ?_, fun j u e => ?_, fun j h e => e.1⟩
    · rcases List.mem_cons.mp hb with e | hb
      · exact .inl e
      · rw [List.mem_singleton.mp hb]
        obtain ⟨o, e1, _⟩ := id pl'
        refine .inr ⟨⟨o, e1⟩, fun z hz o2 e2 hb2 e => ?_⟩
        subst e
        rcases a with (a | ⟨o3, a⟩) | ⟨o3, _, _, k, _⟩
        · rw [hz] at a; cases a
        · rw [hz] at a; cases a
        · rw [I.ok.mod.kin p o3 k] at hb2; cases hb2
    · have e' : its[j]? = some u := by simpa using e
      obtain ⟨l, _⟩ := List.getElem?_eq_some_iff.mp e'
      have l2 : j < xs.length := by rw [rv.length]; exact l
      obtain ⟨u', e1, r⟩ := rv.get (List.getElem?_eq_getElem l2)
      rw [e'] at e1; cases e1
      exact ⟨_, List.getElem?_eq_getElem l2, r⟩
  | txt x =>
    obtain ⟨t, st⟩ := st
    have e : xs = sgn x := a
    subst e
    have hl : (sgn x).length = x.cps.size := by simp [sgn]
    refine ⟨[it], _, _, by rw [hl]; exact Draws.text hh it x t, st, by simp, fun b hb => .inl (by simpa using hb), fun j u e => ?_, fun j h e => ⟨t, e⟩⟩
    obtain ⟨c, k, e1, e2⟩ := e
    refine ⟨.str ⟨#[c]⟩, by simp [sgn, e1], k, e2⟩
end
section
variable {X : Cx} {pins : List (Addr × Obj)} {σ : L2.St} {H : Hp} {s : Shared}
theorem fp_base {b : Addr} (I : Inv X pins σ H s) (f : FpOk X pins H b) : X.base.get? b = none := by
  cases e : X.base.get? b with
  | none => rfl
  | some o =>
    rcases f.2.2.2.1 with z | z
    · exact (I.ok.noex b o e z).elim
    · exact absurd (Nat.lt_of_lt_of_le (Heap.lt_size e) (Nat.le_trans I.ok.bsz z)) (Nat.lt_irrefl _)
end
/-- pairs of two sources -/
def ItZ2 (K : PySem.W.Frag) (a b : Sc) : It :=
  ⟨fun i H => ∃ (xs ys : List V) (x y : V), a.has K H xs ∧ b.has K H ys ∧ xs[i]? = some x ∧ ys[i]? = some y,
    fun i H v H' => ∃ T x y, v = .ref T ∧ H T = none ∧ H' = upd H T (.tup [x, y]) ∧ (∀ xs, a.has K H xs → xs[i]? = some x) ∧ ∀ ys, b.has K H ys → ys[i]? = some y,
    fun i H => ∃ xs ys : List V, a.has K H xs ∧ b.has K H ys ∧ i ≤ xs.length ∧ i ≤ ys.length ∧ (xs.length ≤ i ∨ ys.length ≤ i)⟩
structure ZA where
  z : Addr
  ti : Addr
  tt : Addr
  l : Addr
  r : Addr
def ZA.all (q : ZA) : List Addr := [q.z, q.ti, q.tt, q.l, q.r]
theorem ZA.each {q : ZA} {P : Addr → Prop} (p : P q.z) (p1 : P q.ti) (p2 : P q.tt) (p3 : P q.l) (p4 : P q.r) : ∀ c ∈ q.all, P c := by
  unfold ZA.all; simpa using ⟨p, p1, p2, p3, p4⟩
theorem ZA.every {q : ZA} {P : Addr → Prop} (h : ∀ c ∈ q.all, P c) : P q.z ∧ P q.ti ∧ P q.tt ∧ P q.l ∧ P q.r := by
  unfold ZA.all at h; simpa using h
theorem ZA.none_of {q : ZA} {c : Addr} (h : c ∉ q.all) : c ≠ q.z ∧ c ≠ q.ti ∧ c ≠ q.tt ∧ c ≠ q.l ∧ c ≠ q.r := by
  unfold ZA.all at h; simpa using h
/-- they stand apart -/
structure ZD (q : ZA) : Prop where
  tiz : q.ti ≠ q.z
  ttz : q.tt ≠ q.z
  tit : q.ti ≠ q.tt
  til : q.ti ≠ q.l
  tir : q.ti ≠ q.r
  zl : q.z ≠ q.l
  zr : q.z ≠ q.r
  ttl : q.tt ≠ q.l
  ttr : q.tt ≠ q.r
  lr : q.l ≠ q.r
/-- how they stand ahead of turn i -/
structure ZS (q : ZA) (a b : Sc) (i : Nat) (h : Heap) : Prop where
  hz : IsZip h q.z q.ti q.tt .none
  hi : IsTupOf2 h q.ti (.ref q.l) (.ref q.r)
  ho : ∃ x y, IsTupOf2 h q.tt x y
  ha : a.tn q.l i h
  hb : b.tn q.r i h
theorem ZS.obj {q : ZA} {a b : Sc} {i : Nat} {h : Heap} (s : ZS q a b i h) : ∀ c ∈ q.all, ∃ o, h.get? c = some o ∧ ∀ v, o.data ≠ .cell v := by
  obtain ⟨x, y, ho⟩ := s.ho
  exact ZA.each ⟨_, s.hz, fun v e => nomatch e⟩ ⟨_, s.hi, fun v e => nomatch e⟩ ⟨_, ho, fun v e => nomatch e⟩ (Sc.obj s.ha) (Sc.obj s.hb)
theorem ZS.keep {q : ZA} {a b : Sc} {i : Nat} {h h' : Heap} (s : ZS q a b i h) (k : ∀ c ∈ q.all, ∀ o, h.get? c = some o → h'.get? c = some o) : ZS q a b i h' := by
  obtain ⟨k1, k2, k3, k4, k5⟩ := ZA.every k
  obtain ⟨x, y, ho⟩ := s.ho
  exact ⟨k1 _ s.hz, k2 _ s.hi, ⟨x, y, k3 _ ho⟩, Sc.keep s.ha k4, Sc.keep s.hb k5⟩
section
variable {X : Cx} {pins : List (Addr × Obj)} {σ : L2.St} {H : Hp} {s : Shared} {q : ZA} {a b : Sc} {i : Nat} {xs ys : List V}
/-- the addresses of one source's iterator are none of the other four objects -/
theorem zip_far {it c : Addr} {fp : List Addr} (I : Inv X pins σ H s) (m : ∀ x ∈ fp, x = it ∨ ((∃ o, s.heap.get? x = some o) ∧ ∀ z, H z = none → ∀ o, s.heap.get? z = some o → X.base.get? z = none → x ≠ z))
    (n : c ≠ it) (f : FpOk X pins H c) (o : ∃ o, s.heap.get? c = some o ∧ ∀ v, o.data ≠ .cell v) : c ∉ fp := fun hm => by
  obtain ⟨ob, e, _⟩ := o
  rcases m c hm with z | ⟨_, z⟩
  · exact n z
  · exact z c f.1 ob e (fp_base I f) rfl
/-- both sources draw, and apart -/
theorem zip_ready {A : Around} (I : Inv X pins σ H s) (hh : A.handled = none) (D : ZD q) (hf : ∀ c ∈ q.all, FpOk X pins H c) (st : ZS q a b i s.heap) (ax : a.has X.K H xs) (bx : b.has X.K H ys) :
    ∃ (fa fb : List Addr) (Pa Pb : Nat → Value → Prop) (Sa Sb : Nat → Heap → Prop), Draws X.prog X.w A q.l fa xs.length Pa Sa ∧ Draws X.prog X.w A q.r fb ys.length Pb Sb ∧ Sa i s.heap ∧ Sb i s.heap ∧ ZipSep2 q.z q.ti q.tt q.l q.r fa fb ∧
      (∀ j u, Pa j u → ∃ x, xs[j]? = some x ∧ RelV x u) ∧ (∀ j u, Pb j u → ∃ x, ys[j]? = some x ∧ RelV x u) ∧ (∀ j h, Sa j h → a.tn q.l j h) ∧ ∀ j h, Sb j h → b.tn q.r j h := by
  obtain ⟨g1, g2, g3, g4, g5⟩ := ZA.every hf
  obtain ⟨o1, o2, o3, o4, o5⟩ := ZA.every st.obj
  obtain ⟨fa, Pa, Sa, Da, sa, ma, ea, pa, ta⟩ := Sc.draws (A := A) I hh g4.1 ax st.ha
  obtain ⟨fb, Pb, Sb, Db, sb, mb, eb, pb, tb⟩ := Sc.draws (A := A) I hh g5.1 bx st.hb
  exact ⟨fa, fb, Pa, Pb, Sa, Sb, Da, Db, sa, sb, ⟨D.tiz, D.ttz, D.tit, D.til, ma, zip_far I ea D.zl g1 o1, zip_far I ea D.ttl g3 o3, D.tir, mb, zip_far I eb D.zr g1 o1, zip_far I eb D.ttr g3 o3, zip_far I eb D.lr g4 o4, zip_far I ea D.lr.symm g5 o5⟩, pa, pb, ta, tb⟩
end
theorem zip_walk {P : Program} {w : World} {K : PySem.W.Frag} {elts : List Expr} {kk : Nat} {tpos : Pos} {a b : Sc} {q : ZA} (D : ZD q) : Turn P w K (.Tuple elts kk tpos) (ItZ2 K a b) q.all q.z (ZS q a b) where
  mem := List.mem_cons_self
  obj := fun _ _ st => st.obj
  keep := fun _ _ _ st k => st.keep k
  self := fun _ _ _ _ _ st z => wpAny_pyIter_zip st.hz z
  item := fun X e1 e2 e3 calm i pins s σ H E I hf st g => by
    subst e1 e2 e3
    obtain ⟨xs, ys, x, y, ax, bx, ex, ey⟩ := g
    obtain ⟨x', y', ho⟩ := st.ho
    obtain ⟨fa, fb, Pa, Pb, Sa, Sb, Da, Db, sa, sb, sep, pa, pb, ta, tb⟩ := zip_ready (A := X.A.in1) I (I.ok.hd calm) D hf st ax bx
    have small : ∀ c ∈ q.all, c < s.heap.objs.size := fun c m => by obtain ⟨o, e, _⟩ := st.obj c m; exact Heap.lt_size e
    let N := s.heap.objs.size
    refine wpAny_pyNext_zipD2_item sep Da Db st.hz st.hi ho sa sb (List.getElem?_eq_some_iff.mp ex).1 (List.getElem?_eq_some_iff.mp ey).1 fun u u' h1 tk pu pu' z1 o1 sa1 sb1 t1 z2 keep1 => ?_
    obtain ⟨v, ev, rv⟩ := pa i u pu
    obtain ⟨v', ev', rv'⟩ := pb i u' pu'
    cases ex.symm.trans ev
    cases ey.symm.trans ev'
    refine ⟨.ref N, rfl, wpAny_letOwnedTupleGo_zip (s := { s with heap := h1, toks := tk }) z1 fun h2 w2 only => ?_⟩
    have at2 : ∀ {c o}, c ≠ q.z → h1.get? c = some o → h2.get? c = some o := fun n e => (only.2 _ n).trans e
    have old : ∀ c o, c ∉ q.all → s.heap.get? c = some o → h2.get? c = some o := fun c o n e => by
      obtain ⟨n1, n2, n3, n4, n5⟩ := ZA.none_of n
      exact at2 n1 (by first | exact keep1 c o n1 n2 n4 n5 e | exact keep1 c o n1 n3 n4 n5 e)
    have nz : N ≠ q.z := Nat.ne_of_gt (small _ List.mem_cons_self)
    refine ⟨.ref N, upd H N (.tup [x, y]), I.turnedNew (ch := q.all) old hf (Nat.le_refl _) ⟨by simp [sizeLine_eq], [u, u'], .cons rv (.cons rv' .nil), _, at2 nz t1, rfl, _, rfl⟩, rfl,
      ⟨N, x, y, rfl, I.hok.fresh (Nat.le_refl _), rfl, fun l hl => by rw [Sc.inj I hl ax, ex], fun l hl => by rw [Sc.inj I hl bx, ey]⟩, ⟨w2, ?_, ⟨u, u', at2 D.ttz o1⟩, Sc.keep (ta _ _ sa1) fun o => at2 D.zl.symm, Sc.keep (tb _ _ sb1) fun o => at2 D.zr.symm⟩, fun c m => ?_⟩
    · exact at2 D.tiz (keep1 q.ti _ D.tiz D.tit D.til D.tir st.hi)
    · show upd H N _ c = none
      rw [upd_ne (Nat.ne_of_lt (small c m))]
      exact (hf c m).1
  done := fun X e1 e2 e3 calm i pins s σ H E I hf st g => by
    subst e1 e2 e3
    obtain ⟨xs, ys, ax, bx, l1, l2, fin⟩ := g
    obtain ⟨x', y', ho⟩ := st.ho
    obtain ⟨fa, fb, Pa, Pb, Sa, Sb, Da, Db, sa, sb, sep, _⟩ := zip_ready (A := X.A.in1) I (I.ok.hd calm) D hf st ax bx
    refine wpAny_pyNext_zipD2_end sep Da Db st.hz st.hi ho sa sb l1 l2 (by omega) fun h1 tk keep1 => ⟨rfl, I.turnedL (t' := tk) (ch := q.all) (fun c o n e => ?_) hf⟩
    obtain ⟨n1, n2, n3, n4, n5⟩ := ZA.none_of n
    first | exact keep1 c o n1 n2 n4 n5 e | exact keep1 c o n1 n3 n4 n5 e
/-- how a source begins -/
def Sc.ob (v : Value) : Sc → Obj
  | .lst a => { cls := .type "list_iterator", data := .fields #[.ref a, .int 0 0] }
  | .tup a => { cls := .type "tuple_iterator", data := .fields #[.ref a, .int 0 0] }
  | .txt x => { cls := .type (strIterType x), data := .fields #[v, .int 0 0] }
theorem Sc.begins {X : Cx} {pins : List (Addr × Obj)} {σ : L2.St} {H : Hp} {s : Shared} (I : Inv X pins σ H s) {c : Sc} {xs : List V} {u : Value} (a : c.has X.K H xs) (r : RelV c.v u) :
    ∃ HP : Heap → Prop, Begins u (c.ob u) HP ∧ HP s.heap ∧ ∀ (h : Heap) (it : Addr), h.get? it = some (c.ob u) → c.tn it 0 h := by
  cases c with
  | lst p =>
    have r' : u = .ref p := r
    subst r'
    obtain ⟨its, rv, pl, hz⟩ := I.list a
    exact ⟨_, begins_list p its.toArray, pl.isList, fun h it e => ⟨_, e, rfl, rfl⟩⟩
  | tup p =>
    have r' : u = .ref p := r
    subst r'
    obtain ⟨its, rv, pl, hz⟩ := I.tuple a
    exact ⟨_, begins_tuple p its.toArray, pl, fun h it e => ⟨_, e, rfl, rfl⟩⟩
  | txt x =>
    obtain ⟨t, r'⟩ := r
    subst r'
    exact ⟨_, begins_text x t, trivial, fun h it e => ⟨t, _, e, rfl, rfl⟩⟩
def iZ2 (K : PySem.W.Frag) (ta : TA) : TI := fun σ H R => ta σ H fun vs H1 => ∃ (a b : Sc) (xs ys : List V), vs = [a.v, b.v] ∧ a.has K H1 xs ∧ b.has K H1 ys ∧ R (ItZ2 K a b) H1
theorem pi_zip2 {X : Cx} {e e2 : Expr} {ta : TA} {p pos tpos : Pos} {elts : List Expr} {kk : Nat} (hg : Gl X "zip") (hm : X.mg "zip" = none) (ha : PA X [e, e2] ta)
    (st : starEach [e, e2] X.env = (false, eval e X.env) :: starEach [e2] X.env := by rfl) (nk : (backTo pos (starEach [e2] X.env)).any (·.1) = false := by rfl) :
    PI X (.Tuple elts kk tpos) (.Call (.Name "zip" p) [e, e2] [] pos) (iZ2 X.K ta) := ⟨fun pins s σ H R I h => by
  refine Call_ (ld_blt I hg hm boot_zip (callWith_type1 (thn (ha.run pos pins s σ H _ I h) ?_) st nk))
  rintro us s1 ⟨vs, H1, I1, r1, a, b, xs, ys, rfl, ax, bx, q⟩
  cases r1 with | cons ra rr => cases rr with | cons rb rr =>
  cases rr
  obtain ⟨_, Ba, pa, ta0⟩ := Sc.begins I1 ax ra
  obtain ⟨_, Bb, pb, tb0⟩ := Sc.begins I1 bx rb
  refine zip_begins2 Ba Bb pa pb fun h1 z1 i1 o1 la lb sz keep1 => wpAny_pyIter_zip z1 ?_
  let q5 : ZA := ⟨s1.heap.objs.size + 4, s1.heap.objs.size + 2, s1.heap.objs.size + 3, s1.heap.objs.size, s1.heap.objs.size + 1⟩
  have d : ∀ {i j : Nat}, i ≠ j → s1.heap.objs.size + i ≠ s1.heap.objs.size + j := fun n e => n (by omega)
  have D : ZD q5 := ⟨d (by decide), d (by decide), d (by decide), d (j := 0) (by decide), d (by decide), d (j := 0) (by decide), d (by decide), d (j := 0) (by decide), d (by decide), d (i := 0) (by decide)⟩
  have new : ∀ c ∈ q5.all, s1.heap.objs.size ≤ c := ZA.each (Nat.le_add_right _ _) (Nat.le_add_right _ _) (Nat.le_add_right _ _) (Nat.le_refl _) (Nat.le_add_right _ _)
  exact ⟨q5.z, q5.all, _, _, H1, rfl, I1.kept (t' := s1.toks) keep1, zip_walk (a := a) (b := b) D, ⟨z1, i1, ⟨_, _, o1⟩, ta0 _ _ la, tb0 _ _ lb⟩, fun c m => I1.fpOk (new c m) (I1.hok.fresh (new c m)), q⟩⟩
/-- the items that are walked -/
def T.its : T → Option (List T)
  | .lst ts => some ts
  | .scr ts => some ts
  | .tup ts => some ts
  | .str l => some (l.map fun c => .str [c])
  | _ => none
theorem IsL.signs {K : PySem.W.Frag} {W : Ad} {H : Hp} : ∀ l : List Nat, IsL K W H (l.map fun c => V.str ⟨#[c]⟩) (l.map fun c => .str [c])
  | [] => .nil
  | c :: l => .cons (.str [c]) (IsL.signs l)
theorem Is.src {K : PySem.W.Frag} {W : Ad} {H : Hp} {v : V} {t : T} {ts : List T} (h : Is K W H v t) (e : t.its = some ts) : ∃ (c : Sc) (xs : List V), v = c.v ∧ ∀ W2 H2, Lt W H W2 H2 → c.has K H2 xs ∧ IsL K W2 H2 xs ts := by
  cases h with
  | lst r n l => cases e; exact ⟨.lst _, _, rfl, fun W2 H2 lt => ⟨.of (lt.keep _ _ r n), l.lt lt⟩⟩
  | scr r n l => cases e; exact ⟨.lst _, _, rfl, fun W2 H2 lt => ⟨.inl (.inr ⟨_, lt.keep _ _ r n⟩), l.lt lt⟩⟩
  | scrK r l => cases e; exact ⟨.lst _, _, rfl, fun W2 H2 lt => ⟨.inr r, l.lt lt⟩⟩
  | tup r n l => cases e; exact ⟨.tup _, _, rfl, fun W2 H2 lt => ⟨.of (lt.keep _ _ r n), l.lt lt⟩⟩
  | tupK r l => cases e; exact ⟨.tup _, _, rfl, fun W2 H2 lt => ⟨.inr r, l.lt lt⟩⟩
  | str l => cases e; exact ⟨.txt (S l), _, rfl, fun W2 H2 lt => ⟨rfl, IsL.signs l⟩⟩
  | _ => cases e
def zipT (ts us : List T) : List T := (ts.zip us).map fun p => .tup [p.1, p.2]
def dZip2 (d : Dn (List Hn)) : Di := fun ρ Q => d ρ ⟨fun hs ρ1 => ∃ t u ts us, hs = [.tm t, .tm u] ∧ t.its = some ts ∧ u.its = some us ∧ Q.ok (zipT ts us) ρ1, Q.ex⟩
theorem mn_zip2 {d : Dn (List Hn)} (m : Mn d) : Mn (dZip2 d) := fun ρ Q Q' h k e => m _ _ _ h (fun hs ρ1 ⟨t, u, ts, us, a, b, c, q⟩ => ⟨t, u, ts, us, a, b, c, k _ _ q⟩) e
/-- a new tuple -/
theorem Is.newTup {K : PySem.W.Frag} {W : Ad} {H : Hp} {T : Addr} {xs : List V} {ts : List O.T} (wd : Wd W H) (hn : H T = none) (h : IsL K W H xs ts) : Is K W (upd H T (.tup xs)) (.ref T) (.tup ts) :=
  .tup upd_same (fun z => by obtain ⟨o, e⟩ := wd T z; rw [hn] at e; cases e) (h.fresh hn)
theorem yl_zip2 {K : PySem.W.Frag} {W : Ad} {H : Hp} {a b : Sc} {xs ys : List V} {ts us : List T} (ha : ∀ W2 H2, Lt W H W2 H2 → a.has K H2 xs ∧ IsL K W2 H2 xs ts) (hb : ∀ W2 H2, Lt W H W2 H2 → b.has K H2 ys ∧ IsL K W2 H2 ys us) : Yl K W H (ItZ2 K a b) (zipT ts us) := by
  intro W2 H2 lt wd
  obtain ⟨a1, a2⟩ := ha W2 H2 lt
  obtain ⟨b1, b2⟩ := hb W2 H2 lt
  have hl : (zipT ts us).length = min ts.length us.length := by simp [zipT]
  refine ⟨⟨xs, ys, a1, b1, ?_, ?_, ?_⟩, fun i t e => ?_⟩
  · rw [hl, a2.length]; exact Nat.min_le_left _ _
  · rw [hl, b2.length]; exact Nat.min_le_right _ _
  · rw [hl, a2.length, b2.length]; omega
  · unfold zipT at e
    rw [List.getElem?_map, Option.map_eq_some_iff] at e
    obtain ⟨⟨t1, t2⟩, e, e'⟩ := e
    subst e'
    rw [List.getElem?_zip_eq_some] at e
    obtain ⟨x, ex, ix⟩ := a2.get e.1
    obtain ⟨y, ey, iy⟩ := b2.get e.2
    refine ⟨⟨xs, ys, x, y, a1, b1, ex, ey⟩, fun v H3 ⟨T, x', y', ev, hT, eH, h1, h2⟩ => ?_⟩
    have e1 := h1 xs a1
    have e2 := h2 ys b1
    rw [ex] at e1; cases e1
    rw [ey] at e2; cases e2
    subst ev eH
    exact ⟨kept_upd hT, .newTup wd hT (.cons ix (.cons iy .nil))⟩
section
variable {X : Cx} {Wx : WX} {e e2 tg : Expr} {d : Dn (List Hn)} {de : Dn Rv} {p pos tpos : Pos} {elts : List Expr} {kk : Nat}
theorem xi_zip2 (hg : Gl X "zip") (hm : X.mg "zip" = none) (h : XA X Wx [e, e2] d) (hs : starEach [e, e2] X.env = (false, eval e X.env) :: starEach [e2] X.env := by rfl) (hpl : (backTo pos (starEach [e2] X.env)).any (·.1) = false := by rfl) :
    XI X Wx (.Tuple elts kk tpos) (.Call (.Name "zip" p) [e, e2] [] pos) (dZip2 d) := by
  refine ⟨PI.imp (pi_zip2 hg hm h.pa hs hpl) fun σ H R ⟨W, ρ, rep, q⟩ => ?_, mn_zip2 h.mn⟩
  refine ⟨W, ρ, rep, h.mn _ _ _ q (fun hs ρ1 ⟨t, u, ts, us, e, i1, i2, q⟩ vs W1 H1 rl rep1 st pn => ?_) fun _ _ _ z => z⟩
  subst e
  cases rl with
  | cons r1 rr => cases rr with
    | cons r2 rr =>
      cases rr
      obtain ⟨a, xs, ea, ha⟩ := Is.src r1 i1
      obtain ⟨b, ys, eb, hb⟩ := Is.src r2 i2
      refine ⟨a, b, xs, ys, by rw [ea, eb], (ha _ _ (.refl _ _)).1, (hb _ _ (.refl _ _)).1, q _ W1 H1 rep1 st.noxx pn (yl_zip2 ha hb)⟩
def dSrc (d : Dn Rv) : Di := fun ρ Q => d ρ ⟨fun r ρ1 => ∃ ts, r.2.its = some ts ∧ Q.ok ts ρ1, Q.ex⟩
theorem mn_src {d : Dn Rv} (m : Mn d) : Mn (dSrc d) := fun ρ Q Q' h k e => m _ _ _ h (fun r ρ1 ⟨t, a, q⟩ => ⟨t, a, k _ _ q⟩) e
theorem yl_list {K : PySem.W.Frag} {W : Ad} {H : Hp} {a : Addr} {xs : List V} {ts : List T} (ha : ∀ W2 H2, Lt W H W2 H2 → SqL K H2 a xs ∧ IsL K W2 H2 xs ts) : Yl K W H (Itl K a) ts := by
  intro W2 H2 lt wd
  obtain ⟨a1, a2⟩ := ha W2 H2 lt
  refine ⟨⟨xs, a1, by rw [a2.length]; exact Nat.le_refl _⟩, fun i t e => ?_⟩
  obtain ⟨x, ex, ix⟩ := a2.get e
  refine ⟨⟨xs, x, a1, ex⟩, fun v H3 ⟨eH, h1⟩ => ?_⟩
  have e1 := h1 xs a1
  rw [ex] at e1; cases e1
  subst eH
  exact ⟨fun _ _ z => z, ix⟩
theorem yl_tup {K : PySem.W.Frag} {W : Ad} {H : Hp} {a : Addr} {xs : List V} {ts : List T} (ha : ∀ W2 H2, Lt W H W2 H2 → SqT K H2 a xs ∧ IsL K W2 H2 xs ts) : Yl K W H (Itt K a) ts := by
  intro W2 H2 lt wd
  obtain ⟨a1, a2⟩ := ha W2 H2 lt
  refine ⟨⟨xs, a1, by rw [a2.length]; exact Nat.le_refl _⟩, fun i t e => ?_⟩
  obtain ⟨x, ex, ix⟩ := a2.get e
  refine ⟨⟨xs, x, a1, ex⟩, fun v H3 ⟨eH, h1⟩ => ?_⟩
  have e1 := h1 xs a1
  rw [ex] at e1; cases e1
  subst eH
  exact ⟨fun _ _ z => z, ix⟩
def rangeT (lo : Int) (n : Nat) : List T := (List.range n).map fun i : Nat => T.int (lo + i)
def small62 (i : Int) : Prop := -(2 ^ 62) ≤ i ∧ i < 2 ^ 62
def dRng1 (d : Dn (List Hn)) : Di := fun ρ Q => d ρ ⟨fun hs ρ1 => ∃ j : Int, hs = [.tm (.int j)] ∧ small62 j ∧ Q.ok (rangeT 0 j.toNat) ρ1, Q.ex⟩
def dRng2 (d : Dn (List Hn)) : Di := fun ρ Q => d ρ ⟨fun hs ρ1 => ∃ i j : Int, hs = [.tm (.int i), .tm (.int j)] ∧ small62 i ∧ small62 j ∧ Q.ok (rangeT i (j - i).toNat) ρ1, Q.ex⟩
theorem mn_rng1 {d : Dn (List Hn)} (m : Mn d) : Mn (dRng1 d) := fun ρ Q Q' h k e => m _ _ _ h (fun r ρ1 ⟨t, a, b, q⟩ => ⟨t, a, b, k _ _ q⟩) e
theorem yl_range {K : PySem.W.Frag} {W : Ad} {H : Hp} (lo : Int) (n : Nat) : Yl K W H (Itr lo n) (rangeT lo n) := by
  intro W2 H2 lt wd
  refine ⟨by show n ≤ (rangeT lo n).length; simp [rangeT], fun i t e => ?_⟩
  unfold rangeT at e
  rw [List.getElem?_map, Option.map_eq_some_iff] at e
  obtain ⟨k, e, e'⟩ := e
  have hi := (List.getElem?_eq_some_iff.mp e).1
  rw [List.length_range] at hi
  rw [List.getElem?_range hi] at e
  cases e
  subst e'
  exact ⟨hi, fun v H4 ⟨eH, ev⟩ => by subst eH ev; exact ⟨fun _ _ z => z, .int _⟩⟩
theorem xi_range1 (hg : Gl X "range") (hm : X.mg "range" = none) (h : XA X Wx [e] d) (hs : starEach [e] X.env = [(false, eval e X.env)] := by rfl) : XI X Wx tg (.Call (.Name "range" p) [e] [] pos) (dRng1 d) := by
  refine ⟨PI.imp (pi_range1 hg hm h.pa hs) fun σ H R ⟨W, ρ, rep, q⟩ => ?_, mn_rng1 h.mn⟩
  refine ⟨W, ρ, rep, h.mn _ _ _ q (fun hs ρ1 ⟨j, e, b, q⟩ vs W1 H1 rl rep1 st pn => ?_) fun _ _ _ z => z⟩
  subst e
  cases rl with
  | cons r1 rr =>
    cases rr
    have r1 : Is X.K W1 H1 _ (.int j) := r1
    cases r1
    exact ⟨j, rfl, b.1, b.2, q _ W1 H1 rep1 st.noxx pn (yl_range _ _)⟩
end
end O
namespace O
open PySem PySem.Spec PyProof.Rows L2
section
variable {K : PySem.W.Frag} {W : Ad} {H : Hp} {v : V}
theorem IsR.int {i : Int} (h : IsR K W H v (.int i)) : v = .int i := by
  rcases h with h | ⟨p, e, h⟩
  · cases h; rfl
  · exact h.elim
theorem IsR.str {l : List Nat} (h : IsR K W H v (.str l)) : v = .str (S l) := by
  rcases h with h | ⟨p, e, h⟩
  · cases h; rfl
  · exact h.elim
theorem IsR.bl {b : Bool} (h : IsR K W H v (.bl b)) : v = .bl b := by
  rcases h with h | ⟨p, e, h⟩
  · cases h; rfl
  · exact h.elim
theorem IsR.non (h : IsR K W H v .non) : v = .non := by
  rcases h with h | ⟨p, e, h⟩
  · cases h; rfl
  · exact h.elim
theorem IsR.lst {ts : List T} (h : IsR K W H v (.lst ts)) : ∃ p xs, v = .ref p ∧ H p = some (.lst xs) ∧ IsL K W H xs ts := by
  rcases h with h | ⟨p, e, h⟩
  · cases h with | lst r n l => exact ⟨_, _, rfl, r, l⟩
  · obtain ⟨xs, r, l⟩ := h; exact ⟨p, xs, e, r, l⟩
theorem IsR.scr {ts : List T} (h : IsR K W H v (.scr ts)) : ∃ p xs, v = .ref p ∧ SqL K H p xs ∧ IsL K W H xs ts := by
  rcases h with h | ⟨p, e, h⟩
  · cases h with
    | scr r n l => exact ⟨_, _, rfl, .inl (.inr ⟨_, r⟩), l⟩
    | scrK r l => exact ⟨_, _, rfl, .inr r, l⟩
  · exact h.elim
theorem IsR.tup {ts : List T} (h : IsR K W H v (.tup ts)) : ∃ p xs, v = .ref p ∧ SqT K H p xs ∧ IsL K W H xs ts := by
  rcases h with h | ⟨p, e, h⟩
  · cases h with
    | tup r n l => exact ⟨_, _, rfl, .of r, l⟩
    | tupK r l => exact ⟨_, _, rfl, .inr r, l⟩
  · exact h.elim
theorem Res.int (i : Int) : Res K W H (false, .int i) (.int i) H := .sh (.int i)
theorem Res.bl (b : Bool) : Res K W H (false, .bl b) (.bl b) H := .sh (.bl b)
theorem Res.str (l : List Nat) : Res K W H (false, .str l) (.str (S l)) H := .sh (.str l)
end
def addT : T → T → Ot
  | .int i, .int j => .sh (.int (i + j))
  | .str a, .str b => .when (a.length + b.length ≤ sizeLine) (.str (a ++ b))
  | .lst a, .lst b => .new (a.length + b.length ≤ sizeLine) (.lst (a ++ b))
  | _, _ => .no
def subT : T → T → Ot
  | .int i, .int j => .sh (.int (i - j))
  | _, _ => .no
def mulT : T → T → Ot
  | .int i, .int j => .when (CMul i j ∨ CMulW i j) (.int (i * j))
  | .str a, .int n => .when (-(2 ^ 63) ≤ n ∧ n < 2 ^ 63 ∧ a.length * n.toNat ≤ sizeLine) (.str (List.replicate n.toNat a).flatten)
  | .lst a, .int n => .new (-(2 ^ 63) ≤ n ∧ n < 2 ^ 63 ∧ a.length * n.toNat ≤ sizeLine) (.lst (List.replicate n.toNat a).flatten)
  | _, _ => .no
def fdivT : T → T → Ot
  | .int i, .int j => .when (CDivW i j) (.int (i / j))
  | _, _ => .no
def modT : T → T → Ot
  | .int i, .int j => .when (0 < j) (.int (i % j))
  | _, _ => .no
def powT : T → T → Ot
  | .int i, .int j => .when (CPow i j) (.int (i ^ j.toNat))
  | _, _ => .no
def negT : T → Ot
  | .int i => .sh (.int (-i))
  | _ => .no
section
variable {X : Cx}
theorem OpR.orr {f : Value → Value → Sem Value} {r r' : R2} (h : OpR X f r) (h' : OpR X f r') : OpR X f (fun x y H Q => r x y H Q ∨ r' x y H Q) := OpR.or h h'
def rAdd : R2 := fun x y H Q => (∃ i j, x = .int i ∧ y = .int j ∧ Q (.int (i + j)) H) ∨ (∃ i j, x = .str i ∧ y = .str j ∧ i.length + j.length ≤ sizeLine ∧ Q (.str (i ++ j)) H) ∨ rCat x y H Q
theorem op_addA : OpR X (binaryOp .Add) rAdd := op_add.or (op_add_str.or op_cat)
theorem p_add : Pure2 X.K rAdd addT := by
  intro W H v u a b Q wd ha hb pre k
  unfold addT at pre k
  cases a <;> cases b <;> first | exact pre.elim | skip
  · rw [ha.int, hb.int]; exact .inl ⟨_, _, rfl, rfl, k _ _ (.int _)⟩
  · rw [ha.str, hb.str]
    refine .inr (.inl ⟨_, _, rfl, rfl, by rw [S_len, S_len]; exact pre, ?_⟩)
    rw [S_append]; exact k _ _ (.str _)
  · obtain ⟨p, xs, rfl, r1, l1⟩ := ha.lst
    obtain ⟨q, ys, rfl, r2, l2⟩ := hb.lst
    exact .inr (.inr ⟨p, q, xs, ys, rfl, rfl, r1, r2, by rw [l1.length, l2.length]; exact pre, fun l hl => k _ _ (.newL hl (l1.append l2))⟩)
theorem p_sub : Pure2 X.K (rI0 fun i j => .int (i - j)) subT := by
  intro W H v u a b Q wd ha hb pre k
  unfold subT at pre k
  cases a <;> cases b <;> first | exact pre.elim | skip
  rw [ha.int, hb.int]; exact ⟨_, _, rfl, rfl, k _ _ (.int _)⟩
theorem flat_rep (l : List Nat) : ∀ n : Nat, (List.replicate n l.toArray).foldl (· ++ ·) #[] = (List.replicate n l).flatten.toArray := by
  have h : ∀ (n : Nat) (acc : List Nat), (List.replicate n l.toArray).foldl (· ++ ·) acc.toArray = (acc ++ (List.replicate n l).flatten).toArray := by
    intro n
    induction n with
    | zero => intro acc; simp
    | succ n ih =>
      intro acc
      rw [List.replicate_succ, List.foldl_cons, List.append_toArray, ih, List.replicate_succ, List.flatten_cons, List.append_assoc]
  intro n
  have := h n []
  simpa using this
theorem op_mul_str : OpR X (binaryOp .Mult) (fun x y H Q => ∃ (l : List Nat) (n : Int), x = .str (S l) ∧ y = .int n ∧ (-(2 ^ 63) ≤ n ∧ n < 2 ^ 63 ∧ l.length * n.toNat ≤ sizeLine) ∧ Q (.str (S (List.replicate n.toNat l).flatten)) H) := by
  intro pins s σ H x y v u Q I rx ry h
  obtain ⟨l, n, e1, e2, ⟨h1, h2, h3⟩, q⟩ := h
  subst e1 e2
  obtain ⟨t, rfl⟩ := rx
  obtain ⟨t', rfl⟩ := ry
  have hl : (S l).length = l.length := S_len l
  refine P.mul_str (by rw [decide_eq_false (by omega), decide_eq_false (by omega)]; rfl) (fun a b => ?_) (fun a b => ?_) ?_
  · rw [hl]
    intro c
    have b' : ¬ n = 1 ∧ ¬ l.length = 0 := by
      rw [hl, Bool.or_eq_false_iff] at b
      exact ⟨by simpa using b.1, by simpa using b.2⟩
    have hn : 0 < n := by omega
    have e : (n.toNat : Int) = n := Int.toNat_of_nonneg (by omega)
    have h4 : (l.length : Int) * n ≤ sizeLine := by rw [← e]; exact_mod_cast h3
    have h5 : (sizeLine : Int) ≤ 2 ^ 63 - 1 := by rw [sizeLine_eq]; decide
    have h6 := Int.le_ediv_of_mul_le hn (Int.le_trans h4 h5)
    omega
  · rw [hl]
    show decide (_ > sizeLine) = false
    rw [decide_eq_false_iff_not]; omega
  · have fin : ∀ {m : Str} {t'' : Tok} {tk : Nat}, m = S (List.replicate n.toNat l).flatten → EP X pins σ Q (.str m t'') { s with toks := tk } := fun {m t'' tk} e => ⟨.str _, H, I.tok _, ⟨t'', by rw [e]⟩, q⟩
    by_cases c : n < 1
    · rw [if_pos c]
      have e0 : n.toNat = 0 := by omega
      exact ⟨by decide, fin (by rw [e0]; rfl)⟩
    · rw [if_neg c]
      by_cases c2 : (n == 1 || (S l).length == 0) = true
      · rw [if_pos c2]
        refine fin (tk := s.toks) ?_
        rw [hl, Bool.or_eq_true] at c2
        rcases c2 with c2 | c2
        · have e : n = 1 := by simpa using c2
          subst e; simp
        · have e : l = [] := by simpa using c2
          subst e
          have : (List.replicate n.toNat ([] : List Nat)).flatten = [] := by simp
          rw [this]
      · rw [if_neg c2]
        have e : (⟨(List.replicate n.toNat (S l).cps).foldl (· ++ ·) #[]⟩ : Str) = S (List.replicate n.toNat l).flatten := by
          show (⟨(List.replicate n.toNat l.toArray).foldl (· ++ ·) #[]⟩ : Str) = ⟨_⟩
          rw [flat_rep]
        refine ⟨?_, fin e⟩
        rw [e, S_len, List.length_flatten, List.map_replicate, List.sum_replicate_nat]
        rw [Nat.mul_comm]
        exact h3
def rMulA : R2 := fun x y H Q => (rI CMul (fun i j => .int (i * j)) x y H Q ∨ rI CMulW (fun i j => .int (i * j)) x y H Q) ∨ (∃ (l : List Nat) (n : Int), x = .str (S l) ∧ y = .int n ∧ (-(2 ^ 63) ≤ n ∧ n < 2 ^ 63 ∧ l.length * n.toNat ≤ sizeLine) ∧ Q (.str (S (List.replicate n.toNat l).flatten)) H) ∨ rRep x y H Q
theorem op_mulA : OpR X (binaryOp .Mult) rMulA := (op_mul.or op_mulW).or (op_mul_str.or op_rep)
theorem p_mul : Pure2 X.K rMulA mulT := by
  intro W H v u a b Q wd ha hb pre k
  unfold mulT at pre k
  cases a <;> cases b <;> first | exact pre.elim | skip
  · rw [ha.int, hb.int]; exact .inl (pre.elim (fun z => .inl ⟨_, _, rfl, rfl, z, k _ _ (.int _)⟩) fun z => .inr ⟨_, _, rfl, rfl, z, k _ _ (.int _)⟩)
  · rw [ha.str, hb.int]; exact .inr (.inl ⟨_, _, rfl, rfl, pre, k _ _ (.str _)⟩)
  · obtain ⟨p, xs, rfl, r1, l1⟩ := ha.lst
    rw [hb.int]
    exact .inr (.inr ⟨p, _, xs, rfl, rfl, r1, pre.1, pre.2.1, by rw [l1.length]; exact pre.2.2, fun l hl => k _ _ (.newL hl (l1.rep _))⟩)
theorem p_fdiv : Pure2 X.K (rI CDivW fun i j => .int (i / j)) fdivT := by
  intro W H v u a b Q wd ha hb pre k
  unfold fdivT at pre k
  cases a <;> cases b <;> first | exact pre.elim | skip
  rw [ha.int, hb.int]; exact ⟨_, _, rfl, rfl, pre, k _ _ (.int _)⟩
theorem p_mod : Pure2 X.K (rI (fun _ j => 0 < j) fun i j => .int (i % j)) modT := by
  intro W H v u a b Q wd ha hb pre k
  unfold modT at pre k
  cases a <;> cases b <;> first | exact pre.elim | skip
  rw [ha.int, hb.int]; exact ⟨_, _, rfl, rfl, pre, k _ _ (.int _)⟩
theorem p_pow : Pure2 X.K (rI CPow fun i j => .int (i ^ j.toNat)) powT := by
  intro W H v u a b Q wd ha hb pre k
  unfold powT at pre k
  cases a <;> cases b <;> first | exact pre.elim | skip
  rw [ha.int, hb.int]; exact ⟨_, _, rfl, rfl, pre, k _ _ (.int _)⟩
theorem p_neg : Pure1 X.K (rU fun i => .int (-i)) negT := by
  intro W H v a Q wd ha pre k
  unfold negT at pre k
  cases a <;> first | exact pre.elim | skip
  rw [ha.int]; exact ⟨_, rfl, k _ _ (.int _)⟩
end
end O
namespace O
open PySem PySem.Spec PyProof.Rows L2
mutual
def T.pd : T → Option PyData
  | .non => some .none
  | .bl b => some (.bool b)
  | .int i => some (.int i)
  | .str l => some (.str (S l))
  | .lst ts => (T.pdL ts).map PyData.list
  | .scr ts => (T.pdL ts).map PyData.list
  | .tup ts => (T.pdL ts).map PyData.tuple
  | _ => none
def T.pdL : List T → Option (List PyData)
  | [] => some []
  | t :: ts => match T.pd t, T.pdL ts with
    | some d, some ds => some (d :: ds)
    | _, _ => none
end
section
variable {K : PySem.W.Frag} {W : Ad} {H : Hp}
theorem pdL_cons {t : T} {ts : List T} {ds : List PyData} (e : T.pdL (t :: ts) = some ds) : ∃ d es, ds = d :: es ∧ t.pd = some d ∧ T.pdL ts = some es := by
  unfold T.pdL at e
  cases h : t.pd with
  | none => rw [h] at e; cases e
  | some d =>
    rw [h] at e
    cases h2 : T.pdL ts with
    | none => rw [h2] at e; cases e
    | some es => rw [h2] at e; cases e; exact ⟨d, es, rfl, rfl, rfl⟩
theorem map_some {α β : Type} {f : α → β} {o : Option α} {b : β} (h : o.map f = some b) : ∃ a, o = some a ∧ f a = b := Option.map_eq_some_iff.mp h
mutual
theorem Is.dp : ∀ {v : V} {t : T} {d : PyData}, Is K W H v t → t.pd = some d → Dp K H v d
  | _, _, _, .non, e => by cases e; exact .non
  | _, _, _, .bl b, e => by cases e; exact .bl b
  | _, _, _, .int i, e => by cases e; exact .int i
  | _, _, _, .str l, e => by cases e; exact .str _
  | _, _, _, .ty n, e => by cases e
  | _, _, _, .fn a, e => by cases e
  | _, _, _, .lst r n l, e => by obtain ⟨ds, e1, e2⟩ := map_some e; subst e2; exact .lst (.of r) (IsL.dp l e1)
  | _, _, _, .scr r n l, e => by obtain ⟨ds, e1, e2⟩ := map_some e; subst e2; exact .lst (.inl (.inr ⟨_, r⟩)) (IsL.dp l e1)
  | _, _, _, .scrK r l, e => by obtain ⟨ds, e1, e2⟩ := map_some e; subst e2; exact .lst (.inr r) (IsL.dp l e1)
  | _, _, _, .tup r n l, e => by obtain ⟨ds, e1, e2⟩ := map_some e; subst e2; exact .tup (.of r) (IsL.dp l e1)
  | _, _, _, .tupK r l, e => by obtain ⟨ds, e1, e2⟩ := map_some e; subst e2; exact .tup (.inr r) (IsL.dp l e1)
  | _, _, _, .dK r n l, e => by cases e
  | _, _, _, .dT r n l, e => by cases e
  | _, _, _, .ins _ r n l, e => by cases e
theorem IsL.dp : ∀ {vs : List V} {ts : List T} {ds : List PyData}, IsL K W H vs ts → T.pdL ts = some ds → DpAll K H vs ds
  | _, _, _, .nil, e => by cases e; exact .nil
  | _, _, _, .cons a b, e => by obtain ⟨d, es, e1, e2, e3⟩ := pdL_cons e; subst e1; exact .cons (Is.dp a e2) (IsL.dp b e3)
end
theorem IsR.dp {v : V} {t : T} {d : PyData} (h : IsR K W H v t) (e : t.pd = some d) : Dp K H v d := by
  rcases h with h | ⟨p, e1, h⟩
  · exact h.dp e
  · subst e1
    cases t with
    | lst ts => obtain ⟨xs, r, l⟩ := h; obtain ⟨ds, e1, e2⟩ := map_some e; subst e2; exact .lst (.of r) (IsL.dp l e1)
    | _ => first | exact h.elim | cases e
end
def eqvO : Option PyData → Option PyData → Bool
  | some d, some e => PyData.eqv d e
  | _, _ => false
def okD (a : T) : Prop := ∃ d, a.pd = some d ∧ SeqAt.shaped d = true
def eqT (n : Bool) : T → T → Ot
  | .int i, .int j => .sh (.bl (n != decide (i = j)))
  | .str a, .str b => .sh (.bl (n != decide (a = b)))
  | .bl a, .bl b => .sh (.bl (n != decide (a = b)))
  | .non, .non => .sh (.bl (n != true))
  | .non, .int _ => .sh (.bl n)
  | .int _, .non => .sh (.bl n)
  | .non, .str _ => .sh (.bl n)
  | .str _, .non => .sh (.bl n)
  | a, b => ⟨okD a ∧ okD b, (false, .bl (n != eqvO a.pd b.pd))⟩
def rEqA (K : PySem.W.Frag) : R2 := fun x y H Q => rEq x y H Q ∨ rEqD K x y H Q
def rNeA (K : PySem.W.Frag) : R2 := fun x y H Q => rNe x y H Q ∨ rNeD K x y H Q
section
variable {X : Cx}
theorem op_eqA (hu : X.A.units + 64 < cLine) : OpR X (compareOp .Eq) (rEqA X.K) := op_eq.or (op_eqD hu)
theorem op_neA (hu : X.A.units + 64 < cLine) : OpR X (compareOp .NotEq) (rNeA X.K) := op_ne.or (op_neD hu)
theorem dec_str {a b : List Nat} : decide (V.str (S a) = V.str (S b)) = decide (a = b) := by
  by_cases h : a = b
  · subst h; simp
  · rw [decide_eq_false h, decide_eq_false fun z => h (S_inj (V.str.inj z))]
theorem dec_int {a b : Int} : decide (V.int a = V.int b) = decide (a = b) := by
  by_cases h : a = b
  · subst h; simp
  · rw [decide_eq_false h, decide_eq_false fun z => h (V.int.inj z)]
theorem dec_bl {a b : Bool} : decide (V.bl a = V.bl b) = decide (a = b) := by
  by_cases h : a = b
  · subst h; simp
  · rw [decide_eq_false h, decide_eq_false fun z => h (V.bl.inj z)]
theorem p_eq : Pure2 X.K (rEqA X.K) (eqT false) := by
  intro W H v u a b Q wd ha hb pre k
  have deep : okD a → okD b → (∀ v' H', Res X.K W H (false, .bl (false != eqvO a.pd b.pd)) v' H' → Q v' H') → rEqA X.K v u H Q := fun ⟨d, e1, s1⟩ ⟨e, e2, s2⟩ k => by
    refine .inr ⟨d, e, ha.dp e1, hb.dp e2, s1, s2, ?_⟩
    have := k _ _ (.bl _)
    rw [e1, e2, Bool.false_bne] at this
    exact this
  revert pre k
  unfold eqT
  split <;> intro pre k
  · rw [ha.int, hb.int]; exact .inl ⟨rfl, by rw [dec_int]; have := k _ _ (.bl _); rwa [Bool.false_bne] at this⟩
  · rw [ha.str, hb.str]; exact .inl ⟨rfl, by rw [dec_str]; have := k _ _ (.bl _); rwa [Bool.false_bne] at this⟩
  · rw [ha.bl, hb.bl]; exact .inl ⟨rfl, by rw [dec_bl]; have := k _ _ (.bl _); rwa [Bool.false_bne] at this⟩
  · rw [ha.non, hb.non]; exact .inl ⟨rfl, k _ _ (.bl _)⟩
  · rw [ha.non, hb.int]; exact .inl ⟨rfl, k _ _ (.bl _)⟩
  · rw [ha.int, hb.non]; exact .inl ⟨rfl, k _ _ (.bl _)⟩
  · rw [ha.non, hb.str]; exact .inl ⟨rfl, k _ _ (.bl _)⟩
  · rw [ha.str, hb.non]; exact .inl ⟨rfl, k _ _ (.bl _)⟩
  · exact deep pre.1 pre.2 k
theorem p_ne : Pure2 X.K (rNeA X.K) (eqT true) := by
  intro W H v u a b Q wd ha hb pre k
  have deep : okD a → okD b → (∀ v' H', Res X.K W H (false, .bl (true != eqvO a.pd b.pd)) v' H' → Q v' H') → rNeA X.K v u H Q := fun ⟨d, e1, s1⟩ ⟨e, e2, s2⟩ k => by
    refine .inr ⟨d, e, ha.dp e1, hb.dp e2, s1, s2, ?_⟩
    have := k _ _ (.bl _)
    rw [e1, e2, Bool.true_bne] at this
    exact this
  revert pre k
  unfold eqT
  split <;> intro pre k
  · rw [ha.int, hb.int]; exact .inl ⟨rfl, by rw [dec_int]; have := k _ _ (.bl _); rwa [Bool.true_bne] at this⟩
  · rw [ha.str, hb.str]; exact .inl ⟨rfl, by rw [dec_str]; have := k _ _ (.bl _); rwa [Bool.true_bne] at this⟩
  · rw [ha.bl, hb.bl]; exact .inl ⟨rfl, by rw [dec_bl]; have := k _ _ (.bl _); rwa [Bool.true_bne] at this⟩
  · rw [ha.non, hb.non]; exact .inl ⟨rfl, k _ _ (.bl _)⟩
  · rw [ha.non, hb.int]; exact .inl ⟨rfl, k _ _ (.bl _)⟩
  · rw [ha.int, hb.non]; exact .inl ⟨rfl, k _ _ (.bl _)⟩
  · rw [ha.non, hb.str]; exact .inl ⟨rfl, k _ _ (.bl _)⟩
  · rw [ha.str, hb.non]; exact .inl ⟨rfl, k _ _ (.bl _)⟩
  · exact deep pre.1 pre.2 k
end
def ordT (p : Int → Int → Bool) (q : List Nat → List Nat → Bool) : T → T → Ot
  | .int i, .int j => .sh (.bl (p i j))
  | .str a, .str b => .sh (.bl (q a b))
  | _, _ => .no
def ltT : T → T → Ot := ordT (fun i j => decide (i < j)) fun a b => decide (a < b)
def leT : T → T → Ot := ordT (fun i j => decide (i ≤ j)) fun a b => !decide (b < a)
def gtT : T → T → Ot := ordT (fun i j => decide (j < i)) fun a b => decide (b < a)
def geT : T → T → Ot := ordT (fun i j => decide (j ≤ i)) fun a b => !decide (a < b)
def rOrd (p : Int → Int → Bool) (q : List Nat → List Nat → Bool) : R2 := fun x y H Q => rI0 (fun i j => .bl (p i j)) x y H Q ∨ ∃ i j, x = .str i ∧ y = .str j ∧ Q (.bl (q i.cps.toList j.cps.toList)) H
section
variable {X : Cx}
theorem op_ltA : OpR X (compareOp .Lt) (rOrd (fun i j => decide (i < j)) fun a b => decide (a < b)) := op_lt.or op_lt_str
theorem op_leA : OpR X (compareOp .LtE) (rOrd (fun i j => decide (i ≤ j)) fun a b => !decide (b < a)) := op_le.or op_le_str
theorem op_geA : OpR X (compareOp .GtE) (rOrd (fun i j => decide (j ≤ i)) fun a b => !decide (a < b)) := op_ge.or op_ge_str
theorem p_ord (p : Int → Int → Bool) (q : List Nat → List Nat → Bool) : Pure2 X.K (rOrd p q) (ordT p q) := by
  intro W H v u a b Q wd ha hb pre k
  unfold ordT at pre k
  cases a <;> cases b <;> first | exact pre.elim | skip
  · rw [ha.int, hb.int]; exact .inl ⟨_, _, rfl, rfl, k _ _ (.bl _)⟩
  · rw [ha.str, hb.str]; exact .inr ⟨_, _, rfl, rfl, k _ _ (.bl _)⟩
theorem p_lt : Pure2 X.K (rOrd (fun i j => decide (i < j)) fun a b => decide (a < b)) ltT := p_ord _ _
theorem p_le : Pure2 X.K (rOrd (fun i j => decide (i ≤ j)) fun a b => !decide (b < a)) leT := p_ord _ _
theorem p_ge : Pure2 X.K (rOrd (fun i j => decide (j ≤ i)) fun a b => !decide (a < b)) geT := p_ord _ _
end
def T.isNon : T → Bool
  | .non => true
  | _ => false
def isT (n : Bool) : T → T → Ot
  | .bl a, .bl b => .sh (.bl (n != decide (a = b)))
  | a, .non => .sh (.bl (n != a.isNon))
  | _, _ => .no
theorem isNon_V {K : PySem.W.Frag} {W : Ad} {H : Hp} {v : V} {t : T} (h : IsR K W H v t) : decide (v = .non) = t.isNon := by
  rcases h with h | ⟨p, e, h⟩
  · cases h <;> first | rfl | exact decide_eq_false (by intro z; cases z)
  · subst e
    cases t with
    | non => exact h.elim
    | _ => exact decide_eq_false (by intro z; cases z)
section
variable {X : Cx}
theorem op_isA : OpR X (compareOp .Is) (fun x y H Q => (y = .non ∧ Q (.bl (decide (x = .non))) H) ∨ rIsB x y H Q) := op_isN.or op_isBl
theorem p_is : Pure2 X.K (fun x y H Q => (y = .non ∧ Q (.bl (decide (x = .non))) H) ∨ rIsB x y H Q) (isT false) := by
  intro W H v u a b Q wd ha hb pre k
  revert pre k
  unfold isT
  split <;> intro pre k
  · rw [ha.bl, hb.bl]; exact .inr ⟨_, _, rfl, rfl, by have := k _ _ (.bl _); rwa [Bool.false_bne] at this⟩
  · rw [hb.non]; exact .inl ⟨rfl, by rw [isNon_V ha]; have := k _ _ (.bl _); rwa [Bool.false_bne] at this⟩
  · exact pre.elim
end
def T.anyEq (ts : List T) (a : T) : Bool := match T.pdL ts, a.pd with
  | some ds, some d => ds.any fun z => PyData.eqv z d
  | _, _ => false
def inT (n : Bool) : T → T → Ot
  | .str [c], .str z => .sh (.bl (n != decide (c ∈ z)))
  | a, .lst ts => ⟨okD a ∧ okD (.lst ts), (false, .bl (n != T.anyEq ts a))⟩
  | a, .scr ts => ⟨okD a ∧ okD (.scr ts), (false, .bl (n != T.anyEq ts a))⟩
  | _, _ => .no
def rInA (K : PySem.W.Frag) : R2 := fun x y H Q => (∃ (c : Nat) (z : Str), x = .str ⟨#[c]⟩ ∧ y = .str z ∧ Q (.bl (decide (c ∈ z.cps.toList))) H) ∨ rInD K x y H Q
section
variable {X : Cx}
theorem op_inA (hu : X.A.units + 65 < cLine) : OpR X (compareOp .In) (rInA X.K) := op_in_sign.or (op_inD hu)
theorem anyEq_is {a : T} {ts : List T} {d : PyData} {ds : List PyData} (e1 : a.pd = some d) (e2 : T.pdL ts = some ds) : T.anyEq ts a = ds.any fun z => PyData.eqv z d := by unfold T.anyEq; rw [e1, e2]
theorem p_in : Pure2 X.K (rInA X.K) (inT false) := by
  intro W H v u a b Q wd ha hb pre k
  revert pre k
  unfold inT
  split <;> intro pre k
  · rw [ha.str, hb.str]; exact .inl ⟨_, _, rfl, rfl, by have := k _ _ (.bl _); rwa [Bool.false_bne] at this⟩
  · obtain ⟨⟨d, e1, s1⟩, ⟨e, e2, s2⟩⟩ := pre
    obtain ⟨ds, e3, e4⟩ := map_some e2
    subst e4
    have := k _ _ (.bl _)
    rw [Bool.false_bne, anyEq_is e1 e3] at this
    exact .inr ⟨d, ds, ha.dp e1, hb.dp e2, s1, s2, this⟩
  · obtain ⟨⟨d, e1, s1⟩, ⟨e, e2, s2⟩⟩ := pre
    obtain ⟨ds, e3, e4⟩ := map_some e2
    subst e4
    have := k _ _ (.bl _)
    rw [Bool.false_bne, anyEq_is e1 e3] at this
    exact .inr ⟨d, ds, ha.dp e1, hb.dp e2, s1, s2, this⟩
  · exact pre.elim
end
def ixT : T → T → Ot
  | .lst ts, .int i => ⟨(atI ts i).isSome = true, (false, (atI ts i).getD .non)⟩
  | .scr ts, .int i => ⟨(atI ts i).isSome = true, (false, (atI ts i).getD .non)⟩
  | .tup ts, .int i => ⟨(atI ts i).isSome = true, (false, (atI ts i).getD .non)⟩
  | .str l, .int i => ⟨l.length ≤ sizeLine ∧ (atI l i).isSome = true, (false, .str [(atI l i).getD 0])⟩
  | _, _ => .no
theorem IsL.atI {K : PySem.W.Frag} {W : Ad} {H : Hp} {xs : List V} {ts : List T} {i : Int} {t : T} (h : IsL K W H xs ts) (e : L2.atI ts i = some t) : ∃ v, L2.atI xs i = some v ∧ Is K W H v t := by
  unfold L2.atI at e ⊢
  rw [h.length]
  cases q : ixN ts.length i with
  | none => rw [q] at e; cases e
  | some j => rw [q] at e; exact h.get e
section
variable {X : Cx}
theorem p_ix : Pure2 X.K (rIx X.K) ixT := by
  intro W H v u a b Q wd ha hb pre k
  unfold ixT at pre k
  cases a <;> cases b <;> first | exact pre.elim | skip
  · rw [ha.str, hb.int]
    obtain ⟨h1, h2⟩ := pre
    obtain ⟨c, e⟩ := Option.isSome_iff_exists.mp h2
    have := k _ _ (.str _)
    rw [e] at this
    exact .inr (.inr ⟨_, _, c, rfl, rfl, by rw [S_len]; exact h1, e, this⟩)
  · obtain ⟨p, xs, rfl, r, l⟩ := ha.lst
    rw [hb.int]
    obtain ⟨t, e⟩ := Option.isSome_iff_exists.mp pre
    obtain ⟨x, e1, i1⟩ := l.atI e
    dsimp only at k
    rw [e] at k
    exact .inl ⟨p, xs, _, x, rfl, rfl, .of r, e1, k _ _ (.sh i1)⟩
  · obtain ⟨p, xs, rfl, r, l⟩ := ha.tup
    rw [hb.int]
    obtain ⟨t, e⟩ := Option.isSome_iff_exists.mp pre
    obtain ⟨x, e1, i1⟩ := l.atI e
    dsimp only at k
    rw [e] at k
    exact .inr (.inl ⟨p, xs, _, x, rfl, rfl, r, e1, k _ _ (.sh i1)⟩)
  · obtain ⟨p, xs, rfl, r, l⟩ := ha.scr
    rw [hb.int]
    obtain ⟨t, e⟩ := Option.isSome_iff_exists.mp pre
    obtain ⟨x, e1, i1⟩ := l.atI e
    dsimp only at k
    rw [e] at k
    exact .inl ⟨p, xs, _, x, rfl, rfl, r, e1, k _ _ (.sh i1)⟩
end
def cutL {α : Type} (xs : List α) (lo hi : Option Int) : List α := (xs.drop (HT.sIx xs.length 0 lo)).take (HT.sIx xs.length xs.length hi - HT.sIx xs.length 0 lo)
def slT : T → Option Int → Option Int → Ot
  | .lst ts, lo, hi => .new True (.lst (cutL ts lo hi))
  | .scr ts, lo, hi => .new True (.lst (cutL ts lo hi))
  | .tup ts, lo, hi => .sh (.tup (cutL ts lo hi))
  | .str l, lo, hi => .when (l.length ≤ sizeLine) (.str (cutL l lo hi))
  | _, _, _ => .no
theorem IsL.cut {K : PySem.W.Frag} {W : Ad} {H : Hp} {xs : List V} {ts : List T} {lo hi : Option Int} (h : IsL K W H xs ts) : IsL K W H (cutV xs lo hi) (cutL ts lo hi) := by
  unfold cutV cutL
  rw [h.length]
  exact (h.drop _).take _
def rSlx (K : PySem.W.Frag) : V → Option Int → Option Int → Hp → VK → Prop := fun x lo hi H Q => rSlL K x lo hi H Q ∨ rSlA K x lo hi H Q ∨ rSlS x lo hi H Q
/-- a slice's part -/
structure XP (X : Cx) (Wx : WX) (e : Option Expr) (d : Dn (Option Int)) : Prop where
  po : PO X e (RD X.K (fun _ _ _ _ (b c : Option Int) => b = c) nox Wx d)
  mn : Mn d
theorem PO.imp {X : Cx} {e : Option Expr} {t t' : TO} (h : PO X e t) (i : ∀ σ H Q, t' σ H Q → t σ H Q) : PO X e t' := ⟨fun pins s σ H Q I q => h.run pins s σ H Q I (i σ H Q q)⟩
def dNoP : Dn (Option Int) := fun ρ Q => Q.ok none ρ
def dPrt (d : Dn Rv) : Dn (Option Int) := fun ρ Q => d ρ ⟨fun r ρ1 => ∃ i, r = (false, .int i) ∧ Q.ok (some i) ρ1, Q.ex⟩
theorem mn_noP : Mn dNoP := fun ρ Q Q' h k _ => k _ _ h
theorem mn_prt {d : Dn Rv} (m : Mn d) : Mn (dPrt d) := fun ρ Q Q' h k e => m _ _ _ h (fun r ρ1 ⟨i, a, q⟩ => ⟨i, a, k _ _ q⟩) e
def dSl (f : T → Option Int → Option Int → Ot) (a : Dn Hn) (lo hi : Dn (Option Int)) : Dn Rv := fun ρ Q => a ρ ⟨fun h ρ1 => lo ρ1 ⟨fun l ρ2 => hi ρ2 ⟨fun u ρ3 => ∃ t, h.is ρ3 t ∧ (f t l u).pre ∧ Q.ok (f t l u).val ρ3, Q.ex⟩, Q.ex⟩, Q.ex⟩
theorem mn_sl {f : T → Option Int → Option Int → Ot} {a : Dn Hn} {lo hi : Dn (Option Int)} (ma : Mn a) (ml : Mn lo) (mh : Mn hi) : Mn (dSl f a lo hi) := fun ρ Q Q' h k e =>
  ma _ _ _ h (fun h1 ρ1 h => ml _ _ _ h (fun l ρ2 h => mh _ _ _ h (fun u ρ3 ⟨t, i, p, q⟩ => ⟨t, i, p, k _ _ q⟩) e) e) e
section
variable {X : Cx} {Wx : WX} {e : Expr} {lo hi : Option Expr} {da : Dn Hn} {dl dh : Dn (Option Int)} {de : Dn Rv} {pos p2 : Pos}
theorem sl_any : SlR X (rSlx X.K) := sl_list.or (sl_tupA.or sl_str)
theorem xp_none : XP X Wx none dNoP := ⟨PO.imp po_none fun σ H Q ⟨W, ρ, rep, q⟩ => q none W H rfl rep (Step.refl _ _ _).toNox (Pn.refl _), mn_noP⟩
theorem xp_some (h : XE X Wx e de) : XP X Wx (some e) (dPrt de) := by
  refine ⟨PO.imp (po_some h.pe) fun σ H Q ⟨W, ρ, rep, q⟩ => ?_, mn_prt h.mn⟩
  refine rd_first h.mn rep q fun r ρ1 ⟨i, e1, q⟩ v W1 H1 rl rep1 st pn => ?_
  subst e1
  rw [xr_sh] at st
  unfold relE at rl
  rw [if_neg (fun z : false = true => Bool.noConfusion z)] at rl
  cases rl
  exact ⟨i, rfl, q (some i) W1 H1 rfl rep1 st.toNox pn⟩
theorem p_sl {W : Ad} {H : Hp} {v : V} {t : T} {l u : Option Int} {Q : VK} (wd : Wd W H) (ha : IsR X.K W H v t) (pre : (slT t l u).pre) (k : ∀ v' H', Res X.K W H (slT t l u).val v' H' → Q v' H') : rSlx X.K v l u H Q := by
  unfold slT at pre k
  cases t <;> first | exact pre.elim | skip
  · rw [ha.str]
    refine .inr (.inr ⟨_, rfl, by rw [S_len]; exact pre, ?_⟩)
    have := k _ _ (.str _)
    unfold cutL at this
    unfold cutS
    rw [S_len]
    exact this
  · obtain ⟨p, xs, rfl, r, il⟩ := ha.lst
    exact .inl ⟨p, xs, rfl, .of r, fun q hq => k _ _ (.newL hq il.cut)⟩
  · obtain ⟨p, xs, rfl, r, il⟩ := ha.tup
    refine .inr (.inl ⟨p, xs, rfl, r, fun w => k _ _ (.sh ?_), fun w q hq => k _ _ (.newT wd hq il.cut)⟩)
    rename_i ts
    have e : cutL ts l u = ts := by
      unfold cutL
      rw [← il.length, w.1, w.2, il.length, List.drop_zero, Nat.sub_zero, List.take_length]
    rw [e]
    rcases ha with ha | ⟨_, _, ha⟩
    · exact ha
    · exact ha.elim
  · obtain ⟨p, xs, rfl, r, il⟩ := ha.scr
    exact .inl ⟨p, xs, rfl, r, fun q hq => k _ _ (.newL hq il.cut)⟩
theorem xe_sl (ha : XO X Wx e da) (hl : XP X Wx lo dl) (hh : XP X Wx hi dh) : XE X Wx (.Subscript e (.Slice lo hi none p2) pos) (dSl slT da dl dh) := by
  refine ⟨PE.imp (pe_slice sl_any ha.pe hl.po hh.po) fun σ H Q ⟨W, ρ, rep, q⟩ => ?_, mn_sl ha.mn hl.mn hh.mn⟩
  refine rd_first ha.mn rep q fun h ρ1 q v W1 H1 r1 rep1 st1 pn1 => ?_
  refine rd_next hl.mn rep st1.noxx pn1 rep1 q fun l ρ2 q l' W2 H2 r2 rep2 st12 st2 pn2 => ?_
  have r2 : l' = l := r2
  subst r2
  have ra := relO_step (ρ2 := ρ2) r1 rep1 st12
  refine rd_next hh.mn rep st2.noxx pn2 rep2 q fun u ρ3 ⟨t, i, pre, q⟩ u' W3 H3 r3 rep3 st23 st3 pn3 => ?_
  have r3 : u' = u := r3
  subst r3
  have rb := relO_step (ρ2 := ρ3) ra rep2 st23
  refine p_sl rep3.wd (isR_of rep3 rb i) pre fun v' H' rs => ?_
  obtain ⟨W', rl, rep', st'⟩ := rs.post rep3
  exact q v' W' H' rl rep' (st3.noxx.trans rep.wd st') pn3
end
end O
namespace O
open PySem PySem.Spec PyProof.Rows L2
def dLst (d : Dn (List Hn)) : Dn Rv := fun ρ Q => d ρ ⟨fun hs ρ1 => ∃ ts, tms hs = some ts ∧ ts.length ≤ sizeLine ∧ Q.ok (true, .lst ts) ρ1, Q.ex⟩
def dTup (d : Dn (List Hn)) : Dn Rv := fun ρ Q => d ρ ⟨fun hs ρ1 => ∃ ts, tms hs = some ts ∧ ts.length ≤ sizeLine ∧ Q.ok (false, .tup ts) ρ1, Q.ex⟩
theorem mn_lst {d : Dn (List Hn)} (m : Mn d) : Mn (dLst d) := fun ρ Q Q' h k e => m _ _ _ h (fun hs ρ1 ⟨ts, a, b, q⟩ => ⟨ts, a, b, k _ _ q⟩) e
theorem mn_tup {d : Dn (List Hn)} (m : Mn d) : Mn (dTup d) := fun ρ Q Q' h k e => m _ _ _ h (fun hs ρ1 ⟨ts, a, b, q⟩ => ⟨ts, a, b, k _ _ q⟩) e
section
variable {X : Cx} {Wx : WX} {e : Expr} {es : List Expr} {ds : Dn (List Hn)} {pos : Pos} {k : Nat}
theorem xe_lst (ha : XA X Wx es ds) : XE X Wx (.List es pos) (dLst ds) := by
  refine ⟨PE.imp (pe_lst ha.pa) fun σ H Q ⟨W, ρ, rep, q⟩ => ?_, mn_lst ha.mn⟩
  refine rd_first ha.mn rep q fun hs ρ1 ⟨ts, e, z, q⟩ vs W1 H1 rl rep1 st pn => ?_
  have e := tms_map e
  subst e
  have il := relOs_tm rl
  refine ⟨by rw [il.length]; exact z, fun p hp => ?_⟩
  obtain ⟨W', rl', rep', st'⟩ := Res.post rep1 (.newL hp il)
  exact q _ W' _ rl' rep' (st.noxx.trans rep.wd st') pn
theorem xe_tup (ha : XA X Wx es ds) : XE X Wx (.Tuple es k pos) (dTup ds) := by
  refine ⟨PE.imp (pe_tup ha.pa) fun σ H Q ⟨W, ρ, rep, q⟩ => ?_, mn_tup ha.mn⟩
  refine rd_first ha.mn rep q fun hs ρ1 ⟨ts, e, z, q⟩ vs W1 H1 rl rep1 st pn => ?_
  have e := tms_map e
  subst e
  have il := relOs_tm rl
  refine ⟨by rw [il.length]; exact z, fun p hp => ?_⟩
  obtain ⟨W', rl', rep', st'⟩ := Res.post rep1 (.newT rep1.wd hp il)
  exact q _ W' _ rl' rep' (st.noxx.trans rep.wd st') pn
end
def f1 (g : T → Ot) : List T → Ot
  | [a] => g a
  | _ => .no
def f2 (g : T → T → Ot) : List T → Ot
  | [a, b] => g a b
  | _ => .no
def f3 (g : T → T → T → Ot) : List T → Ot
  | [a, b, c] => g a b c
  | _ => .no
def PureC1 (K : PySem.W.Frag) (r : List V → Hp → VK → Prop) (g : T → Ot) : Prop := ∀ W H v a (Q : VK), Wd W H → IsR K W H v a → (g a).pre → (∀ v' H', Res K W H (g a).val v' H' → Q v' H') → r [v] H Q
def PureC2 (K : PySem.W.Frag) (r : List V → Hp → VK → Prop) (g : T → T → Ot) : Prop := ∀ W H v u a b (Q : VK), Wd W H → IsR K W H v a → IsR K W H u b → (g a b).pre → (∀ v' H', Res K W H (g a b).val v' H' → Q v' H') → r [v, u] H Q
theorem PureC1.n {K : PySem.W.Frag} {r : List V → Hp → VK → Prop} {g : T → Ot} (h : PureC1 K r g) : PureN K r (f1 g) := by
  intro W H vs as Q wd p pre k
  match as, p, pre, k with
  | [], _, pre, _ => exact pre.elim
  | [a], .cons x .nil, pre, k => exact h W H _ a Q wd x pre k
  | _ :: _ :: _, _, pre, _ => exact pre.elim
theorem PureC2.n {K : PySem.W.Frag} {r : List V → Hp → VK → Prop} {g : T → T → Ot} (h : PureC2 K r g) : PureN K r (f2 g) := by
  intro W H vs as Q wd p pre k
  match as, p, pre, k with
  | [], _, pre, _ => exact pre.elim
  | [a], _, pre, k => exact pre.elim
  | [a, b], .cons x (.cons y .nil), pre, k => exact h W H _ _ a b Q wd x y pre k
  | _ :: _ :: _ :: _, _, pre, _ => exact pre.elim
theorem CallR.orr {X : Cx} {f : Value} {r r' : List V → Hp → VK → Prop} (h : CallR X f r) (h' : CallR X f r') : CallR X f (fun xs H Q => r xs H Q ∨ r' xs H Q) := by
  intro pins s σ H xs us Q I rs q
  rcases q with q | q
  · exact h pins s σ H xs us Q I rs q
  · exact h' pins s σ H xs us Q I rs q
def lenT : T → Ot
  | .str l => .when (l.length ≤ sizeLine) (.int l.length)
  | .lst ts => .sh (.int ts.length)
  | .scr ts => .sh (.int ts.length)
  | .tup ts => .sh (.int ts.length)
  | .dK ts => .sh (.int ts.length)
  | _ => .no
theorem IsP.length {K : PySem.W.Frag} {W : Ad} {H : Hp} {κ : Type} : ∀ {xs : List (κ × V)} {ts : List (κ × T)}, IsP K W H κ xs ts → xs.length = ts.length
  | _, _, .nil => rfl
  | _, _, .cons _ b => by rw [List.length_cons, List.length_cons, IsP.length b]
theorem IsR.dK {K : PySem.W.Frag} {W : Ad} {H : Hp} {v : V} {ts : List (Key × T)} (h : IsR K W H v (.dK ts)) : ∃ p xs, v = .ref p ∧ H p = some (.dK xs) ∧ IsP K W H Key xs ts := by
  rcases h with h | ⟨p, e, h⟩
  · cases h with | dK r n l => exact ⟨_, _, rfl, r, l⟩
  · obtain ⟨xs, r, l⟩ := h; exact ⟨p, xs, e, r, l⟩
def rLenA (K : PySem.W.Frag) : List V → Hp → VK → Prop := fun xs H Q => (∃ x n, xs = [x] ∧ LenV K x H n ∧ Q (.int n) H) ∨ ∃ a kvs, xs = [V.ref a] ∧ H a = some (.dK kvs) ∧ Q (.int kvs.length) H
section
variable {X : Cx}
theorem call_lenA : CallR X (.builtin "len") (rLenA X.K) := CallR.orr call_len call_lenD
theorem p_len : PureN X.K (rLenA X.K) (f1 lenT) := PureC1.n fun W H v a Q wd ha pre k => by
  unfold lenT at pre k
  cases a <;> first | exact pre.elim | skip
  · rw [ha.str]; exact .inl ⟨_, _, rfl, ⟨by rw [S_len]; exact pre, rfl⟩, by rw [S_len]; exact k _ _ (.int _)⟩
  · obtain ⟨p, xs, rfl, r, l⟩ := ha.lst; exact .inl ⟨_, _, rfl, .inl ⟨xs, .of r, rfl⟩, by rw [l.length]; exact k _ _ (.int _)⟩
  · obtain ⟨p, xs, rfl, r, l⟩ := ha.tup; exact .inl ⟨_, _, rfl, .inr ⟨xs, r, rfl⟩, by rw [l.length]; exact k _ _ (.int _)⟩
  · obtain ⟨p, xs, rfl, r, l⟩ := ha.scr; exact .inl ⟨_, _, rfl, .inl ⟨xs, r, rfl⟩, by rw [l.length]; exact k _ _ (.int _)⟩
  · obtain ⟨p, xs, rfl, r, l⟩ := ha.dK; exact .inr ⟨p, xs, rfl, r, by rw [l.length]; exact k _ _ (.int _)⟩
end
def intT : T → Ot
  | .int i => .sh (.int i)
  | .bl b => .sh (.int (if b then 1 else 0))
  | _ => .no
def absT : T → Ot
  | .int i => .sh (.int (if i < 0 then -i else i))
  | _ => .no
def max2T : T → T → Ot
  | .int i, .int j => .sh (.int (if j > i then j else i))
  | _, _ => .no
def min2T : T → T → Ot
  | .int i, .int j => .sh (.int (if j < i then j else i))
  | _, _ => .no
section
variable {X : Cx}
theorem p_int1 : PureN X.K (fun xs H Q => (∃ i, xs = [.int i] ∧ Q (.int i) H) ∨ ∃ k, xs = [.bl k] ∧ Q (.int (if k then 1 else 0)) H) (f1 intT) := PureC1.n fun W H v a Q wd ha pre k => by
  unfold intT at pre k
  cases a <;> first | exact pre.elim | skip
  · rw [ha.bl]; exact .inr ⟨_, rfl, k _ _ (.int _)⟩
  · rw [ha.int]; exact .inl ⟨_, rfl, k _ _ (.int _)⟩
theorem p_max2 : PureN X.K (fun xs H Q => ∃ i j, xs = [.int i, .int j] ∧ Q (.int (if j > i then j else i)) H) (f2 max2T) := PureC2.n fun W H v u a b Q wd ha hb pre k => by
  unfold max2T at pre k
  cases a <;> cases b <;> first | exact pre.elim | skip
  rw [ha.int, hb.int]; exact ⟨_, _, rfl, k _ _ (.int _)⟩
theorem p_min2 : PureN X.K (fun xs H Q => ∃ i j, xs = [.int i, .int j] ∧ Q (.int (if j < i then j else i)) H) (f2 min2T) := PureC2.n fun W H v u a b Q wd ha hb pre k => by
  unfold min2T at pre k
  cases a <;> cases b <;> first | exact pre.elim | skip
  rw [ha.int, hb.int]; exact ⟨_, _, rfl, k _ _ (.int _)⟩
end
def T.ints : List T → Option (List Int)
  | [] => some []
  | .int i :: ts => match T.ints ts with
    | some ns => some (i :: ns)
    | none => none
  | _ :: _ => none
def T.bools : List T → Option (List Bool)
  | [] => some []
  | .bl i :: ts => match T.bools ts with
    | some ns => some (i :: ns)
    | none => none
  | _ :: _ => none
theorem ints_map : ∀ {ts : List T} {ns : List Int}, T.ints ts = some ns → ts = ns.map T.int
  | [], _, e => by cases e; rfl
  | .int i :: ts, ns, e => by
    unfold T.ints at e
    cases q : T.ints ts with
    | none => rw [q] at e; cases e
    | some us => rw [q] at e; cases e; rw [ints_map q]; rfl
  | .non :: _, _, e => by cases e
  | .bl _ :: _, _, e => by cases e
  | .str _ :: _, _, e => by cases e
  | .ty _ :: _, _, e => by cases e
  | .fn _ :: _, _, e => by cases e
  | .lst _ :: _, _, e => by cases e
  | .tup _ :: _, _, e => by cases e
  | .scr _ :: _, _, e => by cases e
  | .dK _ :: _, _, e => by cases e
  | .dT _ :: _, _, e => by cases e
  | .ins _ _ :: _, _, e => by cases e
theorem bools_map : ∀ {ts : List T} {ns : List Bool}, T.bools ts = some ns → ts = ns.map T.bl
  | [], _, e => by cases e; rfl
  | .bl i :: ts, ns, e => by
    unfold T.bools at e
    cases q : T.bools ts with
    | none => rw [q] at e; cases e
    | some us => rw [q] at e; cases e; rw [bools_map q]; rfl
  | .non :: _, _, e => by cases e
  | .int _ :: _, _, e => by cases e
  | .str _ :: _, _, e => by cases e
  | .ty _ :: _, _, e => by cases e
  | .fn _ :: _, _, e => by cases e
  | .lst _ :: _, _, e => by cases e
  | .tup _ :: _, _, e => by cases e
  | .scr _ :: _, _, e => by cases e
  | .dK _ :: _, _, e => by cases e
  | .dT _ :: _, _, e => by cases e
  | .ins _ _ :: _, _, e => by cases e
theorem ints_of (ns : List Int) : T.ints (ns.map T.int) = some ns := by
  induction ns with
  | nil => rfl
  | cons n ns ih => show (match T.ints (ns.map T.int) with | some ns => some (n :: ns) | none => none) = _; rw [ih]
theorem bools_of (ns : List Bool) : T.bools (ns.map T.bl) = some ns := by
  induction ns with
  | nil => rfl
  | cons n ns ih => show (match T.bools (ns.map T.bl) with | some ns => some (n :: ns) | none => none) = _; rw [ih]
theorem IsL.ints {K : PySem.W.Frag} {W : Ad} {H : Hp} : ∀ {xs : List V} {ns : List Int}, IsL K W H xs (ns.map T.int) → xs = ns.map V.int
  | _, [], h => by cases h; rfl
  | _, n :: ns, h => by cases h with | cons a b => cases a; rw [IsL.ints b]; rfl
theorem IsL.bools {K : PySem.W.Frag} {W : Ad} {H : Hp} : ∀ {xs : List V} {ns : List Bool}, IsL K W H xs (ns.map T.bl) → xs = ns.map V.bl
  | _, [], h => by cases h; rfl
  | _, n :: ns, h => by cases h with | cons a b => cases a; rw [IsL.bools b]; rfl
/-- the items of a list, however it stands -/
def T.lists : T → Option (List T)
  | .lst ts => some ts
  | .scr ts => some ts
  | _ => none
theorem IsR.lists {K : PySem.W.Frag} {W : Ad} {H : Hp} {v : V} {t : T} {ts : List T} (h : IsR K W H v t) (e : t.lists = some ts) : ∃ p xs, v = .ref p ∧ SqL K H p xs ∧ IsL K W H xs ts := by
  cases t <;> first | cases e | skip
  · obtain ⟨p, xs, e, r, l⟩ := h.lst; exact ⟨p, xs, e, .of r, l⟩
  · obtain ⟨p, xs, e, r, l⟩ := h.scr; exact ⟨p, xs, e, r, l⟩
def sumT (a : T) : Ot := match a.lists with
  | some ts => ⟨(T.ints ts).isSome = true, (false, .int ((T.ints ts).getD []).sum)⟩
  | none => .no
def anyT (a : T) : Ot := match a.lists with
  | some ts => ⟨(T.bools ts).isSome = true, (false, .bl (((T.bools ts).getD []).any id))⟩
  | none => .no
def allT (a : T) : Ot := match a.lists with
  | some ts => ⟨(T.bools ts).isSome = true, (false, .bl (((T.bools ts).getD []).all id))⟩
  | none => .no
section
variable {X : Cx}
theorem p_sum : PureN X.K (rSum X.K) (f1 sumT) := PureC1.n fun W H v a Q wd ha pre k => by
  unfold sumT at pre k
  cases e : a.lists with
  | none => rw [e] at pre; exact pre.elim
  | some ts =>
    rw [e] at pre k
    obtain ⟨ns, en⟩ := Option.isSome_iff_exists.mp pre
    obtain ⟨p, xs, rfl, r, l⟩ := ha.lists e
    have := ints_map en
    subst this
    rw [l.ints] at r
    dsimp only at k
    rw [en] at k
    exact ⟨p, ns, rfl, r, k _ _ (.int _)⟩
theorem p_all : PureN X.K (rAll X.K) (f1 allT) := PureC1.n fun W H v a Q wd ha pre k => by
  unfold allT at pre k
  cases e : a.lists with
  | none => rw [e] at pre; exact pre.elim
  | some ts =>
    rw [e] at pre k
    obtain ⟨ns, en⟩ := Option.isSome_iff_exists.mp pre
    obtain ⟨p, xs, rfl, r, l⟩ := ha.lists e
    have := bools_map en
    subst this
    rw [l.bools] at r
    dsimp only at k
    rw [en] at k
    exact ⟨p, ns, rfl, r, k _ _ (.bl _)⟩
end
def listT : T → Ot
  | .lst ts => .new True (.lst ts)
  | .scr ts => .new True (.lst ts)
  | .tup ts => .new True (.lst ts)
  | .str l => .new (l.length ≤ sizeLine) (.lst (l.map fun c => .str [c]))
  | _ => .no
def tupleT : T → Ot
  | .lst ts => .sh (.tup ts)
  | .scr ts => .sh (.tup ts)
  | .tup ts => .sh (.tup ts)
  | .str l => .when (l.length ≤ sizeLine) (.tup (l.map fun c => .str [c]))
  | _ => .no
section
variable {X : Cx}
theorem vals_signs {l : List Nat} {us : Array Value} (h : ItemsOf (SignAt (S l)) us (S l).cps.size) : Vals (l.map fun c => V.str (S [c])) us.toList := by
  have hl : us.size = l.length := by rw [h.1]; simp [S]
  have g : ∀ (k : Nat) (m : List Nat) (vs : List Value), m.length = vs.length → (∀ j c, m[j]? = some c → l[k + j]? = some c) → (∀ j v, vs[j]? = some v → us[k + j]? = some v) → Vals (m.map fun c => V.str (S [c])) vs := by
    intro k m
    induction m generalizing k with
    | nil => intro vs e _ _; cases vs with | nil => exact .nil | cons _ _ => cases e
    | cons c m ih =>
      intro vs e hm hv
      cases vs with
      | nil => cases e
      | cons v vs =>
        have h1 := hm 0 c rfl
        have h2 := hv 0 v rfl
        obtain ⟨c', u, e1, e2⟩ := h.2 _ _ h2
        have e3 : l[k + 0]? = some c' := by simpa [S] using e1
        rw [h1] at e3; cases e3
        refine .cons ⟨u, e2⟩ (ih (k + 1) vs (by simpa using e) (fun j d q => ?_) fun j d q => ?_)
        · have := hm (j + 1) d (by simpa using q); rwa [show k + 1 + j = k + (j + 1) by omega]
        · have := hv (j + 1) d (by simpa using q); rwa [show k + 1 + j = k + (j + 1) by omega]
  exact g 0 l us.toList (by simpa using hl.symm) (fun j c q => by simpa using q) fun j v q => by simpa using q
def rListA (K : PySem.W.Frag) : List V → Hp → VK → Prop := fun xs H Q => (∃ p ys, xs = [.ref p] ∧ (SqL K H p ys ∨ SqT K H p ys) ∧ ∀ l, H l = none → Q (.ref l) (upd H l (.lst ys))) ∨
  ∃ l : List Nat, xs = [.str (S l)] ∧ l.length ≤ sizeLine ∧ ∀ p, H p = none → Q (.ref p) (upd H p (.lst (l.map fun c => V.str (S [c]))))
theorem call_listA (hc : X.calm = true) : CallR X (.type "list") (rListA X.K) := CallR.orr call_list_of fun pins s σ H xs us Q I r h => by
  obtain ⟨l, rfl, hl, q⟩ := h
  cases r with | cons ru rr => cases rr with | nil =>
  obtain ⟨t, rfl⟩ := ru
  have hz : (S l).cps.size ≤ sizeLine := by simpa [S] using hl
  refine call_list_str (I.ok.hd hc) (S l) t (hn := hz) fun h' tk acc c' keep at' items => ?_
  exact ⟨.ref s.heap.objs.size, _, I.laid (o := .lst (l.map fun c => V.str (S [c]))) keep (Nat.le_refl _) ⟨by simpa using hl, acc.toList, c', vals_signs items, by simpa using at'⟩, rfl, q _ (I.hok.fresh (Nat.le_refl _))⟩
theorem IsL.sgs {K : PySem.W.Frag} {W : Ad} {H : Hp} : ∀ l : List Nat, IsL K W H (l.map fun c => V.str (S [c])) (l.map fun c => .str [c])
  | [] => .nil
  | c :: l => .cons (.str [c]) (IsL.sgs l)
theorem p_list : PureN X.K (rListA X.K) (f1 listT) := PureC1.n fun W H v a Q wd ha pre k => by
  unfold listT at pre k
  cases a <;> first | exact pre.elim | skip
  · rw [ha.str]; exact .inr ⟨_, rfl, pre, fun p hp => k _ _ (.newL hp (IsL.sgs _))⟩
  · obtain ⟨p, xs, rfl, r, l⟩ := ha.lst; exact .inl ⟨p, xs, rfl, .inl (.of r), fun q hq => k _ _ (.newL hq l)⟩
  · obtain ⟨p, xs, rfl, r, l⟩ := ha.tup; exact .inl ⟨p, xs, rfl, .inr r, fun q hq => k _ _ (.newL hq l)⟩
  · obtain ⟨p, xs, rfl, r, l⟩ := ha.scr; exact .inl ⟨p, xs, rfl, .inl r, fun q hq => k _ _ (.newL hq l)⟩
def rTupA (K : PySem.W.Frag) : List V → Hp → VK → Prop := fun xs H Q => (∃ p ys, xs = [.ref p] ∧ ((SqL K H p ys ∧ ∀ l, H l = none → Q (.ref l) (upd H l (.tup ys))) ∨ (SqT K H p ys ∧ Q (.ref p) H))) ∨
  ∃ l : List Nat, xs = [.str (S l)] ∧ l.length ≤ sizeLine ∧ ∀ p, H p = none → Q (.ref p) (upd H p (.tup (l.map fun c => V.str (S [c]))))
theorem call_tupleA (hc : X.calm = true) : CallR X (.type "tuple") (rTupA X.K) := CallR.orr call_tuple_of fun pins s σ H xs us Q I r h => by
  obtain ⟨l, rfl, hl, q⟩ := h
  cases r with | cons ru rr => cases rr with | nil =>
  obtain ⟨t, rfl⟩ := ru
  have hz : (S l).length ≤ sizeLine := by rw [S_len]; exact hl
  refine call_tuple_str (hsz := hz) (I.ok.hd hc) (S l) t fun h' tk acc keep items => ?_
  have J : Inv X pins σ H { s with heap := h', toks := s.toks } := I.kept keep
  have I2 : Inv X pins σ (upd H h'.objs.size (.tup (l.map fun c => V.str (S [c])))) { s with heap := h'.push { cls := .type "tuple", data := .seq acc }, toks := tk } :=
    J.laid (t' := tk) (fun b o e => Heap.get?_push_of_some _ e) (Nat.le_refl _) (show ObjOk X.prog X.w _ _ _ (.tup _) from ⟨by simpa using hl, acc.toList, vals_signs items, by simpa using IsTup.new h' acc⟩)
  exact ⟨.ref h'.objs.size, _, I2, rfl, q _ (J.hok.fresh (Nat.le_refl _))⟩
theorem p_tuple : PureN X.K (rTupA X.K) (f1 tupleT) := PureC1.n fun W H v a Q wd ha pre k => by
  unfold tupleT at pre k
  cases a <;> first | exact pre.elim | skip
  · rw [ha.str]; exact .inr ⟨_, rfl, pre, fun p hp => k _ _ (.newT wd hp (IsL.sgs _))⟩
  · obtain ⟨p, xs, rfl, r, l⟩ := ha.lst; exact .inl ⟨p, xs, rfl, .inl ⟨.of r, fun q hq => k _ _ (.newT wd hq l)⟩⟩
  · rcases ha with ha | ⟨_, _, ha⟩
    · obtain ⟨p, xs, rfl, r, l⟩ := IsR.tup (.inl ha); exact .inl ⟨p, xs, rfl, .inr ⟨r, k _ _ (.sh ha)⟩⟩
    · exact ha.elim
  · obtain ⟨p, xs, rfl, r, l⟩ := ha.scr; exact .inl ⟨p, xs, rfl, .inl ⟨r, fun q hq => k _ _ (.newT wd hq l)⟩⟩
end
section
variable {X : Cx}
theorem IsL.zip {K : PySem.W.Frag} {W : Ad} {H : Hp} : ∀ {xs : List V} {ts : List T}, IsL K W H xs ts → ∀ p ∈ xs.zip ts, Is K W H p.1 p.2
  | _, _, .nil, p, h => by cases h
  | _, _, .cons a b, p, h => by
    rw [List.zip_cons_cons] at h
    rcases List.mem_cons.mp h with h | h
    · subst h; exact a
    · exact b.zip p h
theorem IsL.of {K : PySem.W.Frag} {W : Ad} {H : Hp} : ∀ {ps : List (V × T)}, (∀ p ∈ ps, Is K W H p.1 p.2) → IsL K W H (ps.map (·.1)) (ps.map (·.2))
  | [], _ => .nil
  | p :: ps, h => .cons (h p List.mem_cons_self) (IsL.of fun q hq => h q (List.mem_cons_of_mem _ hq))
end
def T.cls : T → Option String
  | .non => some "NoneType"
  | .bl _ => some "bool"
  | .int _ => some "int"
  | .str _ => some "str"
  | .lst _ => some "list"
  | .scr _ => some "list"
  | .tup _ => some "tuple"
  | .dK _ => some "dict"
  | .dT _ => some "dict"
  | _ => none
/-- an own instance is none of the built-in kinds -/
def isiI : T → T → Ot
  | .ins _ _, .ty n => ⟨n ∈ ["int", "bool", "str", "list", "tuple", "dict"], (false, .bl false)⟩
  | _, _ => .no
theorem IsR.insK {K : PySem.W.Frag} {W : Ad} {H : Hp} {v : V} {C : Addr} {fs : List (Str × T)} (h : IsR K W H v (.ins C fs)) : InsK K C ∧ TyX K H v (.ref C) := by
  rcases h with h | ⟨p, e, h⟩
  · cases h with | ins kc r w l => exact ⟨kc, .base (.ins r kc.cl kc.ha kc.hn kc.ht kc.hm)⟩
  · obtain ⟨kc, dx, xs, r, l⟩ := h; rw [e]; exact ⟨kc, .base (.ins r kc.cl kc.ha kc.hn kc.ht kc.hm)⟩
def isiT (a b : T) : Ot := match a.cls, b with
  | some c, .ty n => ⟨(kitB c n).isSome = true, (false, .bl ((kitB c n).getD false))⟩
  | _, b => isiI a b
theorem IsR.ty {K : PySem.W.Frag} {W : Ad} {H : Hp} {v : V} {n : String} (h : IsR K W H v (.ty n)) : v = .ty n := by
  rcases h with h | ⟨p, e, h⟩
  · cases h; rfl
  · exact h.elim
theorem IsR.cls {K : PySem.W.Frag} {W : Ad} {H : Hp} {v : V} {t : T} {c : String} (h : IsR K W H v t) (e : t.cls = some c) : TyX K H v (.type c) := by
  rcases h with h | ⟨p, e1, h⟩
  · cases h <;> cases e
    · exact .base .non
    · exact .base (.bl _)
    · exact .base (.int _)
    · exact .base (.str _)
    · rename_i r _ _; exact .base (.lst r)
    · rename_i r _ _; exact .base (.frz r)
    · rename_i r _; obtain ⟨o, _, _, e1, e2, _⟩ := r; exact .kList e1 e2
    · rename_i r _ _; exact .base (.tup r)
    · rename_i r _; obtain ⟨o, _, _, e1, e2, _⟩ := r; exact .kTuple e1 e2
    · rename_i r _ _; exact .base (.dK r)
    · rename_i r _ _; exact .base (.dT r)
  · subst e1
    cases t <;> cases e
    · exact h.elim
    · exact h.elim
    · exact h.elim
    · exact h.elim
    · obtain ⟨xs, r, _⟩ := h; exact .base (.lst r)
    · exact h.elim
    · exact h.elim
    · obtain ⟨xs, r, _⟩ := h; exact .base (.dK r)
    · obtain ⟨xs, r, _⟩ := h; exact .base (.dT r)
theorem p_isi {X : Cx} : PureN X.K (rIsi X.K) (f2 isiT) := PureC2.n fun W H v u a b Q wd ha hb pre k => by
  revert pre k
  unfold isiT
  split
  · rename_i c n e
    intro pre k
    obtain ⟨r, er⟩ := Option.isSome_iff_exists.mp pre
    dsimp only at k
    rw [er] at k
    rw [hb.ty]
    exact ⟨v, .ty n, .type c, .type n, r, rfl, .ty n, ha.cls e, kit_ty er, k _ _ (.bl _)⟩
  · unfold isiI
    split
    · rename_i n _
      intro pre k
      obtain ⟨kc, ty⟩ := ha.insK
      rw [hb.ty]
      exact ⟨v, .ty n, _, .type n, false, rfl, .ty n, ty, kc.ty n pre, k _ _ (.sh (.bl _))⟩
    · intro pre; exact pre.elim
end O
namespace O
open PySem PySem.Spec PyProof.Rows L2
section
variable {X : Cx} {Wx : WX}
def sDead : Ds := fun _ _ => False
end
def T.isMt (Ty : String) : T → Prop
  | .str _ => Ty = "str"
  | .lst _ => Ty = "list"
  | .scr _ => Ty = "list"
  | .dK _ => Ty = "dict"
  | .dT _ => Ty = "dict"
  | _ => False
theorem tyV_of {K : PySem.W.Frag} {W : Ad} {H : Hp} {v : V} {t : T} {Ty : String} (h : IsR K W H v t) (i : t.isMt Ty) : tyV K Ty v H := by
  rcases h with h | ⟨p, e, h⟩
  · cases h with
    | str l => exact i
    | lst r n l => exact .inl ⟨i, _, .of r⟩
    | scr r n l => exact .inl ⟨i, _, .inl (.inr ⟨_, r⟩)⟩
    | scrK r l => exact .inl ⟨i, _, .inr r⟩
    | dK r n l => exact .inr (.inr (.inl ⟨i, .inl ⟨_, r⟩⟩))
    | dT r n l => exact .inr (.inr (.inl ⟨i, .inr ⟨_, r⟩⟩))
    | _ => exact i.elim
  · subst e
    cases t with
    | lst ts => obtain ⟨xs, r, _⟩ := h; exact .inl ⟨i, _, .of r⟩
    | dK ts => obtain ⟨xs, r, _⟩ := h; exact .inr (.inr (.inl ⟨i, .inl ⟨_, r⟩⟩))
    | dT ts => obtain ⟨xs, r, _⟩ := h; exact .inr (.inr (.inl ⟨i, .inr ⟨_, r⟩⟩))
    | _ => first | exact h.elim | exact i.elim
def dMt (Ty : String) (f : T → List T → Ot) (a : Dn Hn) (b : Dn (List Hn)) : Dn Rv := fun ρ Q => a ρ ⟨fun h ρ1 => (∃ t, h.is ρ1 t ∧ t.isMt Ty) ∧ b ρ1 ⟨fun hs ρ2 => ∃ t, h.is ρ2 t ∧ ∃ ts, Hn.all ρ2 hs ts ∧ (f t ts).pre ∧ Q.ok (f t ts).val ρ2, Q.ex⟩, Q.ex⟩
theorem mn_mt {Ty : String} {f : T → List T → Ot} {a : Dn Hn} {b : Dn (List Hn)} (ma : Mn a) (mb : Mn b) : Mn (dMt Ty f a b) := fun ρ Q Q' h k e =>
  ma _ _ _ h (fun h1 ρ1 h => ⟨h.1, mb _ _ _ h.2 (fun h2 ρ2 ⟨t, i, u, j, p, q⟩ => ⟨t, i, u, j, p, k _ _ q⟩) e⟩) e
section
variable {X : Cx} {Wx : WX} {o e : Expr} {es : List Expr} {da : Dn Hn} {ds : Dn (List Hn)} {name : Str} {apos cpos : Pos} {Ty id : String} {r : V → List V → Hp → VK → Prop} {f : T → List T → Ot}
theorem mt_run (hp : PureM X.K r f) (ma : Mn da) (mb : Mn ds) (σ : L2.St) (H : Hp) (Q : VK) (h : RD X.K (relE X.K) xr Wx (dMt Ty f da ds) σ H Q) :
    RD X.K (relO X.K) nox Wx da σ H fun x H1 => tyV X.K Ty x H1 ∧ RD X.K (relOs X.K) nox Wx ds σ H1 fun xs H2 => r x xs H2 Q := by
  obtain ⟨W, ρ, rep, h⟩ := h
  refine rd_first ma rep h fun h1 ρ1 ⟨⟨t0, i0, m0⟩, k1⟩ v W1 H1 r1 rep1 st1 pn1 => ⟨tyV_of (isR_of rep1 r1 i0) m0, ?_⟩
  refine rd_next mb rep st1.noxx pn1 rep1 k1 fun h2 ρ2 ⟨t, i, ts, j, p, q⟩ w W2 H2 r2 rep2 st12 st2 pn2 => ?_
  refine hp W2 H2 v w t ts Q rep2.wd (isR_of rep2 (relO_step (ρ2 := ρ2) r1 rep1 st12) i) (all_isR rep2 r2 j) p fun v' H' rs => ?_
  obtain ⟨W', rl, rep', st'⟩ := rs.post rep2
  exact q v' W' H' rl rep' (st2.noxx.trans rep.wd st') pn2
/-- o.m(e, ..) -/
theorem xe_bm (hp : PureM X.K r f) (pa : PlainAttrs Ty) (slot : Slot Ty name id) (hty : typeOf (.builtin id) = pure (.type "method_descriptor")) (hm : MtR X id r) (ho : XO X Wx o da) (ha : XA X Wx (e :: es) ds)
    (hb : attributeBase o name X.env (eval o X.env) = eval o X.env := by rfl)
    (few : ((backTo cpos (starEach (e :: es) X.env)).all (fun x => !x.1) && (backToKw cpos (keywordEach [] X.env)).all (fun x => x.1.isSome) && decide ((e :: es).length + ([] : List Keyword).length + (if ([] : List Keyword).isEmpty then 0 else 1) < 30)) = true := by rfl)
    (ln : (apos.endLine == cpos.line) = true := by rfl) (st : starEach (e :: es) X.env = (false, eval e X.env) :: starEach es X.env := by rfl) (np : (backTo cpos (starEach es X.env)).any (·.1) = false := by rfl) :
    XE X Wx (.Call (.Attribute o name apos) (e :: es) [] cpos) (dMt Ty f da ds) :=
  ⟨PE.imp (pe_bm pa slot hty hm ho.pe ha.pa hb few ln st np) fun σ H Q h => mt_run hp ho.mn ha.mn σ H Q h, mn_mt ho.mn ha.mn⟩
end
def T.strs : List T → Option (List (List Nat))
  | [] => some []
  | .str l :: ts => match T.strs ts with
    | some ns => some (l :: ns)
    | none => none
  | _ :: _ => none
theorem strs_map : ∀ {ts : List T} {ns : List (List Nat)}, T.strs ts = some ns → ts = ns.map T.str
  | [], _, e => by cases e; rfl
  | .str l :: ts, ns, e => by
    unfold T.strs at e
    cases q : T.strs ts with
    | none => rw [q] at e; cases e
    | some us => rw [q] at e; cases e; rw [strs_map q]; rfl
  | .non :: _, _, e => by cases e
  | .bl _ :: _, _, e => by cases e
  | .int _ :: _, _, e => by cases e
  | .ty _ :: _, _, e => by cases e
  | .fn _ :: _, _, e => by cases e
  | .lst _ :: _, _, e => by cases e
  | .tup _ :: _, _, e => by cases e
  | .scr _ :: _, _, e => by cases e
  | .dK _ :: _, _, e => by cases e
  | .dT _ :: _, _, e => by cases e
  | .ins _ _ :: _, _, e => by cases e
theorem strs_of (ns : List (List Nat)) : T.strs (ns.map T.str) = some ns := by
  induction ns with
  | nil => rfl
  | cons n ns ih => show (match T.strs (ns.map T.str) with | some ns => some (n :: ns) | none => none) = _; rw [ih]
theorem IsL.strs {K : PySem.W.Frag} {W : Ad} {H : Hp} : ∀ {xs : List V} {ns : List (List Nat)}, IsL K W H xs (ns.map T.str) → xs = (ns.map S).map V.str
  | _, [], h => by cases h; rfl
  | _, n :: ns, h => by cases h with | cons a b => cases a; rw [IsL.strs b]; rfl
/-- the items of a list, a tuple -/
def T.seqs : T → Option (List T)
  | .lst ts => some ts
  | .scr ts => some ts
  | .tup ts => some ts
  | _ => none
theorem IsR.seqs {K : PySem.W.Frag} {W : Ad} {H : Hp} {v : V} {t : T} {ts : List T} (h : IsR K W H v t) (e : t.seqs = some ts) : ∃ p xs, v = .ref p ∧ (SqL K H p xs ∨ SqT K H p xs) ∧ IsL K W H xs ts := by
  cases t <;> first | cases e | skip
  · obtain ⟨p, xs, e, r, l⟩ := h.lst; exact ⟨p, xs, e, .inl (.of r), l⟩
  · obtain ⟨p, xs, e, r, l⟩ := h.tup; exact ⟨p, xs, e, .inr r, l⟩
  · obtain ⟨p, xs, e, r, l⟩ := h.scr; exact ⟨p, xs, e, .inl r, l⟩
def joinL (a : List Nat) : List (List Nat) → List Nat
  | [] => []
  | [x] => x
  | x :: y :: r => x ++ a ++ joinL a (y :: r)
def joinT : T → List T → Ot
  | .str a, [b] => match b.seqs with
    | some ts => ⟨∃ ls, T.strs ts = some ls ∧ (ls.map (·.length)).sum + ls.length * a.length ≤ 16777216, (false, .str (joinL a ((T.strs ts).getD [])))⟩
    | none => .no
  | _, _ => .no
theorem S_join (a : List Nat) (ls : List (List Nat)) : Txt.join (S a) (ls.map S) = S (joinL a ls) := by
  show Builtin.Str.glued (S a) (ls.map S) = _
  rw [StrLaws.glued_eq_join]
  induction ls with
  | nil => rfl
  | cons x r ih =>
    cases r with
    | nil => rfl
    | cons y r =>
      show S x ++ S a ++ Str.join (S a) ((y :: r).map S) = _
      rw [ih, S_append, S_append]
      rfl
def countT : T → List T → Ot
  | .str a, [.str [c]] => .sh (.int (a.count c))
  | _, _ => .no
theorem S_count (a : List Nat) (c : Nat) : Txt.count (S a) (S [c]) = ((a.count c : Nat) : Int) := by
  rw [show S [c] = ⟨#[c]⟩ from rfl, count_cnt]
  show cnt c a = _
  induction a with
  | nil => rfl
  | cons n r ih =>
    rw [cnt_cons, ih, List.count_cons]
    by_cases h : n = c
    · subst h; simp; omega
    · rw [if_neg h]; simp [h]
section
variable {X : Cx}
theorem p_join : PureM X.K (fun x xs H Q => ∃ a p, ∃ ys : List Str, x = .str a ∧ xs = [.ref p] ∧ (SqL X.K H p (ys.map V.str) ∨ SqT X.K H p (ys.map V.str)) ∧ (ys.map (·.length)).sum + ys.length * a.length ≤ 16777216 ∧ Q (.str (Txt.join a ys)) H) joinT := by
  intro W H v vs a as Q wd ha hs pre k
  revert pre k
  unfold joinT
  split
  · rename_i l b
    split
    · rename_i ts e
      rintro ⟨ls, e1, z⟩ k
      cases hs with | cons hb hr => cases hr with | nil =>
      obtain ⟨p, xs, rfl, r, il⟩ := hb.seqs e
      have := strs_map e1
      subst this
      rw [il.strs] at r
      rw [ha.str]
      have := k _ _ (.str _)
      rw [e1] at this
      refine ⟨_, p, ls.map S, rfl, rfl, r, ?_, by rw [S_join]; exact this⟩
      rw [List.map_map, List.length_map, S_len]
      have : (fun x : List Nat => x.length) = (fun x : Str => x.length) ∘ S := by funext x; exact (S_len x).symm
      rw [← this]
      exact z
    · intro pre; exact pre.elim
  · intro pre; exact pre.elim
theorem p_count : PureM X.K (fun x xs H Q => ∃ a b, x = .str a ∧ xs = [.str b] ∧ Q (.int (Txt.count a b)) H) countT := by
  intro W H v vs a as Q wd ha hs pre k
  revert pre k
  unfold countT
  split
  · intro pre k
    cases hs with | cons hb hr => cases hr with | nil =>
    rw [ha.str, hb.str]
    exact ⟨_, _, rfl, rfl, by rw [S_count]; exact k _ _ (.int _)⟩
  · intro pre; exact pre.elim
end
def appM : T → List T → Om
  | .lst ts, [t] => ⟨ts.length < sizeLine, .lst (ts ++ [t]), .non⟩
  | _, _ => .no
def extM : T → List T → Om
  | .lst ts, [.lst us] => ⟨ts.length + us.length ≤ sizeLine, .lst (ts ++ us), .non⟩
  | _, _ => .no
def revM : T → List T → Om
  | .lst ts, [] => ⟨True, .lst ts.reverse, .non⟩
  | _, _ => .no
def clrM : T → List T → Om
  | .lst ts, [] => ⟨True, .lst [], .non⟩
  | _, _ => .no
section
variable {X : Cx}
theorem own_lst {K : PySem.W.Frag} {W : Ad} {H : Hp} {p : Addr} {xs : List V} {ts : List T} (hw : W p) (l : IsL K W H xs ts) : OwnAt K W (upd H p (.lst xs)) p (.lst ts) := ⟨xs, upd_same, l.write hw⟩
theorem m_app : MutR X.K rAppend appM := by
  intro W H p vs t ts Q wd hw ho il pre k
  revert pre k
  unfold appM
  split
  · intro pre k
    obtain ⟨xs, e, l⟩ := ho
    cases il with | cons a r => cases r with | nil =>
    exact ⟨p, xs, _, rfl, rfl, e, by rw [l.length]; exact pre, k _ _ (own_lst hw (l.append (.cons a .nil))) .non⟩
  · intro pre; exact pre.elim
def setL (u i t : T) : Om := match u, i with
  | .lst ts, .int i => ⟨(ixN ts.length i).isSome = true, .lst (ts.set ((ixN ts.length i).getD 0) t), .non⟩
  | _, _ => .no
theorem s_list : SetR X.K rSetL setL := by
  intro W H p iv v u ti t Q wd hw ho hi hv pre k
  revert pre k
  unfold setL
  split
  · rename_i ts i
    intro pre k
    obtain ⟨xs, e, l⟩ := ho
    obtain ⟨j, ej⟩ := Option.isSome_iff_exists.mp pre
    rw [hi.int]
    dsimp only at k
    rw [ej] at k
    exact ⟨p, xs, i, j, rfl, rfl, e, by rw [l.length]; exact ej, k _ (own_lst hw (l.set hv j))⟩
  · intro pre; exact pre.elim
end
end O
namespace O
open PySem PySem.Spec PyProof.Rows L2
section
variable (K : PySem.W.Frag)
/-- these values, the new objects among them apart from each other -/
inductive Vs (σ : L2.St) (ρ : Rho) (W : Ad) (H : Hp) : List V → List Rv → Prop
  | nil : Vs σ ρ W H [] []
  | cons {v : V} {r : Rv} {vs : List V} {rs : List Rv} : relE K σ ρ W H v r → (r.1 = true → ∀ (j : Nat) q, vs[j]? = some v → rs[j]? = some q → q.1 = false) → Vs σ ρ W H vs rs → Vs σ ρ W H (v :: vs) (r :: rs)
def relVs (σ : L2.St) (ρ : Rho) (W : Ad) (H : Hp) (vs : List V) (rs : List Rv) : Prop := Vs K σ ρ W H vs rs
def xrs (vs : List V) (rs : List Rv) : Ad := fun p => ∃ (j : Nat) (r : Rv), vs[j]? = some (V.ref p) ∧ rs[j]? = some r ∧ r.1 = true
end
structure XV (X : Cx) (Wx : WX) (es : List Expr) (d : Dn (List Rv)) : Prop where
  pa : PA X es (RD X.K (relVs X.K) xrs Wx d)
  mn : Mn d
section
variable {K : PySem.W.Frag} {σ : L2.St} {ρ ρ1 ρ2 : Rho} {W W1 W2 : Ad} {H H1 H2 : Hp}
theorem relE_step {v : V} {r : Rv} {P2 : Ad} (h : relE K σ ρ1 W1 H1 v r) (rep : Rep K W1 H1 σ ρ1) (st : Step (Rt σ ρ1) W1 H1 P2 W2 H2) (sub : ∀ p, Rt σ ρ2 p → P2 p) : relE K σ ρ2 W2 H2 v r := by
  unfold relE at h ⊢
  by_cases c : r.1 = true
  · rw [if_pos c] at h ⊢
    obtain ⟨p, e, hw, ho, hn⟩ := h
    refine ⟨p, e, st.stay p hw hn, ho.keep st.keep rep.rt st.new fun o e => st.keep p o e hn, fun z => ?_⟩
    rcases st.newP p (sub p z) with z | z
    · exact hn z
    · obtain ⟨o, e⟩ := rep.wd p hw; rw [z] at e; cases e
  · rw [if_neg c] at h ⊢
    exact h.step st rep.rt
end
def dVn : Dn (List Rv) := fun ρ Q => Q.ok [] ρ
def dVc (a : Dn Rv) (b : Dn (List Rv)) : Dn (List Rv) := fun ρ Q => a ρ ⟨fun r ρ1 => b ρ1 ⟨fun rs ρ2 => Q.ok (r :: rs) ρ2, Q.ex⟩, Q.ex⟩
theorem mn_vc {a : Dn Rv} {b : Dn (List Rv)} (ma : Mn a) (mb : Mn b) : Mn (dVc a b) := fun ρ Q Q' h k e => ma _ _ _ h (fun h1 ρ1 h => mb _ _ _ h (fun h2 ρ2 q => k _ _ q) e) e
section
variable {X : Cx} {Wx : WX} {e : Expr} {es : List Expr} {d : Dn Rv} {ds : Dn (List Rv)}
theorem xv_nil : XV X Wx [] dVn := ⟨PA.imp pa_nil fun σ H Q ⟨W, ρ, rep, h⟩ => h [] W H .nil rep ((Step.refl _ _ _).subP fun p z => z.elim id fun ⟨j, r, e, _⟩ => by simp at e) (Pn.refl _), fun ρ Q Q' h k _ => k _ _ h⟩
theorem xv_cons (ha : XE X Wx e d) (hr : XV X Wx es ds) (hs : starEach (e :: es) X.env = (false, eval e X.env) :: starEach es X.env := by rfl) : XV X Wx (e :: es) (dVc d ds) := by
  refine ⟨PA.imp (pa_cons ha.pe hr.pa hs) fun σ H Q ⟨W, ρ, rep, h⟩ => ?_, mn_vc ha.mn hr.mn⟩
  refine rd_first ha.mn rep h fun r ρ1 k1 v W1 H1 r1 rep1 st1 pn1 => ?_
  -- the second part starts with fewer roots than are held
  have st1' : Step (Rt σ ρ) W H (Rt σ ρ1) W1 H1 := st1.subP fun p z => .inl z
  refine ⟨W1, ρ1, rep1, hr.mn ρ1 _ _ k1 (fun rs ρ2 q vs W2 H2 r2 rep2 st12 pn2 => ?_) fun C fs ρ' z dx W' H' ed rp s p2 => z dx W' H' ed rp (st1'.trans rep.wd s) (pn1.trans p2)⟩
  have r1' : relE X.K σ ρ2 W2 H2 v r := relE_step r1 rep1 st12 fun p z => .inl z
  have apart : r.1 = true → ∀ (j : Nat) (q : Rv), vs[j]? = some v → rs[j]? = some q → q.1 = false := fun c j q e1 e2 => by
    cases hq : q.1 with
    | false => rfl
    | true =>
      have r1 := r1
      unfold relE at r1
      rw [if_pos c] at r1
      obtain ⟨p, e, hw, _, hn⟩ := r1
      rcases st12.newP p (.inr ⟨j, q, by rw [← e]; exact e1, e2, hq⟩) with z | z
      · exact (hn z).elim
      · obtain ⟨o, eo⟩ := rep1.wd p hw; rw [z] at eo; cases eo
  refine q (v :: vs) W2 H2 (.cons r1' apart r2) rep2 ⟨fun p o e n => (st1'.trans rep.wd st12).keep p o e n, (st1'.trans rep.wd st12).dom, (st1'.trans rep.wd st12).stay, (st1'.trans rep.wd st12).new, fun p z => ?_⟩ (pn1.trans pn2)
  rcases z with z | ⟨j, q', e1, e2, c⟩
  · exact (st1'.trans rep.wd st12).newP p (.inl z)
  · cases j with
    | zero =>
      simp at e1 e2
      subst e2
      exact st1.newP p (.inr ⟨c, e1⟩)
    | succ j => exact (st1'.trans rep.wd st12).newP p (.inr ⟨j, q', by simpa using e1, by simpa using e2, c⟩)
end
/-- the slots is take the values rs -/
def putAll : Rho → List Nat → List Rv → Rho
  | ρ, i :: is, r :: rs => putAll (ρ.set i (Sl.of r)) is rs
  | ρ, _, _ => ρ
def setAll : L2.St → List Nat → List V → L2.St
  | σ, i :: is, v :: vs => setAll (σ.set i (some v)) is vs
  | σ, _, _ => σ
section
variable {K : PySem.W.Frag} {σ : L2.St} {ρ : Rho} {W : Ad} {H : Hp}
theorem put_all : ∀ (is : List Nat) (vs : List V) (rs : List Rv) (σ : L2.St) (ρ : Rho), Rep K W H σ ρ → Vs K σ ρ W H vs rs → is.Nodup → (∀ i ∈ is, (sl_ ρ i).pin = false) →
    Rep K W H (setAll σ is vs) (putAll ρ is rs) ∧ (∀ p, Rt (setAll σ is vs) (putAll ρ is rs) p → rooted (Rt σ ρ) (xrs vs rs) p) ∧ IoK σ ρ (setAll σ is vs) (putAll ρ is rs)
  | [], vs, rs, σ, ρ, rep, _, _, _ => ⟨by unfold setAll putAll; exact rep, fun p z => .inl (by unfold setAll putAll at z; exact z), by unfold setAll putAll; exact IoK.refl _ _⟩
  | i :: is, [], [], σ, ρ, rep, _, _, _ => ⟨by unfold setAll putAll; exact rep, fun p z => .inl (by unfold setAll putAll at z; exact z), by unfold setAll putAll; exact IoK.refl _ _⟩
  | i :: is, v :: vs, r :: rs, σ, ρ, rep, .cons a dj t, nd, pin => by
    obtain ⟨rp, sub⟩ := rep.put a i
    have pf := pin i List.mem_cons_self
    have t' : Vs K (σ.set i (some v)) (ρ.set i (Sl.of r)) W H vs rs := by
      have gen : ∀ {vs : List V} {rs : List Rv}, Vs K σ ρ W H vs rs → (∀ (j : Nat) (q : Rv), vs[j]? = some v → rs[j]? = some q → r.1 = true → q.1 = false) → Vs K (σ.set i (some v)) (ρ.set i (Sl.of r)) W H vs rs := fun {vs rs} h => by
        induction h with
        | nil => intro _; exact .nil
        | @cons u q us qs b db tb ih =>
          intro ap
          refine .cons ?_ db (ih fun j q e1 e2 => ap (j + 1) q (by simpa using e1) (by simpa using e2))
          unfold relE at b ⊢
          by_cases c : q.1 = true
          · rw [if_pos c] at b ⊢
            obtain ⟨p, e, hw, ho, hn⟩ := b
            refine ⟨p, e, hw, ho, fun z => ?_⟩
            rcases sub p z with z | ⟨c2, e2⟩
            · exact hn z
            · have := ap 0 q (by rw [e2, e]; rfl) rfl c2
              rw [c] at this; cases this
          · rw [if_neg c] at b ⊢; exact b
      exact gen t fun j q e1 e2 c => dj c j q e1 e2
    have pin' : ∀ j ∈ is, (sl_ (ρ.set i (Sl.of r)) j).pin = false := fun j hj => by
      rw [sl_set]
      by_cases c : i = j ∧ i < ρ.length
      · rw [if_pos c]; exact Sl.of_pin _
      · rw [if_neg c]; exact pin j (List.mem_cons_of_mem _ hj)
    obtain ⟨x1, x2, x3⟩ := put_all is vs rs _ _ rp t' (List.nodup_cons.mp nd).2 pin'
    refine ⟨x1, fun p z => ?_, (ioK_put pf).trans x3⟩
    rcases x2 p z with z | ⟨j, q, e1, e2, c⟩
    · rcases sub p z with z | ⟨c, e⟩
      · exact .inl z
      · exact .inr ⟨0, r, by rw [e]; rfl, rfl, c⟩
    · exact .inr ⟨j + 1, q, by simpa using e1, by simpa using e2, c⟩
end
def sPar (is : List Nat) (d : Dn (List Rv)) : Ds := fun ρ Q => d ρ ⟨fun rs ρ1 => rs.length = is.length ∧ (∀ i ∈ is, (sl_ ρ1 i).pin = false) ∧ Q.nx (putAll ρ1 is rs), Q.ex⟩
theorem mn_par {is : List Nat} {d : Dn (List Rv)} (m : Mn d) : MnS (sPar is d) := fun ρ Q Q' h n r bk c e => m _ _ _ h (fun rs ρ1 q => ⟨q.1, q.2.1, n _ q.2.2⟩) e
section
variable {X : Cx} {Wx : WX} {a b c : Expr} {d : Dn (List Rv)}
theorem Vs.len {K : PySem.W.Frag} {σ : L2.St} {ρ : Rho} {W : Ad} {H : Hp} {vs : List V} {rs : List Rv} (h : Vs K σ ρ W H vs rs) : vs.length = rs.length := by
  induction h with
  | nil => rfl
  | cons _ _ _ ih => rw [List.length_cons, List.length_cons, ih]
theorem len2 {α : Type} : ∀ {l : List α}, l.length = 2 → ∃ a b, l = [a, b]
  | [a, b], _ => ⟨a, b, rfl⟩
  | [], h => by cases h
  | [_], h => by cases h
  | _ :: _ :: _ :: _, h => by simp at h
theorem len3 {α : Type} : ∀ {l : List α}, l.length = 3 → ∃ a b c, l = [a, b, c]
  | [a, b, c], _ => ⟨a, b, c, rfl⟩
  | [], h => by cases h
  | [_], h => by cases h
  | [_, _], h => by cases h
  | _ :: _ :: _ :: _ :: _, h => by simp at h
/-- x, y = a, b -/
theorem xs_par {i j : Nat} {x y : Str} {px py pt pos : Pos} {kt k2 pt2} (hc : X.calm = true) (hN : X.N.Nodup) (ha : XV X Wx [a, b] d) (hi : X.N[i]? = some x := by rfl) (hj : X.N[j]? = some y := by rfl) (hij : i ≠ j := by decide)
    (hx : X.env.scope.names.lookup x = some .local := by rfl) (hy : X.env.scope.names.lookup y = some .local := by rfl)
    (hw : swappedStores [.Tuple [.Name x px, .Name y py] kt pt] (.Tuple [a, b] k2 pt2) X.env = pure (some [x, y]) := by rfl) (hs : swapsWithSole [.Tuple [.Name x px, .Name y py] kt pt] (.Tuple [a, b] k2 pt2) pos.line X.env = pure false := by rfl) :
    XS X Wx (.Assign [.Tuple [.Name x px, .Name y py] kt pt] (.Tuple [a, b] k2 pt2) pos) (sPar [i, j] d) := by
  refine ⟨PS.imp (ps_par hc hN hi hj hij hx hy ha.pa hw hs) fun D σ H ⟨W, ρ, rep, q⟩ => ?_, mn_par ha.mn⟩
  refine rd_stmt ha.mn rep q fun rs ρ1 ⟨hl, pin, q⟩ vs W1 H1 rl rep1 st pn => ?_
  have hv := Vs.len rl
  obtain ⟨x1, x2, x3⟩ := put_all [i, j] vs rs σ ρ1 rep1 rl (by simp [hij]) pin
  obtain ⟨u, v, rfl⟩ : ∃ u v, vs = [u, v] := len2 (hv.trans hl)
  exact ⟨u, v, rfl, q _ W1 H1 x1 (st.subP x2) ((IoK.of pn).trans x3)⟩
/-- x, y, z = a, b, c -/
theorem xs_par3 {i j l : Nat} {x y z : Str} {px py pz pt pos : Pos} {kt k2 pt2} (hc : X.calm = true) (hN : X.N.Nodup) (ha : XV X Wx [a, b, c] d) (hi : X.N[i]? = some x := by rfl) (hj : X.N[j]? = some y := by rfl) (hl : X.N[l]? = some z := by rfl) (hij : i ≠ j := by decide) (hil : i ≠ l := by decide) (hjl : j ≠ l := by decide)
    (hx : X.env.scope.names.lookup x = some .local := by rfl) (hy : X.env.scope.names.lookup y = some .local := by rfl) (hz : X.env.scope.names.lookup z = some .local := by rfl)
    (hw : swappedStores [.Tuple [.Name x px, .Name y py, .Name z pz] kt pt] (.Tuple [a, b, c] k2 pt2) X.env = pure (some [x, y, z]) := by rfl) (hs : swapsWithSole [.Tuple [.Name x px, .Name y py, .Name z pz] kt pt] (.Tuple [a, b, c] k2 pt2) pos.line X.env = pure false := by rfl) :
    XS X Wx (.Assign [.Tuple [.Name x px, .Name y py, .Name z pz] kt pt] (.Tuple [a, b, c] k2 pt2) pos) (sPar [i, j, l] d) := by
  refine ⟨PS.imp (ps_par3 hc hN hi hj hl hij hil hjl hx hy hz ha.pa hw hs) fun D σ H ⟨W, ρ, rep, q⟩ => ?_, mn_par ha.mn⟩
  refine rd_stmt ha.mn rep q fun rs ρ1 ⟨hl, pin, q⟩ vs W1 H1 rl rep1 st pn => ?_
  have hv := Vs.len rl
  obtain ⟨x1, x2, x3⟩ := put_all [i, j, l] vs rs σ ρ1 rep1 rl (by simp [hij, hil, hjl]) pin
  obtain ⟨u, v, w, rfl⟩ : ∃ u v w, vs = [u, v, w] := len3 (hv.trans hl)
  exact ⟨u, v, w, rfl, q _ W1 H1 x1 (st.subP x2) ((IoK.of pn).trans x3)⟩
end
def pick {α : Type} (xs : List α) (lo hi : Option Int) (k : Int) : List α := (sliceRange (sliceBounds lo hi (some k) xs.length).1 (sliceBounds lo hi (some k) xs.length).2.1 (sliceBounds lo hi (some k) xs.length).2.2).filterMap (xs[·]?)
/-- t[lo:hi:k] -/
def sl3T : T → Option Int → Option Int → Int → Ot
  | .lst ts, lo, hi, k => .new (k ≠ 0 ∧ (pick ts lo hi k).length ≤ sizeLine) (.lst (pick ts lo hi k))
  | .scr ts, lo, hi, k => .new (k ≠ 0 ∧ (pick ts lo hi k).length ≤ sizeLine) (.lst (pick ts lo hi k))
  | .str l, lo, hi, k => .when (k ≠ 0 ∧ l.length ≤ sizeLine ∧ (pick l lo hi k).length ≤ sizeLine) (.str (pick l lo hi k))
  | _, _, _, _ => .no
section
variable {X : Cx} {Wx : WX} {e st : Expr} {lo hi : Option Expr} {te : TE} {tl th ts : TO} {da : Dn Hn} {dl dh dk : Dn (Option Int)} {pos p2 : Pos}
def dSl3 (a : Dn Hn) (lo hi kk : Dn (Option Int)) : Dn Rv := fun ρ Q => a ρ ⟨fun h ρ1 => lo ρ1 ⟨fun l ρ2 => hi ρ2 ⟨fun u ρ3 => kk ρ3 ⟨fun ko ρ4 => ∃ k, ko = some k ∧ ∃ t, h.is ρ4 t ∧ (sl3T t l u k).pre ∧ Q.ok (sl3T t l u k).val ρ4, Q.ex⟩, Q.ex⟩, Q.ex⟩, Q.ex⟩
end
def dChn (f g : T → T → Ot) (a b c : Dn Hn) : Dn Rv := fun ρ Q => a ρ ⟨fun h1 ρ1 => b ρ1 ⟨fun h2 ρ2 => ∃ t, h1.is ρ2 t ∧ ∃ u, h2.is ρ2 u ∧ (f t u).pre ∧ ∃ k, (f t u).val = (false, .bl k) ∧
  ifB k (c ρ2 ⟨fun h3 ρ3 => ∃ u', h2.is ρ3 u' ∧ ∃ w, h3.is ρ3 w ∧ (g u' w).pre ∧ Q.ok (g u' w).val ρ3, Q.ex⟩) (Q.ok (false, .bl false) ρ2), Q.ex⟩, Q.ex⟩
section
variable {X : Cx} {Wx : WX} {a b c : Expr} {da db dc : Dn Hn} {pos : Pos} {op op' : CmpOp} {r r' : R2} {f g : T → T → Ot}
end
end O
namespace O
open PySem PySem.Spec PyProof.Rows L2
/-- what enumerate takes here: a list, a text -/
def T.its2 : T → Option (List T)
  | .lst ts => some ts
  | .scr ts => some ts
  | .str l => some (l.map fun c => .str [c])
  | _ => none
def Sc.two : Sc → Prop
  | .tup _ => False
  | _ => True
def enumFrom (n : Nat) : List T → List T
  | [] => []
  | t :: ts => .tup [.int n, t] :: enumFrom (n + 1) ts
def enumT (ts : List T) : List T := enumFrom 0 ts
def dEnum (d : Dn (List Hn)) : Di := fun ρ Q => d ρ ⟨fun hs ρ1 => ∃ t ts, hs = [.tm t] ∧ t.its2 = some ts ∧ Q.ok (enumT ts) ρ1, Q.ex⟩
section
variable {X : Cx} {Wx : WX} {e : Expr} {d : Dn (List Hn)} {p pos tpos : Pos} {elts : List Expr} {kk : Nat}
end
def shOk (d : PyData) : Prop := d.showable = true ∧ d.depth ≤ 64 ∧ d.shown.length ≤ sizeLine
def reprT (a : T) : Ot := match a.seqs, a.pd with
  | some _, some d => .when (shOk d) (.str d.shown.cps.toList)
  | _, _ => .no
section
variable {X : Cx}
end
end O
namespace O
open PySem PySem.Spec PyProof.Rows L2
theorem IsL.ofInts {K : PySem.W.Frag} {W : Ad} {H : Hp} : ∀ ns : List Int, IsL K W H (ns.map V.int) (ns.map T.int)
  | [] => .nil
  | n :: ns => .cons (.int n) (IsL.ofInts ns)
/-- only the script may be tracked, where it is not the written part's -/
structure Scr (K : PySem.W.Frag) (H : Hp) (a : Addr) (o : Obj) (xs : List V) : Prop where
  only : ∀ b u, H b = some u → b = a ∧ K.lookup a = none ∧ u = .frz o (.lst xs)
theorem scr_heap (K : PySem.W.Frag) {a : Addr} {vs : List Value} {ns : List Int} (h1 : ∀ o, K.lookup a = some o → o = { cls := .type "list", data := .seq vs.toArray }) (hi : IntsAre vs ns) (hl : ns.length ≤ sizeLine) :
    ∃ H : Hp, Scr K H a { cls := .type "list", data := .seq vs.toArray } (ns.map V.int) ∧ Is K (fun _ => False) H (.ref a) (.scr (ns.map T.int)) := by
  cases e : K.lookup a with
  | some o =>
    cases h1 o e
    refine ⟨fun _ => none, ⟨fun b u z => by cases z⟩, .scrK ⟨_, vs.toArray, _, e, rfl, rfl, rfl, ?_, vals_ints hi⟩ (IsL.ofInts ns)⟩
    rw [List.size_toArray, hi.length]
    exact hl
  | none =>
    refine ⟨upd (fun _ => none) a (.frz { cls := .type "list", data := .seq vs.toArray } (.lst (ns.map V.int))), ⟨fun b u z => ?_⟩, .scr upd_same (fun z => z) (IsL.ofInts ns)⟩
    by_cases c : b = a
    · subst c; rw [upd_same] at z; cases z; exact ⟨rfl, e, rfl⟩
    · rw [upd_ne c] at z; cases z
theorem law_end {P : Program} {w : World} {K : PySem.W.Frag} {mg mb : Str → Option Value} {k : Nat} {fa a : Addr} {x : Str} {S : Sx} {s₁ : Shared} {vs : List Value} {ns : List Int} (KX : K.In s₁.heap) (n1 : s₁.heap.Ns mainGlobals mg) (n2 : s₁.heap.Ns builtinsNs mb)
    (nb : ∀ x : Str, x ≠ "__name__" → mb x = bootBuiltins x) (lim : s₁.heap.NoLimit) (gens : s₁.gens = #[]) (ha : s₁.heap.get? a = some { cls := .type "list", data := .seq vs.toArray }) (hi : IntsAre vs ns) (hl : ns.length ≤ sizeLine) (hr : RoomG k callerA)
    (F : ∀ base : Heap, K.In base → base.Ns mainGlobals mg → FnX P w K mg base k x S) (hm : mg x = some (.ref fa)) (hS : S [.sh (.scr (ns.map T.int))] ⟨fun r _ => r = (false, .bl true), fun _ _ _ => False⟩) :
    codeAny (model P w) callerA (.call (.ref fa) ⟨[.ref a], []⟩) (fun r s' => r = .ok (.ret (.bool true)) ∧ OldK s₁.heap s'.heap ∧ s'.os = s₁.os ∧ AllBare s'.gens) s₁ := by
  obtain ⟨H, sc, is⟩ := scr_heap K (a := a) (fun o e => by have := KX a o e; rw [ha] at this; cases this; rfl) hi hl
  have ok : HOk P w H s₁.heap := fun b u e => by
    obtain ⟨rfl, _, rfl⟩ := sc.only b u e
    exact ⟨ha, by rw [List.length_map]; exact hl, vs, _, vals_ints hi, ha⟩
  let base := hidT s₁.heap H
  -- what the written part and the namespaces are, is not tracked
  have into : ∀ {b o}, s₁.heap.get? b = some o → (H b = none ∨ ∃ es ep, o.data = .dict es ep) → base.get? b = some o := fun {b o} e z => by
    refine hidT_get e (z.elim id fun ⟨es, ep, d⟩ => ?_)
    cases q : H b with
    | none => rfl
    | some u =>
      obtain ⟨rfl, _⟩ := sc.only b u q
      rw [ha] at e; cases e; cases d
  have nsB : ∀ {b m}, s₁.heap.Ns b m → base.Ns b m := fun {b m} ⟨o, es, ep, e, d, r⟩ => ⟨o, es, ep, into e (.inr ⟨es, ep, d⟩), d, r⟩
  have KB : K.In base := fun b o e => into (KX b o e) (.inl (by
    cases q : H b with
    | none => rfl
    | some u => obtain ⟨rfl, z, _⟩ := sc.only b u q; rw [z] at e; cases e))
  obtain ⟨mc, l1, l2⟩ := lim
  have env : Env0 P w K mg base callerA [] s₁ H := { frames := rfl, mod := ⟨KB, nsB n1, ⟨mb, nsB n2, nb⟩, mc, nsB l1, l2⟩, bs := fun _ _ e => of_hidT e, bsz := Nat.le_of_eq (hidT_size _ _), funs := trivial, frf := (by intro b z; cases z), hok := ok, bare := .of_eq gens }
  have rp : Rep K (fun _ => False) H ([V.ref a].map some) [.sh (.scr (ns.map T.int))] := by
    refine ⟨rfl, fun i => ?_, fun i j p wi => ?_, fun p z => z.elim⟩
    · cases i with
      | zero => exact ⟨_, rfl, is⟩
      | succ i => rw [sl_cons, sl_nil]; trivial
    · cases i with
      | zero => exact wi.elim
      | succ i => rw [sl_cons, sl_nil] at wi; exact wi.elim
  obtain ⟨⟨f, fd, ps, hm2, kp, go, bd, len⟩, mS⟩ := F base KB (nsB n1)
  cases hm.symm.trans hm2
  have len1 : 1 = ps.length := len _ _ hS
  have bd1 := bd s₁ [.ref a] KX len1
  rw [List.append_nil] at bd1
  have sp : spOf K ps.length S [.ref a] H (fun v _ => v = .bl true) fun _ _ _ => False := by
    refine ⟨fun _ => False, [.sh (.scr (ns.map T.int))], len1, rp, fun i hi => ?_, mS _ _ _ hS (fun r outs e v W' H' rl _ _ _ _ => ?_) fun _ _ _ z => z.elim⟩
    · cases i with
      | zero => rfl
      | succ i => omega
    · rw [show r = (false, .bl true) from e] at rl
      exact relE_bl rl
  have vals : Vals [V.ref a] [Value.ref a] := .cons rfl .nil
  refine codeAny_mono (go.go (us := [.ref a]) hr env bd1 vals sp) fun r s' z => ?_
  rcases r with e | (_ | _ | _ | u)
  · obtain ⟨_, _, _, _, _, _, _, _, _, _, _, _, no⟩ := z
    exact no.elim
  · exact False.elim z
  · exact False.elim z
  · exact False.elim z
  · obtain ⟨v, H', os, bare, un, ok', rv, q⟩ := z
    subst q
    cases rv
    refine ⟨rfl, OldK.of_keep fun b o e => ?_, os, bare⟩
    cases q : H b with
    | none => exact un.keep b o e q (fun z => by cases z) fun z => by cases z
    | some u =>
      obtain ⟨rfl, _, rfl⟩ := sc.only b u q
      obtain ⟨e2, _⟩ := ok' b _ (un.frzs b _ _ q)
      rw [ha] at e; cases e
      exact e2
theorem walk_G {l : PySem.W.OpenLaw} {n k : Nat} {q : Program} {loose : List Str} {XP : (Str → Option Value) → Heap → Prop} {YP : World → Heap → Prop} {d : DefRec} {S : Sx} (hn : l.most = some n) (hn2 : n ≤ sizeLine) (hdf : d.params.defaults = []) (hr : RoomG k callerA)
    (F : ∀ (w : World) (mg : Str → Option Value) (fa : Addr) (h : Heap), YP w h → h.Ns mainGlobals mg → mg d.name = some (.ref fa) → ∃ K : PySem.W.Frag, K.In h ∧ ∀ base : Heap, K.In base → base.Ns mainGlobals mg → FnX l.prog w K mg base k d.name S)
    (hS : ∀ ns : List Int, ns.length ≤ n → (∀ z ∈ ns, Builtin.Int.intBits z ≤ 1048576) → S [.sh (.scr (ns.map T.int))] ⟨fun r _ => r = (false, .bl true), fun _ _ _ => False⟩) :
    PySem.W.WalkO q loose XP YP l.row.toRowW d [] (fun f vs => PySem.call f vs) := by
  refine Att.attach_callB hn hdf fun w s₀ s₁ mg mb fa o pm cd doc a vs ns G Y ho hd hcd hmg hobj hints hlen hbits hg => ?_
  obtain ⟨K, KX, hF⟩ := F w mg fa _ Y G.T.g hmg
  exact law_end KX G.T.g G.T.b G.T.builtins G.T.nolimit hg hobj hints (Nat.le_trans hlen hn2) hr hF hmg (hS ns hlen hbits)
end O
namespace O
open PySem PySem.Spec PyProof.Rows L2
inductive Hq where
  | op (h : Hn) | ls (hs : List Hq) | tp (hs : List Hq)
mutual
def Hq.get (ρ : Rho) : Hq → Option T
  | .op h => h.get ρ
  | .ls hs => (Hq.gets ρ hs).map T.lst
  | .tp hs => (Hq.gets ρ hs).map T.tup
def Hq.gets (ρ : Rho) : List Hq → Option (List T)
  | [] => some []
  | h :: hs => match Hq.get ρ h, Hq.gets ρ hs with
    | some t, some ts => some (t :: ts)
    | _, _ => none
end
mutual
inductive RQ (K : PySem.W.Frag) (σ : L2.St) (ρ : Rho) (W : Ad) (H : Hp) : V → Hq → Prop
  | op {v : V} {h : Hn} : relO K σ ρ W H v h → RQ K σ ρ W H v (.op h)
  | ls {p : Addr} {vs : List V} {hs : List Hq} : H p = some (.lst vs) → ¬ W p → RQs K σ ρ W H vs hs → RQ K σ ρ W H (.ref p) (.ls hs)
  | tp {p : Addr} {vs : List V} {hs : List Hq} : H p = some (.tup vs) → ¬ W p → RQs K σ ρ W H vs hs → RQ K σ ρ W H (.ref p) (.tp hs)
inductive RQs (K : PySem.W.Frag) (σ : L2.St) (ρ : Rho) (W : Ad) (H : Hp) : List V → List Hq → Prop
  | nil : RQs K σ ρ W H [] []
  | cons {v : V} {h : Hq} {vs : List V} {hs : List Hq} : RQ K σ ρ W H v h → RQs K σ ρ W H vs hs → RQs K σ ρ W H (v :: vs) (h :: hs)
end
section
variable {K : PySem.W.Frag} {σ : L2.St} {ρ1 ρ2 : Rho} {W1 W2 P2 : Ad} {H1 H2 : Hp}
mutual
theorem RQ.step (rep : Rep K W1 H1 σ ρ1) (st : Step (Rt σ ρ1) W1 H1 P2 W2 H2) : ∀ {v : V} {h : Hq}, RQ K σ ρ1 W1 H1 v h → RQ K σ ρ2 W2 H2 v h
  | _, _, .op r => .op (relO_step r rep st)
  | _, _, .ls e n r => .ls (st.keep _ _ e fun z => n (rep.rt _ z)) (fun z => (st.new _ z).elim n fun q => by rw [q] at e; cases e) (RQs.step rep st r)
  | _, _, .tp e n r => .tp (st.keep _ _ e fun z => n (rep.rt _ z)) (fun z => (st.new _ z).elim n fun q => by rw [q] at e; cases e) (RQs.step rep st r)
theorem RQs.step (rep : Rep K W1 H1 σ ρ1) (st : Step (Rt σ ρ1) W1 H1 P2 W2 H2) : ∀ {v : List V} {h : List Hq}, RQs K σ ρ1 W1 H1 v h → RQs K σ ρ2 W2 H2 v h
  | _, _, .nil => .nil
  | _, _, .cons a b => .cons (RQ.step rep st a) (RQs.step rep st b)
end
theorem gets_cons {ρ : Rho} {h : Hq} {hs : List Hq} {ts : List T} (e : Hq.gets ρ (h :: hs) = some ts) : ∃ t us, ts = t :: us ∧ h.get ρ = some t ∧ Hq.gets ρ hs = some us := by
  unfold Hq.gets at e
  cases q : h.get ρ with
  | none => rw [q] at e; cases e
  | some t =>
    rw [q] at e
    cases q2 : Hq.gets ρ hs with
    | none => rw [q2] at e; cases e
    | some us => rw [q2] at e; cases e; exact ⟨t, us, rfl, rfl, rfl⟩
mutual
theorem RQ.dp (rep : Rep K W1 H1 σ ρ1) : ∀ {v : V} {h : Hq} {t : T} {d : PyData}, RQ K σ ρ1 W1 H1 v h → h.get ρ1 = some t → t.pd = some d → Dp K H1 v d
  | _, _, _, _, .op r, e, p => (isR_of rep r e).dp p
  | _, _, t, _, .ls e n r, g, p => by
    obtain ⟨ts, e1, e2⟩ := map_some g
    subst e2
    obtain ⟨ds, e3, e4⟩ := map_some p
    subst e4
    exact .lst (.of e) (RQs.dp rep r e1 e3)
  | _, _, t, _, .tp e n r, g, p => by
    obtain ⟨ts, e1, e2⟩ := map_some g
    subst e2
    obtain ⟨ds, e3, e4⟩ := map_some p
    subst e4
    exact .tup (.of e) (RQs.dp rep r e1 e3)
theorem RQs.dp (rep : Rep K W1 H1 σ ρ1) : ∀ {vs : List V} {hs : List Hq} {ts : List T} {ds : List PyData}, RQs K σ ρ1 W1 H1 vs hs → Hq.gets ρ1 hs = some ts → T.pdL ts = some ds → DpAll K H1 vs ds
  | _, _, _, _, .nil, e, p => by cases e; cases p; exact .nil
  | _, _, _, _, .cons a b, e, p => by
    obtain ⟨t, us, e1, e2, e3⟩ := gets_cons e
    subst e1
    obtain ⟨d, es, e4, e5, e6⟩ := pdL_cons p
    subst e4
    exact .cons (RQ.dp rep a e2 e5) (RQs.dp rep b e3 e6)
end
theorem RQs.length {vs : List V} {hs : List Hq} : RQs K σ ρ1 W1 H1 vs hs → vs.length = hs.length
  | .nil => rfl
  | .cons _ b => by rw [List.length_cons, List.length_cons, RQs.length b]
end
structure XQ (X : Cx) (Wx : WX) (e : Expr) (d : Dn Hq) : Prop where
  pe : PE X e (RD X.K (RQ X.K) nox Wx d)
  mn : Mn d
structure XQs (X : Cx) (Wx : WX) (es : List Expr) (d : Dn (List Hq)) : Prop where
  pa : PA X es (RD X.K (RQs X.K) nox Wx d)
  mn : Mn d
def qOp (d : Dn Hn) : Dn Hq := fun ρ Q => d ρ ⟨fun h ρ1 => Q.ok (.op h) ρ1, Q.ex⟩
def qNil : Dn (List Hq) := fun ρ Q => Q.ok [] ρ
def qCons (a : Dn Hq) (b : Dn (List Hq)) : Dn (List Hq) := fun ρ Q => a ρ ⟨fun h ρ1 => b ρ1 ⟨fun hs ρ2 => Q.ok (h :: hs) ρ2, Q.ex⟩, Q.ex⟩
def qLs (d : Dn (List Hq)) : Dn Hq := fun ρ Q => d ρ ⟨fun hs ρ1 => hs.length ≤ sizeLine ∧ Q.ok (.ls hs) ρ1, Q.ex⟩
def qTp (d : Dn (List Hq)) : Dn Hq := fun ρ Q => d ρ ⟨fun hs ρ1 => hs.length ≤ sizeLine ∧ Q.ok (.tp hs) ρ1, Q.ex⟩
theorem mn_qop {d : Dn Hn} (m : Mn d) : Mn (qOp d) := fun ρ Q Q' h k e => m _ _ _ h (fun _ _ q => k _ _ q) e
theorem mn_qls {d : Dn (List Hq)} (m : Mn d) : Mn (qLs d) := fun ρ Q Q' h k e => m _ _ _ h (fun _ _ q => ⟨q.1, k _ _ q.2⟩) e
section
variable {X : Cx} {Wx : WX} {e a b : Expr} {es : List Expr} {d da db : Dn Hq} {ds : Dn (List Hq)} {pos : Pos} {k : Nat}
theorem xq_op {d : Dn Hn} (h : XO X Wx e d) : XQ X Wx e (qOp d) := by
  refine ⟨PE.imp h.pe fun σ H Q ⟨W, ρ, rep, q⟩ => ?_, mn_qop h.mn⟩
  exact rd_first h.mn rep q fun h1 ρ1 q v W1 H1 rl rep1 st pn => q v W1 H1 (.op rl) rep1 st.noxx.toNox pn
theorem xq_nil : XQs X Wx [] qNil := ⟨PA.imp pa_nil fun σ H Q ⟨W, ρ, rep, h⟩ => h [] W H .nil rep (Step.refl _ _ _).toNox (Pn.refl _), fun ρ Q Q' h k _ => k _ _ h⟩
theorem xq_ls (h : XQs X Wx es ds) : XQ X Wx (.List es pos) (qLs ds) := by
  refine ⟨PE.imp (pe_lst h.pa) fun σ H Q ⟨W, ρ, rep, q⟩ => ?_, mn_qls h.mn⟩
  refine rd_first h.mn rep q fun hs ρ1 ⟨z, q⟩ vs W1 H1 rl rep1 st pn => ⟨by rw [rl.length]; exact z, fun p hp => ?_⟩
  have same := kept_upd (o := .lst vs) hp
  have nw : ¬ W1 p := fun z => by obtain ⟨o, e⟩ := rep1.wd p z; rw [hp] at e; cases e
  have stn : Step (Rt σ ρ1) W1 H1 (Rt σ ρ1) W1 (upd H1 p (.lst vs)) := Step.same same
  exact q _ W1 _ (.ls upd_same nw (rl.step rep1 stn)) (rep1.same same) ((st.noxx.trans rep.wd stn).toNox) pn
def dEqQ (n : Bool) (a b : Dn Hq) : Dn Rv := fun ρ Q => a ρ ⟨fun h1 ρ1 => b ρ1 ⟨fun h2 ρ2 => ∃ t, h1.get ρ2 = some t ∧ ∃ u, h2.get ρ2 = some u ∧ okD t ∧ okD u ∧ Q.ok (false, .bl (n != eqvO t.pd u.pd)) ρ2, Q.ex⟩, Q.ex⟩
theorem mn_eqQ {n : Bool} {a b : Dn Hq} (ma : Mn a) (mb : Mn b) : Mn (dEqQ n a b) := fun ρ Q Q' h k e =>
  ma _ _ _ h (fun h1 ρ1 h => mb _ _ _ h (fun h2 ρ2 ⟨t, i, u, j, o1, o2, q⟩ => ⟨t, i, u, j, o1, o2, k _ _ q⟩) e) e
theorem eqQ_run {n : Bool} {r : R2} (hr : ∀ x y H Q (d e : PyData), Dp X.K H x d → Dp X.K H y e → SeqAt.shaped d = true → SeqAt.shaped e = true → Q (.bl (n != PyData.eqv d e)) H → r x y H Q) (ma : Mn da) (mb : Mn db) (σ : L2.St) (H : Hp) (Q : VK) (h : RD X.K (relE X.K) xr Wx (dEqQ n da db) σ H Q) :
    tOp r (RD X.K (RQ X.K) nox Wx da) (RD X.K (RQ X.K) nox Wx db) σ H Q := by
  obtain ⟨W, ρ, rep, h⟩ := h
  refine rd_first ma rep h fun h1 ρ1 k1 v W1 H1 r1 rep1 st1 pn1 => ?_
  refine rd_next mb rep st1.noxx pn1 rep1 k1 fun h2 ρ2 ⟨t, i, u, j, ⟨d, ed, s1⟩, ⟨e, ee, s2⟩, q⟩ w W2 H2 r2 rep2 st12 st2 pn2 => ?_
  have r1' : RQ X.K σ ρ2 W2 H2 v h1 := r1.step rep1 st12
  have q' := q (.bl (n != PyData.eqv d e)) W2 H2 (by rw [ed, ee]; exact relE_sh (.bl _)) rep2 (by rw [xr_sh]; exact st2.noxx) pn2
  exact hr _ _ _ _ d e (r1'.dp rep2 i ed) (r2.dp rep2 j ee) s1 s2 q'
theorem xe_eqQ (hu : X.A.units + 64 < cLine) (ha : XQ X Wx a da) (hb : XQ X Wx b db) (hm : behindInMarks .Eq b = false := by first | exact nomark _ | rfl) : XE X Wx (.Compare a [.Eq] [b] pos) (dEqQ false da db) :=
  ⟨PE.imp (pe_cmpR (op_eqD hu) ha.pe hb.pe hm) fun σ H Q h => eqQ_run (fun x y H Q d e h1 h2 s1 s2 q => ⟨d, e, h1, h2, s1, s2, by rwa [Bool.false_bne] at q⟩) ha.mn hb.mn σ H Q h, mn_eqQ ha.mn hb.mn⟩
theorem xt_neQ (hu : X.A.units + 64 < cLine) (ha : XQ X Wx a da) (hb : XQ X Wx b db) (hm : behindInMarks .NotEq b = false := by first | exact nomark _ | rfl) : XT X Wx (.Compare a [.NotEq] [b] pos) (dBv (dEqQ true da db)) :=
  ⟨PT.imp (pt_cmpR (op_neD hu) ha.pe hb.pe hm) fun σ H Q q => eqQ_run (fun x y H Q d e h1 h2 s1 s2 q => ⟨d, e, h1, h2, s1, s2, by rwa [Bool.true_bne] at q⟩) ha.mn hb.mn σ H _ (tB_run (mn_eqQ ha.mn hb.mn) σ H Q q), mn_bv (mn_eqQ ha.mn hb.mn)⟩
def dRpQ (a : Dn Hq) : Dn Rv := fun ρ Q => a ρ ⟨fun h ρ1 => ∃ t, h.get ρ1 = some t ∧ (reprT t).pre ∧ Q.ok (reprT t).val ρ1, Q.ex⟩
end
end O
namespace O
open PySem PySem.Spec PyProof.Rows L2
def iSrc (K : PySem.W.Frag) (te : TE) : TI := fun σ H R => te σ H fun v H1 => (∃ a xs, v = .ref a ∧ SqL K H1 a xs ∧ R (Itl K a) H1) ∨ (∃ a xs, v = .ref a ∧ SqT K H1 a xs ∧ R (Itt K a) H1) ∨ ∃ x, v = .str x ∧ R (Its x) H1
theorem pi_src {X : Cx} {tg e : Expr} {te : TE} (he : PE X e te) : PI X tg e (iSrc X.K te) := ⟨fun pins s σ H R I h => by
  refine thn (he.run pins s σ H _ I h) ?_
  rintro v s1 ⟨x, H1, I1, r, ⟨a, xs, rfl, hx, q⟩ | ⟨a, xs, rfl, hx, q⟩ | ⟨z, rfl, q⟩⟩
  · cases r
    obtain ⟨its, rv, pl, _⟩ := I1.list hx
    exact wpAny_pyIter_list pl.isList (pi_one (tk := s1.toks) I1 _ (turn_list a _) ⟨_, Heap.get?_push_size _ rfl, rfl, rfl⟩ q)
  · cases r
    obtain ⟨its, rv, pl, _⟩ := I1.tuple hx
    exact wpAny_pyIter_tuple (show s1.heap.IsTuple a its.toArray from pl) (pi_one (tk := s1.toks) I1 _ (turn_tuple a _) ⟨_, Heap.get?_push_size _ rfl, rfl, rfl⟩ q)
  · obtain ⟨t, rfl⟩ := r
    by_cases asc : z.cps.all (· < 128) = true
    · exact wpAny_pyIter_ascii asc (pi_one (tk := s1.toks) I1 _ (turn_str _ z t "str_ascii_iterator" (.inl rfl)) ⟨_, Heap.get?_push_size _ rfl, rfl, rfl⟩ q)
    · exact wpAny_pyIter_wide (by simpa using asc) (pi_one (tk := s1.toks) I1 _ (turn_str _ z t "str_iterator" (.inr rfl)) ⟨_, Heap.get?_push_size _ rfl, rfl, rfl⟩ q)⟩
theorem yl_str {K : PySem.W.Frag} {W : Ad} {H : Hp} (l : List Nat) : Yl K W H (Its (S l)) (l.map fun c => .str [c]) := by
  intro W3 H3 lt wd
  refine ⟨?_, fun i t e => ?_⟩
  · show (S l).cps.size ≤ _
    simp [S]
  · rw [List.getElem?_map, Option.map_eq_some_iff] at e
    obtain ⟨c, e, e'⟩ := e
    subst e'
    have hi := (List.getElem?_eq_some_iff.mp e).1
    refine ⟨by show i < (S l).cps.size; simpa [S] using hi, fun v H4 ⟨eH, c', ec, ev⟩ => ?_⟩
    subst eH ev
    have : l[i]? = some c' := by simpa [S] using ec
    rw [e] at this; cases this
    exact ⟨fun _ _ z => z, .str [c]⟩
section
variable {X : Cx} {Wx : WX} {e tg : Expr} {de : Dn Rv}
theorem xi_src (h : XE X Wx e de) : XI X Wx tg e (dSrc de) := by
  refine ⟨PI.imp (pi_src h.pe) fun σ H R ⟨W, ρ, rep, q⟩ => ?_, mn_src h.mn⟩
  refine ⟨W, ρ, rep, h.mn _ _ _ q (fun r ρ1 ⟨ts, e, q⟩ v W1 H1 rl rep1 st pn => ?_) fun _ _ _ z => z⟩
  obtain ⟨W2, s, is, rp2, st2⟩ := demote rep.wd rl rep1 st
  generalize r.2 = t at e is
  cases is with
  | lst r n l => cases e; exact .inl ⟨_, _, rfl, .of r, q _ W2 H1 rp2 st2 pn (yl_list fun W3 H3 lt => ⟨.of (lt.keep _ _ r n), l.lt lt⟩)⟩
  | scr r n l => cases e; exact .inl ⟨_, _, rfl, .inl (.inr ⟨_, r⟩), q _ W2 H1 rp2 st2 pn (yl_list fun W3 H3 lt => ⟨.inl (.inr ⟨_, lt.keep _ _ r n⟩), l.lt lt⟩)⟩
  | scrK r l => cases e; exact .inl ⟨_, _, rfl, .inr r, q _ W2 H1 rp2 st2 pn (yl_list fun W3 H3 lt => ⟨.inr r, l.lt lt⟩)⟩
  | tup r n l => cases e; exact .inr (.inl ⟨_, _, rfl, .of r, q _ W2 H1 rp2 st2 pn (yl_tup fun W3 H3 lt => ⟨.of (lt.keep _ _ r n), l.lt lt⟩)⟩)
  | tupK r l => cases e; exact .inr (.inl ⟨_, _, rfl, .inr r, q _ W2 H1 rp2 st2 pn (yl_tup fun W3 H3 lt => ⟨.inr r, l.lt lt⟩)⟩)
  | str l => cases e; exact .inr (.inr ⟨_, rfl, q _ W2 H1 rp2 st2 pn (yl_str l)⟩)
  | _ => cases e
theorem xe_gint {x : Str} {i : Int} {pos : Pos} (g : ∃ t, X.mg x = some (.int i t)) (hg : Gl X x := by rfl) (hd : (x == ("__debug__" : Str)) = false := by decide) : XE X Wx (.Name x pos) (dC (.int i)) := by
  obtain ⟨t, g⟩ := g
  exact xe_glob (v := .int i) hg g ⟨t, rfl⟩ (fun _ _ => .int i) hd
theorem xe_ty (n : String) {x : Str} {pos : Pos} (hm : X.mg x = none) (hv : bootBuiltins x = some (.type n)) (hg : Gl X x := by rfl) (hn : x ≠ "__name__" := by decide) (hd : (x == ("__debug__" : Str)) = false := by decide) : XE X Wx (.Name x pos) (dC (.ty n)) :=
  xe_bltn hg hm hv (v := .ty n) rfl (fun _ _ => .ty n) hn hd
end
end O
namespace O
open PySem PySem.Spec PyProof.Rows L2
def keyT : T → Option Key
  | .int i => some (.inl i)
  | .str l => some (.inr (S l))
  | _ => none
def keysT : List T → Option (List (Key × T))
  | [] => some []
  | [_] => none
  | a :: b :: r => match keyT a, keysT r with
    | some k, some ks => some ((k, b) :: ks)
    | _, _ => none
def flat : List (V × V) → List V
  | [] => []
  | p :: r => p.1 :: p.2 :: flat r
structure XPs (X : Cx) (Wx : WX) (pos : Pos) (keys : List (Option Expr)) (values : List Expr) (d : Dn (List Hn)) : Prop where
  run : ∀ (pins : List (Addr × Obj)) (s : Shared) (σ : L2.St) (H : Hp) (Q : List (V × V) → Hp → Prop), Inv X pins σ H s → RD X.K (relOs X.K) nox Wx d σ H (fun vs H' => ∀ ps, flat ps = vs → Q ps H') →
    wpAny (model X.prog X.w) X.A (evalPairs (pairTrees keys values X.env pos)) (fun vs s' => ∃ ps H', Inv X pins σ H' s' ∧ VV ps vs ∧ Q ps H') X.xe s
  mn : Mn d
section
variable {X : Cx} {Wx : WX} {pos : Pos} {k v : Expr} {ks : List (Option Expr)} {vs : List Expr} {dk dv : Dn Hn} {dr : Dn (List Hn)}
theorem xps_nil : XPs X Wx pos [] [] dNil :=
  ⟨fun pins s σ H Q I ⟨W, ρ, rep, h⟩ => pairTrees_nil_walk ⟨[], H, I, .nil, h [] W H .nil rep (Step.refl _ _ _).toNox (Pn.refl _) [] rfl⟩, mn_nil⟩
theorem xps_cons (hk : XO X Wx k dk) (hv : XO X Wx v dv) (hr : XPs X Wx pos ks vs dr) : XPs X Wx pos (some k :: ks) (v :: vs) (dCons dk (dCons dv dr)) := by
  refine ⟨fun pins s σ H Q I ⟨W, ρ, rep, h⟩ => ?_, mn_cons hk.mn (mn_cons hv.mn hr.mn)⟩
  let Q3 : V → V → List V → Hp → Prop := fun x y vs H' => ∀ ps, flat ps = vs → Q ((x, y) :: ps) H'
  let Q2 : V → V → Hp → Prop := fun x y H' => RD X.K (relOs X.K) nox Wx dr σ H' (Q3 x y)
  have h1 : RD X.K (relO X.K) nox Wx dk σ H fun x H1 => RD X.K (relO X.K) nox Wx dv σ H1 (Q2 x) := by
    refine rd_first (rel := relOs X.K) (ext := nox) (Q := fun vs H' => ∀ ps, flat ps = vs → Q ps H') hk.mn rep h fun h1 ρ1 k1 x W1 H1 r1 rep1 st1 pn1 => ?_
    refine rd_next (rel := relOs X.K) (ext := nox) (Q := fun vs H' => ∀ ps, flat ps = vs → Q ps H') hv.mn rep st1.noxx pn1 rep1 k1 fun h2 ρ2 k2 y W2 H2 r2 rep2 st12 st2 pn2 => ?_
    refine rd_next (rel := relOs X.K) (ext := nox) (Q := fun vs H' => ∀ ps, flat ps = vs → Q ps H') hr.mn rep st2.noxx pn2 rep2 k2 fun hs ρ3 q ws W3 H3 r3 rep3 st23 st3 pn3 ps e => ?_
    have r1' := relO_step (ρ2 := ρ2) r1 rep1 st12
    exact q (x :: y :: ws) W3 H3 (.cons (relO_step r1' rep2 st23) (.cons (relO_step r2 rep2 st23) r3)) rep3 st3.noxx.toNox pn3 _ (by rw [← e]; rfl)
  exact pairTrees_cons_walk (thn (hk.pe.run pins s σ H _ I h1) fun u s1 ⟨x, H1, I1, rx, q1⟩ => thn (hv.pe.run pins s1 σ H1 _ I1 q1) fun w2 s2 ⟨y, H2, I2, ry, q2⟩ =>
    thn (hr.run pins s2 σ H2 (fun ps H' => Q ((x, y) :: ps) H') I2 q2) fun ws s3 ⟨ps, H3, I3, rel, q3⟩ => ⟨(x, y) :: ps, H3, I3, .cons ⟨rx, ry⟩ rel, q3⟩)
end
/-- an object that stood aside is tracked from here on -/
theorem took {X : Cx} {pins : List (Addr × Obj)} {σ : L2.St} {H : Hp} {s : Shared} {p : Addr} {o : HO} {h' : Heap} {t' : Nat} (I : Inv X pins σ H s) (k : ∀ b u, b ≠ p → s.heap.get? b = some u → h'.get? b = some u) (hn : H p = none) (hL : p ≠ X.env.locals)
    (h1 : p ∈ X.ex ∨ X.s_0.heap.objs.size ≤ p) (h2 : ∀ x c, X.env.cells.lookup x = some c → c ≠ p) (h3 : ∀ q ∈ X.pn ++ pins, q.1 ≠ p) (he : ∃ u, h'.get? p = some u) (new : ObjOk X.prog X.w (upd H p o) h' p o) :
    Inv X pins σ (upd H p o) { s with heap := h', toks := t' } := by
  have np : ∀ b u, H b = some u → b ≠ p := fun b u e z => by rw [z, hn] at e; cases e
  have up : ∀ b u, H b = some u → upd H p o b = some u := fun b u e => by rw [upd_ne (np b u e)]; exact e
  refine I.step (g' := s.gens) (d' := s.drawn) (ch := [p]) (fun b hb => ?_) (fun b u _ _ hc e _ => k b u (fun z => hc (by simp [z])) e) (fun b u _ _ hc e _ => ⟨u.slots, k b u (fun z => hc (by simp [z])) e⟩)
    (fun b u hc _ e => ?_) (fun b u hc e => ⟨u, k b u (fun z => hc (by simp [z])) e⟩) (fun b xs e => up _ _ e) (fun b u xs e => up _ _ e) (fun b ps e => ⟨#[], by rw [up _ _ e]; simp⟩) (fun m hm => ?_) (fun b u e => ?_) I.bare
  · have e : b = p := by simpa using hb
    subst e
    exact ⟨h1, hL, h2, h3⟩
  · have hc : b ≠ p := by simpa using hc
    rw [upd_ne hc]; exact e
  · obtain ⟨ob, es, ep, ho, r⟩ := hm
    exact ⟨ob, es, ep, k _ ob (Ne.symm hL) ho, r⟩
  · by_cases hb : b = p
    · subst hb; rw [upd_same] at e; cases e; exact new
    · rw [upd_ne hb] at e
      refine (I.hok b u e).stay (fun c v hc q => k c v ?_ q) (fun c q => up _ _ q) fun c xs q => up _ _ q
      rcases hc with z | z
      · rw [z]; exact hb
      · exact np _ _ z
theorem putK_new {m : List (Key × V)} {k : Key} {v : V} (h : k ∉ m.map (·.1)) : putK m k v = m ++ [(k, v)] := by
  unfold putK
  rw [if_neg]
  intro z
  obtain ⟨q, hq, e⟩ := List.any_eq_true.mp z
  exact h (by rw [← of_decide_eq_true e]; exact List.mem_map_of_mem hq)
theorem mergeK_new : ∀ (more m : List (Key × V)), ((m ++ more).map (·.1)).Nodup → mergeK m more = m ++ more
  | [], m, _ => by show m = m ++ []; rw [List.append_nil]
  | q :: more, m, h => by
    show mergeK (putK m q.1 q.2) more = _
    have nq : q.1 ∉ m.map (·.1) := by
      rw [List.map_append, List.nodup_append] at h
      intro z
      exact h.2.2 _ z q.1 (by simp) rfl
    rw [putK_new nq, mergeK_new more _ (by simpa using h)]
    simp
def dDict (d : Dn (List Hn)) : Dn Rv := fun ρ Q => d ρ ⟨fun hs ρ1 => ∃ ts ks, tms hs = some ts ∧ keysT ts = some ks ∧ (ks.map (·.1)).Nodup ∧ ks.length ≤ sizeLine ∧ Q.ok (true, .dK ks) ρ1, Q.ex⟩
theorem mn_dict {d : Dn (List Hn)} (m : Mn d) : Mn (dDict d) := fun ρ Q Q' h k e => m _ _ _ h (fun hs ρ1 ⟨ts, ks, a, b, c, l, q⟩ => ⟨ts, ks, a, b, c, l, k _ _ q⟩) e
theorem keyT_is {K : PySem.W.Frag} {W : Ad} {H : Hp} {v : V} {t : T} {k : Key} (h : Is K W H v t) (e : keyT t = some k) : v = kV k := by
  cases h <;> first | (cases e; rfl) | cases e
theorem keysT_is {K : PySem.W.Frag} {W : Ad} {H : Hp} : ∀ {ts : List T} {ks : List (Key × T)} {ps : List (V × V)}, keysT ts = some ks → IsL K W H (flat ps) ts →
    ∃ kvs : List (Key × V), ps = kvs.map (fun kv => (kV kv.1, kv.2)) ∧ kvs.map (·.1) = ks.map (·.1) ∧ IsP K W H Key kvs ks
  | [], _, [], e, _ => by cases e; exact ⟨[], rfl, rfl, .nil⟩
  | [], _, q :: ps, e, h => by cases h
  | [_], _, _, e, _ => by cases e
  | a :: b :: r, _, [], e, h => by cases h
  | a :: b :: r, ks, q :: ps, e, h => by
    unfold keysT at e
    cases ek : keyT a with
    | none => rw [ek] at e; cases e
    | some k =>
      rw [ek] at e
      cases er : keysT r with
      | none => rw [er] at e; cases e
      | some kr =>
        rw [er] at e
        cases e
        cases h with
        | cons ha h =>
          cases h with
          | cons hb h =>
            obtain ⟨kvs, e1, e2, e3⟩ := keysT_is er h
            refine ⟨(k, q.2) :: kvs, ?_, ?_, .cons hb e3⟩
            · rw [List.map_cons, ← e1, ← keyT_is ha ek]
            · rw [List.map_cons, List.map_cons, e2]
section
variable {X : Cx} {Wx : WX} {pos : Pos} {keys : List (Option Expr)} {values : List Expr} {d : Dn (List Hn)}
theorem xe_dict (h : XPs X Wx pos keys values d) (hall : keys.all (·.isSome) = true) (hl : keys.length = values.length) (h0 : keys ≠ []) (h15 : keys.length ≤ 15) : XE X Wx (.Dict keys values pos) (dDict d) := by
  refine ⟨⟨fun pins s σ H Q I ⟨W, ρ, rep, q⟩ => ?_⟩, mn_dict h.mn⟩
  let p : Addr := s.heap.objs.size
  let o0 : Obj := { cls := .type "dict", data := .dict #[] }
  have at0 : (s.heap.push o0).get? p = some o0 := Heap.get?_push_size _ rfl
  have I0 : Inv X pins σ H { s with heap := s.heap.push o0, toks := s.toks } := I.kept fun b u e => Heap.get?_push_of_some _ e
  have np : ∀ q ∈ X.pn ++ pins, q.1 ≠ p := fun q hq => Nat.ne_of_lt (Heap.lt_size (I.pin q hq).1)
  have I1 : Inv X ((p, o0) :: pins) σ H { s with heap := s.heap.push o0, toks := s.toks } := I0.pins_of fun q hq => by
    rcases List.mem_cons.mp hq with z | z
    · subst z; exact ⟨at0, I.hok.fresh (Nat.le_refl _), Ne.symm (Nat.ne_of_lt I.lt), I.nofs (Nat.le_refl _), fun v e => nomatch e⟩
    · exact I0.pin q (List.mem_append_right _ z)
  refine wpAny_Dict_walk (knd := mixKind X.prog X.w) hall hl h0 h15 (thn (h.run _ _ σ H (fun ps H2 => ∃ kvs : List (Key × V), ps = kvs.map (fun kv => (kV kv.1, kv.2)) ∧ (kvs.map (·.1)).Nodup ∧ kvs.length ≤ sizeLine ∧ ∀ p, H2 p = none → Q (.ref p) (upd H2 p (.dK kvs))) I1 ?_) fun ws s2 ⟨ps, H2, I2, rel, kvs, ep, nd, lk, q2⟩ => ?_)
  · refine rd_first h.mn rep q fun hs ρ1 ⟨ts, ks, e, e2, nd, z, q⟩ vs W1 H1 rl rep1 st pn ps ef => ?_
    have e := tms_map e
    subst e ef
    obtain ⟨kvs, e3, e4, il⟩ := keysT_is e2 (relOs_tm rl)
    refine ⟨kvs, e3, by rw [e4]; exact nd, by rw [il.length]; exact z, fun p hp => ?_⟩
    have rs : Res X.K W1 H1 (true, .dK ks) (.ref p) (upd H1 p (.dK kvs)) := .newO hp ⟨kvs, upd_same, il.keep (P := fun _ => False) (fun q u e _ => kept_upd hp q u e) (fun _ z => z.elim) fun q z => z.elim .inl fun e => .inr (by rw [e]; exact hp)⟩
    obtain ⟨W', rl', rep', st'⟩ := Res.post rep1 rs
    exact q _ W' _ rl' rep' (st.noxx.trans rep.wd st') pn
  · subst ep
    obtain ⟨rs, c, rk⟩ := carries_of (P := X.prog) (w := X.w) rel
    obtain ⟨e1, e2, e3, e4, e5⟩ := I2.pin (p, o0) (List.mem_append_right _ (List.mem_cons_self ..))
    have dd : s2.heap.DictOf (mixKind X.prog X.w) p [] := ⟨o0, #[], 0, e1, ⟨rfl, rfl, rfl⟩, rfl, fun _ he => by simp at he, Pairs.nil, List.nodup_nil⟩
    have J : Inv X pins σ H2 s2 := I2.pins_of fun q hq => I2.pin q (List.mem_append_right _ (List.mem_cons_of_mem _ hq))
    refine ⟨rs, c, dd, fun h' dd' hs => ⟨.ref p, upd H2 p (.dK kvs), ?_, rfl, q2 p e2⟩⟩
    have km : KV kvs (merged [] rs) := by
      have := rk.merge (kvs := []) (vs := []) .nil
      rw [mergeK_new kvs [] (by simpa using nd)] at this
      simpa using this
    refine took J (fun b u nb e => (hs.2 b nb).trans e) e2 e3 (.inr I.sz) (fun x c e z => ?_) np (let ⟨q, _, _, hq, _⟩ := dd'; ⟨q, hq⟩) (dk_new lk (beq_eq_false_iff_ne.mpr (Ne.symm (Nat.ne_of_lt I.big))) km dd')
    obtain ⟨cv, oc, ho, hd⟩ := J.cell x c e
    rw [z, e1] at ho
    cases ho
    cases hd
def dDict0 : Dn Rv := fun ρ Q => Q.ok (true, .dK []) ρ
theorem xe_dict0 : XE X Wx (.Dict [] [] pos) dDict0 := by
  refine ⟨PE.imp pe_dnewK fun σ H Q ⟨W, ρ, rep, q⟩ p hp => ?_, fun ρ Q Q' h k _ => k _ _ h⟩
  have rs : Res X.K W H (true, .dK []) (.ref p) (upd H p (.dK [])) := .newO hp ⟨[], upd_same, .nil⟩
  obtain ⟨W', rl', rep', st'⟩ := Res.post rep rs
  exact q _ W' _ rl' rep' st' (Pn.refl _)
end
end O
namespace O
open PySem PySem.Spec PyProof.Rows L2
def keyP : Key → PyData
  | .inl i => .int i
  | .inr x => .str x
mutual
def T.pq : T → Option PyData
  | .non => some .none
  | .bl b => some (.bool b)
  | .int i => some (.int i)
  | .str l => some (.str (S l))
  | .lst ts => (T.pqL ts).map PyData.list
  | .scr ts => (T.pqL ts).map PyData.list
  | .tup ts => (T.pqL ts).map PyData.tuple
  | .dK ts => (T.pqP ts).map PyData.dict
  | _ => none
def T.pqL : List T → Option (List PyData)
  | [] => some []
  | t :: ts => (T.pq t).bind fun d => (T.pqL ts).map fun ds => d :: ds
def T.pqP : List (Key × T) → Option (List (PyData × PyData))
  | [] => some []
  | (k, t) :: ts => (T.pq t).bind fun d => (T.pqP ts).map fun ds => (keyP k, d) :: ds
end
/-- the written part holds the table of modules -/
def Sys (K : PySem.W.Frag) : Prop := ∃ o, K.lookup sysModules = some o ∧ o.cls = .type "dict"
def Tells (X : Cx) (H : Hp) (v : V) (d : PyData) : Prop := ∀ pins σ s, Inv X pins σ H s → ∀ u, RelV v u → ∃ as, Reads s.heap u d as ∧ sysModules ∉ as
def TellsA (X : Cx) (H : Hp) (vs : List V) (ds : List PyData) : Prop := ∀ pins σ s, Inv X pins σ H s → ∀ us, Vals vs us → ∃ as, ReadsAll s.heap us ds as ∧ sysModules ∉ as
theorem bind_some {α β : Type} {f : α → Option β} {o : Option α} {b : β} (h : o.bind f = some b) : ∃ a, o = some a ∧ f a = some b := Option.bind_eq_some_iff.mp h
section
variable {X : Cx} {W : Ad} {H : Hp}
theorem Sys.ne (sy : Sys X.K) {pins : List (Addr × Obj)} {σ : L2.St} {s : Shared} (I : Inv X pins σ H s) {a : Addr} {o : Obj} (e : s.heap.get? a = some o) (n : o.cls ≠ .type "dict") : sysModules ≠ a := fun z => by
  obtain ⟨q, l, c⟩ := sy
  have := I.kIn _ _ l
  rw [z, e] at this
  cases this
  exact n c
theorem TellsA.nil : TellsA X H [] [] := fun pins σ s I us r => by cases r; exact ⟨_, .nil, List.not_mem_nil⟩
theorem TellsA.cons {v : V} {vs : List V} {d : PyData} {ds : List PyData} (a : Tells X H v d) (b : TellsA X H vs ds) : TellsA X H (v :: vs) (d :: ds) := fun pins σ s I us r => by
  cases r with
  | cons r1 r2 =>
    obtain ⟨as, h1, n1⟩ := a pins σ s I _ r1
    obtain ⟨bs, h2, n2⟩ := b pins σ s I _ r2
    exact ⟨_, .cons h1 h2, fun z => (List.mem_append.mp z).elim n1 n2⟩
theorem Tells.ofL (sy : Sys X.K) {p : Addr} {xs : List V} {ds : List PyData} (h : SqL X.K H p xs) (r : TellsA X H xs ds) : Tells X H (.ref p) (.list ds) := fun pins σ s I u ru => by
  cases (show u = Value.ref p from ru)
  obtain ⟨its, rv, ⟨o, n, ho, hc, _, hd⟩, _⟩ := I.list h
  obtain ⟨as, hr, n⟩ := r pins σ s I _ rv
  exact ⟨_, .list ho hc hd hr, fun z => (List.mem_cons.mp z).elim (sy.ne I ho (by rw [hc]; decide)) n⟩
theorem Tells.ofT {p : Addr} {xs : List V} {ds : List PyData} (h : SqT X.K H p xs) (r : TellsA X H xs ds) : Tells X H (.ref p) (.tuple ds) := fun pins σ s I u ru => by
  cases (show u = Value.ref p from ru)
  obtain ⟨its, rv, ⟨o, ho, hc, n, hd⟩, _⟩ := I.tuple h
  obtain ⟨as, hr, n⟩ := r pins σ s I _ rv
  exact ⟨_, .tuple ho hc hd hr, n⟩
inductive TellsP (X : Cx) (H : Hp) : List (Key × V) → List (PyData × PyData) → Prop
  | nil : TellsP X H [] []
  | cons {k : Key} {v : V} {d : PyData} {kvs : List (Key × V)} {ds : List (PyData × PyData)} : Tells X H v d → TellsP X H kvs ds → TellsP X H ((k, v) :: kvs) ((keyP k, d) :: ds)
theorem key_reads {P : Program} {w : World} {h : Heap} {k : Key} {u : Value} (e : (mixKind P w).is k u = true) : Reads h u (keyP k) [] := by
  rcases keyIs_shape e with ⟨i, t, rfl, rfl⟩ | ⟨x, t, rfl, rfl⟩
  · exact .int i t
  · exact .str x t
theorem TellsP.reads {pins : List (Addr × Obj)} {σ : L2.St} {s : Shared} (I : Inv X pins σ H s) : ∀ {kvs : List (Key × V)} {ds : List (PyData × PyData)} {vs : List (Key × Value)} {es : List DictEntry}, TellsP X H kvs ds → KV kvs vs → Pairs (mixKind X.prog X.w) es vs →
    ∃ as bs, ReadsAll s.heap (es.map (·.key)) (ds.map (·.1)) as ∧ ReadsAll s.heap (es.map (·.val)) (ds.map (·.2)) bs ∧ sysModules ∉ as ∧ sysModules ∉ bs
  | _, _, _, _, .nil, r, q => by cases r; cases q; exact ⟨_, _, .nil, .nil, List.not_mem_nil, List.not_mem_nil⟩
  | _, _, _, _, .cons a b, r, q => by
    cases r with
    | cons r1 r2 =>
      cases q with
      | cons q1 q2 q3 =>
        obtain ⟨as, bs, h1, h2, h3, h4⟩ := TellsP.reads I b r2 q3
        obtain ⟨cs, h5, h6⟩ := a pins σ s I _ r1.2
        rw [← q2] at h5
        have k1 := r1.1
        rw [← k1] at q1
        exact ⟨_, _, .cons (key_reads q1) h1, .cons h5 h2, by simpa using h3, fun z => (List.mem_append.mp z).elim h6 h4⟩
theorem Tells.ofD {p : Addr} {kvs : List (Key × V)} {ds : List (PyData × PyData)} (h : H p = some (.dK kvs)) (r : TellsP X H kvs ds) : Tells X H (.ref p) (.dict ds) := fun pins σ s I u ru => by
  cases (show u = Value.ref p from ru)
  obtain ⟨_, ns, vs, rel, o, es, ep, ho, hx, hd, _, pr, _⟩ := dk_of I.hok h
  obtain ⟨as, bs, h1, h2, h3, h4⟩ := TellsP.reads I r rel pr
  refine ⟨_, .dict ho hx.1 hd h1 h2, fun z => ?_⟩
  rcases List.mem_append.mp z with z | z
  · rcases List.mem_cons.mp z with z | z
    · rw [z] at ns; simp at ns
    · exact h3 z
  · exact h4 z
mutual
theorem Is.tells (sy : Sys X.K) : ∀ {v : V} {t : T} {d : PyData}, Is X.K W H v t → t.pq = some d → Tells X H v d
  | _, _, _, .non, e => by cases e; exact fun _ _ _ _ u r => by cases r; exact ⟨_, .none, List.not_mem_nil⟩
  | _, _, _, .bl b, e => by cases e; exact fun _ _ _ _ u r => by cases r; exact ⟨_, .bool b, List.not_mem_nil⟩
  | _, _, _, .int i, e => by cases e; exact fun _ _ _ _ u r => by obtain ⟨t, rfl⟩ := r; exact ⟨_, .int i t, List.not_mem_nil⟩
  | _, _, _, .str l, e => by cases e; exact fun _ _ _ _ u r => by obtain ⟨t, rfl⟩ := r; exact ⟨_, .str _ t, List.not_mem_nil⟩
  | _, _, _, .ty n, e => by cases e
  | _, _, _, .fn a, e => by cases e
  | _, _, _, .lst r n l, e => by obtain ⟨ds, e1, e2⟩ := map_some e; subst e2; exact .ofL sy (.of r) (IsL.tells sy l e1)
  | _, _, _, .scr r n l, e => by obtain ⟨ds, e1, e2⟩ := map_some e; subst e2; exact .ofL sy (.inl (.inr ⟨_, r⟩)) (IsL.tells sy l e1)
  | _, _, _, .scrK r l, e => by obtain ⟨ds, e1, e2⟩ := map_some e; subst e2; exact .ofL sy (.inr r) (IsL.tells sy l e1)
  | _, _, _, .tup r n l, e => by obtain ⟨ds, e1, e2⟩ := map_some e; subst e2; exact .ofT (.of r) (IsL.tells sy l e1)
  | _, _, _, .tupK r l, e => by obtain ⟨ds, e1, e2⟩ := map_some e; subst e2; exact .ofT (.inr r) (IsL.tells sy l e1)
  | _, _, _, .dK r n l, e => by obtain ⟨ds, e1, e2⟩ := map_some e; subst e2; exact .ofD r (IsP.tells sy l rfl rfl (HEq.refl _) (HEq.refl _) e1)
  | _, _, _, .dT r n l, e => by cases e
  | _, _, _, .ins _ r n l, e => by cases e
theorem IsL.tells (sy : Sys X.K) : ∀ {vs : List V} {ts : List T} {ds : List PyData}, IsL X.K W H vs ts → T.pqL ts = some ds → TellsA X H vs ds
  | _, _, _, .nil, e => by cases e; exact .nil
  | _, _, _, .cons a b, e => by
    obtain ⟨d, e1, e2⟩ := bind_some e
    obtain ⟨es, e3, e4⟩ := map_some e2
    subst e4
    exact .cons (Is.tells sy a e1) (IsL.tells sy b e3)
theorem IsP.tells (sy : Sys X.K) : ∀ {κ : Type} {vs : List (κ × V)} {ts : List (κ × T)}, IsP X.K W H κ vs ts → ∀ {vs' : List (Key × V)} {ts' : List (Key × T)} {ds : List (PyData × PyData)}, κ = Key → κ = Key → HEq vs vs' → HEq ts ts' → T.pqP ts' = some ds → TellsP X H vs' ds
  | _, _, _, .nil, vs', ts', ds, k1, _, h1, h2, e => by subst k1; cases h1; cases h2; cases e; exact .nil
  | _, _, _, .cons a b, vs', ts', ds, k1, k2, h1, h2, e => by
    subst k1
    cases h1
    cases h2
    obtain ⟨d, e1, e2⟩ := bind_some e
    obtain ⟨es, e3, e4⟩ := map_some e2
    subst e4
    exact .cons (Is.tells sy a e1) (IsP.tells sy b rfl rfl (HEq.refl _) (HEq.refl _) e3)
end
theorem IsR.tells (sy : Sys X.K) {v : V} {t : T} {d : PyData} (h : IsR X.K W H v t) (e : t.pq = some d) : Tells X H v d := by
  rcases h with h | ⟨p, e1, h⟩
  · exact h.tells sy e
  · subst e1
    cases t with
    | lst ts => obtain ⟨xs, r, l⟩ := h; obtain ⟨ds, e1, e2⟩ := map_some e; subst e2; exact .ofL sy (.of r) (IsL.tells sy l e1)
    | dK ts => obtain ⟨xs, r, l⟩ := h; obtain ⟨ds, e1, e2⟩ := map_some e; subst e2; exact .ofD r (IsP.tells sy l rfl rfl (HEq.refl _) (HEq.refl _) e1)
    | _ => first | exact h.elim | cases e
end
def T.box : T → Bool
  | .lst _ => true
  | .scr _ => true
  | .tup _ => true
  | .dK _ => true
  | _ => false
def reprD (a : T) : Ot := match a.box, a.pq with
  | true, some d => .when (shOk d) (.str d.shown.cps.toList)
  | _, _ => .no
def rReprD (X : Cx) : List V → Hp → VK → Prop := fun xs H Q => ∃ (a : Addr) (d : PyData), xs = [.ref a] ∧ Tells X H (.ref a) d ∧ shOk d ∧ Q (.str d.shown) H
theorem IsR.box {K : PySem.W.Frag} {W : Ad} {H : Hp} {v : V} {t : T} (h : IsR K W H v t) (e : t.box = true) : ∃ p, v = .ref p := by
  rcases h with h | ⟨p, e1, h⟩
  · cases h <;> first | exact ⟨_, rfl⟩ | cases e
  · exact ⟨p, e1⟩
section
variable {X : Cx} {Wx : WX} {σ : L2.St} {ρ1 : Rho} {W1 : Ad} {H1 : Hp} {e : Expr} {d : Dn Hq} {pos : Pos}
theorem call_reprD (hg : X.A.guards = some []) (hu : X.A.units + 66 < cLine) : CallR X (.builtin "repr") (rReprD X) := by
  rintro pins s σ H xs us Q I r ⟨a, d, rfl, dp, ⟨h1, h2, h3⟩, q⟩
  cases r with | cons ru rr => cases rr with | nil =>
  cases (show _ = Value.ref a from ru)
  obtain ⟨as, rd, ns⟩ := dp pins σ s I _ rfl
  exact repr_of_reads' rd h1 (fun _ => ns) hg (by omega) (fun _ _ e => e) (fun h' u tk keep => ⟨.str d.shown, H, I.kept keep, ⟨u, rfl⟩, q⟩) h3
mutual
theorem RQ.tells (sy : Sys X.K) (rep : Rep X.K W1 H1 σ ρ1) : ∀ {v : V} {h : Hq} {t : T} {d : PyData}, RQ X.K σ ρ1 W1 H1 v h → h.get ρ1 = some t → t.pq = some d → Tells X H1 v d
  | _, _, _, _, .op r, e, p => (isR_of rep r e).tells sy p
  | _, _, t, _, .ls e n r, g, p => by
    obtain ⟨ts, e1, e2⟩ := map_some g
    subst e2
    obtain ⟨ds, e3, e4⟩ := map_some p
    subst e4
    exact .ofL sy (.of e) (RQs.tells sy rep r e1 e3)
  | _, _, t, _, .tp e n r, g, p => by
    obtain ⟨ts, e1, e2⟩ := map_some g
    subst e2
    obtain ⟨ds, e3, e4⟩ := map_some p
    subst e4
    exact .ofT (.of e) (RQs.tells sy rep r e1 e3)
theorem RQs.tells (sy : Sys X.K) (rep : Rep X.K W1 H1 σ ρ1) : ∀ {vs : List V} {hs : List Hq} {ts : List T} {ds : List PyData}, RQs X.K σ ρ1 W1 H1 vs hs → Hq.gets ρ1 hs = some ts → T.pqL ts = some ds → TellsA X H1 vs ds
  | _, _, _, _, .nil, e, p => by cases e; cases p; exact .nil
  | _, _, _, _, .cons a b, e, p => by
    obtain ⟨t, us, e1, e2, e3⟩ := gets_cons e
    subst e1
    obtain ⟨d, e5, e7⟩ := bind_some p
    obtain ⟨es, e6, e4⟩ := map_some e7
    subst e4
    exact .cons (RQ.tells sy rep a e2 e5) (RQs.tells sy rep b e3 e6)
end
def dRpD (a : Dn Hq) : Dn Rv := fun ρ Q => a ρ ⟨fun h ρ1 => ∃ t, h.get ρ1 = some t ∧ (reprD t).pre ∧ Q.ok (reprD t).val ρ1, Q.ex⟩
theorem mn_rpD {a : Dn Hq} (m : Mn a) : Mn (dRpD a) := fun ρ Q Q' h k e => m _ _ _ h (fun h1 ρ1 ⟨t, i, p, q⟩ => ⟨t, i, p, k _ _ q⟩) e
theorem xe_rpD {p : Pos} (sy : Sys X.K) (rm : X.A.guards = some []) (hu : X.A.units + 66 < cLine) (hg : Gl X "repr") (hm : X.mg "repr" = none) (ha : XQ X Wx e d) (hst : starEach [e] X.env = (false, eval e X.env) :: starEach [] X.env := by rfl) : XE X Wx (.Call (.Name "repr" p) [e] [] pos) (dRpD d) := by
  refine ⟨PE.imp (pe_callB (call_reprD rm hu) hg hm boot_repr (pa_cons ha.pe pa_nil hst) (by decide) (by decide) hst rfl) fun σ H Q ⟨W, ρ, rep, q⟩ => ?_, mn_rpD ha.mn⟩
  refine rd_first ha.mn rep q fun h ρ1 ⟨t, g, pre, q⟩ v W1 H1 rl rep1 st pn => ?_
  revert pre q
  unfold reprD
  split
  · rename_i d' e1 e2
    intro pre q
    have ref : ∃ p, v = .ref p := by
      cases rl with
      | op r => exact (isR_of rep1 r g).box e1
      | ls _ _ _ => exact ⟨_, rfl⟩
      | tp _ _ _ => exact ⟨_, rfl⟩
    obtain ⟨p, rfl⟩ := ref
    have q : (cpost X.K (relE X.K) xr Wx σ ρ W H Q).ok (false, .str d'.shown.cps.toList) ρ1 := q
    have q' := q (.str (S d'.shown.cps.toList)) W1 H1 (relE_sh (.str _)) rep1 (by rw [xr_sh]; exact st.noxx) pn
    rw [S_of] at q'
    exact ⟨p, d', rfl, rl.tells sy rep1 g e2, pre, q'⟩
  · intro pre; exact pre.elim
end
end O
namespace O
open PySem PySem.Spec PyProof.Rows L2
def sysB (K : PySem.W.Frag) : Bool := match K.lookup sysModules with
  | some o => He.eqO (some (some o.cls)) (some (some (.type "dict")))
  | none => false
theorem sysB_sys {K : PySem.W.Frag} (h : sysB K = true) : Sys K := by
  unfold sysB at h
  cases e : K.lookup sysModules with
  | none => rw [e] at h; cases h
  | some o =>
    rw [e] at h
    have := He.eqO_ok h
    cases o
    simp at this
    exact ⟨_, e, this⟩
end O
namespace O
open PySem PySem.Spec PyProof.Rows L2
theorem Rep.has {K : PySem.W.Frag} {σ : L2.St} {ρ : Rho} {W : Ad} {H : Hp} {i : Nat} (rep : Rep K W H σ ρ) (h1 : (sl_ ρ i).tr.isSome = true) : ∃ v, at_ σ i = some v := by
  have hs := rep.sl i
  cases q : sl_ ρ i with
  | no => rw [q] at h1; cases h1
  | sh t => rw [q] at hs; obtain ⟨v, e, _⟩ := hs; exact ⟨_, e⟩
  | sd t => rw [q] at hs; obtain ⟨v, e, _⟩ := hs; exact ⟨_, e⟩
  | ow t => rw [q] at hs; obtain ⟨v, e, _⟩ := hs; exact ⟨_, e⟩
  | io t => rw [q] at hs; obtain ⟨v, e, _⟩ := hs; exact ⟨_, e⟩
section
variable {X : Cx} {Wx : WX} {e : Expr} {db : Dn Hn} {pos pos' : Pos}
end
end O
namespace O
open PySem PySem.Spec PyProof.Rows L2
def valT (ts : List (Key × T)) (k : Key) : Option T := (ts.find? fun kv => decide (kv.1 = k)).map (·.2)
def ixD : T → T → Ot
  | .dK ts, t => match keyT t with
    | some k => ⟨(valT ts k).isSome = true, (false, (valT ts k).getD .non)⟩
    | none => .no
  | _, _ => .no
theorem IsP.val {K : PySem.W.Frag} {W : Ad} {H : Hp} {k : Key} {t : T} : ∀ {kvs : List (Key × V)} {ts : List (Key × T)}, IsP K W H Key kvs ts → valT ts k = some t → ∃ v, valV kvs k = some v ∧ Is K W H v t
  | [], [], .nil, e => by cases e
  | (j, v) :: kvs, (_, u) :: ts, .cons a b, e => by
    by_cases h : j = k
    · have e1 : valT ((j, u) :: ts) k = some u := by simp [valT, h]
      rw [e1] at e; cases e
      exact ⟨v, valV_pos h, a⟩
    · have e1 : valT ((j, u) :: ts) k = valT ts k := by simp [valT, h]
      rw [e1] at e
      obtain ⟨w, e2, e3⟩ := IsP.val b e
      exact ⟨w, by rw [valV_neg h]; exact e2, e3⟩
section
variable {X : Cx} {Wx : WX} {a b : Expr} {da db : Dn Hn} {pos : Pos}
end
end O
namespace O
open PySem PySem.Spec PyProof.Rows L2
def T.flat : T → Bool
  | .non => true
  | .bl _ => true
  | .int _ => true
  | .str _ => true
  | _ => false
def T.eqF : T → T → Bool
  | .non, .non => true
  | .bl a, .bl b => a == b
  | .bl a, .int b => (if a then 1 else 0) == b
  | .int a, .bl b => a == (if b then 1 else 0)
  | .int a, .int b => a == b
  | .str a, .str b => a == b
  | _, _ => false
def inTp (n : Bool) : T → T → Ot
  | a, .tup ts => ⟨a.flat = true ∧ ts.all T.flat = true, (false, .bl (n != ts.any fun y => y.eqF a))⟩
  | _, _ => .no
section
variable {K : PySem.W.Frag} {W : Ad} {H : Hp}
theorem Is.flat {v : V} {t : T} (h : Is K W H v t) (f : t.flat = true) : flatV v = true := by
  cases h <;> first | rfl | cases f
theorem S_beq (a b : List Nat) : (S a == S b) = (a == b) := by
  by_cases h : a = b
  · subst h; simp
  · have : S a ≠ S b := fun e => h (S_inj e)
    rw [beq_eq_false_iff_ne.mpr this, beq_eq_false_iff_ne.mpr h]
theorem Is.eqF {v w : V} {t u : T} (h : Is K W H v t) (k : Is K W H w u) (f : t.flat = true) (g : u.flat = true) : eqV v w = t.eqF u := by
  cases h <;> first | cases f | skip
  all_goals cases k <;> first | cases g | skip
  all_goals first | rfl | exact S_beq _ _
theorem IsL.flat : ∀ {xs : List V} {ts : List T}, IsL K W H xs ts → ts.all T.flat = true → xs.all flatV = true
  | _, _, .nil, _ => rfl
  | _, _, .cons a b, f => by
    rw [List.all_cons, Bool.and_eq_true] at f
    rw [List.all_cons, a.flat f.1, b.flat f.2]; rfl
theorem IsR.tupS {v : V} {ts : List T} (h : IsR K W H v (.tup ts)) : ∃ p xs, v = .ref p ∧ SqT K H p xs ∧ IsL K W H xs ts := by
  rcases h with h | ⟨p, e, h⟩
  · cases h with
    | tup r w l => exact ⟨_, _, rfl, .of r, l⟩
    | tupK r l => exact ⟨_, _, rfl, .inr r, l⟩
  · exact h.elim
end
section
variable {X : Cx}
end
end O
namespace O
open PySem PySem.Spec PyProof.Rows L2
def argL (ρ : Rho) (h : Hn) : Sl := .sh ((h.get ρ).getD .non)
def dCallL (S : Sx) (d : Dn (List Hn)) : Dn Rv := fun ρ Q => d ρ ⟨fun hs ρ1 => (∀ h ∈ hs, (h.get ρ1).isSome = true) ∧ S (hs.map (argL ρ1)) ⟨fun r _ => (r.1 = false ∧ r.2.flat = true) ∧ Q.ok r ρ1, fun C fs _ => fs = [] ∧ Q.ex C fs ρ1⟩, Q.ex⟩
section
variable {K : PySem.W.Frag} {σ : L2.St} {ρ : Rho} {W : Ad} {H H' : Hp} {vs : List V} {hs : List Hn}
/-- nothing owned -/
def noAd : Ad := fun _ => False
end
section
variable {X : Cx} {Wx : WX} {e : Expr} {es : List Expr} {ds : Dn (List Hn)} {S : Sx} {j k : Nat} {x : Str} {p pos : Pos}
end
end O
namespace O
open PySem PySem.Spec PyProof.Rows L2
structure FnAt (P : Program) (w : World) (K : PySem.W.Frag) (mg : Str → Option Value) (base : Heap) (k : Nat) (f : Addr) (S : Sx) : Prop where
  ex : ∃ (fd : FuncData) (ps : List Str), PySem.W.keepIn K (.ref f) = true ∧ FnG P w K mg base k f fd ps (spOf K ps.length S) ∧ Binds K fd ps [] ∧ ∀ ars Q, S ars Q → ars.length = ps.length
  mn : Mn S
theorem FnAt.x {P : Program} {w : World} {K : PySem.W.Frag} {mg : Str → Option Value} {base : Heap} {k : Nat} {f : Addr} {S : Sx} {x : Str} (F : FnAt P w K mg base k f S) (hm : mg x = some (.ref f)) : FnX P w K mg base k x S := by
  obtain ⟨⟨fd, ps, a, b, c, d⟩, m⟩ := F
  exact ⟨⟨f, fd, ps, hm, a, b, c, d⟩, m⟩
theorem FnAt.of {P : Program} {w : World} {K : PySem.W.Frag} {mg : Str → Option Value} {base : Heap} {k : Nat} {x : Str} {S : Sx} {qual : Str} {st : Stmt} {N ps : List Str} {f : Addr} {fd : FuncData} (d : Ds)
    (F : FunD K x qual (defArgs st) (defBody st) (defScope st) [] [] f fd) (Sc : FnScope N ps (defScope st))
    (hb : ∀ (kV doc pm : Value) (an : Option Addr) (cdv ct : Value) (us : List Value), us.length = ps.length → bindArgs (PySem.W.fnOf x qual (defArgs st) (defBody st) (defScope st) .none kV doc pm an cdv ct) ⟨us, []⟩ = pure (ps.zip us))
    (mS : Mn S) (len : ∀ ars Q, S ars Q → ars.length = ps.length)
    (body : ∀ (cdv : Value) (A : Around) (outer : List Env) (s : Shared) (H : Hp) (E : XK), RoomG k (A.deeper (envOfC qual (defScope st) s.heap.objs.size f cdv)) → XSs (cxOf (L2N.CX P w) P w K mg base N qual (defScope st) f cdv A outer s H E) (fun cls d _ H => E cls d H) (defBody st) d)
    (hS : ∀ ars Q, S ars Q → d (ars ++ List.replicate (N.length - ps.length) .no) (fwish ars Q)) : FnAt P w K mg base (k + 1) f S := by
  refine ⟨⟨fd, ps, F.kp, FnG.by F Sc (fun vs H Q E h => ?_) (fun cdv A outer s H vs Q E hr h => ?_), F.bindsN hb, len⟩, mS⟩
  · obtain ⟨W, ars, hn, rep, _⟩ := h
    rw [← hn, rep.len, List.length_map]
  · have hl : vs.length = ps.length := by obtain ⟨W, ars, hn, rep, _⟩ := h; rw [← hn, rep.len, List.length_map]
    have B := body cdv A outer s H E hr
    refine ⟨_, B.pss, ?_⟩
    show RS K _ d _ (vs.map some ++ List.replicate (N.length - vs.length) none) H
    rw [hl]
    exact body_run (C := f) mS B.mn hS h
theorem make_guards {A : Around} {C : Addr} {us : List Value} {kw : List (Str × Value)} : (A.under (.builtin "type.__call__" ⟨.ref C :: us, kw⟩)).guards = A.guards := by
  first | rfl | simp [Around.under, Code.weight, Code.isCreation, Code.isGuard, Code.isCaller, Code.frames, Code.isFrame, guardIds]
theorem RoomG.make {k : Nat} {A : Around} (r : RoomG (k + 1) A) (C : Addr) (us : List Value) (kw : List (Str × Value)) : RoomG k (A.under (.builtin "type.__call__" ⟨.ref C :: us, kw⟩)) := ⟨r.room.make C us kw, by rw [make_guards]; exact r.none⟩
theorem RoomG.in1 {k : Nat} {A : Around} (r : RoomG (k + 1) A) : RoomG k A.in1 := ⟨r.room.in1, r.none⟩
section
variable {X : Cx} {Wx : WX} {k : Nat} {C f : Addr} {fd : FuncData} {ps : List Str} {sp : Sp} {x : Str} {p pos : Pos} {e : Expr} {es : List Expr} {t : TA}
theorem run_makeG {pins : List (Addr × Obj)} {σ : L2.St} {H : Hp} {s : Shared} {Q : VK} {us : List Value} {vs : List V} (M : Mk X.K C f) (F : FnG X.prog X.w X.K X.mg X.base k f fd ps sp) (hr : RoomG (k + 1) X.A) (hb : Binds X.K fd ps [])
    (tk : L2N.Takes X Wx) (I : Inv X pins σ H s) (r : Vals vs us)
    (h : ∀ x dx, H x = none → H dx = none → dx ≠ x → sp (.ref x :: vs) (upd (upd H dx (.own x)) x (.ins C dx [])) (fun v H2 => v = .non ∧ Q (.ref x) H2) (WE Wx σ)) :
    wpAny (model X.prog X.w) X.A (call (.ref C) us) (EP X pins σ Q) X.xe s := by
  have hq := h (s.heap.objs.size + 1) s.heap.objs.size (I.hok.fresh (Nat.le_succ _)) (I.hok.fresh (Nat.le_refl _)) (Nat.ne_of_lt (Nat.lt_succ_self _))
  have I2 := Inv.made (C := C) I
  have r2 : Vals (V.ref (s.heap.objs.size + 1) :: vs) (Value.ref (s.heap.objs.size + 1) :: us) := .cons rfl r
  have bd := hb _ (Value.ref (s.heap.objs.size + 1) :: us) I2.kIn (by rw [List.append_nil, ← r2.length, F.len _ _ _ _ hq])
  rw [List.append_nil] at bd
  refine wpAny_call (make_map (f := f) I.kIn M.makes M.init (beq_iff_eq.mp M.fn) (codeAny_mono (F.go (hr.make C us []) (I2.env0.make C us []) bd r2 hq) fun r s' hq' => ?_))
  cases r with
  | error e => exact L2N.passAt tk σ pins _ _ e s' I2 hq'
  | ok fl =>
    cases fl with
    | ret u =>
      obtain ⟨v, H', I3, rv, ev, q3⟩ := I2.after hq'
      subst ev
      exact ⟨rv, ⟨V.ref (s.heap.objs.size + 1), H', I3, rfl, q3⟩⟩
    | next => exact False.elim hq'
    | brk => exact False.elim hq'
    | cont => exact False.elim hq'
end
/-- what C(..) wants: behind its arguments -/
def tMk (C : Addr) (sp : Sp) (Wx : WX) (t : TA) : TE := fun σ H Q => t σ H fun vs H1 => ∀ x dx, H1 x = none → H1 dx = none → dx ≠ x → sp (.ref x :: vs) (upd (upd H1 dx (.own x)) x (.ins C dx [])) (fun v H2 => v = .non ∧ Q (.ref x) H2) (WE Wx σ)
section
variable {X : Cx} {Wx : WX} {k : Nat} {C f : Addr} {fd : FuncData} {ps : List Str} {sp : Sp} {x : Str} {p pos : Pos} {e : Expr} {es : List Expr} {t : TA}
theorem pe_makeG (M : Mk X.K C f) (F : FnG X.prog X.w X.K X.mg X.base k f fd ps sp) (hr : RoomG (k + 1) X.A) (hg : Gl X x) (hm : X.mg x = some (.ref C)) (hb : Binds X.K fd ps []) (tk : L2N.Takes X Wx)
    (ha : PA X (e :: es) t) (hdb : (x == ("__debug__" : Str)) = false) (he : starEach (e :: es) X.env = (false, eval e X.env) :: starEach es X.env) (hpl : (backTo pos (starEach es X.env)).any (·.1) = false) :
    PE X (.Call (.Name x p) (e :: es) [] pos) (tMk C sp Wx t) := by
  refine ⟨fun pins s σ H Q I h => ?_⟩
  refine wpAny_Call_Name_kw (ld_glob I hg hm ?_ hdb)
  refine PySem.W.callWith_K (h₀ := X.base) I.ok.mod.kin M.kp (thn (ha.run pos pins s σ H _ I h) fun us s1 ⟨vs, H1, I1, r, q⟩ => ⟨I1.kIn, ?_⟩) he hpl
  exact run_makeG M F hr hb tk I1 r q
/-- cls(..), cls a local name -/
theorem pe_makeGL {i : Nat} (M : Mk X.K C f) (F : FnG X.prog X.w X.K X.mg X.base k f fd ps sp) (hr : RoomG (k + 1) X.A) (hN : X.N[i]? = some x) (hv : Vis X.env.scope x) (hb : Binds X.K fd ps []) (tk : L2N.Takes X Wx)
    (ha : PA X (e :: es) t) (hdb : (x == ("__debug__" : Str)) = false) (hcd : (x == ("__classdict__" : Str)) = false) (he : starEach (e :: es) X.env = (false, eval e X.env) :: starEach es X.env) (hpl : (backTo pos (starEach es X.env)).any (·.1) = false) :
    PE X (.Call (.Name x p) (e :: es) [] pos) (fun σ H Q => σ[i]? = some (some (.ref C)) ∧ tMk C sp Wx t σ H Q) := by
  refine ⟨fun pins s σ H Q I ⟨hs, ht⟩ => ?_⟩
  refine wpAny_Call_Name_kw (thn ((pe_var (pos := p) hN hv hdb hcd).run pins s σ H (fun v H1 => v = .ref C ∧ H1 = H) I ⟨.ref C, hs, rfl, rfl⟩) fun u s1 ⟨v, H1, I1, r1, q1⟩ => ?_)
  obtain ⟨rfl, rfl⟩ := q1
  cases r1
  refine PySem.W.callWith_K (h₀ := X.base) I.ok.mod.kin M.kp (thn (ha.run pos pins s1 σ _ _ I1 ht) fun us s2 ⟨vs, H2, I2, r, q⟩ => ⟨I2.kIn, ?_⟩) he hpl
  exact run_makeG M F hr hb tk I2 r q
end
section
variable {K : PySem.W.Frag} {σ : L2.St} {ρ : Rho} {W : Ad} {H H1 : Hp} {x : Addr}
theorem sl_app {ρ : Rho} {s : Sl} {i : Nat} : sl_ (ρ ++ [s]) i = if i = ρ.length then s else sl_ ρ i := by
  unfold sl_
  rw [List.getD_eq_getElem?_getD, List.getD_eq_getElem?_getD]
  by_cases h : i < ρ.length
  · rw [List.getElem?_append_left h, if_neg (by omega)]
  · rw [List.getElem?_append_right (by omega)]
    by_cases e : i = ρ.length
    · rw [if_pos e, e]; simp
    · rw [if_neg e, List.getElem?_eq_none (l := ρ) (by omega)]
      rw [List.getElem?_eq_none (by simp; omega)]
theorem at_app {σ : L2.St} {o : Option V} {i : Nat} : at_ (σ ++ [o]) i = if i = σ.length then o else at_ σ i := by
  unfold at_
  rw [List.getD_eq_getElem?_getD, List.getD_eq_getElem?_getD]
  by_cases h : i < σ.length
  · rw [List.getElem?_append_left h, if_neg (by omega)]
  · rw [List.getElem?_append_right (by omega)]
    by_cases e : i = σ.length
    · rw [if_pos e, e]; simp
    · rw [if_neg e, List.getElem?_eq_none (l := σ) (by omega)]
      rw [List.getElem?_eq_none (by simp; omega)]
theorem sl_over {ρ : Rho} {i : Nat} (h : ρ.length ≤ i) : sl_ ρ i = .no := by unfold sl_; rw [List.getD_eq_getElem?_getD, List.getElem?_eq_none h]; rfl
theorem Rep.ext {t : T} (rep : Rep K W H σ ρ) (hx : H x = none) (same : ∀ q o, H q = some o → H1 q = some o) (ho : OwnAt K (plus W x) H1 x t) : Rep K (plus W x) H1 (σ ++ [some (.ref x)]) (ρ ++ [.ow t]) := by
  have g := rep.grow same hx ho.some
  have hl := rep.len
  have nx : ∀ i, (sl_ ρ i).own → at_ σ i ≠ some (.ref x) := fun i w e => by
    obtain ⟨o, z⟩ := rep.wd x (rep.rt x ⟨i, w, e⟩)
    rw [hx] at z; cases z
  refine ⟨by simp [hl], fun i => ?_, fun i j q wi wj ei ej => ?_, g.wd⟩
  · rw [sl_app, at_app, ← hl]
    by_cases e : i = ρ.length
    · rw [if_pos e, if_pos e]; exact ⟨x, rfl, .inr rfl, ho⟩
    · rw [if_neg e, if_neg e]; exact g.sl i
  · rw [sl_app] at wi wj
    rw [at_app, ← hl] at ei ej
    by_cases e1 : i = ρ.length <;> by_cases e2 : j = ρ.length
    · rw [e1, e2]
    · rw [if_pos e1] at ei; rw [if_neg e2] at wj ej
      cases ei; exact (nx j wj ej).elim
    · rw [if_pos e2] at ej; rw [if_neg e1] at wi ei
      cases ej; exact (nx i wi ei).elim
    · rw [if_neg e1] at wi ei; rw [if_neg e2] at wj ej
      exact rep.inj i j q wi wj ei ej
theorem Rep.cut {o : Option V} {s : Sl} (rep : Rep K W H (σ ++ [o]) (ρ ++ [s])) (hl : ρ.length = σ.length) : Rep K W H σ ρ ∧ ∀ p, Rt σ ρ p → Rt (σ ++ [o]) (ρ ++ [s]) p := by
  have lift : ∀ i, i ≠ ρ.length → sl_ (ρ ++ [s]) i = sl_ ρ i ∧ at_ (σ ++ [o]) i = at_ σ i := fun i n => by
    rw [sl_app, at_app, ← hl, if_neg n, if_neg n]; exact ⟨rfl, rfl⟩
  have ne : ∀ i, (sl_ ρ i).own → i ≠ ρ.length := fun i w e => by
    rw [sl_over (by omega)] at w; exact w
  refine ⟨⟨hl, fun i => ?_, fun i j q wi wj ei ej => ?_, rep.wd⟩, fun p ⟨i, w, e⟩ => ⟨i, by rw [(lift i (ne i w)).1]; exact w, by rw [(lift i (ne i w)).2]; exact e⟩⟩
  · by_cases n : i = ρ.length
    · rw [sl_over (by omega)]; trivial
    · have := rep.sl i
      rw [(lift i n).1, (lift i n).2] at this
      exact this
  · refine rep.inj i j q ?_ ?_ ?_ ?_
    · rw [(lift i (ne i wi)).1]; exact wi
    · rw [(lift j (ne j wj)).1]; exact wj
    · rw [(lift i (ne i wi)).2]; exact ei
    · rw [(lift j (ne j wj)).2]; exact ej
theorem cut_last {t : T} (rep : Rep K W H (σ ++ [some (.ref x)]) (ρ ++ [.ow t])) (hl : ρ.length = σ.length) : W x ∧ OwnAt K W H x t ∧ ¬ Rt σ ρ x := by
  have h := rep.sl ρ.length
  rw [sl_app, at_app, ← hl, if_pos rfl, if_pos rfl] at h
  obtain ⟨p, e, w, o⟩ := h
  cases e
  refine ⟨w, o, fun ⟨i, wi, ei⟩ => ?_⟩
  have n : i ≠ ρ.length := fun e => by rw [sl_over (by omega)] at wi; exact wi
  have := rep.inj i ρ.length x (by rw [sl_app, if_neg n]; exact wi) (by rw [sl_app, if_pos rfl]; trivial) (by rw [at_app, ← hl, if_neg n]; exact ei) (by rw [at_app, ← hl, if_pos rfl])
  exact n this
/-- all names among the operands stand within the frame -/
def inFr (n : Nat) (hs : List Hn) : Prop := ∀ i, Hn.sl i ∈ hs → i < n
theorem inFr_of {hs : List Hn} (h : ∀ h ∈ hs, (argOf ρ h).arg = true) : inFr ρ.length hs := fun i m => by
  have := h _ m
  refine sl_lt fun e => ?_
  have z : (argS (sl_ ρ i)).arg = true := this
  rw [e] at z
  cases z
theorem argOf_app {s : Sl} {hs : List Hn} (h : inFr ρ.length hs) : hs.map (argOf (ρ ++ [s])) = hs.map (argOf ρ) := by
  refine List.map_congr_left fun a m => ?_
  cases a with
  | tm t => rfl
  | sl i =>
    show argS (sl_ (ρ ++ [s]) i) = argS (sl_ ρ i)
    rw [sl_app, if_neg (by have := h i m; omega)]
theorem ndOwn_app {s : Sl} : ∀ {hs : List Hn}, inFr ρ.length hs → ndOwn ρ hs → ndOwn (ρ ++ [s]) hs
  | [], _, _ => trivial
  | .tm _ :: hs, f, n => ndOwn_app (hs := hs) (fun i m => f i (List.mem_cons_of_mem _ m)) n
  | .sl i :: hs, f, n => ⟨fun w => n.1 (by rw [sl_app, if_neg (by have := f i List.mem_cons_self; omega)] at w; exact w), ndOwn_app (hs := hs) (fun i m => f i (List.mem_cons_of_mem _ m)) n.2⟩
theorem set_app {s u : Sl} {i : Nat} (h : i < ρ.length) : (ρ ++ [s]).set i u = ρ.set i u ++ [s] := by
  rw [List.set_append_left _ _ h]
theorem putOut_app {s : Sl} : ∀ {hs : List Hn} {os : Rho} {ρ : Rho}, inFr ρ.length hs → putOut (ρ ++ [s]) hs os = putOut ρ hs os ++ [s]
  | [], _, _, _ => by unfold putOut; rfl
  | _ :: _, [], _, _ => by unfold putOut; rfl
  | .tm _ :: hs, o :: os, ρ, f => by
    unfold putOut
    exact putOut_app (hs := hs) (os := os) (ρ := ρ) fun i m => f i (List.mem_cons_of_mem _ m)
  | .sl i :: hs, o :: os, ρ, f => by
    have hi := f i List.mem_cons_self
    unfold putOut
    have e : put1 (ρ ++ [s]) (.sl i) o = put1 ρ (.sl i) o ++ [s] := by
      show (ρ ++ [s]).set i _ = ρ.set i _ ++ [s]
      rw [set_app hi, sl_app, if_neg (by omega)]
    rw [e]
    refine putOut_app (hs := hs) (os := os) (ρ := put1 ρ (.sl i) o) fun j m => ?_
    show j < (ρ.set i _).length
    rw [List.length_set]
    exact f j (List.mem_cons_of_mem _ m)
theorem relO_app {v : V} {s : Sl} {o : Option V} {h : Hn} {W' : Ad} {H' : Hp} (hl : ρ.length = σ.length) (f : ∀ i, h = .sl i → i < ρ.length) (k : ∀ t, h = .tm t → Is K W H v t → Is K W' H' v t) (r : relO K σ ρ W H v h) : relO K (σ ++ [o]) (ρ ++ [s]) W' H' v h := by
  cases h with
  | tm t => exact k t rfl r
  | sl i =>
    show at_ (σ ++ [o]) i = some v
    rw [at_app, if_neg (by have := f i rfl; omega)]
    exact r
theorem relOs_app {s : Sl} {o : Option V} {W' : Ad} {H' : Hp} (hl : ρ.length = σ.length) (k : ∀ v t, Is K W H v t → Is K W' H' v t) : ∀ {vs : List V} {hs : List Hn}, inFr ρ.length hs → relOs K σ ρ W H vs hs → relOs K (σ ++ [o]) (ρ ++ [s]) W' H' vs hs
  | _, _, _, .nil => .nil
  | _, _, f, .cons r rs => .cons (relO_app hl (fun i e => f i (by rw [e]; exact List.mem_cons_self)) (fun t _ => k _ t) r) (relOs_app hl k (fun i m => f i (List.mem_cons_of_mem _ m)) rs)
end
end O
namespace O
open PySem PySem.Spec PyProof.Rows L2
def dNew (C : Addr) (S : Sx) (d : Dn (List Hn)) : Dn Rv := fun ρ Q => d ρ ⟨fun hs ρ1 => ndOwn ρ1 hs ∧ (∀ h ∈ hs, (argOf ρ1 h).arg = true) ∧
  S (.io (.ins C []) :: hs.map (argOf ρ1)) ⟨fun r outs => ∃ t os, r = (false, .non) ∧ outs = .io t :: os ∧ Q.ok (true, t) (putOut ρ1 hs os), fun D fs outs => Q.ex D fs (putOut ρ1 hs (outs.drop 1))⟩, Q.ex⟩
theorem mn_new {C : Addr} {S : Sx} {d : Dn (List Hn)} (mS : Mn S) (m : Mn d) : Mn (dNew C S d) := fun ρ Q Q' h k e =>
  m _ _ _ h (fun hs ρ1 ⟨a, b, q⟩ => ⟨a, b, mS _ _ _ q (fun _ _ ⟨t, os, x, y, z⟩ => ⟨t, os, x, y, k _ _ z⟩) fun _ _ _ z => e _ _ _ z⟩) e
section
variable {X : Cx} {Wx : WX} {ds : Dn (List Hn)} {S : Sx} {C : Addr} {n : Nat}
/-- the arguments are there: a new instance, __init__, the instance -/
theorem new_fin {σ : L2.St} {ρ1 : Rho} {W1 : Ad} {H1 : Hp} {vs : List V} {hs : List Hn} {PS : Po Rv} {Q : V → Hp → Prop} {E : XK} {P0 W0 : Ad} {H0 : Hp} (wd0 : ∀ p, W0 p → ∃ o, H0 p = some o)
    (kc : InsK X.K C) (mS : Mn S) (len : ∀ ars Q, S ars Q → ars.length = n) (rl : relOs X.K σ ρ1 W1 H1 vs hs) (rep1 : Rep X.K W1 H1 σ ρ1) (st : Step P0 W0 H0 (Rt σ ρ1) W1 H1)
    (nd : ndOwn ρ1 hs) (harg : ∀ h ∈ hs, (argOf ρ1 h).arg = true)
    (q : S (.io (.ins C []) :: hs.map (argOf ρ1)) PS)
    (kok : ∀ r outs, PS.ok r outs → ∃ t os, r = (false, T.non) ∧ outs = .io t :: os ∧ ∀ x W' H', relE X.K σ (putOut ρ1 hs os) W' H' (.ref x) (true, t) → Rep X.K W' H' σ (putOut ρ1 hs os) → Step P0 W0 H0 (rooted (Rt σ (putOut ρ1 hs os)) (xr (.ref x) (true, t))) W' H' → Pn ρ1 (putOut ρ1 hs os) → Q (.ref x) H')
    (kex : ∀ D fs outs, PS.ex D fs outs → ∀ d W' H', ExD X.K W' H' d fs → Rep X.K W' H' σ (putOut ρ1 hs (outs.drop 1)) → Step P0 W0 H0 (Rt σ (putOut ρ1 hs (outs.drop 1))) W' H' → Pn ρ1 (putOut ρ1 hs (outs.drop 1)) → E (.ref D) d H') :
    ∀ x dx, H1 x = none → H1 dx = none → dx ≠ x → spOf X.K n S (.ref x :: vs) (upd (upd H1 dx (.own x)) x (.ins C dx [])) (fun v H2 => v = .non ∧ Q (.ref x) H2) E := by
  intro x dx hx hdx ne
  have fr := inFr_of harg
  have hl := rep1.len
  have same : ∀ q o, H1 q = some o → upd (upd H1 dx (.own x)) x (.ins C dx []) q = some o := fun q o e => by
    rw [upd_ne (ne_of_none e hx), upd_ne (ne_of_none e hdx)]; exact e
  have own : OwnAt X.K (plus W1 x) (upd (upd H1 dx (.own x)) x (.ins C dx [])) x (.ins C []) := ⟨kc, dx, [], upd_same, .nil⟩
  have repX := rep1.ext hx same own
  have kIs : ∀ v t, Is X.K W1 H1 v t → Is X.K (plus W1 x) (upd (upd H1 dx (.own x)) x (.ins C dx [])) v t := fun v t h =>
    h.keep (P := fun _ => False) (fun q o e _ => same q o e) (fun _ z => z.elim) fun q z => z.elim .inl fun e => .inr (by rw [e]; exact hx)
  have rlX : relOs X.K (σ ++ [some (.ref x)]) (ρ1 ++ [.ow (.ins C [])]) (plus W1 x) (upd (upd H1 dx (.own x)) x (.ins C dx [])) (.ref x :: vs) (.sl ρ1.length :: hs) := by
    refine .cons ?_ (relOs_app hl kIs fr rl)
    show at_ (σ ++ [some (.ref x)]) ρ1.length = _
    rw [at_app, if_pos hl]
  have ndX : ndOwn (ρ1 ++ [.ow (.ins C [])]) (.sl ρ1.length :: hs) := ⟨fun _ m => Nat.lt_irrefl _ (fr _ m), ndOwn_app fr nd⟩
  have eArg : (Hn.sl ρ1.length :: hs).map (argOf (ρ1 ++ [.ow (.ins C [])])) = .io (.ins C []) :: hs.map (argOf ρ1) := by
    rw [List.map_cons, argOf_app fr]
    show argS (sl_ (ρ1 ++ [.ow (.ins C [])]) ρ1.length) :: _ = _
    rw [sl_app, if_pos rfl]; rfl
  obtain ⟨repA, hP⟩ := args_rep repX rlX ndX
  have stX : Step (Rt σ ρ1) W1 H1 (Rt (σ ++ [some (.ref x)]) (ρ1 ++ [.ow (.ins C [])])) (plus W1 x) (upd (upd H1 dx (.own x)) x (.ins C dx [])) := by
    refine ⟨fun q o e _ => same q o e, fun q o e => ⟨o, same q o e⟩, fun q z _ => .inl z, fun q z => z.elim .inl fun e => .inr (by rw [e]; exact hx), fun q ⟨i, w, e⟩ => ?_⟩
    rw [sl_app] at w
    rw [at_app, ← hl] at e
    by_cases c : i = ρ1.length
    · rw [if_pos c] at e; cases e; exact .inr hx
    · rw [if_neg c] at w e; exact .inl ⟨i, w, e⟩
  have tot := st.trans wd0 stX
  have cutp : ∀ (o0 : Sl) (os : Rho), ∃ s', putOut (ρ1 ++ [.ow (.ins C [])]) (.sl ρ1.length :: hs) (o0 :: os) = putOut ρ1 hs os ++ [s'] ∧ (∀ t, o0 = .io t → s' = .ow t) := fun o0 os => by
    have e : put1 (ρ1 ++ [.ow (.ins C [])]) (.sl ρ1.length) o0 = ρ1 ++ [conv (.ow (.ins C [])) o0] := by
      show (ρ1 ++ [Sl.ow (.ins C [])]).set ρ1.length (conv (sl_ (ρ1 ++ [Sl.ow (.ins C [])]) ρ1.length) o0) = _
      rw [sl_app, if_pos rfl]
      rw [List.set_append_right _ _ (Nat.le_refl _), Nat.sub_self]
      rfl
    refine ⟨conv (.ow (.ins C [])) o0, ?_, fun t e => by rw [e]; rfl⟩
    have e1 : putOut (ρ1 ++ [.ow (.ins C [])]) (.sl ρ1.length :: hs) (o0 :: os) = putOut (put1 (ρ1 ++ [.ow (.ins C [])]) (.sl ρ1.length) o0) hs os := rfl
    rw [e1, e, putOut_app fr]
  have lenOut : ∀ os, (putOut ρ1 hs os).length = σ.length := fun os => by rw [len_putOut]; exact hl
  have pnX : ∀ {os : Rho} {s' : Sl}, Pn (ρ1 ++ [.ow (.ins C [])]) (putOut ρ1 hs os ++ [s']) → Pn ρ1 (putOut ρ1 hs os) := fun {os s'} pn i p => by
    have li : i ≠ ρ1.length := fun e => by rw [sl_over (by omega)] at p; cases p
    have := pn i (by rw [sl_app, if_neg li]; exact p)
    rw [sl_app, if_neg (by rw [len_putOut]; exact li)] at this
    exact this
  have subX : ∀ {os : Rho} {s' : Sl} {o : Option V}, ∀ p, Rt σ (putOut ρ1 hs os) p → Rt (σ ++ [o]) (putOut ρ1 hs os ++ [s']) p := fun {os s' o} p ⟨i, w, e⟩ => by
    have li : i ≠ ρ1.length := fun e => by rw [sl_over (by rw [len_putOut]; omega)] at w; exact w
    exact ⟨i, by rw [sl_app, if_neg (by rw [len_putOut]; exact li)]; exact w, by rw [at_app, if_neg (by omega)]; exact e⟩
  refine ⟨plus W1 x, .io (.ins C []) :: hs.map (argOf ρ1), len _ _ q, by rw [← eArg]; exact repA, fun i hi => ?_, mS _ _ _ q (fun r outs z v W' H' rlv fr' repO stO ok => ?_) fun D fs outs z d W' H' ed repO stO ok => ?_⟩
  · cases i with
    | zero => rfl
    | succ i =>
      have hi' : i < hs.length := by have := len _ _ q; rw [List.length_cons, List.length_map] at this; omega
      rw [sl_cons, sl_map (List.getElem?_eq_getElem hi')]
      exact harg _ (List.getElem_mem hi')
  · rw [← eArg] at stO ok
    obtain ⟨rp, s2, p2⟩ := call_post repX rlX ndX repO stO ok
    obtain ⟨t, os, er, eo, kq⟩ := kok r outs z
    subst eo
    obtain ⟨s', es, ht⟩ := cutp (.io t) os
    rw [es, ht t rfl] at rp s2 p2
    obtain ⟨w', o', n'⟩ := cut_last rp (lenOut os)
    obtain ⟨rpc, sub⟩ := rp.cut (lenOut os)
    refine ⟨?_, kq x W' H' ?_ rpc ((tot.trans wd0 s2).subP fun p z => ?_) (pnX p2)⟩
    · subst er
      unfold relE at rlv; rw [if_neg (fun z : false = true => Bool.noConfusion z)] at rlv
      cases rlv; rfl
    · unfold relE; rw [if_pos rfl]; exact ⟨x, rfl, w', o', n'⟩
    · rcases z with z | ⟨_, e⟩
      · exact .inl (sub p z)
      · cases e
        refine .inl ⟨(putOut ρ1 hs os).length, by rw [sl_app, if_pos rfl]; trivial, ?_⟩
        rw [at_app, if_pos (lenOut os)]
  · rw [← eArg] at stO ok
    obtain ⟨rp, s2, p2⟩ := call_post (ext := fun _ => False) repX rlX ndX repO (by
      have : rooted (Rt ((V.ref x :: vs).map some) outs) (fun _ => False) = Rt ((V.ref x :: vs).map some) outs := by funext p; exact propext ⟨fun z => z.elim id False.elim, Or.inl⟩
      rw [this]; exact stO) ok
    have lo := ok.1
    rw [List.length_map, List.length_cons] at lo
    cases outs with
    | nil => simp at lo
    | cons o0 os =>
      obtain ⟨s', es, _⟩ := cutp o0 os
      rw [es] at rp s2 p2
      obtain ⟨rpc, sub⟩ := rp.cut (lenOut os)
      exact kex D fs (o0 :: os) z d W' H' ed rpc ((tot.trans wd0 s2).subP fun p z => .inl (sub p z)) (pnX p2)
theorem new_run (kc : InsK X.K C) (mS : Mn S) (ma : Mn ds) (len : ∀ ars Q, S ars Q → ars.length = n) (σ : L2.St) (H : Hp) (Q : VK) (h : RD X.K (relE X.K) xr Wx (dNew C S ds) σ H Q) :
    tMk C (spOf X.K n S) Wx (RD X.K (relOs X.K) nox Wx ds) σ H Q := by
  obtain ⟨W, ρ, rep, h⟩ := h
  refine rd_first ma rep h fun hs ρ1 ⟨nd, harg, q⟩ vs W1 H1 rl rep1 st pn => ?_
  exact new_fin rep.wd kc mS len rl rep1 st.noxx nd harg q (fun r outs ⟨t, os, a, b, z⟩ => ⟨t, os, a, b, fun x W' H' rl rp s p => z _ W' H' rl rp s (pn.trans p)⟩) fun D fs outs z d W' H' ed rp s p => z d W' H' ed rp s (pn.trans p)
end
/-- classes that can be made: __init__'s promise -/
structure FnI (P : Program) (w : World) (K : PySem.W.Frag) (mg : Str → Option Value) (base : Heap) (k : Nat) (C : Addr) (S : Sx) : Prop where
  ex : ∃ f, Mk K C f ∧ InsK K C ∧ FnAt P w K mg base k f S
section
variable {X : Cx} {Wx : WX} {j k : Nat} {C : Addr} {S : Sx} {x : Str} {p pos : Pos} {e : Expr} {es : List Expr} {ds : Dn (List Hn)}
theorem xe_new (F : FnI X.prog X.w X.K X.mg X.base k C S) (hm : X.mg x = some (.ref C)) (hr : RoomG j X.A) (hk : k + 1 ≤ j) (tk : L2N.Takes X Wx) (ha : XA X Wx (e :: es) ds) (hg : Gl X x := by rfl) (hdb : (x == ("__debug__" : Str)) = false := by decide)
    (he : starEach (e :: es) X.env = (false, eval e X.env) :: starEach es X.env := by rfl) (hpl : (backTo pos (starEach es X.env)).any (·.1) = false := by rfl) : XE X Wx (.Call (.Name x p) (e :: es) [] pos) (dNew C S ds) := by
  obtain ⟨f, M, kc, ⟨fd, ps, hkp, F, hb, len⟩, mS⟩ := F
  exact ⟨PE.imp (pe_makeG M F (hr.mono hk) hg hm hb tk ha.pa hdb he hpl) fun σ H Q h => new_run kc mS ha.mn len σ H Q h, mn_new mS ha.mn⟩
/-- cls(..), cls the local name i -/
def dNewL (i : Nat) (C : Addr) (S : Sx) (d : Dn (List Hn)) : Dn Rv := fun ρ Q => sl_ ρ i = .sh (.fn C) ∧ dNew C S d ρ Q
theorem xe_newL (i : Nat) (F : FnI X.prog X.w X.K X.mg X.base k C S) (hr : RoomG j X.A) (hk : k + 1 ≤ j) (tk : L2N.Takes X Wx) (ha : XA X Wx (e :: es) ds) (hN : X.N[i]? = some x := by rfl) (hv : Vis X.env.scope x := by first | exact Or.inl rfl | exact Or.inr (Or.inl rfl) | exact Or.inr (Or.inr rfl))
    (hdb : (x == ("__debug__" : Str)) = false := by decide) (hcd : (x == ("__classdict__" : Str)) = false := by decide)
    (he : starEach (e :: es) X.env = (false, eval e X.env) :: starEach es X.env := by rfl) (hpl : (backTo pos (starEach es X.env)).any (·.1) = false := by rfl) : XE X Wx (.Call (.Name x p) (e :: es) [] pos) (dNewL i C S ds) := by
  obtain ⟨f, M, kc, ⟨fd, ps, hkp, F, hb, len⟩, mS⟩ := F
  refine ⟨PE.imp (pe_makeGL (i := i) M F (hr.mono hk) hN hv hb tk ha.pa hdb hcd he hpl) fun σ H Q ⟨W, ρ, rep, a, q⟩ => ?_, fun ρ Q Q' h k e => ⟨h.1, mn_new mS ha.mn _ _ _ h.2 k e⟩⟩
  have hs := rep.sl i
  rw [a] at hs
  obtain ⟨v, e1, e2⟩ := hs
  cases e2
  exact ⟨at_get.mp e1, new_run kc mS ha.mn len σ H Q ⟨W, ρ, rep, q⟩⟩
/-- a new object that is shared at once -/
def dShr (d : Dn Rv) : Dn Rv := fun ρ Q => d ρ ⟨fun r ρ1 => Q.ok (false, r.2) ρ1, Q.ex⟩
theorem xe_shr {e : Expr} {d : Dn Rv} (h : XE X Wx e d) : XE X Wx e (dShr d) := by
  refine ⟨PE.imp h.pe fun σ H Q ⟨W, ρ, rep, q⟩ => ?_, fun ρ Q Q' z k e => h.mn _ _ _ z (fun r ρ1 => k _ _) e⟩
  refine rd_first (rel := relE X.K) (ext := xr) (Q := Q) h.mn rep q fun r ρ2 k v W2 H2 rl rp st pn => ?_
  obtain ⟨W3, s, i, rp3, st3⟩ := demote rep.wd rl rp st
  exact k v W3 H2 (relE_sh i) rp3 (by rw [xr_sh]; exact st3) pn
end
theorem IsP.look {K : PySem.W.Frag} {W : Ad} {H : Hp} {f : Str} : ∀ {xs : List (Str × V)} {ts : List (Str × T)}, IsP K W H Str xs ts → (∀ t, ts.lookup f = some t → ∃ v, xs.lookup f = some v ∧ Is K W H v t) ∧ (ts.lookup f = none → xs.lookup f = none)
  | _, _, .nil => ⟨fun t e => (by cases e), fun _ => rfl⟩
  | (k, v) :: xs, (_, t) :: ts, .cons a b => by
    have ih := IsP.look (f := f) b
    by_cases e : f == k
    · refine ⟨fun u h => ?_, fun h => ?_⟩
      · rw [List.lookup_cons, e] at h; cases h
        exact ⟨v, by rw [List.lookup_cons, e], a⟩
      · rw [List.lookup_cons, e] at h; cases h
    · have e' : (f == k) = false := by cases q : f == k; rfl; exact absurd q e
      refine ⟨fun u h => ?_, fun h => ?_⟩
      · rw [List.lookup_cons, e'] at h
        obtain ⟨w, h1, h2⟩ := ih.1 u h
        exact ⟨w, by rw [List.lookup_cons, e']; exact h1, h2⟩
      · rw [List.lookup_cons, e'] at h
        rw [List.lookup_cons, e']; exact ih.2 h
theorem IsR.ins {K : PySem.W.Frag} {W : Ad} {H : Hp} {v : V} {C : Addr} {fs : List (Str × T)} (h : IsR K W H v (.ins C fs)) : ∃ p dx xs, v = .ref p ∧ H p = some (.ins C dx xs) ∧ IsP K W H Str xs fs := by
  rcases h with h | ⟨p, e, h⟩
  · cases h with | ins kc r w l => exact ⟨_, _, _, rfl, r, l⟩
  · obtain ⟨_, dx, xs, e1, l⟩ := h; exact ⟨p, dx, xs, e, e1, l⟩
def dFld (C : Addr) (f : Str) (a : Dn Hn) : Dn Rv := fun ρ Q => a ρ ⟨fun h ρ1 => ∃ fs, h.is ρ1 (.ins C fs) ∧ ∃ t, fs.lookup f = some t ∧ Q.ok (false, t) ρ1, Q.ex⟩
section
variable {X : Cx} {Wx : WX} {C : Addr} {f : Str} {e : Expr} {d : Dn Hn} {pos : Pos}
end
end O
namespace O
open PySem PySem.Spec PyProof.Rows L2
section
variable {X : Cx} {Wx : WX} {S : Sx} {n : Nat}
/-- the arguments are there: the def at work -/
theorem call_fin {σ : L2.St} {ρ1 : Rho} {W1 : Ad} {H1 : Hp} {vs : List V} {hs : List Hn} {PS : Po Rv} {Q : V → Hp → Prop} {E : XK} {P0 W0 : Ad} {H0 : Hp} (wd0 : ∀ p, W0 p → ∃ o, H0 p = some o)
    (mS : Mn S) (len : ∀ ars Q, S ars Q → ars.length = n) (rl : relOs X.K σ ρ1 W1 H1 vs hs) (rep1 : Rep X.K W1 H1 σ ρ1) (st : Step P0 W0 H0 (Rt σ ρ1) W1 H1)
    (nd : ndOwn ρ1 hs) (harg : ∀ h ∈ hs, (argOf ρ1 h).arg = true) (q : S (hs.map (argOf ρ1)) PS)
    (kok : ∀ r outs, PS.ok r outs → ∀ v W' H', relE X.K σ (putOut ρ1 hs outs) W' H' v r → Rep X.K W' H' σ (putOut ρ1 hs outs) → Step P0 W0 H0 (rooted (Rt σ (putOut ρ1 hs outs)) (xr v r)) W' H' → Pn ρ1 (putOut ρ1 hs outs) → Q v H')
    (kex : ∀ D fs outs, PS.ex D fs outs → ∀ d W' H', ExD X.K W' H' d fs → Rep X.K W' H' σ (putOut ρ1 hs outs) → Step P0 W0 H0 (Rt σ (putOut ρ1 hs outs)) W' H' → Pn ρ1 (putOut ρ1 hs outs) → E (.ref D) d H') : spOf X.K n S vs H1 Q E := by
  obtain ⟨repA, hP⟩ := args_rep rep1 rl nd
  have hl : hs.length = n := by rw [← len _ _ q, List.length_map]
  refine ⟨W1, hs.map (argOf ρ1), by rw [List.length_map]; exact hl, repA, fun i hi => ?_, mS _ _ _ q (fun r outs z v W' H' rlv fr repO stO ok => ?_) fun C fs outs z d W' H' ed repO stO ok => ?_⟩
  · have hi' : i < hs.length := by omega
    rw [sl_map (List.getElem?_eq_getElem hi')]
    exact harg _ (List.getElem_mem hi')
  · obtain ⟨rp, s2, p2⟩ := call_post rep1 rl nd repO stO ok
    have hlo : hs.length = outs.length := by rw [ok.1, List.length_map]
    refine kok r outs z v W' H' ?_ rp (st.trans wd0 s2) p2
    unfold relE at rlv ⊢
    by_cases c : r.1 = true
    · rw [if_pos c] at rlv ⊢
      obtain ⟨p, e1, e2, e3, _⟩ := rlv
      refine ⟨p, e1, e2, e3, fun ⟨i, w, e⟩ => ?_⟩
      have w' := own_final nd hlo w
      obtain ⟨o, eo⟩ := rep1.wd p (rep1.rt p ⟨i, w', e⟩)
      rw [fr c p e1] at eo; cases eo
    · rw [if_neg c] at rlv ⊢; exact rlv
  · obtain ⟨rp, s2, p2⟩ := call_post (ext := fun _ => False) rep1 rl nd repO (by
      have : rooted (Rt (vs.map some) outs) (fun _ => False) = Rt (vs.map some) outs := by funext p; exact propext ⟨fun z => z.elim id False.elim, Or.inl⟩
      rw [this]; exact stO) ok
    exact kex C fs outs z d W' H' ed rp (st.trans wd0 (s2.subP fun p z => .inl z)) p2
end
def callK (S : Sx) (ρ : Rho) (hs : List Hn) (Q : Po Rv) : Prop := ndOwn ρ hs ∧ (∀ x ∈ hs, (argOf ρ x).arg = true) ∧ S (hs.map (argOf ρ)) ⟨fun r outs => Q.ok r (putOut ρ hs outs), fun D fs outs => Q.ex D fs (putOut ρ hs outs)⟩
def lendK (S : Sx) (ρ : Rho) (hs : List Hn) (Q : Po Rv) : Prop := (∀ h ∈ hs, (h.get ρ).isSome = true) ∧ S (hs.map (argL ρ)) ⟨fun r _ => (r.1 = false ∧ r.2.flat = true) ∧ Q.ok r ρ, fun C fs _ => fs = [] ∧ Q.ex C fs ρ⟩
theorem mn_callK {S : Sx} (mS : Mn S) {ρ : Rho} {hs : List Hn} {Q Q' : Po Rv} (h : callK S ρ hs Q) (k : ∀ x ρ', Q.ok x ρ' → Q'.ok x ρ') (e : ∀ c f ρ', Q.ex c f ρ' → Q'.ex c f ρ') : callK S ρ hs Q' := ⟨h.1, h.2.1, mS _ _ _ h.2.2 (fun _ _ z => k _ _ z) fun _ _ _ z => e _ _ _ z⟩
/-- how the def is handed its operands -/
abbrev Hand := Sx → Rho → List Hn → Po Rv → Prop
def dMeth (HK : Hand) (C : Addr) (m : Str) (S : Sx) (a : Dn Hn) (b : Dn (List Hn)) : Dn Rv := fun ρ Q => a ρ ⟨fun h ρ1 => (∃ fs, h.is ρ1 (.ins C fs) ∧ fs.lookup m = none) ∧ b ρ1 ⟨fun hs ρ2 => HK S ρ2 (h :: hs) Q, Q.ex⟩, Q.ex⟩
structure HandOk (HK : Hand) : Prop where
  mn : ∀ {S : Sx} (_ : Mn S) {ρ : Rho} {hs : List Hn} {Q Q' : Po Rv}, HK S ρ hs Q → (∀ x ρ', Q.ok x ρ' → Q'.ok x ρ') → (∀ c f ρ', Q.ex c f ρ' → Q'.ex c f ρ') → HK S ρ hs Q'
  fin : ∀ {X : Cx} {S : Sx} {n : Nat} {σ : L2.St} {ρ1 : Rho} {W1 : Ad} {H1 : Hp} {vs : List V} {hs : List Hn} {PQ : Po Rv} {Q : V → Hp → Prop} {E : XK} {P0 W0 : Ad} {H0 : Hp}, (∀ p, W0 p → ∃ o, H0 p = some o) → Mn S → (∀ ars Q, S ars Q → ars.length = n) →
    relOs X.K σ ρ1 W1 H1 vs hs → Rep X.K W1 H1 σ ρ1 → Step P0 W0 H0 (Rt σ ρ1) W1 H1 → HK S ρ1 hs PQ →
    (∀ r ρ', PQ.ok r ρ' → ∀ v W' H', relE X.K σ ρ' W' H' v r → Rep X.K W' H' σ ρ' → Step P0 W0 H0 (rooted (Rt σ ρ') (xr v r)) W' H' → Pn ρ1 ρ' → Q v H') →
    (∀ D fs ρ', PQ.ex D fs ρ' → ∀ d W' H', ExD X.K W' H' d fs → Rep X.K W' H' σ ρ' → Step P0 W0 H0 (Rt σ ρ') W' H' → Pn ρ1 ρ' → E (.ref D) d H') → spOf X.K n S vs H1 Q E
theorem hand_call : HandOk callK := ⟨fun {S} mS {_ _ _ _} h k e => mn_callK mS h k e, fun wd0 mS len rl rep1 st h kok kex => call_fin wd0 mS len rl rep1 st h.1 h.2.1 h.2.2 (fun r outs z => kok r _ z) fun D fs outs z => kex D fs _ z⟩
section
variable {X : Cx} {Wx : WX} {HK : Hand} {j k : Nat} {C f : Addr} {S : Sx} {m : Str} {pos apos : Pos} {o e : Expr} {es : List Expr} {da : Dn Hn} {ds : Dn (List Hn)} {fd : FuncData} {ps : List Str} {sp : Sp} {ta : TE} {t : TA}
end
def noexP (Q : Po Rv) : Po Rv := ⟨Q.ok, fun _ _ _ => False⟩
/-- a getter that raises nothing -/
def dProp (HK : Hand) (C : Addr) (S : Sx) (a : Dn Hn) : Dn Rv := fun ρ Q => a ρ ⟨fun h ρ1 => (∃ fs, h.is ρ1 (.ins C fs)) ∧ HK S ρ1 [h] (noexP Q), Q.ex⟩
section
variable {X : Cx} {Wx : WX} {HK : Hand} {j k : Nat} {C g p : Addr} {S : Sx} {f : Str} {pos : Pos} {e : Expr} {da : Dn Hn} {fd : FuncData} {ps : List Str} {sp : Sp} {ta : TE}
end
structure FnC (P : Program) (w : World) (K : PySem.W.Frag) (mg : Str → Option Value) (base : Heap) (k : Nat) (C : Addr) (m : Str) (S : Sx) : Prop where
  ex : ∃ mc p g, ClX.CRead K C mc ∧ ClX.CMet K C mc m p g ∧ FnAt P w K mg base k g S
def dCm (HK : Hand) (C : Addr) (S : Sx) (b : Dn (List Hn)) : Dn Rv := fun ρ Q => b ρ ⟨fun hs ρ2 => HK S ρ2 (.tm (.fn C) :: hs) Q, Q.ex⟩
section
variable {X : Cx} {Wx : WX} {HK : Hand} {j k : Nat} {C g p : Addr} {mc : Value} {S : Sx} {m x : Str} {pos apos npos : Pos} {e : Expr} {es : List Expr} {ds : Dn (List Hn)} {fd : FuncData} {ps : List Str} {sp : Sp} {t : TA}
theorem run_cmG {q : Addr} {pins : List (Addr × Obj)} {σ : L2.St} {H : Hp} {s : Shared} {Q : VK} {us : List Value} {vs : List V} (F : FnG X.prog X.w X.K X.mg X.base k g fd ps sp) (hr : RoomG k X.A) (hb : Binds X.K fd ps []) (tk : L2N.Takes X Wx)
    (I : Inv X ((q, PySem.W.methodObj (.ref g) (.ref C)) :: pins) σ H s) (r : Vals vs us) (h : sp (.ref C :: vs) H Q (WE Wx σ)) : wpAny (model X.prog X.w) X.A (call (.ref q) us) (EP X pins σ Q) X.xe s := by
  have bd := hb s (.ref C :: us) I.kIn (by rw [List.append_nil]; have := F.len _ _ _ _ h; simpa [r.length] using this)
  rw [List.append_nil] at bd
  have z : wpAny (model X.prog X.w) X.A (call (.ref q) us) (EP X ((q, PySem.W.methodObj (.ref g) (.ref C)) :: pins) σ Q) X.xe s :=
    wpAny_call (PySem.W.method_call (ClX.pin_at I) (codeAny_mono (F.go hr I.env0 bd (.cons (show RelV (V.ref C) (Value.ref C) from rfl) r) h) fun r s' z => by
      rcases r with e | (_ | _ | _ | u) <;> first | exact L2N.passAt tk σ _ H s _ s' I z | exact I.after z | exact False.elim z))
  exact thn z fun _ _ y => ClX.unpinE y
theorem pe_cmG {pl : Sem Bool} (hg : Gl X x) (hm : X.mg x = some (.ref C)) (hdb : (x == ("__debug__" : Str)) = false) (r : ClX.CRead X.K C mc) (c : ClX.CMet X.K C mc m p g) (F : FnG X.prog X.w X.K X.mg X.base k g fd ps sp) (hr : RoomG k X.A) (hb : Binds X.K fd ps []) (tk : L2N.Takes X Wx) (ha : PA X (e :: es) t)
    (hst : starEach (e :: es) X.env = (false, eval e X.env) :: starEach es X.env) (hpl : (backTo pos (starEach es X.env)).any (·.1) = false)
    (ht : eval (.Call (.Attribute (.Name x npos) m apos) (e :: es) [] pos) X.env = (do
      let ov ← eval (.Name x npos) X.env
      standAt apos.atName
      let (f, first) ← holding [ov] (getMethod ov m pl)
      callWith pos f first (backTo pos (starEach (e :: es) X.env)) (backToKw pos (keywordEach [] X.env)))) :
    PE X (.Call (.Attribute (.Name x npos) m apos) (e :: es) [] pos) (fun σ H Q => t σ H fun vs H2 => sp (.ref C :: vs) H2 Q (WE Wx σ)) := by
  refine ⟨fun pins s σ H Q I h => ?_⟩
  refine PySem.W.methodCall_KW (pl := pl) (thn ((pe_glob (v := V.ref C) (pos := npos) hg hm rfl hdb).run pins s σ H (fun v H1 => v = .ref C ∧ H1 = H) I ⟨rfl, rfl⟩) fun u s1 ⟨v, H1, I1, rx, ev, eH⟩ => ?_) ht
  subst ev eH
  obtain rfl : u = Value.ref C := rx
  refine ClX.getmethcm_ok I1 r c fun s2 I2 => ?_
  refine ClX.callwith_cm I2 (ClX.base_none I1 (Nat.le_refl _)) c.fi (thn (ha.run pos _ s2 σ _ _ I2 h) fun us s3 ⟨vs, H2, I3, rv, q2⟩ => ⟨⟨ClX.pin_at I3, I3.kIn⟩, ?_⟩) hst hpl
  exact run_cmG F hr hb tk I3 rv q2
theorem xe_cm (hk : HandOk HK) (F : FnC X.prog X.w X.K X.mg X.base k C m S) (hm : X.mg x = some (.ref C)) (hr : RoomG j X.A) (hj : k ≤ j) (tk : L2N.Takes X Wx) (ha : XA X Wx (e :: es) ds) (hg : Gl X x := by rfl) (hdb : (x == ("__debug__" : Str)) = false := by decide) {pl : Sem Bool}
    (hst : starEach (e :: es) X.env = (false, eval e X.env) :: starEach es X.env := by rfl) (hpl : (backTo pos (starEach es X.env)).any (·.1) = false := by rfl)
    (ht : eval (.Call (.Attribute (.Name x npos) m apos) (e :: es) [] pos) X.env = (do
      let ov ← eval (.Name x npos) X.env
      standAt apos.atName
      let (f, first) ← holding [ov] (getMethod ov m pl)
      callWith pos f first (backTo pos (starEach (e :: es) X.env)) (backToKw pos (keywordEach [] X.env))) := by rfl) : XE X Wx (.Call (.Attribute (.Name x npos) m apos) (e :: es) [] pos) (dCm HK C S ds) := by
  obtain ⟨mc, p, g, r, c, ⟨fd, ps, hkp, F, hb, len⟩, mS⟩ := F
  refine ⟨PE.imp (pe_cmG hg hm hdb r c F (hr.mono hj) hb tk ha.pa hst hpl ht) fun σ H Q ⟨W, ρ, rep, h⟩ => ?_, fun ρ Q Q' z k e => ha.mn _ _ _ z (fun hs ρ1 q => hk.mn mS q k e) e⟩
  refine rd_first (rel := relE X.K) (ext := xr) (Q := Q) ha.mn rep h fun hs ρ1 q vs W1 H1 rl rep1 st1 pn1 => ?_
  exact hk.fin rep.wd mS len (.cons (show relO X.K σ ρ1 W1 H1 (V.ref C) (Hn.tm (.fn C)) from Is.fn C) rl) rep1 st1.noxx q (fun r ρ' z v W' H' rl rp s p => z v W' H' rl rp s (pn1.trans p)) fun D fs ρ' z d W' H' ed rp s p => z d W' H' ed rp s (pn1.trans p)
end
def putT (f : Str) (v : T) : List (Str × T) → List (Str × T)
  | [] => [(f, v)]
  | (g, x) :: r => if g = f then (g, v) :: r else (g, x) :: putT f v r
theorem IsP.put {K : PySem.W.Frag} {W : Ad} {H : Hp} {f : Str} {v : V} {t : T} (h : Is K W H v t) : ∀ {xs : List (Str × V)} {ts : List (Str × T)}, IsP K W H Str xs ts → IsP K W H Str (putF f v xs) (putT f t ts)
  | _, _, .nil => .cons h .nil
  | (k, u) :: xs, (_, s) :: ts, .cons a b => by
    unfold putF putT
    by_cases e : k = f
    · rw [if_pos e, if_pos e]; exact .cons h b
    · rw [if_neg e, if_neg e]; exact .cons a (IsP.put h b)
theorem IsP.write {K : PySem.W.Frag} {W : Ad} {H : Hp} {p : Addr} {o : HO} {xs : List (Str × V)} {ts : List (Str × T)} (h : IsP K W H Str xs ts) (hw : W p) : IsP K W (upd H p o) Str xs ts :=
  h.keep (P := fun q => q = p) (fun q u e n => by rw [upd_ne n]; exact e) (fun q e => by rw [e]; exact hw) fun _ z => .inl z
def sFld (i : Nat) (C : Addr) (f : Str) (d : Dn Rv) : Ds := fun ρ Q => d ρ ⟨fun r ρ1 => ∃ fs, ownT (sl_ ρ1 i) = some (.ins C fs) ∧ fs.length < 1000 ∧ Q.nx (ρ1.set i (reown (sl_ ρ1 i) (.ins C (putT f r.2 fs)))), Q.ex⟩
section
variable {X : Cx} {Wx : WX} {C : Addr} {f x : Str} {e : Expr} {d : Dn Rv} {pos pos' npos : Pos}
theorem xs_fld (i : Nat) (c : Cls X.K C) (n : NoAttr X.K C f) (h : XE X Wx e d) (hN : X.N[i]? = some x := by rfl) (hv : Vis X.env.scope x := by first | exact Or.inl rfl | exact Or.inr (Or.inl rfl) | exact Or.inr (Or.inr rfl)) (hd : (x == ("__debug__" : Str)) = false := by decide)
    (hcd : (x == ("__classdict__" : Str)) = false := by decide) (hs : swapsWith e (some (.Attribute (.Name x npos) f pos')) pos.line X.env = pure false := by rfl) : XS X Wx (.Assign [.Attribute (.Name x npos) f pos'] e pos) (sFld i C f d) := by
  refine ⟨PS.imp (ps_fld (pv (pos := npos) i hN hv hd hcd) h.pe hs) fun D σ H ⟨W, ρ, rep, q⟩ => ?_, fun ρ Q Q' z n r bk c e => h.mn _ _ _ z (fun r ρ1 ⟨fs, a, b, q⟩ => ⟨fs, a, b, n _ q⟩) e⟩
  refine rd_stmt (D := D) h.mn rep q fun r ρ1 ⟨fs, ot, hl, q⟩ v W1 H1 rl rep1 st pn => ?_
  obtain ⟨W2, sW, is, rp2, st2⟩ := demote rep.wd rl rep1 st
  obtain ⟨p, ea, w, o, hown⟩ := own_at rp2 ot
  obtain ⟨kc, dx, xs, e1, l⟩ := o
  refine ⟨.ref p, at_get.mp ea, p, C, dx, xs, rfl, e1, c, n, by rw [l.length]; exact hl, ?_⟩
  have ho : OwnAt X.K W2 (upd H1 p (.ins C dx (putF f v xs))) p (.ins C (putT f r.2 fs)) := ⟨kc, dx, putF f v xs, upd_same, (l.put is).write w⟩
  obtain ⟨rp, st'⟩ := rp2.write hown ea ho
  exact q σ W2 _ rp (st2.trans rep.wd st') (.of (pn.trans (pn_set fun z => by rw [reown_pin]; exact z)))
end
end O
namespace O
open PySem PySem.Spec PyProof.Rows L2
def isiC (C : Addr) : T → T → Ot
  | a, .fn D => match a with
    | .ins E _ => ⟨D = C ∧ E = C, (false, .bl true)⟩
    | _ => ⟨D = C ∧ ∃ c, a.cls = some c, (false, .bl false)⟩
  | _, _ => .no
def bTypes : List String := ["int", "bool", "str", "list", "tuple", "dict"]
def insB (x : Str) (K : PySem.W.Frag) : Bool :=
  (He.Fa.cls x).ok K && (He.eqO (PySem.W.findIn K (.ref (He.ga K x)) "__class__") (some (some (.builtin "object.__class__"))) && (He.eqO (PySem.W.specialIn K (.builtin "object.__class__") "__get__") (some (some (.builtin "getset_descriptor.__get__"))) &&
  (decide (PySem.W.takesIn K (.builtin "object.__class__") = some true) && (decide (PySem.W.mroIn K (He.ga K x) (.type "object") = some true) &&
  (bTypes.all (fun n => decide (PySem.W.kitOne K (.ref (He.ga K x)) (.type n) = some false)) && ("NoneType" :: bTypes).all (fun n => decide (PySem.W.kitOne K (.type n) (.ref (He.ga K x)) = some false)))))))
theorem insB_ok {x : Str} {K : PySem.W.Frag} (h : insB x K = true) : InsK K (He.ga K x) := by
  obtain ⟨h1, h⟩ := He.ba h
  obtain ⟨h2, h⟩ := He.ba h
  obtain ⟨h3, h⟩ := He.ba h
  obtain ⟨h4, h⟩ := He.ba h
  obtain ⟨h5, h⟩ := He.ba h
  obtain ⟨h6, h7⟩ := He.ba h
  exact ⟨He.cls_ok h1, He.eqO_ok h2, He.eqO_ok h3, of_decide_eq_true h4, of_decide_eq_true h5, fun n m => of_decide_eq_true (List.all_eq_true.mp h6 n m), fun n m => of_decide_eq_true (List.all_eq_true.mp h7 n m)⟩
/-- a classmethod's def -/
def gaC (x m : Str) (K : PySem.W.Frag) : Addr := He5.wf K (He.ga K x) "classmethod" m
def cmB (x m : Str) (K : PySem.W.Frag) : Bool := PySem.W.readsIn K (He.ga K x) (.type "type") && (He5.wrapB K (He.ga K x) "classmethod" "classmethod.__get__" m && PySem.W.fnIn K (gaC x m K))
theorem cmB_ok {x m : Str} {K : PySem.W.Frag} (h : cmB x m K = true) : ClX.CRead K (He.ga K x) (.type "type") ∧ ClX.CMet K (He.ga K x) (.type "type") m (He.ma K (He.ga K x) m) (gaC x m K) := by
  obtain ⟨h1, h⟩ := He.ba h
  obtain ⟨h2, h3⟩ := He.ba h
  obtain ⟨k1, k2⟩ := He5.wrapB_ok h2
  refine ⟨⟨h1, ?_⟩, ⟨k1, k2, h3⟩⟩
  unfold PySem.W.readsIn at h1
  obtain ⟨h, _⟩ := He.ba h1
  obtain ⟨h, _⟩ := He.ba h
  obtain ⟨h, h3⟩ := He.ba h
  obtain ⟨_, h2⟩ := He.ba h
  unfold PySem.W.specialIn
  rw [beq_iff_eq.mp h2, Option.bind_some]
  exact beq_iff_eq.mp h3
def frC (n : Nat) (g : Addr → Option Obj) : PySem.W.Frag := He.frG g (He.asD g n ++ [sysModules, cStatics])
def okC (fa : List He.Fa) (fn : List He5.DefA) (ex : List (PySem.W.Frag → Bool)) (K : PySem.W.Frag) : Bool := sysB K && (fa.all (fun f => f.ok K) && (fn.all (fun d => d.ok K) && ex.all fun b => b K))
def obsKC (fa : List He.Fa) (fn : List He5.DefA) (ex : List (PySem.W.Frag → Bool)) (K : PySem.W.Frag) : He.AlD := (okC fa fn ex K, fn.map fun d => He5.fnA K (d.at_ K))
def valC (fn : List He5.DefA) : He.AlD := (true, fn.map He5.DefA.val)
def SaysC (fa : List He.Fa) (fn : List He5.DefA) (ex : List (PySem.W.Frag → Bool)) (K : PySem.W.Frag) : Prop := obsKC fa fn ex K = valC fn
def obsC (n : Nat) (fa : List He.Fa) (fn : List He5.DefA) (ex : List (PySem.W.Frag → Bool)) (g : Addr → Option Obj) : He.AlD := obsKC fa fn ex (frC n g)
def hookC (n : Nat) (fa : List He.Fa) (fn : List He5.DefA) (ex : List (PySem.W.Frag → Bool)) : PySem.W.Hook where
  α := He.AlD
  obs := fun s => obsC n fa fn ex s.heap.get?
  val := fun _ => valC fn
  says := fun _ h => ∃ K : PySem.W.Frag, K.In h ∧ SaysC fa fn ex K
  of := fun _ _ e => ⟨_, He.frG_in, e⟩
  keeps := fun _ _ _ ⟨K, hK, c⟩ k => ⟨K, PySem.W.Frag.In.keeps hK k, c⟩
theorem obsC_eq {n : Nat} {fa : List He.Fa} {fn : List He5.DefA} {ex : List (PySem.W.Frag → Bool)} {g : Addr → Option Obj} {s : Shared} (h : ∀ a, g a = s.heap.get? a) : obsC n fa fn ex g = (hookC n fa fn ex).obs s := congrArg (obsC n fa fn ex) (funext h)
section
variable {fa : List He.Fa} {fn : List He5.DefA} {ex : List (PySem.W.Frag → Bool)} {K : PySem.W.Frag}
theorem SaysC.all (c : SaysC fa fn ex K) : sysB K = true ∧ fa.all (fun f => f.ok K) = true ∧ fn.all (fun d => d.ok K) = true ∧ ex.all (fun b => b K) = true := by
  obtain ⟨h1, h⟩ := He.ba (show okC fa fn ex K = true from congrArg (fun z : He.AlD => z.1) c)
  obtain ⟨h2, h⟩ := He.ba h
  obtain ⟨h3, h4⟩ := He.ba h
  exact ⟨h1, h2, h3, h4⟩
theorem SaysC.sys (c : SaysC fa fn ex K) : Sys K := sysB_sys c.all.1
theorem SaysC.fact (c : SaysC fa fn ex K) (i : Nat) {f : He.Fa} (h : fa[i]? = some f := by rfl) : f.ok K = true := List.all_eq_true.mp c.all.2.1 f (List.mem_of_getElem? h)
theorem SaysC.more (c : SaysC fa fn ex K) (i : Nat) {b : PySem.W.Frag → Bool} (h : ex[i]? = some b := by rfl) : b K = true := List.all_eq_true.mp c.all.2.2.2 b (List.mem_of_getElem? h)
theorem SaysC.def_ (c : SaysC fa fn ex K) (i : Nat) {d : He5.DefA} (h : fn[i]? = some d := by rfl) : ∃ fd, FunD K d.name d.qual d.params d.body d.scope (d.dvs K) (d.kws K) (d.at_ K) fd := by
  have e : fn.map (fun d => He5.fnA K (d.at_ K)) = fn.map He5.DefA.val := congrArg (fun z : He.AlD => z.2) c
  have e2 : (fn.map fun d => He5.fnA K (d.at_ K))[i]? = (fn.map He5.DefA.val)[i]? := by rw [e]
  rw [List.getElem?_map, List.getElem?_map, h] at e2
  exact He5.DefA.funD (Option.some.inj e2) (List.all_eq_true.mp c.all.2.2.1 d (List.mem_of_getElem? h))
end
/-- the k-th statement of a class -/
def clsSt (s : Stmt) (k : Nat) : Stmt := match s with
  | .ClassDef _ _ _ b _ _ _ _ _ _ _ => b.getD k (.Pass ⟨0, 0, 0, 0⟩)
  | _ => .Pass ⟨0, 0, 0, 0⟩
end O
namespace O
open PySem PySem.Spec PyProof.Rows L2
section
variable {X : Cx} {Wx : WX} {HK : Hand} {j k : Nat} {C f : Addr} {S : Sx} {op : UnaryOp} {m : Str} {pos : Pos} {o : Expr} {da : Dn Hn} {fd : FuncData} {ps : List Str} {sp : Sp} {ta : TE}
end
end O
namespace O
open PySem PySem.Spec PyProof.Rows L2
section
variable {X : Cx} {Wx : WX}
end
end O
namespace O
open PySem PySem.Spec PyProof.Rows L2
open AutoSeq1 (wpAny_loadPart')
section
variable {X : Cx} {Wx : WX} {e : Expr} {d : Dn (List Hn)} {p pos tpos : Pos} {elts : List Expr} {kk : Nat}
end
end O
namespace O
open PySem PySem.Spec PyProof.Rows L2
section
variable {X : Cx}
end
end O
namespace O
open PySem PySem.Spec PyProof.Rows L2
def isA (D : Addr) : Ad := fun p => p = D
theorem Step.over {P W P1 W1 P2 W2 : Ad} {H H1 H2 H3 : Hp} {D : Addr} (wd : ∀ p, W p → ∃ o, H p = some o) (a : Step (rooted P (isA D)) W H (rooted P1 (isA D)) W1 H1) (b : Step P1 W1 H1 P2 W2 H2) (oD : ∀ p, p ≠ D → H3 p = H2 p) (hD : ∃ o, H3 D = some o) :
    Step (rooted P (isA D)) W H (rooted P2 (isA D)) W2 H3 where
  keep := fun p o e n => by
    have np : p ≠ D := fun z => n (.inr z)
    rw [oD p np]
    exact b.keep p o (a.keep p o e n) fun z => (a.newP p (.inl z)).elim n fun q => by rw [e] at q; cases q
  dom := fun p o e => by
    by_cases c : p = D
    · rw [c]; exact hD
    · rw [oD p c]
      obtain ⟨o', e'⟩ := a.dom p o e
      exact b.dom p o' e'
  stay := fun p w n => b.stay p (a.stay p w n) fun z => (a.newP p (.inl z)).elim n fun q => by obtain ⟨o, e⟩ := wd p w; rw [q] at e; cases e
  new := fun p z => (b.new p z).elim (a.new p) fun q => .inr (a.none_of q)
  newP := fun p z => by
    rcases z with z | z
    · exact (b.newP p z).elim (fun z => a.newP p (.inl z)) fun q => .inr (a.none_of q)
    · exact .inl (.inr z)
theorem Lt.trans {W W1 W2 : Ad} {H H1 H2 : Hp} (a : Lt W H W1 H1) (b : Lt W1 H1 W2 H2) : Lt W H W2 H2 where
  keep := fun p o e n => b.keep p o (a.keep p o e n) fun z => (a.new p z).elim n fun q => by rw [e] at q; cases q
  new := fun p z => (b.new p z).elim (a.new p) fun q => .inr (by
    cases e : H p with
    | none => rfl
    | some o => obtain ⟨o', e'⟩ := a.dom p o e; rw [q] at e'; cases e')
  dom := fun p o e => by
    obtain ⟨o', e'⟩ := a.dom p o e
    exact b.dom p o' e'
section
variable {K : PySem.W.Frag} {Wx : WX}
end
section
variable {X : Cx} {Wx : WX}
end
end O
namespace O
open PySem PySem.Spec PyProof.Rows L2
def veBm : List Value := [.type "ValueError", .type "Exception", .type "BaseException", .type "object"]
/-- an own class of errors without a method of its own -/
structure ErrK (K : PySem.W.Frag) (C : Addr) : Prop where
  ex : PySem.W.excIn K C veBm "ValueError.__new__" = true
  kp : PySem.W.keepIn K (.ref C) = true
  sb : PySem.W.subIn K (.ref C) (.type "BaseException") = some true
  ty : PySem.W.typeIn K (.ref C) = some (.type "type")
  ec : ExcC K C
def excCB (K : PySem.W.Frag) (D : Addr) : Bool :=
  He.eqO (PySem.W.findIn K (.ref D) "__getattribute__") (some (some (.builtin "BaseException.__getattribute__"))) && (He.eqO (PySem.W.findIn K (.ref D) "__getattr__") (some none) && (decide (PySem.W.subIn K (.ref D) (.type "BaseException") = some true) &&
  (PySem.W.hasDictIn K D && (He.eqO (PySem.W.findIn K (.ref D) "__class__") (some (some (.builtin "object.__class__"))) && (He.eqO (PySem.W.specialIn K (.builtin "object.__class__") "__get__") (some (some (.builtin "getset_descriptor.__get__"))) &&
  (decide (PySem.W.takesIn K (.builtin "object.__class__") = some true) && decide (PySem.W.mroIn K D (.type "object") = some true)))))))
theorem excCB_ok {K : PySem.W.Frag} {D : Addr} (h : excCB K D = true) : ExcC K D := by
  obtain ⟨h1, h⟩ := He.ba h
  obtain ⟨h2, h⟩ := He.ba h
  obtain ⟨h3, h⟩ := He.ba h
  obtain ⟨h4, h⟩ := He.ba h
  obtain ⟨h5, h⟩ := He.ba h
  obtain ⟨h6, h⟩ := He.ba h
  obtain ⟨h7, h8⟩ := He.ba h
  exact ⟨He.eqO_ok h1, He.eqO_ok h2, of_decide_eq_true h3, h4, He.eqO_ok h5, He.eqO_ok h6, of_decide_eq_true h7, of_decide_eq_true h8⟩
def errKB (K : PySem.W.Frag) (C : Addr) : Bool := PySem.W.excIn K C veBm "ValueError.__new__" && (PySem.W.keepIn K (.ref C) && (decide (PySem.W.subIn K (.ref C) (.type "BaseException") = some true) && (decide (PySem.W.typeIn K (.ref C) = some (.type "type")) && excCB K C)))
theorem errKB_ok {K : PySem.W.Frag} {C : Addr} (h : errKB K C = true) : ErrK K C := by
  obtain ⟨h1, h⟩ := He.ba h
  obtain ⟨h2, h⟩ := He.ba h
  obtain ⟨h3, h⟩ := He.ba h
  obtain ⟨h4, h5⟩ := He.ba h
  exact ⟨h1, h2, of_decide_eq_true h3, of_decide_eq_true h4, excCB_ok h5⟩
/-- the names of the classes; which clause takes which -/
def takesE (n m : Str) : Bool := decide (m = n) || decide (m = "PairError")
def errNames : List Str := ["InvalidRow", "InvalidCounts", "InvalidRuns", "InvalidSwap", "InvalidPattern", "InvalidNumber", "InvalidStrands", "InvalidCommand", "Different", "NothingToUndo", "TooLarge", "InvalidText", "PairError"]
/-- C is the class of errors that is named n: what the program asks of it -/
structure ErrN (K : PySem.W.Frag) (C : Addr) (n : Str) : Prop where
  mem : n ∈ errNames
  at_ : C = He.ga K n
  ec : ExcC K C
  kit : ∀ m ∈ errNames, PySem.W.kitOne K (.ref C) (.ref (He.ga K m)) = some (takesE n m)
  exm : ∀ m ∈ errNames, PySem.W.exmOne K (.ref C) (.ref (He.ga K m)) = some (takesE n m)
  ve : PySem.W.kitOne K (.ref C) (.type "ValueError") = some true
def errNB (n : Str) (K : PySem.W.Frag) : Bool := decide (n ∈ errNames) && (excCB K (He.ga K n) && (errNames.all (fun m => decide (PySem.W.kitOne K (.ref (He.ga K n)) (.ref (He.ga K m)) = some (takesE n m)) && decide (PySem.W.exmOne K (.ref (He.ga K n)) (.ref (He.ga K m)) = some (takesE n m))) &&
  decide (PySem.W.kitOne K (.ref (He.ga K n)) (.type "ValueError") = some true)))
theorem errNB_ok {n : Str} {K : PySem.W.Frag} (h : errNB n K = true) : ErrN K (He.ga K n) n := by
  obtain ⟨h0, h⟩ := He.ba h
  obtain ⟨h1, h⟩ := He.ba h
  obtain ⟨h2, h3⟩ := He.ba h
  exact ⟨of_decide_eq_true h0, rfl, excCB_ok h1, fun m k => of_decide_eq_true (He.ba (List.all_eq_true.mp h2 m k)).1, fun m k => of_decide_eq_true (He.ba (List.all_eq_true.mp h2 m k)).2, of_decide_eq_true h3⟩
def sRaise (C : Addr) : Ds := fun ρ Q => Q.ex C [] ρ
theorem mn_raise {C : Addr} : MnS (sRaise C) := fun _ _ _ h _ _ _ _ e => e _ _ _ h
section
variable {X : Cx} {Wx : WX} {C : Addr} {x m : Str} {j : Nat} {p p2 pos pos' : Pos}
theorem xs_raise (k : ErrK X.K C) (gC : X.mg x = some (.ref C)) (tk : L2N.Takes X Wx) (hc : X.calm = true := by rfl) (hg : Gl X x := by rfl) (hdb : (x == ("__debug__" : Str)) = false := by decide) :
    XS X Wx (.Raise (some (.Call (.Name x p) [.Constant (.str m) j p2] [] pos)) none pos') (sRaise C) :=
  ⟨PS.imp (L2N.ps_raise hc tk (L2N.pmk_own PySem.F.excBase_ValueError k.ex gC k.kp (raises_own k.sb k.ty) hg hdb)) fun D σ H ⟨W, ρ, rep, h⟩ => h none σ W H rfl rep (Step.refl _ _ _) (IoK.refl _ _), mn_raise⟩
end
abbrev Er := Addr → Str → Prop
/-- what a clause's end leaves -/
def sGone (Q : PoS) (i : Nat) : PoS := { nx := fun ρ => (sl_ ρ i).pin = false ∧ Q.nx (ρ.set i .no), rt := fun r ρ => Q.rt r ρ, bk := fun ρ => (sl_ ρ i).pin = false ∧ Q.bk (ρ.set i .no), ct := fun ρ => (sl_ ρ i).pin = false ∧ Q.ct (ρ.set i .no), ex := fun _ _ _ => False }
/-- ds: the suite, of the error and its class -/
def sTry (R : Er) (m : Str) (i : Nat) (db : Ds) (ds : Addr → Addr → Option Addr → List (Str × T) → Ds) : Ds := fun ρ Q => db ρ { Q with ex := fun C fs ρ1 => (sl_ ρ1 i).pin = false ∧ ∃ n, R C n ∧ (takesE n m = true → ∀ a d, ds a C d fs (ρ1.set i (.sh (.exc a C d fs))) (sGone Q i)) ∧ (takesE n m = false → Q.ex C fs ρ1) }
theorem mn_try {R : Er} {m : Str} {i : Nat} {db : Ds} {ds : Addr → Addr → Option Addr → List (Str × T) → Ds} (mb : MnS db) (ms : ∀ a C d fs, MnS (ds a C d fs)) : MnS (sTry R m i db ds) := fun ρ Q Q' h n r b c e =>
  mb _ _ _ h n r b c fun C fs ρ1 ⟨pi, nm, rc, h1, h2⟩ => ⟨pi, nm, rc, fun t a d => ms a C d fs _ _ _ (h1 t a d) (fun _ z => ⟨z.1, n _ z.2⟩) r (fun _ z => ⟨z.1, b _ z.2⟩) (fun _ z => ⟨z.1, c _ z.2⟩) (fun _ _ _ z => z), fun t => e _ _ _ (h2 t)⟩
section
variable {K : PySem.W.Frag} {σ : L2.St} {ρ : Rho} {W : Ad} {H : Hp}
theorem own_clear {i j : Nat} {p : Addr} (hl : ρ.length = σ.length) (w : (sl_ (ρ.set i .no) j).own) (e : at_ (σ.set i none) j = some (.ref p)) : (sl_ ρ j).own ∧ at_ σ j = some (.ref p) := by
  rw [sl_set] at w
  rw [at_set, ← hl] at e
  by_cases c : i = j ∧ i < ρ.length
  · rw [if_pos c] at w; exact w.elim
  · rw [if_neg c] at w e; exact ⟨w, e⟩
theorem Rep.clear (rep : Rep K W H σ ρ) (i : Nat) : Rep K W H (σ.set i none) (ρ.set i .no) := by
  have hl := rep.len
  refine ⟨by rw [List.length_set, List.length_set]; exact hl, fun j => ?_, fun a b p wa wb ea eb => ?_, rep.wd⟩
  · rw [sl_set, at_set, ← hl]
    by_cases c : i = j ∧ i < ρ.length
    · rw [if_pos c, if_pos c]; trivial
    · rw [if_neg c, if_neg c]; exact rep.sl j
  · obtain ⟨a1, a2⟩ := own_clear hl wa ea
    obtain ⟨b1, b2⟩ := own_clear hl wb eb
    exact rep.inj a b p a1 b1 a2 b2
theorem Rt_clear (rep : Rep K W H σ ρ) (i : Nat) : ∀ p, Rt (σ.set i none) (ρ.set i .no) p → Rt σ ρ p := fun p ⟨j, w, e⟩ => ⟨j, own_clear rep.len w e⟩
end
/-- R tells the names of classes rightly -/
def ErOk (K : PySem.W.Frag) (R : Er) : Prop := ∀ C n, R C n → ErrN K C n
section
variable {X : Cx} {Wx : WX} {R : Er} {m e : Str} {i : Nat} {body suite : List Stmt} {b₀ : Stmt} {np pos pos' : Pos} {db : Ds} {ds : Addr → Addr → Option Addr → List (Str × T) → Ds}
theorem xs_try (i : Nat) (hR : ErOk X.K R) (gm : X.mg m = some (.ref (He.ga X.K m))) (hm : m ∈ errNames) (tk : L2N.Takes X Wx) (hp0 : PassesOwn (model X.prog X.w) X.A X.env X.xe)
    (hb : ∀ (W : WX) (pn : List (Addr × Obj)) (xe : Value → Shared → Prop), L2N.Takes (X.tr pn xe) W → PassesOwn (model X.prog X.w) X.A X.env xe → XSs (X.tr pn xe) W body db)
    (hsu : ∀ (a C : Addr) (oe : Obj) (d : Option Addr) (fs : List (Str × T)) (pn : List (Addr × Obj)), L2N.Zn (.ref C) d oe → (∃ vs, oe.data = .fields vs) → XSs (X.suite a ((a, oe) :: pn)) (fun _ _ _ _ => False) (b₀ :: suite) (ds a C d fs))
    (hs : X.stack = X.env :: X.outer := by rfl) (hf : X.env.frame = some X.env.locals := by rfl) (hN : X.N.Nodup := by assumption) (hi : X.N[i]? = some e := by rfl) (hln : X.env.kindOf e = some .local := by rfl) (hg : Gl X m := by rfl) (hdb : (m == ("__debug__" : Str)) = false := by decide) :
    XS X Wx (.Try body [.ExceptHandler (some (.Name m np)) (some e) (b₀ :: suite) pos'] [] [] pos) (sTry R m i db ds) := by
  have ms : ∀ a C d fs, MnS (ds a C d fs) := fun a C d fs => (hsu a C { cls := .ref C, dict := d, data := .fields #[.none, .none, .none] } d fs [] ⟨rfl, rfl, fun vs e => by cases e; rfl⟩ ⟨_, rfl⟩).mn
  have mb : MnS db := (hb Wx X.pn X.xe tk hp0).mn
  refine ⟨PS.imp (L2N.ps_try_as (c := .ref (He.ga X.K m)) (tb := fun W => RS X.K W db) (ts := fun a cls d => fun D σ H => ∃ C fs, cls = .ref C ∧ RS X.K (fun _ _ _ _ => False) (ds a C d fs) D σ H) (Wout := Wx) hs hf hN hi hln ⟨hg, hdb, .inl gm⟩ tk
    (fun W pn xe t p => (hb W pn xe t p).pss) (fun a oe cls d pn hz hf => ?_)) fun D σ H ⟨W, ρ, rep, h⟩ => ?_, mn_try mb ms⟩
  · refine ⟨fun pins s σ H D I ⟨C, fs, ec, q⟩ => ?_⟩
    subst ec
    exact (hsu a C oe d fs pn hz hf).pss.run pins s σ H D I q
  · refine ⟨W, ρ, rep, mb _ _ _ h (fun _ z => z) (fun _ _ z => z) (fun _ z => z) (fun _ z => z) fun C fs ρ1 ⟨pi, n, rc, h1, h2⟩ d σ1 W1 H1 ed rep1 st io => ?_⟩
    refine ⟨takesE n m, (hR C n rc).exm m hm, fun t a na => ⟨C, fs, rfl, ?_⟩, fun t => h2 t d σ1 W1 H1 ed rep1 st io⟩
    have isx : Is X.K W1 H1 (.ref a) (.exc a C d fs) := by
      cases d with
      | none => rw [show fs = [] from ed]; exact .exc0 a C
      | some dd => obtain ⟨_, xs, e1, e2, e3⟩ := ed; exact .exc1 e1 e2 e3
    obtain ⟨rp, sub⟩ := rep1.put (r := (false, .exc a C d fs)) (v := .ref a) (relE_sh isx) i
    have st2 : Step (Rt σ ρ) W H (Rt (σ1.set i (some (.ref a))) (ρ1.set i (.sh (.exc a C d fs)))) W1 H1 := st.subP fun p z => (sub p z).elim id fun z => Bool.noConfusion z.1
    have io2 : IoK σ ρ (σ1.set i (some (.ref a))) (ρ1.set i (.sh (.exc a C d fs))) := io.trans (ioK_put pi)
    refine ⟨W1, ρ1.set i (.sh (.exc a C d fs)), rp, ms a C d fs _ _ _ (h1 t a d) (fun ρ2 ⟨p2, q⟩ σ2 W2 H2 r2 s2 i2 => ?_) (fun r ρ2 q v σ2 W2 H2 rl r2 s2 i2 => ?_) (fun ρ2 ⟨p2, q⟩ σ2 W2 H2 r2 s2 i2 => ?_) (fun ρ2 ⟨p2, q⟩ σ2 W2 H2 r2 s2 i2 => ?_) fun _ _ _ z => z.elim⟩
    · exact q _ W2 H2 (r2.clear i) ((st2.trans rep.wd s2).subP (Rt_clear r2 i)) ((io2.trans i2).trans (ioK_put p2))
    · exact q v σ2 W2 H2 rl r2 (st2.trans rep.wd s2) (io2.trans i2)
    · exact q _ W2 H2 (r2.clear i) ((st2.trans rep.wd s2).subP (Rt_clear r2 i)) ((io2.trans i2).trans (ioK_put p2))
    · exact q _ W2 H2 (r2.clear i) ((st2.trans rep.wd s2).subP (Rt_clear r2 i)) ((io2.trans i2).trans (ioK_put p2))
end
end O
namespace O
open PySem PySem.Spec PyProof.Rows L2 HotX
section
variable {prog : Program} {w : World} {A : Around} {E : Value → Shared → Prop} {s : Shared} {x1 : Addr}
theorem hot_push {h : Heap} {o : Obj} (hot : HotAt A x1 h) : HotAt A x1 (h.push o) := by
  obtain ⟨a, u, vs, e, r⟩ := hot
  exact ⟨a, u, vs, Heap.get?_push_of_some _ e, r⟩
theorem hot_upd {h : Heap} {b : Addr} {f : Obj → Obj} (hot : HotAt A x1 h) (ne : b ≠ x1) : HotAt A x1 (h.update b f) := by
  obtain ⟨a, u, vs, e, r⟩ := hot
  exact ⟨a, u, vs, (Heap.get?_update_other _ _ ne).trans e, r⟩
/-- what ends a walk: an error made and caught at once -/
theorem stop_hot {Q : Option Value → Shared → Prop} {t : Shared} (hot : HotAt A x1 t.heap) (k : ∀ h', (∀ b o, t.heap.get? b = some o → h'.get? b = some o) → Q none { t with heap := h' }) :
    wpAny (model prog w) A.in1 (Builtin.SmallTypes.stopIteration : Sem Fin) (fun _ _ => False) (fun e s' => wpAny (model prog w) A (isInstance e (.type "StopIteration")) (fun b s2 => b = true ∧ Q none s2) E s') t := by
  unfold Builtin.SmallTypes.stopIteration
  refine wpAny_bind ?_
  simp only [newExc, newTuple]
  refine wpAny_bind (wpAny_newObj_type (wpAny_bind (m := firstArgMember _ _) (wpAny_of_eq (a := Value.none) (by first | rfl | (simp only [firstArgMember]; rfl)) (wpAny_newObj_type ?_ (by size_fits)))) (by size_fits))
  refine raiseNew_hot (hot_push (hot_push hot)) (Nat.ne_of_lt ?_) (Heap.get?_push_size _ rfl) rfl (by first | (simp; done) | (simp; omega)) ?_
  · obtain ⟨_, u, vs, e, _⟩ := hot
    rw [Heap.size_push]
    exact Nat.lt_succ_of_lt (Heap.lt_size e)
  · refine wpAny_isInstance (T := "StopIteration") (b := true) ⟨_, Heap.get?_update_self _ (Heap.get?_push_size _ rfl) rfl, rfl⟩ isSubtype_stop ⟨rfl, k _ fun b o e => ?_⟩
    have e2 := Heap.get?_push_of_some { cls := .type "tuple", data := .seq ([] : List Value).toArray } e
    rw [Heap.get?_update_other _ _ (Nat.ne_of_gt (Heap.lt_size e2))]
    exact Heap.get?_push_of_some _ e2
theorem list_end_hot {it l : Addr} {i : Nat} {items : Array Value} {Q : Option Value → Shared → Prop} (hot : HotAt A x1 s.heap) (ne : it ≠ x1) (a : s.heap.IsListIter it l i) (b : s.heap.IsList l items) (z : items[i]? = none)
    (k : ∀ h', (∀ c o, c ≠ it → s.heap.get? c = some o → h'.get? c = some o) → Q none { s with heap := h' }) : wpAny (model prog w) A (pyNext (.ref it)) Q E s := by
  obtain ⟨oi, hi, ci, di⟩ := id a
  obtain ⟨ol, hl, _, nl, dl⟩ := b
  unfold pyNext
  refine wpAny_bind (wpAny_attempt (wpAny_callSpecial?_slot (name := Str.ofString "__next__") a.typeIs slot_listiter_next (wpAny_call_entry slot_listiter_next a.typeIs entry_listiter_next (?_ : wpAny _ _ (field (.ref it) 0 >>= _) _ _ s) (args_listiter_next _))))
  refine wpAny_bind (wpAny_field hi di (x := .ref l) rfl (?_ : wpAny _ _ (if (Value.ref l == Value.none) = true then _ else _) _ _ s))
  rw [if_neg (show (Value.ref l == Value.none) ≠ true from Bool.false_ne_true)]
  refine (?_ : wpAny _ _ (field (.ref it) 1 >>= _) _ _ s)
  refine wpAny_bind (wpAny_field hi di (x := .int i 0) rfl (?_ : wpAny _ _ (seqItems? (.ref l) >>= _) _ _ s))
  refine wpAny_bind (wpAny_seqItems hl dl ?_)
  simp only [Int.toNat_natCast, z]
  refine wpAny_bind (wpAny_rule (wpAny_bind (wpAny_setField hi di (by simp) ?_)))
  have st := stop_hot (prog := prog) (w := w) (E := E) (Q := Q) (t := { s with heap := s.heap.update it (Obj.mapFields (·.setIfInBounds 0 .none)) }) (hot_upd hot ne) (fun h' e => k h' fun c o n g => e c o ((Heap.get?_update_other _ _ (Ne.symm n)).trans g))
  exact wpAny_mono st (fun _ _ z => False.elim z) fun e s' z => wpAny_bind (wpAny_mono z (fun b s2 ⟨eb, q⟩ => by subst eb; exact wpAny_pure q) fun _ _ x => x)
theorem tup_end_hot {it l : Addr} {i : Nat} {items : Array Value} {Q : Option Value → Shared → Prop} (hot : HotAt A x1 s.heap) (ne : it ≠ x1) (a : s.heap.IsTupleIter it l i) (b : s.heap.IsTuple l items) (z : items[i]? = none)
    (k : ∀ h', (∀ c o, c ≠ it → s.heap.get? c = some o → h'.get? c = some o) → Q none { s with heap := h' }) : wpAny (model prog w) A (pyNext (.ref it)) Q E s := by
  obtain ⟨oi, hi, ci, di⟩ := id a
  obtain ⟨ol, hl, _, nl, dl⟩ := b
  unfold pyNext
  refine wpAny_bind (wpAny_attempt (wpAny_callSpecial?_slot (name := Str.ofString "__next__") a.typeIs F.slot_tuple_iterator_next (wpAny_call_entry F.slot_tuple_iterator_next a.typeIs F.entry_tuple_iterator_next (?_ : wpAny _ _ (field (.ref it) 0 >>= _) _ _ s) (F.args_tuple_iterator_next_1 _))))
  refine wpAny_bind (wpAny_field hi di (x := .ref l) rfl (?_ : wpAny _ _ (if (Value.ref l == Value.none) = true then _ else _) _ _ s))
  rw [if_neg (show (Value.ref l == Value.none) ≠ true from Bool.false_ne_true)]
  refine (?_ : wpAny _ _ (field (.ref it) 1 >>= _) _ _ s)
  refine wpAny_bind (wpAny_field hi di (x := .int i 0) rfl (?_ : wpAny _ _ (seqItems? (.ref l) >>= _) _ _ s))
  refine wpAny_bind (wpAny_seqItems hl dl ?_)
  simp only [Int.toNat_natCast, z]
  refine wpAny_bind (wpAny_rule (wpAny_bind (wpAny_setField hi di (by simp) ?_)))
  have st := stop_hot (prog := prog) (w := w) (E := E) (Q := Q) (t := { s with heap := s.heap.update it (Obj.mapFields (·.setIfInBounds 0 .none)) }) (hot_upd hot ne) (fun h' e => k h' fun c o n g => e c o ((Heap.get?_update_other _ _ (Ne.symm n)).trans g))
  exact wpAny_mono st (fun _ _ z => False.elim z) fun e s' z => wpAny_bind (wpAny_mono z (fun b s2 ⟨eb, q⟩ => by subst eb; exact wpAny_pure q) fun _ _ x => x)
/-- (a, b, ..) = a tuple, while an error is handled -/
theorem unpack_hot {env : Env} {elts : List Expr} {kk} {pos : Pos} {t : Addr} {items : Array Value} {Q : Unit → Shared → Prop} (hot : HotAt A x1 s.heap) (ht : s.heap.IsTuple t items) (hn : (assignEach elts env).length = items.size) (hs : (assignEach elts env).findIdx? (·.1) = none)
    (k : ∀ h', (∀ b o, s.heap.get? b = some o → h'.get? b = some o) → wpAny (model prog w) A (assignInOrder ((assignEach elts env).map (·.2)) items.toList) Q E { s with heap := h' }) : wpAny (model prog w) A (assign (.Tuple elts kk pos) env (.ref t)) Q E s := by
  have nt : t ≠ s.heap.objs.size := by obtain ⟨o, e, _⟩ := ht; exact Nat.ne_of_lt (Heap.lt_size e)
  have nx : s.heap.objs.size ≠ x1 := by obtain ⟨_, o, _, e, _⟩ := hot; exact Nat.ne_of_gt (Heap.lt_size e)
  rw [arm_assign_Tuple]
  refine wpAny_bind (wpAny_standAt ?_)
  unfold unpack
  rw [hn, hs]
  refine wpAny_bind (wpAny_holding ?_)
  unfold unpackItems notIterableAtAll
  refine wpAny_bind (wpAny_bind (wpAny_specialOf ht.typeIs F.slot_tuple_iter.lookup (wpAny_pure ?_)))
  rw [if_neg Bool.false_ne_true]
  refine wpAny_bind (wpAny_holding (wpAny_pyIter_tuple ht (wpAny_bind (wpAny_holding (wpAny_draw_tuple nt items.size 0 _ _ ⟨_, Heap.get?_push_size _ rfl, rfl, rfl⟩ (ht.push _) (Nat.le_of_eq (Nat.zero_add _)) fun h1 i1 s1 => ?_)))))
  have all : (items.toList.drop 0).take items.size = items.toList := by rw [List.drop_zero]; exact List.take_of_length_le (Nat.le_of_eq (by simp))
  rw [all, if_neg (show ¬ items.toList.length < items.size by simp)]
  have hot1 : HotAt A x1 h1 := by
    obtain ⟨a, u, vs, e, r⟩ := hot
    exact ⟨a, u, vs, s1.extBut x1 u (Ne.symm nx) (Heap.get?_push_of_some _ e), r⟩
  refine wpAny_bind (wpAny_holding (tup_end_hot hot1 nx i1 ((ht.push _).extBut s1.extBut nt) (by simp) fun h2 e2 => ?_))
  exact wpAny_pure (k h2 fun b o e => e2 b o (Nat.ne_of_lt (Heap.lt_size e)) (s1.extBut b o (Nat.ne_of_lt (Heap.lt_size e)) (Heap.get?_push_of_some _ e)))
end
end O
namespace O
open PySem PySem.Spec PyProof.Rows L2 HotX L2H
/-- a pair within a list: its address, its name, its answer -/
abbrev Pr := Addr × V × Bool
def picked (ps : List Pr) : List V := (ps.filter fun q => q.2.2).map fun q => q.2.1
theorem picked_snoc (qs : List Pr) (q : Pr) : picked (qs ++ [q]) = picked qs ++ (if q.2.2 = true then [q.2.1] else []) := by
  obtain ⟨a, v, b⟩ := q
  unfold picked
  cases b <;> simp
theorem sqL_upd {K : PySem.W.Frag} {H : Hp} {a D : Addr} {xs : List V} {o : HO} (h : SqL K H a xs) (n : H D = none) : SqL K (upd H D o) a xs := by
  rcases h with (h | ⟨u, h⟩) | h
  · exact .inl (.inl (by rw [upd_ne (ne_of_none h n)]; exact h))
  · exact .inl (.inr ⟨u, by rw [upd_ne (ne_of_none h n)]; exact h⟩)
  · exact .inr h
theorem sqT_upd {K : PySem.W.Frag} {H : Hp} {a D : Addr} {xs : List V} {o : HO} (h : SqT K H a xs) (n : H D = none) : SqT K (upd H D o) a xs := by
  rcases h with (h | ⟨u, h⟩) | h
  · exact .inl (.inl (by rw [upd_ne (ne_of_none h n)]; exact h))
  · exact .inl (.inr ⟨u, by rw [upd_ne (ne_of_none h n)]; exact h⟩)
  · exact .inr h
theorem upd_upd {H : Hp} {D : Addr} {o o' : HO} : upd (upd H D o) D o' = upd H D o' := by
  funext q
  by_cases c : q = D
  · rw [c, upd_same, upd_same]
  · rw [upd_ne c, upd_ne c, upd_ne c]
section
variable {Y : Cx} {pins : List (Addr × Obj)} {σ : L2.St} {H : Hp} {s : Shared} {p : Addr × Obj} {i1 i2 : Nat} {scope : Scope} {own : List (Str × Nat)} {ps : List Pr} {a : Addr} {e1 e2 x q1 q2 it0 : Expr} {kk : Nat} {pt pos pos' : Pos}
theorem HotC.pinAt {pn : List (Addr × Obj)} {Z : Cx} {τ : L2.St} {G : Hp} {t : Shared} (hot : Hot1 Z.A p) (I : Inv Z pn τ G t) (h : p ∈ Z.pn ++ pn) : HotAt Z.A p.1 t.heap := by
  obtain ⟨hh, vs, e, c⟩ := hot
  exact ⟨hh, p.2, vs, (I.pin p h).1, e, c⟩
theorem pick_core {use : Option (Value → Sem Unit)} {Qf : Value → Shared → Prop} (hot : Hot1 Y.A p) (hp : p ∈ Y.pn) (hN : Y.N.Nodup) (I : Inv Y pins σ H s) (ok : BlkOk Y.N Y.env.scope scope own) (v1 : i1 ∈ own.map (·.2)) (v2 : i2 ∈ own.map (·.2)) (n12 : i1 ≠ i2) (l1 : i1 < σ.length) (l2 : i2 < σ.length)
    (he : wpAny (model Y.prog Y.w) Y.A (eval it0 Y.env) (EP Y pins σ fun v H1 => v = .ref a ∧ H1 = H) Y.xe s) (hs : ∀ x, foldedSetIterable it0 Y.env x = pure x)
    (hg : ∀ (s : Shared) (H : Hp) (C : Addr) (cl : List (Str × Addr)) (fp : List Addr), PGs (Y.blk s H scope (compEnvC scope cl C Y.env) fp) [e1, e2] (gCons (gName i1) (gCons (gName i2) gNil)))
    (hn : ∀ env : Env, (assignEach [e1, e2] env).length = 2) (hst : ∀ env : Env, (assignEach [e1, e2] env).findIdx? (·.1) = none)
    (ht : ∀ (s : Shared) (H : Hp) (C : Addr) (cl : List (Str × Addr)) (fp : List Addr), PTs (Y.blk s H scope (compEnvC scope cl C Y.env) fp) [q2] (tB (tVar i2)))
    (hx : ∀ (s : Shared) (H : Hp) (C : Addr) (cl : List (Str × Addr)) (fp : List Addr), PE (Y.blk s H scope (compEnvC scope cl C Y.env) fp) q1 (tVar i1))
    (hl : SqL Y.K H a (ps.map fun q => V.ref q.1)) (hi : ∀ q ∈ ps, SqT Y.K H q.1 [q.2.1, .bl q.2.2]) (hz : ps.length < sizeLine)
    (fin : ∀ D C s' m, H D = none → Inv Y pins σ (upd H D (.lst (picked ps))) s' → s'.heap.Ns C m → FpOk Y pins (upd H D (.lst (picked ps))) C → compPost (model Y.prog Y.w) Y.A Y.xe use Qf (.ref D) C (.ok .next) s') :
    wpAny (model Y.prog Y.w) Y.A (comprehension (.ListComp q1 [⟨.Tuple [e1, e2] kk pt, it0, [q2], 0⟩] scope pos) scope Y.env pos' (newList []) false (eval it0 Y.env) use) Qf Y.xe s := by
  have cells : ∀ y ∈ scope.names, y.2 = .free → ∃ c, Y.env.cells.lookup y.1 = some c := fun y m e => (ok.free y m e).elim (fun k => I.ok.has _ (.inl k)) fun k => I.ok.has _ (.inr k)
  refine wpAny_comprehension_free (use := use) rfl hs (closure_ok cells) ok.kind (fun y m e => (ok.uniq y m).trans (by rw [e])) (thn he fun u s1 ⟨v, H1, I1, rv, ev, eH⟩ => ?_)
  clear I he
  subst ev eH
  cases rv
  obtain ⟨its, vr, pl, _⟩ := I1.list hl
  refine wpAny_pyIter_list pl.isList (wpAny_newObj_type (newEnv_comp ?_) (Nat.zero_le _))
  generalize q2s : ({ s1 with heap := s1.heap.push { cls := .type "list_iterator", data := .fields #[.ref a, .int 0 0] } } : Shared) = s2
  generalize eit : s1.heap.objs.size = it
  have I2 : Inv Y pins σ H1 s2 := by rw [← q2s]; exact I1.kept (t' := s1.toks) fun b o z => Heap.get?_push_of_some _ z
  have st2 : s2.heap.IsListIter it a 0 := by rw [← q2s, ← eit]; exact ⟨_, Heap.get?_push_size _ rfl, rfl, rfl⟩
  have z2 : s2.heap.objs.size = it + 1 := by rw [← q2s, ← eit]; exact Heap.size_push ..
  generalize eD : s2.heap.objs.size = D
  have nD : H1 D = none := I2.hok.fresh (Nat.le_of_eq eD)
  have nI : H1 it = none := I1.hok.fresh (Nat.le_of_eq eit)
  generalize q3s : ({ s2 with heap := s2.heap.push { cls := .type "list", data := .seq ([] : List Value).toArray } } : Shared) = s3
  have h3 : s3.heap = s2.heap.push { cls := .type "list", data := .seq ([] : List Value).toArray } := by rw [← q3s]
  have I3 : Inv Y pins σ (upd H1 D (.lst [])) s3 := by
    rw [← q3s]
    refine I2.laid (t' := s2.toks) (fun b o z => Heap.get?_push_of_some _ z) (Nat.le_of_eq eD) ⟨Nat.zero_le _, [], 0, .nil, ?_⟩
    rw [← eD]
    exact Heap.get?_push_size _ rfl
  have z3 : s3.heap.objs.size = it + 2 := by rw [h3, Heap.size_push, z2]
  have nDi : it ≠ D := by rw [← eD, z2]; exact Nat.ne_of_lt (Nat.lt_succ_self _)
  have fp3 : FpOk Y pins (upd H1 D (.lst [])) it := by
    have z := I1.fpOk (b := it) (H' := upd H1 D (.lst [])) (Nat.le_of_eq eit) (by rw [upd_ne nDi]; exact nI)
    exact z
  have f3 : ∀ b ∈ [it], FpOk Y pins (upd H1 D (.lst [])) b ∧ b < s3.heap.objs.size := fun b m => by
    rw [List.mem_singleton.mp m]
    exact ⟨fp3, by rw [z3]; omega⟩
  have I4 := block_start I3 ok hN f3
  have pg := hg s3 (upd H1 D (.lst [])) s3.heap.objs.size (cellsFrom (s3.heap.objs.size + 1) scope.names (cloFrom Y.env.cells scope.names [])) [it]
  have ptt := ht s3 (upd H1 D (.lst [])) s3.heap.objs.size (cellsFrom (s3.heap.objs.size + 1) scope.names (cloFrom Y.env.cells scope.names [])) [it]
  have px := hx s3 (upd H1 D (.lst [])) s3.heap.objs.size (cellsFrom (s3.heap.objs.size + 1) scope.names (cloFrom Y.env.cells scope.names [])) [it]
  show codeAny _ _ (.compStart (.ListComp q1 [⟨.Tuple [e1, e2] kk pt, it0, [q2], 0⟩] scope pos) 0 (.ref it) (.ref D) (compEnvC scope (cellsFrom (s3.heap.objs.size + 1) scope.names (cloFrom Y.env.cells scope.names [])) s3.heap.objs.size Y.env)) (compPost (model Y.prog Y.w) Y.A Y.xe use Qf (.ref D) s3.heap.objs.size) { s3 with heap := pushCells (s3.heap.push { cls := .type "dict", data := .dict #[] }) scope.names }
  generalize ece : compEnvC scope (cellsFrom (s3.heap.objs.size + 1) scope.names (cloFrom Y.env.cells scope.names [])) s3.heap.objs.size Y.env = ce at I4 pg ptt px ⊢
  have cL : ce.locals = s3.heap.objs.size := by subst ece; rfl
  generalize q4s : ({ s3 with heap := pushCells (s3.heap.push { cls := .type "dict", data := .dict #[] }) scope.names } : Shared) = s4 at I4 ⊢
  have up : ∀ b o, s1.heap.get? b = some o → s4.heap.get? b = some o := fun b o z => by
    have z : s2.heap.get? b = some o := by rw [← q2s]; exact Heap.get?_push_of_some _ z
    have z : s3.heap.get? b = some o := by rw [h3]; exact Heap.get?_push_of_some _ z
    rw [← q4s]
    exact pushCells_keeps _ _ _ _ (Heap.get?_push_of_some _ z)
  have st4 : s4.heap.IsListIter it a 0 := by
    refine st2.at fun o z => ?_
    have z : s3.heap.get? it = some o := by rw [h3]; exact Heap.get?_push_of_some _ z
    rw [← q4s]
    exact pushCells_keeps _ _ _ _ (Heap.get?_push_of_some _ z)
  obtain ⟨pg1, pg2, pg3, pg4, pg5⟩ := I1.pin p (List.mem_append_left _ hp)
  have plt : (p.1 : Nat) < it := by rw [← eit]; exact Heap.lt_size pg1
  have J4 : Inv (Y.blk s3 (upd H1 D (.lst [])) scope ce [it]) [p] (wipe σ (own.map (·.2))) (upd H1 D (.lst [])) s4 := by
    refine I4.pins_of fun r m => ?_
    have er : r = p := List.mem_singleton.mp (show r ∈ [p] from m)
    subst er
    refine ⟨up _ _ pg1, by rw [upd_ne (Nat.ne_of_lt (Nat.lt_of_lt_of_le plt (by rw [← eD, z2]; exact Nat.le_succ _)))]; exact pg2, ?_, fun m => ?_, pg5⟩
    · show r.1 ≠ ce.locals
      rw [cL, z3]; exact Nat.ne_of_lt (Nat.lt_of_lt_of_le plt (Nat.le_add_right _ 2))
    · exact (List.mem_cons.mp (I1.stkSub _ m)).elim pg3 pg4
  have fpB : ∀ {G : Hp} {t : Shared} {τ : L2.St}, Inv (Y.blk s3 (upd H1 D (.lst [])) scope ce [it]) [p] τ G t → G it = none → FpOk (Y.blk s3 (upd H1 D (.lst [])) scope ce [it]) [p] G it := fun {G t τ} J n =>
    ⟨n, (J.ok.exf it List.mem_cons_self).1, J.ok.exfs it List.mem_cons_self, .inl List.mem_cons_self, fun y c z => (J.ok.exf it List.mem_cons_self).2 y c z, fun r m => by
      have er : r = p := List.mem_singleton.mp (show r ∈ [p] from m)
      rw [er]; exact Nat.ne_of_lt plt⟩
  have pm : p ∈ (Y.blk s3 (upd H1 D (.lst [])) scope ce [it]).pn ++ [p] := List.mem_singleton.mpr rfl
  have gI : ∀ acc : List V, upd H1 D (.lst acc) it = none := fun acc => by rw [upd_ne nDi]; exact nI
  have wl : ∀ {τ : L2.St}, wipe τ (own.map (·.2)) = wipe σ (own.map (·.2)) → (wipe σ (own.map (·.2))).length = τ.length := fun {τ} e => by rw [← e, wipe_length]
  have loop : codeAny (model Y.prog Y.w) Y.A (.compLoop (.ListComp q1 [⟨.Tuple [e1, e2] kk pt, it0, [q2], 0⟩] scope pos) 0 (.ref it) (.ref D) ce) (compPost (model Y.prog Y.w) Y.A Y.xe use Qf (.ref D) s3.heap.objs.size) s4 := by
    refine compLoop_any (fun n s' => ∃ i, n = ps.length - i ∧ i ≤ ps.length ∧ Inv (Y.blk s3 (upd H1 D (.lst [])) scope ce [it]) [p] (wipe σ (own.map (·.2))) (upd H1 D (.lst (picked (ps.take i)))) s' ∧ s'.heap.IsListIter it a i) ?_ ps.length ⟨0, by simp, Nat.zero_le _, J4, st4⟩
    rintro n s5 ⟨i, en, li, I5, st5⟩
    obtain ⟨us, ur, pl5, _⟩ := I5.list (sqL_upd hl nD)
    have ul : us.length = ps.length := by rw [← ur.length, List.length_map]
    obtain ⟨f0, f1, f2, f3, f4, f5⟩ := fpB I5 (gI _)
    by_cases c : i < ps.length
    · -- a turn
      obtain ⟨u, hu, ru⟩ := ur.get (i := i) (x := .ref (ps[i]).1) (by rw [List.getElem?_map, List.getElem?_eq_getElem c]; rfl)
      cases ru
      refine wpAny_pyNext_list_item st5 pl5.isList (x := .ref (ps[i]).1) (by simpa using hu) fun h' st' sb => ?_
      have I6 : Inv (Y.blk s3 (upd H1 D (.lst [])) scope ce [it]) [p] (wipe σ (own.map (·.2))) (upd H1 D (.lst (picked (ps.take i)))) { s5 with heap := h' } := I5.turned (t' := s5.toks) (fun b o n z => (sb.2 b n).trans z) f0 f1 f3 f4 f5
      obtain ⟨oi, h1, h2, h3⟩ := id st'
      refine go_of (s := { s5 with heap := h' }) h1 h2 h3 (by decide) ?_
      have hq := hi _ (List.getElem_mem c)
      obtain ⟨vs, rv, tp, _⟩ := I6.tuple (sqT_upd hq nD)
      have vl : vs.length = 2 := by rw [← rv.length]; rfl
      have I7 := I6.pinned (fp := [it]) (fun b m => by rw [List.mem_singleton.mp m]; exact fpB I6 (gI _)) fun b m => by
        rw [List.mem_singleton.mp m]
        exact ⟨oi, h1, fun v z => by rw [h3] at z; cases z⟩
      have pn : ∀ {τ : L2.St} {t : Shared} {G : Hp}, Inv (Y.blk s3 (upd H1 D (.lst [])) scope ce [it]) ([p] ++ pinsAt [it] h') τ G t → t.heap.IsListIter it a (i + 1) := fun {τ t G} J =>
        st'.at fun o z => (J.pin (it, o) (List.mem_append_right _ (List.mem_append_right _ (mem_pinsAt List.mem_cons_self z)))).1
      have pm7 : p ∈ (Y.blk s3 (upd H1 D (.lst [])) scope ce [it]).pn ++ ([p] ++ pinsAt [it] h') := List.mem_append_right _ List.mem_cons_self
      have ta : (ps.take (i + 1)) = ps.take i ++ [ps[i]] := (List.take_append_getElem c).symm
      have pk : picked (ps.take (i + 1)) = picked (ps.take i) ++ (if (ps[i]).2.2 = true then [(ps[i]).2.1] else []) := by
        rw [ta]
        exact picked_snoc _ _
      have again : ∀ {t : Shared}, Inv (Y.blk s3 (upd H1 D (.lst [])) scope ce [it]) ([p] ++ pinsAt [it] h') (((wipe σ (own.map (·.2))).set i1 (some (ps[i]).2.1)).set i2 (some (.bl (ps[i]).2.2))) (upd H1 D (.lst (picked (ps.take (i + 1))))) t →
          ∃ m, m < n ∧ ∃ i, m = ps.length - i ∧ i ≤ ps.length ∧ Inv (Y.blk s3 (upd H1 D (.lst [])) scope ce [it]) [p] (wipe σ (own.map (·.2))) (upd H1 D (.lst (picked (ps.take i)))) t ∧ t.heap.IsListIter it a i := fun {t} J =>
        ⟨ps.length - (i + 1), by omega, i + 1, rfl, c, (J.unpinned (pins := [p])).weak (by rw [List.length_set, List.length_set]) (fun j v z => by
          have nj := (wipe_some z).2
          rw [List.getElem?_set_ne (fun e => by subst e; exact nj v2), List.getElem?_set_ne (fun e => by subst e; exact nj v1)]
          exact z), pn J⟩
      refine unpack_hot (HotC.pinAt (Z := Y.blk s3 (upd H1 D (.lst [])) scope ce [it]) hot I7 pm7) (show Heap.IsTuple h' _ vs.toArray from tp) (by rw [hn, List.size_toArray, vl]) (hst _) fun h8 k8 => ?_
      have I8 := I7.kept (t' := s5.toks) (h' := h8) k8
      refine wpAny_mono (pg.run _ _ _ _ [(ps[i]).2.1, .bl (ps[i]).2.2] vs (fun τ G => τ = ((wipe σ (own.map (·.2))).set i1 (some (ps[i]).2.1)).set i2 (some (.bl (ps[i]).2.2)) ∧ G = upd H1 D (.lst (picked (ps.take i)))) I8 rv ⟨_, _, rfl, _, _, rfl, rfl, rfl, rfl⟩) (fun _ t8 ⟨τ, G, I9, e9, g9⟩ => ?_) fun _ _ z => False.elim z
      subst e9 g9
      have l2' : i2 < ((wipe σ (own.map (·.2))).set i1 (some (ps[i]).2.1)).length := by rw [List.length_set, wipe_length]; exact l2
      have l1' : i1 < (wipe σ (own.map (·.2))).length := by rw [wipe_length]; exact l1
      refine wpAny_mono (ptt.run _ t8 _ _ (fun b G => b = (ps[i]).2.2 ∧ G = upd H1 D (.lst (picked (ps.take i)))) I9 ⟨_, List.getElem?_set_self l2', _, rfl, rfl, rfl⟩) (fun b t9 ⟨G, I10, eb, g10⟩ => ?_) fun _ _ z => False.elim z
      subst eb g10
      by_cases z : (ps[i]).2.2 = true
      · rw [if_pos z] at pk
        rw [if_pos z]
        refine wpAny_mono (px.run _ t9 _ _ (fun v G => v = (ps[i]).2.1 ∧ G = upd H1 D (.lst (picked (ps.take i)))) I10 ⟨_, by rw [List.getElem?_set_ne (Ne.symm n12)]; exact List.getElem?_set_self l1', rfl, rfl⟩) (fun y t10 ⟨v, G, I11, ry, ev, g11⟩ => ?_) fun _ _ z => False.elim z
        subst ev g11
        refine app_ok (X := Y.blk s3 (upd H1 D (.lst [])) scope ce [it]) I11 (upd_same) ?_ ry fun t11 I12 => again ?_
        · have : (picked (ps.take i)).length ≤ i := by
            unfold picked
            rw [List.length_map]
            exact Nat.le_trans (List.length_filter_le _ _) (by rw [List.length_take]; exact Nat.min_le_left _ _)
          omega
        · rw [upd_upd] at I12
          rw [pk]
          exact I12
      · rw [if_neg z] at pk
        rw [if_neg z]
        refine again ?_
        rw [pk, List.append_nil]
        exact I10
    · -- the end
      have ei : i = ps.length := by omega
      refine list_end_hot (HotC.pinAt (Z := Y.blk s3 (upd H1 D (.lst [])) scope ce [it]) hot I5 pm) (Nat.ne_of_gt plt) st5 pl5.isList (Array.getElem?_eq_none (by rw [List.size_toArray]; omega)) fun h' k => ?_
      have I6 : Inv (Y.blk s3 (upd H1 D (.lst [])) scope ce [it]) [p] (wipe σ (own.map (·.2))) (upd H1 D (.lst (picked (ps.take i)))) { s5 with heap := h' } := I5.turned (t' := s5.toks) (fun b o n z => k b o n z) f0 f1 f3 f4 f5
      rw [ei, List.take_length] at I6
      have I7 : Inv Y pins σ (upd H1 D (.lst (picked ps))) { s5 with heap := h' } := I3.call' (ch := [it]) I6.os I6.base I6.hok I6.bare fun b m => by
        rw [List.mem_singleton.mp m]
        exact ⟨fp3.2.2.2.1, fp3.2.1, fp3.2.2.2.2.1, fp3.2.2.2.2.2⟩
      have nC : upd H1 D (.lst (picked ps)) s3.heap.objs.size = none := by
        have z : upd H1 D (.lst (picked ps)) ce.locals = none := I6.free
        rw [cL] at z
        exact z
      obtain ⟨m, hm, _⟩ := I6.loc
      have hm : Heap.Ns h' ce.locals m := hm
      rw [cL] at hm
      exact fin D s3.heap.objs.size _ m nD I7 hm (I3.fpOk (Nat.le_refl _) nC)
  exact codeAny_compStart_list loop (wpAny_pyIter_listiter st4 loop)
end
end O
namespace O
open PySem PySem.Spec PyProof.Rows L2 HotX L2H
abbrev prT (q : List Nat × Bool) : T := .tup [.str q.1, .bl q.2]
def pickedT (qs : List (List Nat × Bool)) : List T := (qs.filter fun q => q.2).map fun q => .str q.1
def sPick (i il : Nat) : Ds := fun ρ Q => ∃ qs : List (List Nat × Bool), (sl_ ρ il).tr = some (.lst (qs.map prT)) ∧ qs.length < 100 ∧ (sl_ ρ i).pin = false ∧ Q.nx (ρ.set i (.ow (.lst (pickedT qs))))
theorem mn_pick {i il : Nat} : MnS (sPick i il) := fun ρ Q Q' ⟨qs, a, b, c, q⟩ n _ _ _ _ => ⟨qs, a, b, c, n _ q⟩
theorem prs_of {K : PySem.W.Frag} {W : Ad} {H : Hp} : ∀ {xs : List V} {qs : List (List Nat × Bool)}, IsL K W H xs (qs.map prT) → ∃ ps : List Pr, xs = ps.map (fun q => V.ref q.1) ∧ ps.length = qs.length ∧ (∀ q ∈ ps, SqT K H q.1 [q.2.1, .bl q.2.2]) ∧ IsL K W H (picked ps) (pickedT qs)
  | _, [], .nil => ⟨[], rfl, rfl, (fun _ m => by cases m), .nil⟩
  | _, q :: qs, .cons a b => by
    obtain ⟨ps, e, l, h, k⟩ := prs_of b
    obtain ⟨t, xs, ev, hq, hl⟩ := IsR.tupS (v := _) (ts := [.str q.1, .bl q.2]) (.inl a)
    cases hl with | cons x1 r1 =>
    cases r1 with | cons x2 r2 =>
    cases r2
    cases x1
    cases x2
    obtain ⟨q1, q2⟩ := q
    refine ⟨(t, .str (S q1), q2) :: ps, by rw [e, ev]; rfl, by rw [List.length_cons, l, List.length_cons], fun r m => ?_, ?_⟩
    · rcases List.mem_cons.mp m with z | z
      · rw [z]; exact hq
      · exact h r z
    · cases q2
      · exact k
      · exact .cons (.str q1) k
section
variable {Y : Cx} {Wx : WX} {p : Addr × Obj} {i1 i2 il : Nat} {scope : Scope} {e1 e2 q1 q2 : Expr} {kk : Nat} {pt pos pl py spos : Pos} {y l x1 x2 : Str}
theorem xs_pick (i il i1 i2 : Nat) (hot : Hot1 Y.A p) (hp : p ∈ Y.pn) (hN : Y.N.Nodup) (ok : BlkOk Y.N Y.env.scope scope [(x1, i1), (x2, i2)]) (n12 : i1 ≠ i2) (l1 : i1 < Y.N.length) (l2 : i2 < Y.N.length)
    (hg : ∀ (s : Shared) (H : Hp) (C : Addr) (cl : List (Str × Addr)) (fp : List Addr), PGs (Y.blk s H scope (compEnvC scope cl C Y.env) fp) [e1, e2] (gCons (gName i1) (gCons (gName i2) gNil)))
    (ht : ∀ (s : Shared) (H : Hp) (C : Addr) (cl : List (Str × Addr)) (fp : List Addr), PTs (Y.blk s H scope (compEnvC scope cl C Y.env) fp) [q2] (tB (tVar i2)))
    (hx : ∀ (s : Shared) (H : Hp) (C : Addr) (cl : List (Str × Addr)) (fp : List Addr), PE (Y.blk s H scope (compEnvC scope cl C Y.env) fp) q1 (tVar i1))
    (hsw : swapsWith (.ListComp q1 [⟨.Tuple [e1, e2] kk pt, .Name l pl, [q2], 0⟩] scope pos) (some (.Name y py)) spos.line Y.env = pure true) (hyl : Y.env.scope.names.lookup y = some .local)
    (hn : ∀ env : Env, (assignEach [e1, e2] env).length = 2 := by intro _; rfl) (hst : ∀ env : Env, (assignEach [e1, e2] env).findIdx? (·.1) = none := by intro _; rfl)
    (hy : Y.N[i]? = some y := by rfl) (hNl : Y.N[il]? = some l := by rfl) (hv : Vis Y.env.scope l := by first | exact Or.inl rfl | exact Or.inr (Or.inl rfl) | exact Or.inr (Or.inr rfl)) (hd : (l == ("__debug__" : Str)) = false := by decide) (hcd : (l == ("__classdict__" : Str)) = false := by decide)
    (hs : ∀ x, foldedSetIterable (.Name l pl) Y.env x = pure x := by intro _; rfl) :
    XS Y Wx (.Assign [.Name y py] (.ListComp q1 [⟨.Tuple [e1, e2] kk pt, .Name l pl, [q2], 0⟩] scope pos) spos) (sPick i il) := by
  refine ⟨⟨fun pins s σ H D I ⟨W, ρ, rep, qs, e, hz, pf, q⟩ => ?_⟩, mn_pick⟩
  obtain ⟨v, ev, isr⟩ : ∃ v, at_ σ il = some v ∧ IsR Y.K W H v (.lst (qs.map prT)) := by
    have hsl := rep.sl il
    cases q : sl_ ρ il with
    | no => rw [q] at e; cases e
    | sh t => rw [q] at e hsl; cases e; obtain ⟨v, e1, e2⟩ := hsl; exact ⟨v, e1, .inl e2⟩
    | sd t => rw [q] at e hsl; cases e; obtain ⟨v, e1, _, e2⟩ := hsl; exact ⟨_, e1, .inl e2⟩
    | ow t => rw [q] at e hsl; cases e; obtain ⟨v, e1, _, e2⟩ := hsl; exact ⟨_, e1, .inr ⟨_, rfl, e2⟩⟩
    | io t => rw [q] at e hsl; cases e; obtain ⟨v, e1, _, e2⟩ := hsl; exact ⟨_, e1, .inr ⟨_, rfl, e2⟩⟩
  obtain ⟨a, xs, rfl, sq, isl⟩ := isr.lists (ts := qs.map prT) rfl
  obtain ⟨ps, rfl, pl, hi, ip⟩ := prs_of isl
  have sz := sizeLine_eq
  have li : i < σ.length := by rw [I.len]; exact (List.getElem?_eq_some_iff.mp hy).1
  rw [exec_Assign_Name_used _ _ _ _ hsw]
  refine wpAny_bind (wpAny_standAt (wpAny_bind ?_))
  show wpAny _ Y.A (do let _ ← comprehension (.ListComp q1 [⟨.Tuple [e1, e2] kk pt, .Name l _, [q2], 0⟩] scope pos) scope Y.env (firstIterPos [⟨.Tuple [e1, e2] kk pt, .Name l _, [q2], 0⟩] pos) (newList []) false (eval (.Name l _) Y.env) (some (assign (.Name y py) Y.env))) _ _ s
  refine wpAny_bind (wpAny_mono (pick_core (Qf := fun _ s' => SP Y pins D .next s') hot hp hN I ok (by simp) (by simp) n12 (by rw [I.len]; exact l1) (by rw [I.len]; exact l2) ((pv (X := Y) il hNl hv hd hcd).run pins s σ H _ I ⟨_, at_get.mp ev, rfl, rfl⟩) hs hg hn hst ht hx sq hi (by rw [pl]; omega) fun L C s' m hL I' hm f => ?_) (fun _ s' hq => wpAny_pure (wpAny_pure hq)) fun _ _ z => z)
  show wpAny _ _ (assign (.Name y py) Y.env (.ref L)) _ _ _
  obtain ⟨f0, f1, f2, f3, f4, f5⟩ := f
  refine wpAny_assign_Name (store_ok2 (v := V.ref L) I' hN hy (.inl hyl) rfl (fun s2 I2 ⟨b, sb, hb⟩ => ⟨m, hm.sameBut sb (hb.elim (fun z => by rw [z]; exact f1) fun z e => f4 y b z e.symm), fun h3 sb3 => ⟨_, _, I2.turned (t' := s2.toks) (fun b o n z => (sb3.2 b n).trans z) f0 f1 f3 f4 f5, ?_⟩⟩) (.inr hyl))
  obtain ⟨W1, rl, rp, st⟩ := Res.post rep (Res.newL hL ip)
  obtain ⟨rp2, sub⟩ := rp.put rl i
  exact q _ W1 _ rp2 (st.subP sub) (ioK_put pf)
end
end O
namespace O
open PySem PySem.Spec PyProof.Rows L2 HotX L2H
/-- what is known of the error's object -/
structure ErrAt (C : Addr) (p : Addr × Obj) (d : Option Addr) : Prop where
  zn : L2N.Zn (.ref C) d p.2
  fl : ∃ vs, p.2.data = .fields vs
def DOk (H : Hp) : Option Addr → Prop
  | none => True
  | some dd => ∃ xs, H dd = some (.xd xs)
theorem dOk_of {K : PySem.W.Frag} {W : Ad} {H : Hp} {v : V} {a C : Addr} {d : Option Addr} {fs : List (Str × T)} (h : Is K W H v (.exc a C d fs)) : v = .ref a ∧ DOk H d := by
  cases h with
  | exc0 => exact ⟨rfl, trivial⟩
  | exc1 r n l => exact ⟨rfl, _, r⟩
def rIsN (K : PySem.W.Frag) (a C : Addr) (d : Option Addr) : List V → Hp → VK → Prop := fun xs H Q => ∃ (c : V) (cv : Value) (b : Bool), xs = [.ref a, c] ∧ (∀ u, RelV c u → u = cv) ∧ PySem.W.kitOne K (.ref C) cv = some b ∧ DOk H d ∧ Q (.bl b) H
section
variable {Y : Cx} {Wx : WX} {p : Addr × Obj} {C : Addr} {d : Option Addr} {fs : List (Str × T)} {n m e : Str} {q1 q2 q3 pos : Pos}
theorem call_isN (k : ExcC Y.K C) (er : ErrAt C p d) (hp : p ∈ Y.pn) : CallR Y (.builtin "isinstance") (rIsN Y.K p.1 C d) := by
  intro pins s σ H xs us Q I r h
  obtain ⟨c, cv, b, rfl, hcv, hk, hd, q⟩ := h
  cases r with | cons rx rr =>
  cases rr with | cons rc rr =>
  cases rr
  cases rx
  rw [hcv _ rc]
  obtain ⟨g1, g2, g3, g4, g5⟩ := I.pin p (List.mem_append_left _ hp)
  obtain ⟨z1, z2, z3⟩ := er.zn
  obtain ⟨vs, hv⟩ := er.fl
  have nc : PySem.W.notCls p.2 := by unfold PySem.W.notCls; rw [hv] <;> rfl
  have cl : (PySem.W.clsIn Y.K C).isSome = true := by
    obtain ⟨cd, hc, _⟩ := PySem.W.any_some k.hd
    rw [hc]; rfl
  cases d with
  | none => exact PySem.W.kia_one (PySem.W.kitx_exc (od := none) cl k.hg k.hk k.hs k.ha k.hn k.ht k.hm) I.kIn ⟨g1, z1, nc, by rw [z2]; trivial⟩ hk (fun z => nomatch z) fun tk => ⟨.bl b, H, I.tok tk, rfl, q⟩
  | some dd =>
    obtain ⟨xd, ed⟩ := hd
    obtain ⟨mA, hns, hr⟩ := (show ObjOk Y.prog Y.w H s.heap dd (.xd xd) from I.hok dd _ ed)
    obtain ⟨od, ho, hl⟩ := lookIn_ns hns
    exact PySem.W.kia_one (PySem.W.kitx_exc (od := some od) cl k.hg k.hk k.hs k.ha k.hn k.ht k.hm) I.kIn ⟨g1, z1, nc, by rw [z2]; exact ho⟩ hk (fun z => nomatch z) fun tk => ⟨.bl b, H, I.tok tk, rfl, q⟩
/-- isinstance(e, ..), x the error, b the answer -/
def dIsE (i : Nat) (x : T) (b : Bool) : Dn Rv := fun ρ Q => sl_ ρ i = .sh x ∧ Q.ok (false, .bl b) ρ
theorem mn_isE {i : Nat} {x : T} {b : Bool} : Mn (dIsE i x b) := fun ρ Q Q' h k _ => ⟨h.1, k _ _ h.2⟩
theorem isE_run {i : Nat} {c : V} {cv : Value} {b : Bool} (hcv : ∀ u, RelV c u → u = cv) (hk : PySem.W.kitOne Y.K (.ref C) cv = some b) (σ : L2.St) (H : Hp) (Q : VK)
    (h : RD Y.K (relE Y.K) xr Wx (dIsE i (.exc p.1 C d fs) b) σ H Q) : ∃ v, σ[i]? = some (some v) ∧ rIsN Y.K p.1 C d [v, c] H Q := by
  obtain ⟨W, ρ, rep, hs, q⟩ := h
  have hx := rep.sl i
  rw [hs] at hx
  obtain ⟨v, ev, is⟩ := hx
  obtain ⟨rfl, dk⟩ := dOk_of is
  exact ⟨_, at_get.mp ev, c, cv, b, rfl, hcv, hk, dk, q _ W H (relE_sh (.bl b)) rep (by rw [xr_sh]; exact Step.refl _ _ _) (Pn.refl _)⟩
theorem xe_isE (i : Nat) (er : ErrAt C p d) (hp : p ∈ Y.pn) (en : ErrN Y.K C n) (hm : m ∈ errNames) (gm : Y.mg m = some (.ref (He.ga Y.K m))) (ni : Y.mg "isinstance" = none)
    (hN : Y.N[i]? = some e := by rfl) (hv : Vis Y.env.scope e := by first | exact Or.inl rfl | exact Or.inr (Or.inl rfl) | exact Or.inr (Or.inr rfl)) (hd : (e == ("__debug__" : Str)) = false := by decide) (hcd : (e == ("__classdict__" : Str)) = false := by decide)
    (hg : Gl Y m := by rfl) (hgi : Gl Y "isinstance" := by rfl) (hdm : (m == ("__debug__" : Str)) = false := by decide)
    (h1 : starEach [.Name e q2, .Name m q3] Y.env = (false, eval (.Name e q2) Y.env) :: starEach [.Name m q3] Y.env := by rfl) (h2 : (backTo pos (starEach [.Name m q3] Y.env)).any (·.1) = false := by rfl) :
    XE Y Wx (.Call (.Name "isinstance" q1) [.Name e q2, .Name m q3] [] pos) (dIsE i (.exc p.1 C d fs) (takesE n m)) := by
  refine ⟨PE.imp (pe_callB (call_isN en.ec er hp) hgi ni boot_isinstance (pa_cons (pv i hN hv hd hcd) (pa_cons (pe_glob (v := .ref (He.ga Y.K m)) hg gm rfl hdm) pa_nil)) (by decide) (by decide) h1 h2) fun σ H Q h => ?_, mn_isE⟩
  obtain ⟨v, ev, r⟩ := isE_run (c := .ref (He.ga Y.K m)) (cv := .ref (He.ga Y.K m)) (fun u z => by cases z; rfl) (en.kit m hm) σ H Q h
  exact ⟨v, ev, r⟩
theorem xe_isV (i : Nat) (er : ErrAt C p d) (hp : p ∈ Y.pn) (en : ErrN Y.K C n) (nv : Y.mg "ValueError" = none) (ni : Y.mg "isinstance" = none)
    (hN : Y.N[i]? = some e := by rfl) (hv : Vis Y.env.scope e := by first | exact Or.inl rfl | exact Or.inr (Or.inl rfl) | exact Or.inr (Or.inr rfl)) (hd : (e == ("__debug__" : Str)) = false := by decide) (hcd : (e == ("__classdict__" : Str)) = false := by decide)
    (hg : Gl Y "ValueError" := by rfl) (hgi : Gl Y "isinstance" := by rfl)
    (h1 : starEach [.Name e q2, .Name "ValueError" q3] Y.env = (false, eval (.Name e q2) Y.env) :: starEach [.Name "ValueError" q3] Y.env := by rfl) (h2 : (backTo pos (starEach [.Name "ValueError" q3] Y.env)).any (·.1) = false := by rfl) :
    XE Y Wx (.Call (.Name "isinstance" q1) [.Name e q2, .Name "ValueError" q3] [] pos) (dIsE i (.exc p.1 C d fs) true) := by
  refine ⟨PE.imp (pe_callB (call_isN en.ec er hp) hgi ni boot_isinstance (pa_cons (pv i hN hv hd hcd) (pa_cons (pe_bltn (v := .ty "ValueError") hg nv boot_ValueError rfl) pa_nil)) (by decide) (by decide) h1 h2) fun σ H Q h => ?_, mn_isE⟩
  obtain ⟨v, ev, r⟩ := isE_run (c := .ty "ValueError") (cv := .type "ValueError") (fun u z => by cases z; rfl) en.ve σ H Q h
  exact ⟨v, ev, r⟩
end
end O
namespace O
open PySem PySem.Spec PyProof.Rows L2 HotX L2H
/-- f(e) answers with a text that the name of e's class decides -/
structure FnHot (P : Program) (w : World) (K : PySem.W.Frag) (mg : Str → Option Value) (base : Heap) (k : Nat) (x : Str) (kd : Str → List Nat) : Prop where
  ex : ∃ (f : Addr) (fd : FuncData) (y : Str), mg x = some (.ref f) ∧ PySem.W.keepIn K (.ref f) = true ∧ Binds K fd [y] [] ∧ ∀ {A : Around} {outer : List Env} {s : Shared} {H : Hp} {as : Args} {Q : VK} {E : XK} {p : Addr × Obj} {C : Addr} {d : Option Addr} {fs : List (Str × T)} {n : Str},
    RoomH k A → Hot1 A p → PinOk outer H s p → Env0 P w K mg base A outer s H → BindsTo s fd as [(y, .ref p.1)] → ErrAt C p d → ErrN K C n → Is K noAd H (.ref p.1) (.exc p.1 C d fs) → (∀ H', (∀ q o, H q = some o → H' q = some o) → Q (.str (S (kd n))) H') →
    codeAny (model P w) A (.call (.ref f) as) (CR (L2N.CX P w) outer P w H s Q E) s
theorem FnHot.of {P : Program} {w : World} {K : PySem.W.Frag} {mg : Str → Option Value} {base : Heap} {k : Nat} {x y : Str} {kd : Str → List Nat} {qual : Str} {st : Stmt} {N : List Str} {f : Addr} {fd : FuncData} (D : T → (Str → Bool) → Ds)
    (F : FunD K x qual (defArgs st) (defBody st) (defScope st) [] [] f fd) (hm : mg x = some (.ref f)) (Sc : FnScope N [y] (defScope st))
    (hb : ∀ (kV doc pm : Value) (an : Option Addr) (cdv ct : Value) (us : List Value), us.length = 1 → bindArgs (PySem.W.fnOf x qual (defArgs st) (defBody st) (defScope st) .none kV doc pm an cdv ct) ⟨us, []⟩ = pure ([y].zip us))
    (body : ∀ (cdv : Value) (A : Around) (outer : List Env) (s : Shared) (H : Hp) (E : XK) (p : Addr × Obj) (C : Addr) (d : Option Addr) (fs : List (Str × T)) (n : Str), Hot1 A p → RoomH k (A.deeper (envOfC qual (defScope st) s.heap.objs.size f cdv)) → ErrAt C p d → ErrN K C n →
      XSs (cxH (L2N.CX P w) P w K mg base N qual (defScope st) f cdv A outer s H E p) (fun _ _ _ _ => False) (defBody st) (D (.exc p.1 C d fs) (takesE n)))
    (hS : ∀ (a C : Addr) (d : Option Addr) (fs : List (Str × T)) (n : Str), n ∈ errNames → D (.exc a C d fs) (takesE n) (.sh (.exc a C d fs) :: List.replicate (N.length - 1) .no) ⟨fun _ => False, fun r _ => r = (false, .str (kd n)), fun _ => False, fun _ => False, fun _ _ _ => False⟩) : FnHot P w K mg base (k + 1) x kd := by
  obtain ⟨_, _, _, _, _, _, _, cdv, _, _, rfl, look, code, _, _⟩ := id F.ex
  refine ⟨f, _, y, hm, F.kp, F.bindsN (ps := [y]) hb, fun {A outer s H as Q E p C d fs n} room hot pin env bd er en is q => ?_⟩
  have keep : ∀ b o, base.get? b = some o → s.heap.get? b = some o := fun b o e => (env.bs b o e).1
  have KX : K.In s.heap := env.mod.kin.keeps keep
  refine codeAny_call_function room.depth (KX _ _ look) rfl Sc.co Sc.gen rfl (PySem.W.codeRec_of KX code) (bd _ _ _ _ (wpAny_newFunctionEnv_cells Sc.kind (fun z hz => ?_) fun ev he s1 made => ?_))
  · have ez : z.1 = y := by rw [List.mem_singleton.mp hz]
    exact (Sc.par z.1 (by rw [ez]; exact List.mem_cons_self)).imp id fun c => ⟨c, PySem.W.cellsFrom_some _ _ _ (.inl c)⟩
  · cases he
    refine ⟨env.mod.nolimit.keeps fun b o e => made.toInCall.keep b o (keep b o e), codeAny_func ?_⟩
    have B := body cdv A outer s H E p C d fs n hot (room.deeper _) er en
    have I := inv_startH (CX := L2N.CX P w) (E := E) (vs := [.ref p.1]) (ps := [y]) (us := [.ref p.1]) Sc pin env rfl (.cons rfl .nil) made
    have rp : Rep K noAd H ([V.ref p.1].map some) [.sh (.exc p.1 C d fs)] := by
      refine ⟨rfl, fun i => ?_, fun i j q wi => ?_, fun q z => z.elim⟩
      · cases i with
        | zero => exact ⟨_, rfl, is⟩
        | succ i => rw [sl_cons, sl_nil]; trivial
      · cases i with
        | zero => exact wi.elim
        | succ i => rw [sl_cons, sl_nil] at wi; exact wi.elim
    have hl : N.length - [V.ref p.1].length = N.length - 1 := rfl
    have noOwn : ∀ (σ : L2.St) (q : Addr), ¬ Rt σ (Sl.sh (.exc p.1 C d fs) :: List.replicate (N.length - 1) .no) q := fun σ q ⟨i, w, _⟩ => by
      cases i with
      | zero => exact w
      | succ i =>
        rw [sl_cons] at w
        unfold sl_ at w
        rw [List.getD_eq_getElem?_getD, List.getElem?_replicate] at w
        split at w <;> exact w
    have go := B.pss.run [] s1 (L2.start N [.ref p.1]) H { nx := fun _ H' => Q .non H', rt := Q } I ⟨noAd, _, rp.start (m := N.length - 1), B.mn _ _ _ (hS p.1 C d fs n en.mem) (fun _ z => False.elim z) (fun r ρ' z v σ' W' H' rl rep st io => ?_) (fun _ z => False.elim z) (fun _ z => False.elim z) (fun _ _ _ z => False.elim z)⟩
    · refine wpAny_mono go (fun fl s' z => ?_) fun _ _ z => z
      match fl, z with
      | .ret u, ⟨v, σ', H', J, rv, q⟩ => exact ⟨v, H', J.os, J.bare, J.base, J.hok, rv, q⟩
      | .next, ⟨σ', H', J, q⟩ => exact ⟨.non, H', J.os, J.bare, J.base, J.hok, rfl, q⟩
      | .brk, ⟨_, _, _, q⟩ => exact q.elim
      | .cont, ⟨_, _, _, q⟩ => exact q.elim
    · subst z
      unfold relE at rl
      rw [if_neg (fun z : false = true => Bool.noConfusion z)] at rl
      cases rl
      exact q H' fun b o e => st.keep b o e (noOwn _ b)
/-- x(e) in the suite -/
def dHot (R : Er) (kd : Str → List Nat) (i : Nat) (a C : Addr) (d : Option Addr) (fs : List (Str × T)) : Dn Rv := fun ρ Q => sl_ ρ i = .sh (.exc a C d fs) ∧ ∃ n, R C n ∧ Q.ok (false, .str (kd n)) ρ
theorem mn_hot {R : Er} {kd : Str → List Nat} {i : Nat} {a C : Addr} {d : Option Addr} {fs : List (Str × T)} : Mn (dHot R kd i a C d fs) := fun ρ Q Q' ⟨e, n, r, q⟩ k _ => ⟨e, n, r, k _ _ q⟩
section
variable {X : Cx} {Wx : WX} {a C : Addr} {d : Option Addr} {oe : Obj} {fs : List (Str × T)} {pn : List (Addr × Obj)} {R : Er} {kd : Str → List Nat} {k j : Nat} {x e : Str} {q1 q2 pos : Pos}
theorem xe_hot (i : Nat) (F : FnHot X.prog X.w X.K X.mg X.base k x kd) (hr : RoomG j X.A) (hk : k ≤ j) (hR : ErOk X.K R) (zn : L2N.Zn (.ref C) d oe) (fl : ∃ vs, oe.data = .fields vs)
    (hN : X.N[i]? = some e := by rfl) (hv : Vis X.env.scope e := by first | exact Or.inl rfl | exact Or.inr (Or.inl rfl) | exact Or.inr (Or.inr rfl)) (hd : (e == ("__debug__" : Str)) = false := by decide) (hcd : (e == ("__classdict__" : Str)) = false := by decide)
    (hg : Gl X x := by rfl) (hdx : (x == ("__debug__" : Str)) = false := by decide)
    (h1 : starEach [.Name e q2] X.env = (false, eval (.Name e q2) X.env) :: starEach [] X.env := by rfl) (h2 : (backTo pos (starEach [] X.env)).any (·.1) = false := by rfl) :
    XE (X.suite a ((a, oe) :: pn)) Wx (.Call (.Name x q1) [.Name e q2] [] pos) (dHot R kd i a C d fs) := by
  obtain ⟨f, fd, y, hm, kp, bd, run⟩ := F.ex
  refine ⟨⟨fun pins s σ H Q I ⟨W, ρ, rep, hs, n, rc, q⟩ => ?_⟩, mn_hot⟩
  have en := hR C n rc
  have hx := rep.sl i
  rw [hs] at hx
  obtain ⟨v, ev, is⟩ := hx
  obtain ⟨rfl, _⟩ := dOk_of is
  have hot : Hot1 (X.suite a ((a, oe) :: pn)).A (a, oe) := by
    obtain ⟨vs, hv⟩ := fl
    exact ⟨rfl, vs, hv, zn.2.2 vs hv⟩
  refine wpAny_Call_Name_kw (ld_glob I hg hm ?_ hdx)
  refine PySem.W.callWith_K (h₀ := X.base) I.ok.mod.kin kp (thn ((pa_cons (X := X.suite a ((a, oe) :: pn)) (pv i hN hv hd hcd) pa_nil).run pos pins s σ H (fun vs H1 => vs = [V.ref a] ∧ H1 = H) I ⟨_, at_get.mp ev, rfl, rfl⟩) fun us s1 ⟨vs, H1, I1, r, evs, eH⟩ => ⟨I1.kIn, ?_⟩) h1 h2
  subst evs eH
  cases r with | cons r rr =>
  cases rr
  cases r
  have P1 := I1.pin (a, oe) (List.mem_append_left _ List.mem_cons_self)
  have pin : PinOk (X.suite a ((a, oe) :: pn)).stack H1 s1 (a, oe) := ⟨P1.1, P1.2.1, fun hm => (List.mem_cons.mp (I1.stkSub a hm)).elim P1.2.2.1 P1.2.2.2.1, P1.2.2.2.2⟩
  have b := bd s1 [.ref a] I1.kIn rfl
  have room : RoomH k (X.suite a ((a, oe) :: pn)).A := ⟨(hr.mono hk).room.dp, (hr.mono hk).room.un⟩
  refine wpAny_call (codeAny_mono (run (E := fun _ _ _ => False) room hot pin I1.env0 b ⟨zn, fl⟩ en (is.weak fun _ z => z.elim) fun H' same => q (.str (S (kd n))) W H' (relE_sh (.str _)) (rep.same same) (by rw [xr_sh]; exact Step.same same) (Pn.refl _)) fun r s' z => ?_)
  rcases r with e | (_ | _ | _ | u)
  · obtain ⟨_, _, _, _, _, _, _, _, _, _, _, _, no⟩ := z
    exact no.elim
  · exact False.elim z
  · exact False.elim z
  · exact False.elim z
  · exact I1.after z
end
end O
namespace O
open PySem PySem.Spec PyProof.Rows L2
def oddT : List Nat := [111, 100, 100]
/-- what the laws' _law_kind tells -/
def kd__law_kind (n : Str) : List Nat := if n = "InvalidRow" then [114, 111, 119] else if n = "InvalidCounts" then [99, 111, 117, 110, 116, 115] else if n = "InvalidRuns" then [114, 117, 110, 115] else if n = "InvalidSwap" then [115, 119, 97, 112]
  else if n = "InvalidPattern" then [112, 97, 116, 116, 101, 114, 110] else if n = "InvalidNumber" then [110, 117, 109, 98, 101, 114] else if n = "InvalidStrands" then [115, 116, 114, 97, 110, 100, 115] else if n = "InvalidCommand" then [99, 111, 109, 109, 97, 110, 100]
  else if n = "Different" then [100, 105, 102, 102, 101, 114, 101, 110, 116] else if n = "NothingToUndo" then [117, 110, 100, 111] else if n = "TooLarge" then [108, 97, 114, 103, 101] else if n = "InvalidText" then [116, 101, 120, 116] else oddT
def errRB (x : Str) (K : PySem.W.Frag) : Bool := errKB K (He.ga K x)
theorem errRB_ok {x : Str} {K : PySem.W.Frag} (h : errRB x K = true) : ErrK K (He.ga K x) := errKB_ok h
def erR (K : PySem.W.Frag) : Er := fun C n => ErrN K C n
theorem erR_ok (K : PySem.W.Frag) : ErOk K (erR K) := fun _ _ h => h
structure Ox where
  pre : Prop
  fine : Bool
  C : Addr
  val : Rv
def Ox.no : Ox := ⟨False, true, 0, (false, .non)⟩
def SPX (f : List T → Ox) : Sx := fun ars Q => ∃ ts, ars = ts.map Sl.sh ∧ (f ts).pre ∧ ifB (f ts).fine (Q.ok (f ts).val (ts.map fun _ => Sl.no)) (Q.ex (f ts).C [] (ts.map fun _ => Sl.no))
theorem mn_SPX (f : List T → Ox) : Mn (SPX f) := fun ρ Q Q' ⟨ts, e, p, q⟩ k x => ⟨ts, e, p, ifB_mono q (k _ _) (x _ _ _)⟩
theorem len_SPX {f : List T → Ox} {n : Nat} (h : ∀ ts, (f ts).pre → ts.length = n) : ∀ ars Q, SPX f ars Q → ars.length = n := fun ars Q ⟨ts, e, p, _⟩ => by rw [e, List.length_map]; exact h ts p
section
variable {f : List T → Ox} {t u v : T} {Q : Po Rv}
theorem sh1 {ts : List T} (e : [Sl.sh t] = ts.map Sl.sh) : ts = [t] := by
  cases ts with
  | nil => cases e
  | cons a r =>
    cases r with
    | nil => cases e; rfl
    | cons b s => cases e
theorem sh2 {ts : List T} (e : [Sl.sh t, .sh u] = ts.map Sl.sh) : ts = [t, u] := by
  cases ts with
  | nil => cases e
  | cons a r =>
    rw [List.map_cons, List.cons.injEq] at e
    rw [sh1 e.2]
    cases e.1; rfl
theorem sh3 {ts : List T} (e : [Sl.sh t, .sh u, .sh v] = ts.map Sl.sh) : ts = [t, u, v] := by
  cases ts with
  | nil => cases e
  | cons a r =>
    rw [List.map_cons, List.cons.injEq] at e
    rw [sh2 e.2]
    cases e.1; rfl
theorem e_spx1 : SPX f [.sh t] Q = ((f [t]).pre ∧ ifB (f [t]).fine (Q.ok (f [t]).val [.no]) (Q.ex (f [t]).C [] [.no])) := propext ⟨fun ⟨ts, e, h⟩ => by cases sh1 e; exact h, fun h => ⟨[t], rfl, h⟩⟩
theorem e_spx2 : SPX f [.sh t, .sh u] Q = ((f [t, u]).pre ∧ ifB (f [t, u]).fine (Q.ok (f [t, u]).val [.no, .no]) (Q.ex (f [t, u]).C [] [.no, .no])) := propext ⟨fun ⟨ts, e, h⟩ => by cases sh2 e; exact h, fun h => ⟨[t, u], rfl, h⟩⟩
theorem e_spx3 : SPX f [.sh t, .sh u, .sh v] Q = ((f [t, u, v]).pre ∧ ifB (f [t, u, v]).fine (Q.ok (f [t, u, v]).val [.no, .no, .no]) (Q.ex (f [t, u, v]).C [] [.no, .no, .no])) := propext ⟨fun ⟨ts, e, h⟩ => by cases sh3 e; exact h, fun h => ⟨[t, u, v], rfl, h⟩⟩
end
end O
namespace O
open PySem PySem.Spec PyProof.Rows L2
def D_is_row : Ds :=
    (sRet (dAndV (dOpN (f2 isiT) (dCons (dNm 0) (dCons (dTm (dC (.ty "str"))) dNil))) (dAndV (dOp2 leT (dTm (dOpN (f1 lenT) (dCons (dNm 0) dNil))) (dTm (dC (.int 200)))) (dOpN (f1 allT) (dCons (dTm (dComp [1] (dSrc (dVar 0)) (.one 1) dYes (dOp2 (inT false) (dNm 1) (dTm (dC (.str [97, 98])))))) dNil)))))
def B_prefixes_in_1 : Ds :=
    (sDrop (dMut 1 "list" appM (dCons (dTm (dOp2 addT (dTm (dOp2 ixT (dNm 1) (dTm (dOp1 negT (dTm (dC (.int 1))))))) (dTm (dOpN (f1 intT) (dCons (dTm (dOp2 (eqT false) (dNm 2) (dTm (dC (.str [97]))))) dNil))))) dNil)))
def D_prefixes_in : Ds :=
    (sSeq (sSet 1 (dLst (dCons (dTm (dC (.int 0))) dNil)))
    (sSeq (sFor (dSrc (dVar 0)) (gNm 2) B_prefixes_in_1)
    (sRet (dMove 1))))
def D_pairs_of (S_prefixes_in : Sx) : Ds :=
    (sRet (dOpN (f1 sumT) (dCons (dTm (dComp [1, 2] (dZip2 (dCons (dTm (dCall S_prefixes_in (dCons (dTm (dVar 0)) dNil))) (dCons (dTm (dVar 0)) dNil))) (.tup [1, 2]) (dBv (dOp2 (eqT false) (dNm 2) (dTm (dC (.str [98]))))) (dVar 1))) dNil)))
def B__law_reel_1 : Ds :=
    (sSet 1 (dOp2 modT (dTm (dOp2 addT (dTm (dOp2 addT (dTm (dOp2 mulT (dNm 1) (dNm 1))) (dTm (dOp2 modT (dNm 2) (dTm (dC (.int 1000000000000000031))))))) (dTm (dC (.int 37))))) (dTm (dOp2 subT (dTm (dOp2 mulT (dTm (dOp2 powT (dTm (dC (.int 2))) (dTm (dC (.int 64))))) (dTm (dOp2 powT (dTm (dC (.int 2))) (dTm (dC (.int 63))))))) (dTm (dC (.int 1)))))))
def D__law_reel : Ds :=
    (sSeq (sSet 1 (dOp2 powT (dTm (dC (.int 37))) (dTm (dC (.int 24)))))
    (sSeq (sFor (dSrc (dSl slT (dNm 0) dNoP (dPrt (dC (.int 59))))) (gNm 2) B__law_reel_1)
    (sSeq (sSet 3 (dComp [2] (dSrc (dSl slT (dNm 0) dNoP (dPrt (dC (.int 59))))) (.one 2) (dBv (dOp2 geT (dNm 2) (dTm (dOp2 powT (dTm (dC (.int 10))) (dTm (dC (.int 18))))))) (dOp2 subT (dNm 2) (dTm (dOp2 powT (dTm (dC (.int 10))) (dTm (dC (.int 18))))))))
    (sRet (dLst (dCons (dTm (dVar 3)) (dCons (dTm (dOp2 addT (dTm (dComp [2] (dSrc (dSl slT (dNm 0) dNoP (dPrt (dC (.int 59))))) (.one 2) dYes (dOp2 modT (dNm 2) (dTm (dC (.int 1000037)))))) (dTm (dLst (dCons (dTm (dC (.int 71))) dNil))))) (dCons (dTm (dC (.int 0))) (dCons (dTm (dVar 1)) dNil)))))))))
def D__law_draw : Ds :=
    (sSeq (sIf (dBv (dEqQ true (qOp (dTm (dOp2 ixT (dNm 0) (dTm (dC (.int 0)))))) (qLs qNil))) (sSeq (sSet 2 (dOp2 ixT (dTm (dOp2 ixT (dNm 0) (dTm (dC (.int 0))))) (dTm (dC (.int 0)))))
    (sSeq (sAsg (dOp2 addT (dTm (dOp2 mulT (dTm (dLst (dCons (dTm (dOp2 fdivT (dNm 2) (dNm 1))) dNil))) (dTm (dOpN (f1 intT) (dCons (dTm (dOp2 geT (dNm 2) (dNm 1))) dNil))))) (dTm (dSl slT (dTm (dOp2 ixT (dNm 0) (dTm (dC (.int 0))))) (dPrt (dC (.int 1))) dNoP))) (gIt 0 setL (dTm (dC (.int 0)))))
    (sRet (dOp2 modT (dNm 2) (dNm 1))))) sNext)
    (sSeq (sAsg (dOp2 addT (dTm (dOp2 ixT (dNm 0) (dTm (dC (.int 2))))) (dTm (dC (.int 1)))) (gIt 0 setL (dTm (dC (.int 2)))))
    (sSeq (sSet 3 (dOp2 ixT (dTm (dOp2 ixT (dNm 0) (dTm (dC (.int 1))))) (dTm (dOp2 modT (dTm (dOp2 ixT (dNm 0) (dTm (dC (.int 2))))) (dTm (dOpN (f1 lenT) (dCons (dTm (dOp2 ixT (dNm 0) (dTm (dC (.int 1))))) dNil)))))))
    (sSeq (sSet 4 (dOp2 addT (dTm (dOp2 addT (dTm (dOp2 mulT (dTm (dOp2 ixT (dNm 0) (dTm (dC (.int 3))))) (dTm (dOp2 ixT (dNm 0) (dTm (dC (.int 3))))))) (dTm (dOp2 mulT (dTm (dOp2 addT (dNm 3) (dTm (dC (.int 17))))) (dTm (dC (.int 122949823))))))) (dTm (dOp2 mulT (dTm (dOp2 ixT (dNm 0) (dTm (dC (.int 2))))) (dTm (dC (.int 999979)))))))
    (sSeq (sAsg (dOp2 modT (dNm 4) (dTm (dOp2 subT (dTm (dOp2 mulT (dTm (dOp2 powT (dTm (dC (.int 2))) (dTm (dC (.int 64))))) (dTm (dOp2 powT (dTm (dC (.int 2))) (dTm (dC (.int 63))))))) (dTm (dC (.int 1)))))) (gIt 0 setL (dTm (dC (.int 3)))))
    (sRet (dOp2 modT (dTm (dOp2 fdivT (dTm (dOp2 ixT (dNm 0) (dTm (dC (.int 3))))) (dTm (dOp2 powT (dTm (dC (.int 2))) (dTm (dC (.int 45))))))) (dNm 1))))))))
def B__law_word_1 (S__law_draw : Sx) : Ds :=
    (sSeq (sSet 8 (dOp2 ixT (dTm (dLst (dCons (dTm (dC (.str [97, 98]))) (dCons (dTm (dC (.str [97, 97, 97, 97, 98]))) (dCons (dTm (dC (.str [97, 98]))) (dCons (dTm (dC (.str [98, 98, 98, 97]))) (dCons (dTm (dC (.str []))) (dCons (dTm (dC (.str [98]))) dNil)))))))) (dNm 4)))
    (sSeq (sSet 8 (dOp2 ixT (dNm 8) (dTm (dCall S__law_draw (dCons (dNm 0) (dCons (dTm (dOpN (f1 lenT) (dCons (dNm 8) dNil))) dNil))))))
    (sSet 5 (dOp2 addT (dNm 5) (dTm (dOp2 mulT (dNm 8) (dTm (dOp2 ixT (dTm (dLst (dCons (dTm (dC (.int 1))) (dCons (dTm (dC (.int 1))) (dCons (dTm (dOp2 addT (dTm (dC (.int 1))) (dTm (dCall S__law_draw (dCons (dNm 0) (dCons (dTm (dC (.int 9))) dNil)))))) (dCons (dTm (dC (.int 1))) (dCons (dTm (dC (.int 1))) (dCons (dTm (dC (.int 1))) dNil)))))))) (dNm 4)))))))))
def D__law_word (S__law_draw : Sx) : Ds :=
    (sSeq (sPar [3, 4, 5] (dVc (dOp2 addT (dNm 1) (dTm (dCall S__law_draw (dCons (dNm 0) (dCons (dTm (dOp2 addT (dTm (dOp2 subT (dNm 2) (dNm 1))) (dTm (dC (.int 1))))) dNil))))) (dVc (dCall S__law_draw (dCons (dNm 0) (dCons (dTm (dC (.int 6))) dNil))) (dVc (dC (.str [])) dVn))))
    (sSeq (sIf (dBv (dOp2 (eqT false) (dNm 4) (dTm (dC (.int 4))))) (sSeq (sSet 6 (dMt "str" joinT (dTm (dC (.str []))) (dCons (dTm (dComp [7] (dRng1 (dCons (dTm (dOp2 addT (dTm (dC (.int 1))) (dTm (dCall S__law_draw (dCons (dNm 0) (dCons (dTm (dC (.int 5))) dNil)))))) dNil)) (.one 7) dYes (dOp2 ixT (dTm (dC (.str [97, 98]))) (dTm (dCall S__law_draw (dCons (dNm 0) (dCons (dTm (dC (.int 2))) dNil))))))) dNil)))
    (sRet (dSl slT (dTm (dOp2 mulT (dNm 6) (dNm 3))) dNoP (dPrt (dVar 3))))) sNext)
    (sSeq (sWhile (dBv (dOp2 ltT (dTm (dOpN (f1 lenT) (dCons (dNm 5) dNil))) (dNm 3))) (B__law_word_1 S__law_draw))
    (sSeq (sSet 9 (dCall S__law_draw (dCons (dNm 0) (dCons (dTm (dOp2 addT (dNm 3) (dTm (dC (.int 1))))) dNil))))
    (sRet (dIf (dBv (dOp2 (eqT false) (dNm 4) (dTm (dC (.int 5))))) (dSl slT (dTm (dOp2 addT (dTm (dOp2 addT (dTm (dSl slT (dNm 5) dNoP (dPrt (dVar 9)))) (dTm (dC (.str [97]))))) (dTm (dSl slT (dNm 5) (dPrt (dOp2 addT (dNm 9) (dTm (dC (.int 1))))) dNoP)))) dNoP (dPrt (dVar 3))) (dSl slT (dNm 5) dNoP (dPrt (dVar 3)))))))))
def D__law_no_rows (S__law_draw : Sx) : Ds :=
    (sSeq (sSet 2 (dCall S__law_draw (dCons (dNm 0) (dCons (dTm (dOp2 addT (dTm (dOpN (f1 lenT) (dCons (dNm 1) dNil))) (dTm (dC (.int 1))))) dNil))))
    (sSeq (sSet 3 (dComp [4] (dSrc (dLst (dCons (dTm (dC (.str [65]))) (dCons (dTm (dC (.str [66]))) (dCons (dTm (dC (.str [99]))) (dCons (dTm (dC (.str [48]))) (dCons (dTm (dC (.str [45]))) (dCons (dTm (dC (.str [32]))) (dCons (dTm (dC (.str [10]))) (dCons (dTm (dC (.str [96]))) (dCons (dTm (dC (.str [63]))) dNil))))))))))) (.one 4) dYes (dOp2 addT (dTm (dOp2 addT (dTm (dSl slT (dNm 1) dNoP (dPrt (dVar 2)))) (dNm 4))) (dTm (dSl slT (dNm 1) (dPrt (dOp2 addT (dNm 2) (dTm (dC (.int 1))))) dNoP)))))
    (sSeq (sSet 3 (dOp2 addT (dNm 3) (dTm (dLst (dCons (dTm (dOp2 addT (dNm 1) (dTm (dOp2 mulT (dTm (dC (.str [97]))) (dTm (dOp2 subT (dTm (dC (.int 201))) (dTm (dOpN (f1 lenT) (dCons (dNm 1) dNil))))))))) (dCons (dTm (dOp2 mulT (dTm (dC (.str [98]))) (dTm (dC (.int 4000))))) (dCons (dTm (dOp2 addT (dNm 1) (dTm (dC (.str [32]))))) (dCons (dTm (dOp2 addT (dTm (dC (.str [10]))) (dNm 1))) (dCons (dTm (dLst (dCons (dTm (dVar 1)) dNil))) (dCons (dTm (dTup (dCons (dTm (dVar 1)) dNil))) (dCons (dTm (dOpN (f1 listT) (dCons (dNm 1) dNil))) dNil)))))))))))
    (sRet (dOp2 addT (dNm 3) (dTm (dLst (dCons (dTm (dC .non)) (dCons (dTm (dC (.int 0))) (dCons (dTm (dC (.int 1))) (dCons (dTm (dC (.bl true))) (dCons (dTm (dLst dNil)) (dCons (dTm (dTup dNil)) (dCons (dTm dDict0) (dCons (dTm (dDict (dCons (dTm (dVar 1)) (dCons (dTm (dC (.int 1))) dNil)))) (dCons (dTm (dOpN (f1 tupleT) (dCons (dNm 1) dNil))) (dCons (dTm (dOp2 powT (dTm (dC (.int 10))) (dTm (dC (.int 59))))) (dCons (dTm (dLst (dCons (dTm (dC (.str [97]))) dNil))) (dCons (dTm (dC (.str [97, 98, 44]))) dNil)))))))))))))))))))
end O
namespace O
open PySem PySem.Spec PyProof.Rows L2
def D_is_integer : Ds :=
    (sSeq (sIf (dOrT (dNotT (dBv (dOpN (f2 isiT) (dCons (dNm 0) (dCons (dTm (dC (.ty "int"))) dNil))))) (dBv (dOpN (f2 isiT) (dCons (dNm 0) (dCons (dTm (dC (.ty "bool"))) dNil))))) (sRet (dC (.bl false))) sNext)
    (sRet (dAndV (dOp2 leT (dNm 1) (dNm 0)) (dOrV (dOp2 (isT false) (dNm 2) (dTm (dC .non))) (dOp2 leT (dNm 0) (dNm 2))))))
end O
namespace O
open PySem PySem.Spec PyProof.Rows L2
end O
namespace O
open PySem PySem.Spec PyProof.Rows L2
def D_triple_of (S_pairs_of : Sx) : Ds :=
    (sRet (dTup (dCons (dTm (dMt "str" countT (dNm 0) (dCons (dTm (dC (.str [97]))) dNil))) (dCons (dTm (dMt "str" countT (dNm 0) (dCons (dTm (dC (.str [98]))) dNil))) (dCons (dTm (dCall S_pairs_of (dCons (dTm (dVar 0)) dNil))) dNil)))))
def D__law_many (S__law_draw : Sx) : Ds :=
    (sRet (dOp2 ixT (dTm (dLst (dCons (dTm (dC (.int 0))) (dCons (dTm (dC (.int 1))) (dCons (dTm (dCall S__law_draw (dCons (dNm 0) (dCons (dTm (dC (.int 7))) dNil)))) (dCons (dTm (dCall S__law_draw (dCons (dNm 0) (dCons (dTm (dC (.int 300))) dNil)))) (dCons (dTm (dCall S__law_draw (dCons (dNm 0) (dCons (dTm (dOp2 powT (dTm (dC (.int 10))) (dTm (dC (.int 30))))) dNil)))) dNil))))))) (dTm (dCall S__law_draw (dCons (dNm 0) (dCons (dTm (dC (.int 5))) dNil))))))
def D__law_any (S__law_many : Sx) (S__law_draw : Sx) : Ds :=
    (sSeq (sPar [1, 2] (dVc (dCall S__law_many (dCons (dNm 0) dNil)) (dVc (dCall S__law_many (dCons (dNm 0) dNil)) dVn)))
    (sSeq (sIf (dBv (dOp2 (eqT false) (dTm (dCall S__law_draw (dCons (dNm 0) (dCons (dTm (dC (.int 5))) dNil)))) (dTm (dC (.int 0))))) (sSeq (sPar [1, 2] (dVc (dCall S__law_draw (dCons (dNm 0) (dCons (dTm (dOp2 powT (dTm (dC (.int 10))) (dTm (dC (.int 60))))) dNil))) (dVc (dCall S__law_draw (dCons (dNm 0) (dCons (dTm (dC (.int 10))) dNil))) dVn)))
    (sIf (dBv (dOp2 (eqT false) (dTm (dCall S__law_draw (dCons (dNm 0) (dCons (dTm (dC (.int 2))) dNil)))) (dTm (dC (.int 0))))) (sPar [1, 2] (dVc (dVar 2) (dVc (dVar 1) dVn))) sNext)) sNext)
    (sSeq (sSet 3 (dOp2 mulT (dNm 1) (dNm 2)))
    (sSeq (sSet 4 (dLst (dCons (dTm (dC (.int 0))) (dCons (dTm (dVar 3)) (dCons (dTm (dOpN (f2 min2T) (dCons (dTm (dC (.int 1))) (dCons (dNm 3) dNil)))) (dCons (dTm (dOpN (f2 max2T) (dCons (dTm (dC (.int 0))) (dCons (dTm (dOp2 subT (dNm 3) (dTm (dC (.int 1))))) dNil)))) (dCons (dTm (dOp2 fdivT (dNm 3) (dTm (dC (.int 2))))) (dCons (dTm (dCall S__law_draw (dCons (dNm 0) (dCons (dTm (dOp2 addT (dNm 3) (dTm (dC (.int 1))))) dNil)))) dNil))))))))
    (sRet (dTup (dCons (dTm (dVar 1)) (dCons (dTm (dVar 2)) (dCons (dTm (dOp2 ixT (dNm 4) (dTm (dCall S__law_draw (dCons (dNm 0) (dCons (dTm (dC (.int 6))) dNil)))))) dNil)))))))))
def D_Counts_of (S_check_row : Sx) (S_triple_of : Sx) (S_Counts_init : Sx) (C_Counts : Addr) : Ds :=
    (sSeq (sDrop (dCall S_check_row (dCons (dTm (dVar 1)) dNil)))
    (sSeq (sSet 2 (dCall S_triple_of (dCons (dTm (dVar 1)) dNil)))
    (sRet (dShr (dNewL 0 C_Counts S_Counts_init (dCons (dTm (dOp2 ixT (dNm 2) (dTm (dC (.int 0))))) (dCons (dTm (dOp2 ixT (dNm 2) (dTm (dC (.int 1))))) (dCons (dTm (dOp2 ixT (dNm 2) (dTm (dC (.int 2))))) dNil))))))))
end O
namespace O
open PySem PySem.Spec PyProof.Rows L2
end O
namespace O
open PySem PySem.Spec PyProof.Rows L2
end O
namespace O
open PySem PySem.Spec PyProof.Rows L2
end O
namespace O
open PySem PySem.Spec PyProof.Rows L2
def D_check_row_x (S_is_row : Sx) (C_InvalidRow : Addr) : Ds :=
    (sIf (dNotT (dBv (dCall S_is_row (dCons (dTm (dVar 0)) dNil)))) (sRaise C_InvalidRow) sNext)
def D__law_kind (x : T) (is : Str → Bool) : Ds :=
    (sSeq (sSet 1 (dLst (dCons (dTm (dTup (dCons (dTm (dC (.str [114, 111, 119]))) (dCons (dTm (dIsE 0 x (is "InvalidRow"))) dNil)))) (dCons (dTm (dTup (dCons (dTm (dC (.str [99, 111, 117, 110, 116, 115]))) (dCons (dTm (dIsE 0 x (is "InvalidCounts"))) dNil)))) dNil))))
    (sSeq (sSet 1 (dOp2 addT (dNm 1) (dTm (dLst (dCons (dTm (dTup (dCons (dTm (dC (.str [114, 117, 110, 115]))) (dCons (dTm (dIsE 0 x (is "InvalidRuns"))) dNil)))) (dCons (dTm (dTup (dCons (dTm (dC (.str [115, 119, 97, 112]))) (dCons (dTm (dIsE 0 x (is "InvalidSwap"))) dNil)))) dNil))))))
    (sSeq (sSet 1 (dOp2 addT (dNm 1) (dTm (dLst (dCons (dTm (dTup (dCons (dTm (dC (.str [112, 97, 116, 116, 101, 114, 110]))) (dCons (dTm (dIsE 0 x (is "InvalidPattern"))) dNil)))) (dCons (dTm (dTup (dCons (dTm (dC (.str [110, 117, 109, 98, 101, 114]))) (dCons (dTm (dIsE 0 x (is "InvalidNumber"))) dNil)))) dNil))))))
    (sSeq (sSet 1 (dOp2 addT (dNm 1) (dTm (dLst (dCons (dTm (dTup (dCons (dTm (dC (.str [115, 116, 114, 97, 110, 100, 115]))) (dCons (dTm (dIsE 0 x (is "InvalidStrands"))) dNil)))) (dCons (dTm (dTup (dCons (dTm (dC (.str [99, 111, 109, 109, 97, 110, 100]))) (dCons (dTm (dIsE 0 x (is "InvalidCommand"))) dNil)))) dNil))))))
    (sSeq (sSet 1 (dOp2 addT (dNm 1) (dTm (dLst (dCons (dTm (dTup (dCons (dTm (dC (.str [100, 105, 102, 102, 101, 114, 101, 110, 116]))) (dCons (dTm (dIsE 0 x (is "Different"))) dNil)))) (dCons (dTm (dTup (dCons (dTm (dC (.str [117, 110, 100, 111]))) (dCons (dTm (dIsE 0 x (is "NothingToUndo"))) dNil)))) dNil))))))
    (sSeq (sSet 1 (dOp2 addT (dNm 1) (dTm (dLst (dCons (dTm (dTup (dCons (dTm (dC (.str [108, 97, 114, 103, 101]))) (dCons (dTm (dIsE 0 x (is "TooLarge"))) dNil)))) (dCons (dTm (dTup (dCons (dTm (dC (.str [116, 101, 120, 116]))) (dCons (dTm (dIsE 0 x (is "InvalidText"))) dNil)))) dNil))))))
    (sSeq (sPick 2 1)
    (sRet (dIf (dAndT (dBv (dOp2 (eqT false) (dTm (dOpN (f1 lenT) (dCons (dNm 2) dNil))) (dTm (dC (.int 1))))) (dBv (dIsE 0 x true))) (dOp2 ixT (dNm 2) (dTm (dC (.int 0)))) (dC (.str [111, 100, 100])))))))))))
def D__law_told_2 (S_Counts_init : Sx) (S_Counts_of : Sx) (C_Counts : Addr) (R : Er) : Ds :=
    (sSeq (sSet 2 (dC (.str [102, 105, 110, 101])))
    (sSeq (sTry R "PairError" 3 (sIf (dBv (dOp2 (eqT false) (dNm 0) (dTm (dC (.int 0))))) (sDrop (dShr (dNew C_Counts S_Counts_init (dCons (dTm (dOp2 ixT (dNm 1) (dTm (dC (.int 0))))) (dCons (dTm (dOp2 ixT (dNm 1) (dTm (dC (.int 1))))) (dCons (dTm (dOp2 ixT (dNm 1) (dTm (dC (.int 2))))) dNil)))))) (sDrop (dCm callK C_Counts S_Counts_of (dCons (dTm (dVar 1)) dNil)))) (fun a C d fs => (sSet 2 (dHot R kd__law_kind 3 a C d fs))))
    (sRet (dMove 2))))
def D__law_right_3 (S__law_any : Sx) (S__law_draw : Sx) (S__law_told : Sx) : Ds :=
    (sSeq (sSet 1 (dCall S__law_any (dCons (dNm 0) dNil)))
    (sSeq (sAsg (dVar 1) (gTp 3 (gCn (gNm 2) (gCn (gNm 3) (gCn (gNm 4) gNi)))))
    (sSeq (sSet 5 (dLst (dCons (dTm (dOp1 negT (dTm (dC (.int 1))))) (dCons (dTm (dOp1 negT (dTm (dC (.int 2))))) (dCons (dTm (dOp2 subT (dTm (dC (.int 0))) (dTm (dOp2 powT (dTm (dC (.int 10))) (dTm (dC (.int 59))))))) (dCons (dTm (dC .non)) (dCons (dTm (dC (.bl true))) (dCons (dTm (dC (.bl false))) (dCons (dTm (dC (.str [49]))) (dCons (dTm (dC (.str []))) (dCons (dTm (dLst (dCons (dTm (dC (.int 1))) dNil))) (dCons (dTm (dTup (dCons (dTm (dC (.int 1))) dNil))) (dCons (dTm dDict0) (dCons (dTm (dVar 1)) dNil))))))))))))))
    (sSeq (sSet 6 (dOp2 addT (dTm (dComp [7] (dSrc (dVar 5)) (.one 7) dYes (dTup (dCons (dTm (dVar 7)) (dCons (dTm (dVar 3)) (dCons (dTm (dVar 4)) dNil)))))) (dTm (dComp [7] (dSrc (dVar 5)) (.one 7) dYes (dTup (dCons (dTm (dVar 2)) (dCons (dTm (dVar 7)) (dCons (dTm (dVar 4)) dNil))))))))
    (sSeq (sSet 6 (dOp2 addT (dTm (dOp2 addT (dNm 6) (dTm (dComp [7] (dSrc (dVar 5)) (.one 7) dYes (dTup (dCons (dTm (dVar 2)) (dCons (dTm (dVar 3)) (dCons (dTm (dVar 7)) dNil)))))))) (dTm (dComp [7] (dSrc (dVar 5)) (.one 7) dYes (dTup (dCons (dTm (dVar 7)) (dCons (dTm (dVar 7)) (dCons (dTm (dVar 7)) dNil))))))))
    (sSeq (sSet 8 (dOp2 addT (dTm (dOp2 mulT (dNm 2) (dNm 3))) (dTm (dC (.int 1)))))
    (sSeq (sSet 6 (dOp2 addT (dNm 6) (dTm (dLst (dCons (dTm (dTup (dCons (dTm (dVar 2)) (dCons (dTm (dVar 3)) (dCons (dTm (dVar 8)) dNil))))) (dCons (dTm (dTup (dCons (dTm (dVar 2)) (dCons (dTm (dVar 3)) (dCons (dTm (dOp2 addT (dNm 8) (dTm (dCall S__law_draw (dCons (dNm 0) (dCons (dTm (dOp2 powT (dTm (dC (.int 10))) (dTm (dC (.int 9))))) dNil)))))) dNil))))) (dCons (dTm (dTup (dCons (dTm (dC (.int 0))) (dCons (dTm (dVar 3)) (dCons (dTm (dC (.int 1))) dNil))))) (dCons (dTm (dTup (dCons (dTm (dVar 2)) (dCons (dTm (dC (.int 0))) (dCons (dTm (dC (.int 1))) dNil))))) dNil))))))))
    (sSeq (sSet 6 (dOp2 addT (dNm 6) (dTm (dLst (dCons (dTm (dTup (dCons (dTm (dOp1 negT (dTm (dC (.int 1))))) (dCons (dTm (dOp1 negT (dTm (dC (.int 1))))) (dCons (dTm (dC (.int 1))) dNil))))) (dCons (dTm (dTup (dCons (dTm (dOp1 negT (dTm (dC (.int 1))))) (dCons (dTm (dOp1 negT (dTm (dC (.int 1))))) (dCons (dTm (dC (.int 0))) dNil))))) (dCons (dTm (dTup (dCons (dTm (dOp1 negT (dTm (dC (.int 2))))) (dCons (dTm (dC (.int 3))) (dCons (dTm (dOp1 negT (dTm (dC (.int 6))))) dNil))))) (dCons (dTm (dTup (dCons (dTm (dVar 2)) (dCons (dTm (dVar 3)) (dCons (dTm (dOp2 powT (dTm (dC (.int 10))) (dTm (dC (.int 61))))) dNil))))) (dCons (dTm (dTup (dCons (dTm (dOp2 ixT (dNm 5) (dTm (dCall S__law_draw (dCons (dNm 0) (dCons (dTm (dC (.int 12))) dNil)))))) (dCons (dTm (dVar 3)) (dCons (dTm (dVar 8)) dNil))))) dNil)))))))))
    (sSeq (sSet 9 (dRpD (qOp (dNm 6))))
    (sSeq (sIf (dBv (dEqQ true (qOp (dTm (dComp [7] (dSrc (dVar 6)) (.one 7) (dBv (dOp2 (eqT true) (dTm (dCall S__law_told (dCons (dTm (dC (.int 0))) (dCons (dTm (dVar 7)) dNil)))) (dTm (dC (.str [99, 111, 117, 110, 116, 115]))))) (dVar 7)))) (qLs qNil))) (sRet (dC (.bl false))) sNext)
    (sSeq (sSet 10 (dLst (dCons (dTm (dVar 1)) (dCons (dTm (dTup (dCons (dTm (dVar 2)) (dCons (dTm (dVar 3)) (dCons (dTm (dC (.int 0))) dNil))))) (dCons (dTm (dTup (dCons (dTm (dVar 2)) (dCons (dTm (dVar 3)) (dCons (dTm (dOp2 mulT (dNm 2) (dNm 3))) dNil))))) dNil)))))
    (sRet (dAndV (dEqQ false (qOp (dTm (dComp [7] (dSrc (dVar 10)) (.one 7) (dBv (dOp2 (eqT true) (dTm (dCall S__law_told (dCons (dTm (dC (.int 0))) (dCons (dTm (dVar 7)) dNil)))) (dTm (dC (.str [102, 105, 110, 101]))))) (dVar 7)))) (qLs qNil)) (dOp2 (eqT false) (dTm (dRpD (qOp (dNm 6)))) (dNm 9)))))))))))))))
def B_law_6_1 (S__law_word : Sx) (S__law_right : Sx) (S__law_told : Sx) (S__law_no_rows : Sx) : Ds :=
    (sSeq (sSet 3 (dCall S__law_word (dCons (dNm 1) (dCons (dTm (dC (.int 0))) (dCons (dTm (dOp2 ixT (dTm (dLst (dCons (dTm (dC (.int 200))) (dCons (dTm (dC (.int 7))) dNil)))) (dTm (dOp2 modT (dNm 2) (dTm (dC (.int 2))))))) dNil)))))
    (sSeq (sIf (dOrT (dNotT (dBv (dCall S__law_right (dCons (dNm 1) dNil)))) (dBv (dOp2 (eqT true) (dTm (dCall S__law_told (dCons (dTm (dC (.int 1))) (dCons (dTm (dVar 3)) dNil)))) (dTm (dC (.str [102, 105, 110, 101])))))) (sRet (dC (.bl false))) sNext)
    (sIf (dBv (dEqQ true (qOp (dTm (dComp [4] (dSrc (dCall S__law_no_rows (dCons (dNm 1) (dCons (dTm (dVar 3)) dNil)))) (.one 4) (dBv (dOp2 (eqT true) (dTm (dCall S__law_told (dCons (dTm (dC (.int 1))) (dCons (dTm (dVar 4)) dNil)))) (dTm (dC (.str [114, 111, 119]))))) (dVar 4)))) (qLs qNil))) (sRet (dC (.bl false))) sNext)))
def D_law_6 (S__law_reel : Sx) (S__law_word : Sx) (S__law_right : Sx) (S__law_told : Sx) (S__law_no_rows : Sx) : Ds :=
    (sSeq (sSet 1 (dCall S__law_reel (dCons (dTm (dVar 0)) dNil)))
    (sSeq (sFor (dRng1 (dCons (dTm (dOp2 addT (dTm (dC (.int 2))) (dTm (dOpN (f2 min2T) (dCons (dTm (dOpN (f1 lenT) (dCons (dNm 0) dNil))) (dCons (dTm (dC (.int 6))) dNil)))))) dNil)) (gNm 2) (B_law_6_1 S__law_word S__law_right S__law_told S__law_no_rows))
    (sRet (dAndV (dOp2 (eqT false) (dTm (dCall S__law_told (dCons (dTm (dC (.int 0))) (dCons (dTm (dTup (dCons (dTm (dC (.int 0))) (dCons (dTm (dC (.int 0))) (dCons (dTm (dC (.int 0))) dNil))))) dNil)))) (dTm (dC (.str [102, 105, 110, 101])))) (dOp2 (eqT false) (dTm (dCall S__law_told (dCons (dTm (dC (.int 0))) (dCons (dTm (dTup (dCons (dTm (dC (.int 2))) (dCons (dTm (dC (.int 2))) (dCons (dTm (dC (.int 5))) dNil))))) dNil)))) (dTm (dC (.str [99, 111, 117, 110, 116, 115]))))))))
def D_Counts_init_x (S_is_integer : Sx) (C_InvalidCounts : Addr) (C_Counts : Addr) : Ds :=
    (sSeq (sIf (dOrT (dNotT (dBv (dCall S_is_integer (dCons (dTm (dVar 1)) (dCons (dTm (dC (.int 0))) (dCons (dTm (dC .non)) dNil)))))) (dNotT (dBv (dCall S_is_integer (dCons (dTm (dVar 2)) (dCons (dTm (dC (.int 0))) (dCons (dTm (dC .non)) dNil))))))) (sRaise C_InvalidCounts) sNext)
    (sSeq (sIf (dNotT (dBv (dCall S_is_integer (dCons (dTm (dVar 3)) (dCons (dTm (dC (.int 0))) (dCons (dTm (dOp2 mulT (dNm 1) (dNm 2))) dNil)))))) (sRaise C_InvalidCounts) sNext)
    (sFld 0 C_Counts "triple" (dTup (dCons (dTm (dVar 1)) (dCons (dTm (dVar 2)) (dCons (dTm (dVar 3)) dNil)))))))
end O
namespace O
open PySem PySem.Spec PyProof.Rows L2
theorem forD_step {g : Dg} {b : Ds} {Q : PoS} {ρ : Rho} {t : T} {ts : List T} (h : ∀ K : Rho → Prop, (∀ ρ', forD g b Q ts ρ' → K ρ') → g t ρ ⟨fun _ ρ1 => b ρ1 { Q with nx := K, ct := K, bk := Q.nx }, Q.ex⟩) : forD g b Q (t :: ts) ρ := h _ fun _ z => z
theorem compD_nil {vs : List Nat} {g : Tg} {tt : Dn Bool} {te : Dn Rv} {k : List T → Rho → Prop} {acc : List T} {ρ : Rho} : compD vs g tt te k [] acc ρ = k acc ρ := rfl
theorem compD_cons {vs : List Nat} {g : Tg} {tt : Dn Bool} {te : Dn Rv} {k : List T → Rho → Prop} {acc : List T} {ρ : Rho} {t : T} {ts : List T} : compD vs g tt te k (t :: ts) acc ρ =
  cTg g t ρ fun ρ1 => tt ρ1 ⟨fun b ρ2 => ifB b (te ρ2 ⟨fun r ρ3 => acc.length < sizeLine ∧ compD vs g tt te k ts (acc ++ [r.2]) (wipeR ρ3 vs), noex⟩) (compD vs g tt te k ts acc (wipeR ρ2 vs)), noex⟩ := rfl
theorem compD_step {vs : List Nat} {g : Tg} {tt : Dn Bool} {te : Dn Rv} {k : List T → Rho → Prop} {acc : List T} {ρ : Rho} {t : T} {ts : List T} (h : ∀ K : List T → Rho → Prop, (∀ a ρ', compD vs g tt te k ts a ρ' → K a ρ') →
  cTg g t ρ fun ρ1 => tt ρ1 ⟨fun b ρ2 => ifB b (te ρ2 ⟨fun r ρ3 => acc.length < sizeLine ∧ K (acc ++ [r.2]) (wipeR ρ3 vs), noex⟩) (K acc (wipeR ρ2 vs)), noex⟩) : compD vs g tt te k (t :: ts) acc ρ := h _ fun _ _ z => z
/-- a comprehension whose parts leave everything as it is -/
theorem comp_map {vs : List Nat} {g : Tg} {tt : Dn Bool} {te : Dn Rv} {k : List T → Rho → Prop} (F : T → Option T) {ρ : Rho} : ∀ {ts acc : List T},
    (∀ t ∈ ts, ∀ (A : T → Rho → Prop) (B : Rho → Prop), (match F t with | some u => A u ρ | none => B ρ) → cTg g t ρ fun ρ1 => tt ρ1 ⟨fun b ρ2 => ifB b (te ρ2 ⟨fun r ρ3 => A r.2 (wipeR ρ3 vs), noex⟩) (B (wipeR ρ2 vs)), noex⟩) →
    acc.length + ts.length ≤ sizeLine → k (acc ++ ts.filterMap F) ρ → compD vs g tt te k ts acc ρ
  | [], acc, _, _, h => by rw [compD_nil]; simpa using h
  | t :: ts, acc, st, hl, h => by
    rw [compD_cons]
    rw [List.length_cons] at hl
    refine st t List.mem_cons_self (fun u ρ' => acc.length < sizeLine ∧ compD vs g tt te k ts (acc ++ [u]) ρ') (fun ρ' => compD vs g tt te k ts acc ρ') ?_
    cases e : F t with
    | some u =>
      refine ⟨by omega, comp_map F (fun t m => st t (List.mem_cons_of_mem _ m)) (by rw [List.length_append]; simp; omega) ?_⟩
      rw [List.filterMap_cons, e] at h
      simpa using h
    | none =>
      refine comp_map F (fun t m => st t (List.mem_cons_of_mem _ m)) (by omega) ?_
      rw [List.filterMap_cons, e] at h
      exact h
theorem wh_step {t : Dn Bool} {b : Ds} {Q : PoS} {n : Nat} {ρ : Rho} (h : ∀ K : Rho → Prop, (∀ ρ', whN t b Q n ρ' → K ρ') → t ρ ⟨fun c ρ1 => ifB c (b ρ1 { Q with nx := K, ct := K, bk := Q.nx }) (Q.nx ρ1), Q.ex⟩) : whN t b Q (n + 1) ρ := h _ fun _ z => z
/-- the same over a list of given things -/
theorem comp_on {α : Type} {vs : List Nat} {g : Tg} {tt : Dn Bool} {te : Dn Rv} {k : List T → Rho → Prop} (w : α → T) (F : α → Option T) {ρ : Rho} : ∀ {xs : List α} {acc : List T},
    (∀ x ∈ xs, ∀ (A : T → Rho → Prop) (B : Rho → Prop), (match F x with | some u => A u ρ | none => B ρ) → cTg g (w x) ρ fun ρ1 => tt ρ1 ⟨fun b ρ2 => ifB b (te ρ2 ⟨fun r ρ3 => A r.2 (wipeR ρ3 vs), noex⟩) (B (wipeR ρ2 vs)), noex⟩) →
    acc.length + xs.length ≤ sizeLine → k (acc ++ xs.filterMap F) ρ → compD vs g tt te k (xs.map w) acc ρ
  | [], acc, _, _, h => by rw [List.map_nil, compD_nil]; simpa using h
  | x :: xs, acc, st, hl, h => by
    rw [List.map_cons]
    rw [List.length_cons] at hl
    refine compD_step fun K hK => st x List.mem_cons_self (fun u ρ' => acc.length < sizeLine ∧ K (acc ++ [u]) ρ') (fun ρ' => K acc ρ') ?_
    cases e : F x with
    | some u =>
      refine ⟨by omega, hK _ _ (comp_on w F (fun t m => st t (List.mem_cons_of_mem _ m)) (by rw [List.length_append]; simp; omega) ?_)⟩
      rw [List.filterMap_cons, e] at h
      simpa using h
    | none =>
      refine hK _ _ (comp_on w F (fun t m => st t (List.mem_cons_of_mem _ m)) (by omega) ?_)
      rw [List.filterMap_cons, e] at h
      exact h
theorem comp_all {α : Type} {vs : List Nat} {g : Tg} {tt : Dn Bool} {te : Dn Rv} {k : List T → Rho → Prop} {w : α → T} (G : α → T) {ρ : Rho} {xs : List α}
    (st : ∀ x ∈ xs, ∀ (A : T → Rho → Prop) (B : Rho → Prop), A (G x) ρ → cTg g (w x) ρ fun ρ1 => tt ρ1 ⟨fun b ρ2 => ifB b (te ρ2 ⟨fun r ρ3 => A r.2 (wipeR ρ3 vs), noex⟩) (B (wipeR ρ2 vs)), noex⟩) (hl : xs.length ≤ sizeLine) (h : k (xs.map G) ρ) : compD vs g tt te k (xs.map w) [] ρ := by
  refine comp_on w (fun x => some (G x)) (fun x m A B hA => st x m A B hA) (by simpa using hl) ?_
  rw [List.nil_append, List.filterMap_eq_map']
  exact h
theorem comp_if {α : Type} {vs : List Nat} {g : Tg} {tt : Dn Bool} {te : Dn Rv} {k : List T → Rho → Prop} {w : α → T} (p : α → Bool) (G : α → T) {ρ : Rho} {xs : List α}
    (st : ∀ x ∈ xs, ∀ (A : T → Rho → Prop) (B : Rho → Prop), ifB (p x) (A (G x) ρ) (B ρ) → cTg g (w x) ρ fun ρ1 => tt ρ1 ⟨fun b ρ2 => ifB b (te ρ2 ⟨fun r ρ3 => A r.2 (wipeR ρ3 vs), noex⟩) (B (wipeR ρ2 vs)), noex⟩) (hl : xs.length ≤ sizeLine) (h : k ((xs.filter p).map G) ρ) : compD vs g tt te k (xs.map w) [] ρ := by
  refine comp_on w (fun x => if p x then some (G x) else none) (fun x m A B hA => st x m A B ?_) (by simpa using hl) ?_
  · cases hp : p x with
    | true => rw [hp] at hA; exact ifB_t.mpr hA
    | false => rw [hp] at hA; exact ifB_f.mpr hA
  · have e : xs.filterMap (fun x => if p x then some (G x) else none) = (xs.filter p).map G := by
      clear st hl h
      induction xs with
      | nil => rfl
      | cons x xs ih =>
        rw [List.filterMap_cons, List.filter_cons]
        cases p x with
        | true => simp only [if_true, List.map_cons, ih]
        | false => simpa using ih
    rw [List.nil_append, e]
    exact h
def SP (f : List T → Ot) : Sx := fun ars Q => ∃ ts, ars = ts.map Sl.sh ∧ (f ts).pre ∧ Q.ok (f ts).val (ts.map fun _ => Sl.no)
theorem mn_SP (f : List T → Ot) : Mn (SP f) := fun ρ Q Q' ⟨ts, e, p, q⟩ k _ => ⟨ts, e, p, k _ _ q⟩
theorem len_SP {f : List T → Ot} {n : Nat} (h : ∀ ts, (f ts).pre → ts.length = n) : ∀ ars Q, SP f ars Q → ars.length = n := fun ars Q ⟨ts, e, p, _⟩ => by rw [e, List.length_map]; exact h ts p
theorem atI_neg1 {α : Type} (xs : List α) (x : α) : L2.atI (xs ++ [x]) (-1) = some x := by
  unfold L2.atI ixN
  rw [if_neg (by decide), List.length_append, List.length_singleton, if_pos (by omega)]
  show (xs ++ [x])[(-1 + ((xs.length + 1 : Nat) : Int)).toNat]? = some x
  rw [show (-1 + ((xs.length + 1 : Nat) : Int)).toNat = xs.length by omega]
  simp
theorem atI_nat {α : Type} (xs : List α) (i : Nat) : L2.atI xs (i : Int) = xs[i]? := by
  unfold L2.atI ixN
  rw [if_pos (by omega)]
  by_cases h : (i : Int) < xs.length
  · rw [if_pos h]; simp
  · rw [if_neg h, List.getElem?_eq_none (by omega)]; rfl
def varS (i : Nat) (ρ : Rho) (Q : Po Rv) : Sl → Prop
  | .no => False
  | .sh t => Q.ok (false, t) ρ
  | .sd t => Q.ok (false, t) ρ
  | .ow t => Q.ok (false, t) (ρ.set i (.sh t))
  | .io t => Q.ok (false, t) (ρ.set i (.sd t))
def movS (i : Nat) (ρ : Rho) (Q : Po Rv) : Sl → Prop
  | .no => False
  | .sh t => Q.ok (false, t) ρ
  | .sd t => Q.ok (false, t) ρ
  | .ow t => Q.ok (true, t) (ρ.set i .no)
  | .io t => Q.ok (false, t) (ρ.set i (.sd t))
section
variable {ρ : Rho} {i j : Nat} {t u : T} {Q : Po Rv} {a b : Int} {s s' : Sl}
theorem e_var : dVar i ρ Q = varS i ρ Q (sl_ ρ i) := by unfold dVar varS; cases sl_ ρ i <;> rfl
theorem e_var1 : varS i ρ Q (.sh t) = Q.ok (false, t) ρ := rfl
theorem e_var2 : varS i ρ Q (.sd t) = Q.ok (false, t) ρ := rfl
theorem e_var3 : varS i ρ Q (.ow t) = Q.ok (false, t) (ρ.set i (.sh t)) := rfl
theorem e_var4 : varS i ρ Q (.io t) = Q.ok (false, t) (ρ.set i (.sd t)) := rfl
theorem e_mov : dMove i ρ Q = movS i ρ Q (sl_ ρ i) := by unfold dMove movS; cases sl_ ρ i <;> rfl
theorem e_mov1 : movS i ρ Q (.sh t) = Q.ok (false, t) ρ := rfl
theorem e_mov2 : movS i ρ Q (.sd t) = Q.ok (false, t) ρ := rfl
theorem e_mov3 : movS i ρ Q (.ow t) = Q.ok (true, t) (ρ.set i .no) := rfl
theorem e_mov4 : movS i ρ Q (.io t) = Q.ok (false, t) (ρ.set i (.sd t)) := rfl
theorem e_tr1 : Sl.tr (.sh t) = some t := rfl
theorem e_tr2 : Sl.tr (.sd t) = some t := rfl
theorem e_tr3 : Sl.tr (.ow t) = some t := rfl
theorem e_tr4 : Sl.tr (.io t) = some t := rfl
theorem e_tr5 : Sl.tr .no = none := rfl
theorem e_own1 : ownT (.ow t) = some t := rfl
theorem e_own2 : ownT (.io t) = some t := rfl
theorem e_reo1 : reown (.ow t) u = .ow u := rfl
theorem e_reo2 : reown (.io t) u = .io u := rfl
theorem e_of1 : Sl.of (true, t) = .ow t := rfl
theorem e_of2 : Sl.of (false, t) = .sh t := rfl
theorem e_pin1 : Sl.pin (.sh t) = false := rfl
theorem e_pin2 : Sl.pin (.ow t) = false := rfl
theorem e_pin3 : Sl.pin .no = false := rfl
theorem e_arg1 : argS (.sh t) = .sh t := rfl
theorem e_arg2 : argS (.ow t) = .io t := rfl
theorem e_arg3 : argS (.io t) = .io t := rfl
theorem e_arg4 : argS (.sd t) = .sh t := rfl
theorem e_isarg1 : Sl.arg (.sh t) = true := rfl
theorem e_isarg2 : Sl.arg (.io t) = true := rfl
theorem e_conv1 : conv (.ow t) (.io u) = .ow u := rfl
theorem e_conv2 : conv (.ow t) (.sd u) = .sh u := rfl
theorem e_conv3 : conv (.io t) (.io u) = .io u := rfl
theorem e_conv4 : conv (.io t) (.sd u) = .sd u := rfl
theorem e_conv5 : conv (.sh t) s = .sh t := by cases s <;> rfl
theorem e_conv6 : conv (.sd t) s = .sd t := by cases s <;> rfl
theorem e_sown1 : Sl.own (.ow t) = True := rfl
theorem e_sown2 : Sl.own (.io t) = True := rfl
theorem e_sown3 : Sl.own (.sh t) = False := rfl
theorem e_sown4 : Sl.own (.sd t) = False := rfl
theorem e_put1 {r : Rv} {is : List Nat} {rs : List Rv} : putAll ρ (i :: is) (r :: rs) = putAll (ρ.set i (Sl.of r)) is rs := rfl
theorem e_put2 : putAll ρ [] [] = ρ := rfl
theorem e_po1 {h : Hn} {hs : List Hn} {o : Sl} {os : Rho} : putOut ρ (h :: hs) (o :: os) = putOut (put1 ρ h o) hs os := rfl
theorem e_po2 : putOut ρ [] [] = ρ := rfl
theorem e_p1 {o : Sl} : put1 ρ (.tm t) o = ρ := rfl
theorem e_p2 {o : Sl} : put1 ρ (.sl i) o = ρ.set i (conv (sl_ ρ i) o) := rfl
theorem e_ao1 : argOf ρ (.tm t) = .sh t := rfl
theorem e_ao2 : argOf ρ (.sl i) = argS (sl_ ρ i) := rfl
theorem e_nd0 : ndOwn ρ [] = True := rfl
theorem e_nd1 {hs : List Hn} : ndOwn ρ (.tm t :: hs) = ndOwn ρ hs := rfl
theorem e_nd2 {hs : List Hn} : ndOwn ρ (.sl i :: hs) = (((sl_ ρ i).own → Hn.sl i ∉ hs) ∧ ndOwn ρ hs) := rfl
theorem e_sl {l : List Sl} : sl_ l i = l.getD i .no := rfl
theorem e_get1 : Hn.get ρ (.tm t) = some t := rfl
theorem e_get2 : Hn.get ρ (.sl i) = (sl_ ρ i).tr := rfl
theorem e_is {h : Hn} : Hn.is ρ h t = (h.get ρ = some t) := rfl
theorem e_all {hs : List Hn} {ts : List T} : Hn.all ρ hs ts = (Hn.gets ρ hs = some ts) := rfl
theorem e_gets0 : Hn.gets ρ [] = some [] := rfl
theorem e_gets1 {hs : List Hn} : Hn.gets ρ (.tm t :: hs) = (Hn.gets ρ hs).map (t :: ·) := by show (match some t, Hn.gets ρ hs with | some t, some ts => some (t :: ts) | _, _ => none) = _; cases Hn.gets ρ hs <;> rfl
theorem e_gets2 {hs : List Hn} : Hn.gets ρ (.sl i :: hs) = (sl_ ρ i).tr.bind fun t => (Hn.gets ρ hs).map (t :: ·) := by show (match (sl_ ρ i).tr, Hn.gets ρ hs with | some t, some ts => some (t :: ts) | _, _ => none) = _; cases (sl_ ρ i).tr <;> cases Hn.gets ρ hs <;> rfl
theorem e_tms0 : tms [] = some [] := rfl
theorem e_tms1 {hs : List Hn} : tms (.tm t :: hs) = (tms hs).map (t :: ·) := by show (match tms hs with | some ts => some (t :: ts) | none => none) = _; cases tms hs <;> rfl
theorem e_qg1 {h : Hn} : Hq.get ρ (.op h) = h.get ρ := rfl
theorem e_qg2 {hs : List Hq} : Hq.get ρ (.ls hs) = (Hq.gets ρ hs).map T.lst := rfl
theorem e_qg3 {hs : List Hq} : Hq.get ρ (.tp hs) = (Hq.gets ρ hs).map T.tup := rfl
theorem e_qgs0 : Hq.gets ρ [] = some [] := rfl
theorem e_qgs1 {h : Hq} {hs : List Hq} : Hq.gets ρ (h :: hs) = (h.get ρ).bind fun t => (Hq.gets ρ hs).map (t :: ·) := by show (match h.get ρ, Hq.gets ρ hs with | some t, some ts => some (t :: ts) | _, _ => none) = _; cases h.get ρ <;> cases Hq.gets ρ hs <;> rfl
variable {l m : List Nat} {ts us : List T} {p q : Bool}
theorem e_its1 : T.its (.lst ts) = some ts := rfl
theorem e_its2 : T.its (.scr ts) = some ts := rfl
theorem e_its3 : T.its (.tup ts) = some ts := rfl
theorem e_its4 : T.its (.str l) = some (l.map fun c => .str [c]) := rfl
theorem e_jts1 : T.its2 (.lst ts) = some ts := rfl
theorem e_jts2 : T.its2 (.scr ts) = some ts := rfl
theorem e_jts4 : T.its2 (.str l) = some (l.map fun c => .str [c]) := rfl
theorem e_mt1 {s : String} : T.isMt s (.str l) = (s = "str") := rfl
theorem e_mt2 {s : String} : T.isMt s (.lst ts) = (s = "list") := rfl
theorem e_ty1 {s : String} : T.isTy s (.lst ts) = (s = "list") := rfl
theorem e_add1 : addT (.int a) (.int b) = .sh (.int (a + b)) := rfl
theorem e_add2 : addT (.str l) (.str m) = .when (l.length + m.length ≤ sizeLine) (.str (l ++ m)) := rfl
theorem e_add3 : addT (.lst ts) (.lst us) = .new (ts.length + us.length ≤ sizeLine) (.lst (ts ++ us)) := rfl
theorem e_sub : subT (.int a) (.int b) = .sh (.int (a - b)) := rfl
theorem e_mul1 : mulT (.int a) (.int b) = .when (CMul a b ∨ CMulW a b) (.int (a * b)) := rfl
theorem e_mul2 : mulT (.str l) (.int b) = .when (-(2 ^ 63) ≤ b ∧ b < 2 ^ 63 ∧ l.length * b.toNat ≤ sizeLine) (.str (List.replicate b.toNat l).flatten) := rfl
theorem e_mul3 : mulT (.lst ts) (.int b) = .new (-(2 ^ 63) ≤ b ∧ b < 2 ^ 63 ∧ ts.length * b.toNat ≤ sizeLine) (.lst (List.replicate b.toNat ts).flatten) := rfl
theorem e_fdiv : fdivT (.int a) (.int b) = .when (CDivW a b) (.int (a / b)) := rfl
theorem e_mod : modT (.int a) (.int b) = .when (0 < b) (.int (a % b)) := rfl
theorem e_pow : powT (.int a) (.int b) = .when (CPow a b) (.int (a ^ b.toNat)) := rfl
theorem e_neg : negT (.int a) = .sh (.int (-a)) := rfl
theorem e_len1 : lenT (.str l) = .when (l.length ≤ sizeLine) (.int l.length) := rfl
theorem e_len2 : lenT (.lst ts) = .sh (.int ts.length) := rfl
theorem e_len3 : lenT (.scr ts) = .sh (.int ts.length) := rfl
theorem e_len4 : lenT (.tup ts) = .sh (.int ts.length) := rfl
theorem e_int1 : intT (.int a) = .sh (.int a) := rfl
theorem e_int2 : intT (.bl p) = .sh (.int (if p then 1 else 0)) := rfl
theorem e_abs : absT (.int a) = .sh (.int (if a < 0 then -a else a)) := rfl
theorem e_max : max2T (.int a) (.int b) = .sh (.int (if b > a then b else a)) := rfl
theorem e_min : min2T (.int a) (.int b) = .sh (.int (if b < a then b else a)) := rfl
theorem e_ix1 : ixT (.lst ts) (.int a) = ⟨(L2.atI ts a).isSome = true, (false, (L2.atI ts a).getD .non)⟩ := rfl
theorem e_ix2 : ixT (.scr ts) (.int a) = ⟨(L2.atI ts a).isSome = true, (false, (L2.atI ts a).getD .non)⟩ := rfl
theorem e_ix3 : ixT (.tup ts) (.int a) = ⟨(L2.atI ts a).isSome = true, (false, (L2.atI ts a).getD .non)⟩ := rfl
theorem e_ix4 : ixT (.str l) (.int a) = ⟨l.length ≤ sizeLine ∧ (L2.atI l a).isSome = true, (false, .str [(L2.atI l a).getD 0])⟩ := rfl
theorem e_eq1 {n : Bool} : eqT n (.int a) (.int b) = .sh (.bl (n != decide (a = b))) := rfl
theorem e_eq2 {n : Bool} : eqT n (.str l) (.str m) = .sh (.bl (n != decide (l = m))) := rfl
theorem e_eq3 {n : Bool} : eqT n (.bl p) (.bl q) = .sh (.bl (n != decide (p = q))) := rfl
theorem e_lt1 : ltT (.int a) (.int b) = .sh (.bl (decide (a < b))) := rfl
theorem e_le1 : leT (.int a) (.int b) = .sh (.bl (decide (a ≤ b))) := rfl
theorem e_gt1 : gtT (.int a) (.int b) = .sh (.bl (decide (b < a))) := rfl
theorem e_ge1 : geT (.int a) (.int b) = .sh (.bl (decide (b ≤ a))) := rfl
theorem e_lt2 : ltT (.str l) (.str m) = .sh (.bl (decide (l < m))) := rfl
theorem e_in1 {n : Bool} {c : Nat} : inT n (.str [c]) (.str l) = .sh (.bl (n != decide (c ∈ l))) := rfl
theorem e_app : appM (.lst ts) [t] = ⟨ts.length < sizeLine, .lst (ts ++ [t]), .non⟩ := rfl
theorem e_ext : extM (.lst ts) [.lst us] = ⟨ts.length + us.length ≤ sizeLine, .lst (ts ++ us), .non⟩ := rfl
theorem e_rev : revM (.lst ts) [] = ⟨True, .lst ts.reverse, .non⟩ := rfl
theorem e_clr : clrM (.lst ts) [] = ⟨True, .lst [], .non⟩ := rfl
theorem e_set : setL (.lst ts) (.int a) t = ⟨(ixN ts.length a).isSome = true, .lst (ts.set ((ixN ts.length a).getD 0) t), .non⟩ := rfl
theorem e_sl1 {lo hi : Option Int} : slT (.lst ts) lo hi = .new True (.lst (cutL ts lo hi)) := rfl
theorem e_sl2 {lo hi : Option Int} : slT (.scr ts) lo hi = .new True (.lst (cutL ts lo hi)) := rfl
theorem e_sl3 {lo hi : Option Int} : slT (.tup ts) lo hi = .sh (.tup (cutL ts lo hi)) := rfl
theorem e_sl4 {lo hi : Option Int} : slT (.str l) lo hi = .when (l.length ≤ sizeLine) (.str (cutL l lo hi)) := rfl
theorem e_count {c : Nat} : countT (.str l) [.str [c]] = .sh (.int (l.count c)) := rfl
theorem e_f1 {f : T → Ot} : f1 f [t] = f t := rfl
theorem e_f2 {f : T → T → Ot} : f2 f [t, u] = f t u := rfl
theorem e_osh : Ot.sh t = ⟨True, (false, t)⟩ := rfl
theorem e_owh {P : Prop} : Ot.when P t = ⟨P, (false, t)⟩ := rfl
theorem e_one {P : Prop} : Ot.new P t = ⟨P, (true, t)⟩ := rfl
theorem e_tt1 {k : Bool} : T.truth (.bl p) k = (k = p) := rfl
theorem e_tt2 {k : Bool} : T.truth (.int a) k = (k = (a != 0)) := rfl
theorem e_ctg1 {R : Rho → Prop} : cTg (.one i) t ρ R = ((sl_ ρ i).pin = false ∧ R (ρ.set i (.sh t))) := rfl
theorem e_ctg2 {is : List Nat} {R : Rho → Prop} : cTg (.tup is) (.tup ts) ρ R = (ts.length = is.length ∧ cNms is ts ρ R) := by
  show (∃ us, T.tup ts = .tup us ∧ us.length = is.length ∧ cNms is us ρ R) = _
  simp
theorem e_cn0 {R : Rho → Prop} : cNms [] [] ρ R = R ρ := by show ([] = [] ∧ R ρ) = _; simp
theorem e_cn1 {is : List Nat} {R : Rho → Prop} : cNms (i :: is) (t :: ts) ρ R = ((sl_ ρ i).pin = false ∧ cNms is ts (ρ.set i (.sh t)) R) :=
  propext ⟨fun ⟨u, r, e, h⟩ => by cases e; exact h, fun h => ⟨t, ts, rfl, h⟩⟩
theorem e_wi0 : wipeR ρ [] = ρ := rfl
theorem e_wi1 {vs : List Nat} : wipeR ρ (i :: vs) = (wipeR ρ vs).set i .no := rfl
theorem e_re0 {σ : Rho} : restore ρ σ [] = σ := rfl
theorem e_re1 {σ : Rho} {vs : List Nat} : restore ρ σ (i :: vs) = (restore ρ σ vs).set i (sl_ ρ i) := rfl
theorem e_ifb1 {A B : Prop} : ifB true A B = A := propext ifB_t
theorem e_ifb2 {A B : Prop} : ifB false A B = B := propext ifB_f
theorem e_nm0 {h : Hn} : (h ∉ ([] : List Hn)) = True := by simp
theorem e_nm1 {hs : List Hn} : (Hn.sl i ∉ (Hn.tm t :: hs)) = (Hn.sl i ∉ hs) := by simp
theorem e_nm2 {hs : List Hn} : (Hn.sl i ∉ (Hn.sl j :: hs)) = (i ≠ j ∧ Hn.sl i ∉ hs) := by simp
theorem e_fa0 {α : Type} {P : α → Prop} : (∀ h ∈ ([] : List α), P h) = True := by simp
theorem e_fa1 {α : Type} {P : α → Prop} {h : α} {hs : List α} : (∀ x ∈ h :: hs, P x) = (P h ∧ ∀ x ∈ hs, P x) := by simp
theorem e_sum {ns : List Int} : sumT (.lst (ns.map T.int)) = ⟨True, (false, .int ns.sum)⟩ := by show (⟨(T.ints (ns.map T.int)).isSome = true, (false, .int ((T.ints (ns.map T.int)).getD []).sum)⟩ : Ot) = _; rw [ints_of]; simp
theorem e_allb {bs : List Bool} : allT (.lst (bs.map T.bl)) = ⟨True, (false, .bl (bs.all id))⟩ := by show (⟨(T.bools (bs.map T.bl)).isSome = true, (false, .bl (((T.bools (bs.map T.bl)).getD []).all id))⟩ : Ot) = _; rw [bools_of]; simp
theorem e_anyb {bs : List Bool} : anyT (.lst (bs.map T.bl)) = ⟨True, (false, .bl (bs.any id))⟩ := by show (⟨(T.bools (bs.map T.bl)).isSome = true, (false, .bl (((T.bools (bs.map T.bl)).getD []).any id))⟩ : Ot) = _; rw [bools_of]; simp
theorem e_sp1 {f : List T → Ot} : SP f [.sh t] Q = ((f [t]).pre ∧ Q.ok (f [t]).val [.no]) := propext ⟨fun ⟨ts, e, h⟩ => by
  match ts, e with
  | [a], e => cases e; exact h, fun h => ⟨[t], rfl, h⟩⟩
theorem e_sp2 {f : List T → Ot} : SP f [.sh t, .sh u] Q = ((f [t, u]).pre ∧ Q.ok (f [t, u]).val [.no, .no]) := propext ⟨fun ⟨ts, e, h⟩ => by
  match ts, e with
  | [a, b], e => cases e; exact h, fun h => ⟨[t, u], rfl, h⟩⟩
theorem e_sp3 {f : List T → Ot} {v : T} : SP f [.sh t, .sh u, .sh v] Q = ((f [t, u, v]).pre ∧ Q.ok (f [t, u, v]).val [.no, .no, .no]) := propext ⟨fun ⟨ts, e, h⟩ => by
  match ts, e with
  | [a, b, c], e => cases e; exact h, fun h => ⟨[t, u, v], rfl, h⟩⟩
theorem e_at0 {α : Type} {x : α} {xs : List α} : L2.atI (x :: xs) 0 = some x := by have := atI_nat (x :: xs) 0; simpa using this
theorem e_at1 {α : Type} {x y : α} {xs : List α} : L2.atI (x :: y :: xs) 1 = some y := by have := atI_nat (x :: y :: xs) 1; simpa using this
theorem e_at2 {α : Type} {x y z : α} {xs : List α} : L2.atI (x :: y :: z :: xs) 2 = some z := by have := atI_nat (x :: y :: z :: xs) 2; simpa using this
theorem e_at3 {α : Type} {x y z v : α} {xs : List α} : L2.atI (x :: y :: z :: v :: xs) 3 = some v := by have := atI_nat (x :: y :: z :: v :: xs) 3; simpa using this
theorem e_at4 {α : Type} {x y z v w : α} {xs : List α} : L2.atI (x :: y :: z :: v :: w :: xs) 4 = some w := by have := atI_nat (x :: y :: z :: v :: w :: xs) 4; simpa using this
theorem e_at5 {α : Type} {x y z v w o : α} {xs : List α} : L2.atI (x :: y :: z :: v :: w :: o :: xs) 5 = some o := by have := atI_nat (x :: y :: z :: v :: w :: o :: xs) 5; simpa using this
theorem e_ixn40 : ixN 4 0 = some 0 := rfl
theorem e_ixn41 : ixN 4 1 = some 1 := rfl
theorem e_ixn42 : ixN 4 2 = some 2 := rfl
theorem e_ixn43 : ixN 4 3 = some 3 := rfl
theorem e_cp1 : CPow 2 64 = True := eq_true (by unfold CPow; decide)
theorem e_cp2 : CPow 2 63 = True := eq_true (by unfold CPow; decide)
theorem e_cp3 : CPow 2 45 = True := eq_true (by unfold CPow; decide)
theorem e_cp4 : CPow 10 18 = True := eq_true (by unfold CPow; decide)
theorem e_cp5 : CPow 37 24 = True := eq_true (by unfold CPow; decide)
end
theorem atI_map {α β : Type} (f : α → β) (xs : List α) (i : Int) : L2.atI (xs.map f) i = (L2.atI xs i).map f := by
  unfold L2.atI
  rw [List.length_map]
  cases ixN xs.length i with
  | none => rfl
  | some j => show (xs.map f)[j]? = _; rw [List.getElem?_map]; rfl
theorem atI_in {α : Type} {xs : List α} {i : Int} (h0 : 0 ≤ i) (h1 : i < xs.length) : ∃ x ∈ xs, L2.atI xs i = some x := by
  obtain ⟨k, rfl⟩ := Int.eq_ofNat_of_zero_le h0
  have hk : k < xs.length := by omega
  exact ⟨xs[k], List.getElem_mem hk, by rw [atI_nat]; exact List.getElem?_eq_getElem hk⟩
theorem cut_to {α : Type} (xs : List α) (n : Nat) : cutL xs none (some (n : Int)) = xs.take n := by
  unfold cutL
  rw [HT.sIx_nat, HT.sIx_none, List.drop_zero, Nat.sub_zero]
  rcases Nat.le_total n xs.length with h | h
  · rw [Nat.min_eq_left h]
  · rw [Nat.min_eq_right h, List.take_length, List.take_of_length_le h]
theorem cut_from {α : Type} (xs : List α) (n : Nat) : cutL xs (some (n : Int)) none = xs.drop n := by
  unfold cutL
  rw [HT.sIx_nat, HT.sIx_none]
  rcases Nat.le_total n xs.length with h | h
  · rw [Nat.min_eq_left h, List.take_of_length_le (by rw [List.length_drop]; exact Nat.le_refl _)]
  · rw [Nat.min_eq_right h, List.drop_length, List.take_nil, List.drop_of_length_le h]
theorem cut_toI {α : Type} (xs : List α) {i : Int} (h : 0 ≤ i) : cutL xs none (some i) = xs.take i.toNat := by
  obtain ⟨k, rfl⟩ := Int.eq_ofNat_of_zero_le h
  rw [cut_to]
  rfl
theorem cut_fromI {α : Type} (xs : List α) {i : Int} (h : 0 ≤ i) : cutL xs (some i) none = xs.drop i.toNat := by
  obtain ⟨k, rfl⟩ := Int.eq_ofNat_of_zero_le h
  rw [cut_from]
  rfl
theorem pdL_ints (ns : List Int) : T.pdL (ns.map T.int) = some (ns.map PyData.int) := by
  induction ns with
  | nil => rfl
  | cons n ns ih => show (match T.pd (.int n), T.pdL (ns.map T.int) with | some d, some ds => some (d :: ds) | _, _ => none) = _; rw [ih]; rfl
theorem pd_ints (ns : List Int) : (T.lst (ns.map T.int)).pd = some (.list (ns.map PyData.int)) := by show (T.pdL (ns.map T.int)).map PyData.list = _; rw [pdL_ints]; rfl
theorem canLay_ints (ns : List Int) : PyData.canLayAll0 (ns.map PyData.int) = true := by
  induction ns with
  | nil => rfl
  | cons n ns ih => show (PyData.canLay0 (.int n) && PyData.canLayAll0 (ns.map PyData.int)) = true; rw [ih]; rfl
theorem depth_ints (ns : List Int) : PyData.depthAll (ns.map PyData.int) = 0 := PySem.W.depth_ints ns
theorem shaped_ints (ns : List Int) : SeqAt.shaped (.list (ns.map PyData.int)) = true := by
  unfold SeqAt.shaped
  rw [Bool.and_eq_true]
  refine ⟨canLay_ints ns, decide_eq_true ?_⟩
  show PyData.depthAll (ns.map PyData.int) + 1 ≤ 64
  rw [depth_ints]
  decide
theorem okD_ints (ns : List Int) : okD (.lst (ns.map T.int)) := ⟨_, pd_ints ns, shaped_ints ns⟩
theorem eqv_ints (ns ms : List Int) : PyData.eqvAll (ns.map PyData.int) (ms.map PyData.int) = decide (ns = ms) := by
  induction ns generalizing ms with
  | nil => cases ms <;> simp [PyData.eqvAll]
  | cons n ns ih =>
    cases ms with
    | nil => simp [PyData.eqvAll]
    | cons m ms =>
      show (PyData.eqv (.int n) (.int m) && PyData.eqvAll (ns.map PyData.int) (ms.map PyData.int)) = _
      rw [ih]
      have : PyData.eqv (.int n) (.int m) = decide (n = m) := by first | rfl | simp [PyData.eqv] | (unfold PyData.eqv; simp)
      rw [this]
      by_cases h : n = m <;> by_cases h2 : ns = ms <;> simp [h, h2]
theorem eqvO_ints (ns ms : List Int) : eqvO (T.lst (ns.map T.int)).pd (T.lst (ms.map T.int)).pd = decide (ns = ms) := by
  rw [pd_ints, pd_ints]
  show PyData.eqv (.list _) (.list _) = _
  rw [show PyData.eqv (.list (ns.map PyData.int)) (.list (ms.map PyData.int)) = PyData.eqvAll (ns.map PyData.int) (ms.map PyData.int) by first | rfl | simp [PyData.eqv] | (unfold PyData.eqv; rfl)]
  exact eqv_ints ns ms
end O
namespace O
open PySem PySem.Spec PyProof.Rows L2
/-- prefix counts behind n -/
def prefs (n : Int) : List Nat → List Int
  | [] => []
  | c :: l => (n + if c = 97 then 1 else 0) :: prefs (n + if c = 97 then 1 else 0) l
def prefL (l : List Nat) : List Int := 0 :: prefs 0 l
def fPref : List T → Ot
  | [.str l] => ⟨l.length < sizeLine, (true, .lst ((prefL l).map T.int))⟩
  | _ => .no
theorem loop_prefixes_in (l : List Nat) (Q : PoS) : ∀ (m : List Nat) (acc : List Int) (n : Int) (s : Sl), s.pin = false → acc.length + 1 + m.length ≤ sizeLine →
    (∀ s, Q.nx [.sh (.str l), .ow (.lst ((acc ++ n :: prefs n m).map T.int)), s]) → forD (gNm 2) B_prefixes_in_1 Q (m.map fun c => .str [c]) [.sh (.str l), .ow (.lst ((acc ++ [n]).map T.int)), s]
  | [], acc, n, s, hs, hl, q => q s
  | c :: m, acc, n, s, hs, hl, q => by
    rw [List.length_cons] at hl
    refine forD_step fun K hK => ?_
    simp only [sSeq, sSet, sPar, sIf, sRet, sRetN, sDrop, sNext, sDead, sBrk, sCnt, sAsg, sFor, dNm, dTm, dC, dOp1, dOp2, dOpN, dMt, dMut, dCall, dLst, dTup, dNil, dCons, dVn, dVc, dSl, dSl3, dNoP, dPrt, dIf, dAndV, dOrV, dNotV, dBv, dTru, dNotT, dAndT, dOrT, dChn, dEqQ, dRpQ, qOp, qNil, qCons, qLs, qTp, dSrc, dRng1, dRng2, dZip2, dEnum, dComp, dYes, gNm, gTp, gCn, gNi, gIt, e_var, e_var1, e_var2, e_var3, e_var4, e_mov, e_mov1, e_mov2, e_mov3, e_mov4, e_tr1, e_tr2, e_tr3, e_tr4, e_tr5, e_own1, e_own2, e_reo1, e_reo2, e_of1, e_of2, e_pin1, e_pin2, e_pin3, e_arg1, e_arg2, e_arg3, e_arg4, e_isarg1, e_isarg2, e_conv1, e_conv2, e_conv3, e_conv4, e_conv5, e_conv6, e_sown1, e_sown2, e_sown3, e_sown4, e_put1, e_put2, e_po1, e_po2, e_p1, e_p2, e_ao1, e_ao2, e_nd0, e_nd1, e_nd2, e_sl, e_get1, e_get2, e_is, e_all, e_gets0, e_gets1, e_gets2, e_tms0, e_tms1, e_qg1, e_qg2, e_qg3, e_qgs0, e_qgs1, e_its1, e_its2, e_its3, e_its4, e_jts1, e_jts2, e_jts4, e_mt1, e_mt2, e_ty1, e_add1, e_add2, e_add3, e_sub, e_mul1, e_mul2, e_mul3, e_fdiv, e_mod, e_pow, e_neg, e_len1, e_len2, e_len3, e_len4, e_int1, e_int2, e_abs, e_max, e_min, e_ix1, e_ix2, e_ix3, e_ix4, e_eq1, e_eq2, e_eq3, e_lt1, e_le1, e_gt1, e_ge1, e_lt2, e_in1, e_app, e_ext, e_rev, e_clr, e_set, e_sl1, e_sl2, e_sl3, e_sl4, e_count, e_f1, e_f2, e_osh, e_owh, e_one, e_tt1, e_tt2, e_ctg1, e_ctg2, e_cn0, e_cn1, e_wi0, e_wi1, e_re0, e_re1, e_ifb1, e_ifb2, e_nm0, e_nm1, e_nm2, e_fa0, e_fa1, e_sum, e_allb, e_anyb, e_sp1, e_sp2, e_sp3, e_at0, e_at1, e_at2, e_at3, e_at4, e_at5, e_ixn40, e_ixn41, e_ixn42, e_ixn43, e_cp1, e_cp2, e_cp3, e_cp4, e_cp5, forall_eq, List.getD_cons_zero, List.getD_cons_succ, List.getD_nil, List.set_cons_zero, List.set_cons_succ, List.map_cons, List.map_nil, Option.map_some, Option.map_none, Option.bind_some, Option.bind_none, Option.getD_some, Option.some.injEq, exists_eq_left', exists_eq_left, exists_eq', exists_eq, decide_eq_true_eq, List.length_map, exists_eq_right, exists_and_left, exists_and_right, Option.isSome_some, T.int.injEq, T.str.injEq, T.lst.injEq, T.tup.injEq, T.bl.injEq, List.cons.injEq, Prod.mk.injEq, Hn.tm.injEq, true_and, and_true, and_assoc, and_self, ne_eq, not_false_eq_true, not_true_eq_false, ite_true, ite_false, if_true, if_false, reduceIte, reduceCtorEq, Bool.false_eq_true, false_and, and_false, imp_self, forall_const, implies_true, List.length_cons, List.length_nil, Nat.reduceAdd, Nat.reduceEqDiff, Bool.false_bne, Bool.true_bne, Bool.not_false, Bool.not_true, List.nil_append, List.cons_append, Int.reduceToNat, Int.reducePow, Int.reduceMul, Int.reduceSub, Int.reduceAdd, Int.reduceNeg, hs, B_prefixes_in_1, atI_neg1, List.map_append]
    refine ⟨by simp; omega, hK _ ?_⟩
    have := loop_prefixes_in l Q m (acc ++ [n]) (n + if c = 97 then 1 else 0) (.sh (.str [c])) rfl (by simp; omega) (fun s => by have := q s; unfold prefs at this; simpa using this)
    simpa using this
theorem h_prefixes_in (ars : Rho) (Q : Po Rv) (h : SP fPref ars Q) : D_prefixes_in (ars ++ List.replicate 2 .no) (fwish ars Q) := by
  obtain ⟨ts, rfl, pre, q⟩ := h
  revert pre q
  unfold fPref
  split
  · rename_i l
    intro pre q
    show D_prefixes_in [.sh (.str l), .no, .no] _
    have pre : l.length < sizeLine := pre
    simp only [sSeq, sSet, sPar, sIf, sRet, sRetN, sDrop, sNext, sDead, sBrk, sCnt, sAsg, sFor, dNm, dTm, dC, dOp1, dOp2, dOpN, dMt, dMut, dCall, dLst, dTup, dNil, dCons, dVn, dVc, dSl, dSl3, dNoP, dPrt, dIf, dAndV, dOrV, dNotV, dBv, dTru, dNotT, dAndT, dOrT, dChn, dEqQ, dRpQ, qOp, qNil, qCons, qLs, qTp, dSrc, dRng1, dRng2, dZip2, dEnum, dComp, dYes, gNm, gTp, gCn, gNi, gIt, e_var, e_var1, e_var2, e_var3, e_var4, e_mov, e_mov1, e_mov2, e_mov3, e_mov4, e_tr1, e_tr2, e_tr3, e_tr4, e_tr5, e_own1, e_own2, e_reo1, e_reo2, e_of1, e_of2, e_pin1, e_pin2, e_pin3, e_arg1, e_arg2, e_arg3, e_arg4, e_isarg1, e_isarg2, e_conv1, e_conv2, e_conv3, e_conv4, e_conv5, e_conv6, e_sown1, e_sown2, e_sown3, e_sown4, e_put1, e_put2, e_po1, e_po2, e_p1, e_p2, e_ao1, e_ao2, e_nd0, e_nd1, e_nd2, e_sl, e_get1, e_get2, e_is, e_all, e_gets0, e_gets1, e_gets2, e_tms0, e_tms1, e_qg1, e_qg2, e_qg3, e_qgs0, e_qgs1, e_its1, e_its2, e_its3, e_its4, e_jts1, e_jts2, e_jts4, e_mt1, e_mt2, e_ty1, e_add1, e_add2, e_add3, e_sub, e_mul1, e_mul2, e_mul3, e_fdiv, e_mod, e_pow, e_neg, e_len1, e_len2, e_len3, e_len4, e_int1, e_int2, e_abs, e_max, e_min, e_ix1, e_ix2, e_ix3, e_ix4, e_eq1, e_eq2, e_eq3, e_lt1, e_le1, e_gt1, e_ge1, e_lt2, e_in1, e_app, e_ext, e_rev, e_clr, e_set, e_sl1, e_sl2, e_sl3, e_sl4, e_count, e_f1, e_f2, e_osh, e_owh, e_one, e_tt1, e_tt2, e_ctg1, e_ctg2, e_cn0, e_cn1, e_wi0, e_wi1, e_re0, e_re1, e_ifb1, e_ifb2, e_nm0, e_nm1, e_nm2, e_fa0, e_fa1, e_sum, e_allb, e_anyb, e_sp1, e_sp2, e_sp3, e_at0, e_at1, e_at2, e_at3, e_at4, e_at5, e_ixn40, e_ixn41, e_ixn42, e_ixn43, e_cp1, e_cp2, e_cp3, e_cp4, e_cp5, forall_eq, List.getD_cons_zero, List.getD_cons_succ, List.getD_nil, List.set_cons_zero, List.set_cons_succ, List.map_cons, List.map_nil, Option.map_some, Option.map_none, Option.bind_some, Option.bind_none, Option.getD_some, Option.some.injEq, exists_eq_left', exists_eq_left, exists_eq', exists_eq, decide_eq_true_eq, List.length_map, exists_eq_right, exists_and_left, exists_and_right, Option.isSome_some, T.int.injEq, T.str.injEq, T.lst.injEq, T.tup.injEq, T.bl.injEq, List.cons.injEq, Prod.mk.injEq, Hn.tm.injEq, true_and, and_true, and_assoc, and_self, ne_eq, not_false_eq_true, not_true_eq_false, ite_true, ite_false, if_true, if_false, reduceIte, reduceCtorEq, Bool.false_eq_true, false_and, and_false, imp_self, forall_const, implies_true, List.length_cons, List.length_nil, Nat.reduceAdd, Nat.reduceEqDiff, Bool.false_bne, Bool.true_bne, Bool.not_false, Bool.not_true, List.nil_append, List.cons_append, Int.reduceToNat, Int.reducePow, Int.reduceMul, Int.reduceSub, Int.reduceAdd, Int.reduceNeg, D_prefixes_in]
    refine ⟨by omega, ?_⟩
    refine loop_prefixes_in l _ l [] 0 .no rfl (by simp; omega) fun s => ?_
    simp only [sSeq, sSet, sPar, sIf, sRet, sRetN, sDrop, sNext, sDead, sBrk, sCnt, sAsg, sFor, dNm, dTm, dC, dOp1, dOp2, dOpN, dMt, dMut, dCall, dLst, dTup, dNil, dCons, dVn, dVc, dSl, dSl3, dNoP, dPrt, dIf, dAndV, dOrV, dNotV, dBv, dTru, dNotT, dAndT, dOrT, dChn, dEqQ, dRpQ, qOp, qNil, qCons, qLs, qTp, dSrc, dRng1, dRng2, dZip2, dEnum, dComp, dYes, gNm, gTp, gCn, gNi, gIt, e_var, e_var1, e_var2, e_var3, e_var4, e_mov, e_mov1, e_mov2, e_mov3, e_mov4, e_tr1, e_tr2, e_tr3, e_tr4, e_tr5, e_own1, e_own2, e_reo1, e_reo2, e_of1, e_of2, e_pin1, e_pin2, e_pin3, e_arg1, e_arg2, e_arg3, e_arg4, e_isarg1, e_isarg2, e_conv1, e_conv2, e_conv3, e_conv4, e_conv5, e_conv6, e_sown1, e_sown2, e_sown3, e_sown4, e_put1, e_put2, e_po1, e_po2, e_p1, e_p2, e_ao1, e_ao2, e_nd0, e_nd1, e_nd2, e_sl, e_get1, e_get2, e_is, e_all, e_gets0, e_gets1, e_gets2, e_tms0, e_tms1, e_qg1, e_qg2, e_qg3, e_qgs0, e_qgs1, e_its1, e_its2, e_its3, e_its4, e_jts1, e_jts2, e_jts4, e_mt1, e_mt2, e_ty1, e_add1, e_add2, e_add3, e_sub, e_mul1, e_mul2, e_mul3, e_fdiv, e_mod, e_pow, e_neg, e_len1, e_len2, e_len3, e_len4, e_int1, e_int2, e_abs, e_max, e_min, e_ix1, e_ix2, e_ix3, e_ix4, e_eq1, e_eq2, e_eq3, e_lt1, e_le1, e_gt1, e_ge1, e_lt2, e_in1, e_app, e_ext, e_rev, e_clr, e_set, e_sl1, e_sl2, e_sl3, e_sl4, e_count, e_f1, e_f2, e_osh, e_owh, e_one, e_tt1, e_tt2, e_ctg1, e_ctg2, e_cn0, e_cn1, e_wi0, e_wi1, e_re0, e_re1, e_ifb1, e_ifb2, e_nm0, e_nm1, e_nm2, e_fa0, e_fa1, e_sum, e_allb, e_anyb, e_sp1, e_sp2, e_sp3, e_at0, e_at1, e_at2, e_at3, e_at4, e_at5, e_ixn40, e_ixn41, e_ixn42, e_ixn43, e_cp1, e_cp2, e_cp3, e_cp4, e_cp5, forall_eq, List.getD_cons_zero, List.getD_cons_succ, List.getD_nil, List.set_cons_zero, List.set_cons_succ, List.map_cons, List.map_nil, Option.map_some, Option.map_none, Option.bind_some, Option.bind_none, Option.getD_some, Option.some.injEq, exists_eq_left', exists_eq_left, exists_eq', exists_eq, decide_eq_true_eq, List.length_map, exists_eq_right, exists_and_left, exists_and_right, Option.isSome_some, T.int.injEq, T.str.injEq, T.lst.injEq, T.tup.injEq, T.bl.injEq, List.cons.injEq, Prod.mk.injEq, Hn.tm.injEq, true_and, and_true, and_assoc, and_self, ne_eq, not_false_eq_true, not_true_eq_false, ite_true, ite_false, if_true, if_false, reduceIte, reduceCtorEq, Bool.false_eq_true, false_and, and_false, imp_self, forall_const, implies_true, List.length_cons, List.length_nil, Nat.reduceAdd, Nat.reduceEqDiff, Bool.false_bne, Bool.true_bne, Bool.not_false, Bool.not_true, List.nil_append, List.cons_append, Int.reduceToNat, Int.reducePow, Int.reduceMul, Int.reduceSub, Int.reduceAdd, Int.reduceNeg]
    exact q
  · intro pre; exact pre.elim
def abS (l : List Nat) : Prop := ∀ c ∈ l, c = 97 ∨ c = 98
def rowB (l : List Nat) : Bool := decide (l.length ≤ 200) && l.all fun c => decide (c ∈ [97, 98])
theorem rowB_iff {l : List Nat} : rowB l = true ↔ l.length ≤ 200 ∧ abS l := by
  unfold rowB abS
  simp
def fIsRow : List T → Ot
  | [.str l] => .when (l.length ≤ sizeLine) (.bl (rowB l))
  | [t] => ⟨∃ c, t.cls = some c ∧ kitB c "str" = some false, (false, .bl false)⟩
  | _ => .no
theorem h_is_row (ars : Rho) (Q : Po Rv) (h : SP fIsRow ars Q) : D_is_row (ars ++ List.replicate 1 .no) (fwish ars Q) := by
  obtain ⟨ts, rfl, pre, q⟩ := h
  revert pre q
  unfold fIsRow
  split
  · rename_i l
    intro pre q
    have pre : l.length ≤ sizeLine := pre
    show D_is_row [.sh (.str l), .no] _
    have k1 : kitB "str" "str" = some true := rfl
    simp only [sSeq, sSet, sPar, sIf, sRet, sRetN, sDrop, sNext, sDead, sBrk, sCnt, sAsg, sFor, dNm, dTm, dC, dOp1, dOp2, dOpN, dMt, dMut, dCall, dLst, dTup, dNil, dCons, dVn, dVc, dSl, dSl3, dNoP, dPrt, dIf, dAndV, dOrV, dNotV, dBv, dTru, dNotT, dAndT, dOrT, dChn, dEqQ, dRpQ, qOp, qNil, qCons, qLs, qTp, dSrc, dRng1, dRng2, dZip2, dEnum, dComp, dYes, gNm, gTp, gCn, gNi, gIt, e_var, e_var1, e_var2, e_var3, e_var4, e_mov, e_mov1, e_mov2, e_mov3, e_mov4, e_tr1, e_tr2, e_tr3, e_tr4, e_tr5, e_own1, e_own2, e_reo1, e_reo2, e_of1, e_of2, e_pin1, e_pin2, e_pin3, e_arg1, e_arg2, e_arg3, e_arg4, e_isarg1, e_isarg2, e_conv1, e_conv2, e_conv3, e_conv4, e_conv5, e_conv6, e_sown1, e_sown2, e_sown3, e_sown4, e_put1, e_put2, e_po1, e_po2, e_p1, e_p2, e_ao1, e_ao2, e_nd0, e_nd1, e_nd2, e_sl, e_get1, e_get2, e_is, e_all, e_gets0, e_gets1, e_gets2, e_tms0, e_tms1, e_qg1, e_qg2, e_qg3, e_qgs0, e_qgs1, e_its1, e_its2, e_its3, e_its4, e_jts1, e_jts2, e_jts4, e_mt1, e_mt2, e_ty1, e_add1, e_add2, e_add3, e_sub, e_mul1, e_mul2, e_mul3, e_fdiv, e_mod, e_pow, e_neg, e_len1, e_len2, e_len3, e_len4, e_int1, e_int2, e_abs, e_max, e_min, e_ix1, e_ix2, e_ix3, e_ix4, e_eq1, e_eq2, e_eq3, e_lt1, e_le1, e_gt1, e_ge1, e_lt2, e_in1, e_app, e_ext, e_rev, e_clr, e_set, e_sl1, e_sl2, e_sl3, e_sl4, e_count, e_f1, e_f2, e_osh, e_owh, e_one, e_tt1, e_tt2, e_ctg1, e_ctg2, e_cn0, e_cn1, e_wi0, e_wi1, e_re0, e_re1, e_ifb1, e_ifb2, e_nm0, e_nm1, e_nm2, e_fa0, e_fa1, e_sum, e_allb, e_anyb, e_sp1, e_sp2, e_sp3, e_at0, e_at1, e_at2, e_at3, e_at4, e_at5, e_ixn40, e_ixn41, e_ixn42, e_ixn43, e_cp1, e_cp2, e_cp3, e_cp4, e_cp5, forall_eq, List.getD_cons_zero, List.getD_cons_succ, List.getD_nil, List.set_cons_zero, List.set_cons_succ, List.map_cons, List.map_nil, Option.map_some, Option.map_none, Option.bind_some, Option.bind_none, Option.getD_some, Option.some.injEq, exists_eq_left', exists_eq_left, exists_eq', exists_eq, decide_eq_true_eq, List.length_map, exists_eq_right, exists_and_left, exists_and_right, Option.isSome_some, T.int.injEq, T.str.injEq, T.lst.injEq, T.tup.injEq, T.bl.injEq, List.cons.injEq, Prod.mk.injEq, Hn.tm.injEq, true_and, and_true, and_assoc, and_self, ne_eq, not_false_eq_true, not_true_eq_false, ite_true, ite_false, if_true, if_false, reduceIte, reduceCtorEq, Bool.false_eq_true, false_and, and_false, imp_self, forall_const, implies_true, List.length_cons, List.length_nil, Nat.reduceAdd, Nat.reduceEqDiff, Bool.false_bne, Bool.true_bne, Bool.not_false, Bool.not_true, List.nil_append, List.cons_append, Int.reduceToNat, Int.reducePow, Int.reduceMul, Int.reduceSub, Int.reduceAdd, Int.reduceNeg, D_is_row, isiT, T.cls, k1, pre]
    by_cases h2 : l.length ≤ 200
    · have h3 : (l.length : Int) ≤ 200 := by omega
      simp only [sSeq, sSet, sPar, sIf, sRet, sRetN, sDrop, sNext, sDead, sBrk, sCnt, sAsg, sFor, dNm, dTm, dC, dOp1, dOp2, dOpN, dMt, dMut, dCall, dLst, dTup, dNil, dCons, dVn, dVc, dSl, dSl3, dNoP, dPrt, dIf, dAndV, dOrV, dNotV, dBv, dTru, dNotT, dAndT, dOrT, dChn, dEqQ, dRpQ, qOp, qNil, qCons, qLs, qTp, dSrc, dRng1, dRng2, dZip2, dEnum, dComp, dYes, gNm, gTp, gCn, gNi, gIt, e_var, e_var1, e_var2, e_var3, e_var4, e_mov, e_mov1, e_mov2, e_mov3, e_mov4, e_tr1, e_tr2, e_tr3, e_tr4, e_tr5, e_own1, e_own2, e_reo1, e_reo2, e_of1, e_of2, e_pin1, e_pin2, e_pin3, e_arg1, e_arg2, e_arg3, e_arg4, e_isarg1, e_isarg2, e_conv1, e_conv2, e_conv3, e_conv4, e_conv5, e_conv6, e_sown1, e_sown2, e_sown3, e_sown4, e_put1, e_put2, e_po1, e_po2, e_p1, e_p2, e_ao1, e_ao2, e_nd0, e_nd1, e_nd2, e_sl, e_get1, e_get2, e_is, e_all, e_gets0, e_gets1, e_gets2, e_tms0, e_tms1, e_qg1, e_qg2, e_qg3, e_qgs0, e_qgs1, e_its1, e_its2, e_its3, e_its4, e_jts1, e_jts2, e_jts4, e_mt1, e_mt2, e_ty1, e_add1, e_add2, e_add3, e_sub, e_mul1, e_mul2, e_mul3, e_fdiv, e_mod, e_pow, e_neg, e_len1, e_len2, e_len3, e_len4, e_int1, e_int2, e_abs, e_max, e_min, e_ix1, e_ix2, e_ix3, e_ix4, e_eq1, e_eq2, e_eq3, e_lt1, e_le1, e_gt1, e_ge1, e_lt2, e_in1, e_app, e_ext, e_rev, e_clr, e_set, e_sl1, e_sl2, e_sl3, e_sl4, e_count, e_f1, e_f2, e_osh, e_owh, e_one, e_tt1, e_tt2, e_ctg1, e_ctg2, e_cn0, e_cn1, e_wi0, e_wi1, e_re0, e_re1, e_ifb1, e_ifb2, e_nm0, e_nm1, e_nm2, e_fa0, e_fa1, e_sum, e_allb, e_anyb, e_sp1, e_sp2, e_sp3, e_at0, e_at1, e_at2, e_at3, e_at4, e_at5, e_ixn40, e_ixn41, e_ixn42, e_ixn43, e_cp1, e_cp2, e_cp3, e_cp4, e_cp5, forall_eq, List.getD_cons_zero, List.getD_cons_succ, List.getD_nil, List.set_cons_zero, List.set_cons_succ, List.map_cons, List.map_nil, Option.map_some, Option.map_none, Option.bind_some, Option.bind_none, Option.getD_some, Option.some.injEq, exists_eq_left', exists_eq_left, exists_eq', exists_eq, decide_eq_true_eq, List.length_map, exists_eq_right, exists_and_left, exists_and_right, Option.isSome_some, T.int.injEq, T.str.injEq, T.lst.injEq, T.tup.injEq, T.bl.injEq, List.cons.injEq, Prod.mk.injEq, Hn.tm.injEq, true_and, and_true, and_assoc, and_self, ne_eq, not_false_eq_true, not_true_eq_false, ite_true, ite_false, if_true, if_false, reduceIte, reduceCtorEq, Bool.false_eq_true, false_and, and_false, imp_self, forall_const, implies_true, List.length_cons, List.length_nil, Nat.reduceAdd, Nat.reduceEqDiff, Bool.false_bne, Bool.true_bne, Bool.not_false, Bool.not_true, List.nil_append, List.cons_append, Int.reduceToNat, Int.reducePow, Int.reduceMul, Int.reduceSub, Int.reduceAdd, Int.reduceNeg, h3, decide_true]
      refine comp_all (fun c => .bl (decide (c ∈ [97, 98]))) (fun c _ A B hA => ?_) (by omega) ?_
      · simp only [sSeq, sSet, sPar, sIf, sRet, sRetN, sDrop, sNext, sDead, sBrk, sCnt, sAsg, sFor, dNm, dTm, dC, dOp1, dOp2, dOpN, dMt, dMut, dCall, dLst, dTup, dNil, dCons, dVn, dVc, dSl, dSl3, dNoP, dPrt, dIf, dAndV, dOrV, dNotV, dBv, dTru, dNotT, dAndT, dOrT, dChn, dEqQ, dRpQ, qOp, qNil, qCons, qLs, qTp, dSrc, dRng1, dRng2, dZip2, dEnum, dComp, dYes, gNm, gTp, gCn, gNi, gIt, e_var, e_var1, e_var2, e_var3, e_var4, e_mov, e_mov1, e_mov2, e_mov3, e_mov4, e_tr1, e_tr2, e_tr3, e_tr4, e_tr5, e_own1, e_own2, e_reo1, e_reo2, e_of1, e_of2, e_pin1, e_pin2, e_pin3, e_arg1, e_arg2, e_arg3, e_arg4, e_isarg1, e_isarg2, e_conv1, e_conv2, e_conv3, e_conv4, e_conv5, e_conv6, e_sown1, e_sown2, e_sown3, e_sown4, e_put1, e_put2, e_po1, e_po2, e_p1, e_p2, e_ao1, e_ao2, e_nd0, e_nd1, e_nd2, e_sl, e_get1, e_get2, e_is, e_all, e_gets0, e_gets1, e_gets2, e_tms0, e_tms1, e_qg1, e_qg2, e_qg3, e_qgs0, e_qgs1, e_its1, e_its2, e_its3, e_its4, e_jts1, e_jts2, e_jts4, e_mt1, e_mt2, e_ty1, e_add1, e_add2, e_add3, e_sub, e_mul1, e_mul2, e_mul3, e_fdiv, e_mod, e_pow, e_neg, e_len1, e_len2, e_len3, e_len4, e_int1, e_int2, e_abs, e_max, e_min, e_ix1, e_ix2, e_ix3, e_ix4, e_eq1, e_eq2, e_eq3, e_lt1, e_le1, e_gt1, e_ge1, e_lt2, e_in1, e_app, e_ext, e_rev, e_clr, e_set, e_sl1, e_sl2, e_sl3, e_sl4, e_count, e_f1, e_f2, e_osh, e_owh, e_one, e_tt1, e_tt2, e_ctg1, e_ctg2, e_cn0, e_cn1, e_wi0, e_wi1, e_re0, e_re1, e_ifb1, e_ifb2, e_nm0, e_nm1, e_nm2, e_fa0, e_fa1, e_sum, e_allb, e_anyb, e_sp1, e_sp2, e_sp3, e_at0, e_at1, e_at2, e_at3, e_at4, e_at5, e_ixn40, e_ixn41, e_ixn42, e_ixn43, e_cp1, e_cp2, e_cp3, e_cp4, e_cp5, forall_eq, List.getD_cons_zero, List.getD_cons_succ, List.getD_nil, List.set_cons_zero, List.set_cons_succ, List.map_cons, List.map_nil, Option.map_some, Option.map_none, Option.bind_some, Option.bind_none, Option.getD_some, Option.some.injEq, exists_eq_left', exists_eq_left, exists_eq', exists_eq, decide_eq_true_eq, List.length_map, exists_eq_right, exists_and_left, exists_and_right, Option.isSome_some, T.int.injEq, T.str.injEq, T.lst.injEq, T.tup.injEq, T.bl.injEq, List.cons.injEq, Prod.mk.injEq, Hn.tm.injEq, true_and, and_true, and_assoc, and_self, ne_eq, not_false_eq_true, not_true_eq_false, ite_true, ite_false, if_true, if_false, reduceIte, reduceCtorEq, Bool.false_eq_true, false_and, and_false, imp_self, forall_const, implies_true, List.length_cons, List.length_nil, Nat.reduceAdd, Nat.reduceEqDiff, Bool.false_bne, Bool.true_bne, Bool.not_false, Bool.not_true, List.nil_append, List.cons_append, Int.reduceToNat, Int.reducePow, Int.reduceMul, Int.reduceSub, Int.reduceAdd, Int.reduceNeg]
        exact hA
      · have e : (l.map fun c => T.bl (decide (c ∈ [97, 98]))) = (l.map fun c => decide (c ∈ [97, 98])).map T.bl := by rw [List.map_map]; rfl
        rw [e]
        simp only [sSeq, sSet, sPar, sIf, sRet, sRetN, sDrop, sNext, sDead, sBrk, sCnt, sAsg, sFor, dNm, dTm, dC, dOp1, dOp2, dOpN, dMt, dMut, dCall, dLst, dTup, dNil, dCons, dVn, dVc, dSl, dSl3, dNoP, dPrt, dIf, dAndV, dOrV, dNotV, dBv, dTru, dNotT, dAndT, dOrT, dChn, dEqQ, dRpQ, qOp, qNil, qCons, qLs, qTp, dSrc, dRng1, dRng2, dZip2, dEnum, dComp, dYes, gNm, gTp, gCn, gNi, gIt, e_var, e_var1, e_var2, e_var3, e_var4, e_mov, e_mov1, e_mov2, e_mov3, e_mov4, e_tr1, e_tr2, e_tr3, e_tr4, e_tr5, e_own1, e_own2, e_reo1, e_reo2, e_of1, e_of2, e_pin1, e_pin2, e_pin3, e_arg1, e_arg2, e_arg3, e_arg4, e_isarg1, e_isarg2, e_conv1, e_conv2, e_conv3, e_conv4, e_conv5, e_conv6, e_sown1, e_sown2, e_sown3, e_sown4, e_put1, e_put2, e_po1, e_po2, e_p1, e_p2, e_ao1, e_ao2, e_nd0, e_nd1, e_nd2, e_sl, e_get1, e_get2, e_is, e_all, e_gets0, e_gets1, e_gets2, e_tms0, e_tms1, e_qg1, e_qg2, e_qg3, e_qgs0, e_qgs1, e_its1, e_its2, e_its3, e_its4, e_jts1, e_jts2, e_jts4, e_mt1, e_mt2, e_ty1, e_add1, e_add2, e_add3, e_sub, e_mul1, e_mul2, e_mul3, e_fdiv, e_mod, e_pow, e_neg, e_len1, e_len2, e_len3, e_len4, e_int1, e_int2, e_abs, e_max, e_min, e_ix1, e_ix2, e_ix3, e_ix4, e_eq1, e_eq2, e_eq3, e_lt1, e_le1, e_gt1, e_ge1, e_lt2, e_in1, e_app, e_ext, e_rev, e_clr, e_set, e_sl1, e_sl2, e_sl3, e_sl4, e_count, e_f1, e_f2, e_osh, e_owh, e_one, e_tt1, e_tt2, e_ctg1, e_ctg2, e_cn0, e_cn1, e_wi0, e_wi1, e_re0, e_re1, e_ifb1, e_ifb2, e_nm0, e_nm1, e_nm2, e_fa0, e_fa1, e_sum, e_allb, e_anyb, e_sp1, e_sp2, e_sp3, e_at0, e_at1, e_at2, e_at3, e_at4, e_at5, e_ixn40, e_ixn41, e_ixn42, e_ixn43, e_cp1, e_cp2, e_cp3, e_cp4, e_cp5, forall_eq, List.getD_cons_zero, List.getD_cons_succ, List.getD_nil, List.set_cons_zero, List.set_cons_succ, List.map_cons, List.map_nil, Option.map_some, Option.map_none, Option.bind_some, Option.bind_none, Option.getD_some, Option.some.injEq, exists_eq_left', exists_eq_left, exists_eq', exists_eq, decide_eq_true_eq, List.length_map, exists_eq_right, exists_and_left, exists_and_right, Option.isSome_some, T.int.injEq, T.str.injEq, T.lst.injEq, T.tup.injEq, T.bl.injEq, List.cons.injEq, Prod.mk.injEq, Hn.tm.injEq, true_and, and_true, and_assoc, and_self, ne_eq, not_false_eq_true, not_true_eq_false, ite_true, ite_false, if_true, if_false, reduceIte, reduceCtorEq, Bool.false_eq_true, false_and, and_false, imp_self, forall_const, implies_true, List.length_cons, List.length_nil, Nat.reduceAdd, Nat.reduceEqDiff, Bool.false_bne, Bool.true_bne, Bool.not_false, Bool.not_true, List.nil_append, List.cons_append, Int.reduceToNat, Int.reducePow, Int.reduceMul, Int.reduceSub, Int.reduceAdd, Int.reduceNeg]
        have : rowB l = (l.map fun c => decide (c ∈ [97, 98])).all id := by
          unfold rowB
          rw [decide_eq_true h2, Bool.true_and, List.all_map]
          rfl
        rw [this] at q
        exact q
    · have h3 : ¬ (l.length : Int) ≤ 200 := by omega
      simp only [sSeq, sSet, sPar, sIf, sRet, sRetN, sDrop, sNext, sDead, sBrk, sCnt, sAsg, sFor, dNm, dTm, dC, dOp1, dOp2, dOpN, dMt, dMut, dCall, dLst, dTup, dNil, dCons, dVn, dVc, dSl, dSl3, dNoP, dPrt, dIf, dAndV, dOrV, dNotV, dBv, dTru, dNotT, dAndT, dOrT, dChn, dEqQ, dRpQ, qOp, qNil, qCons, qLs, qTp, dSrc, dRng1, dRng2, dZip2, dEnum, dComp, dYes, gNm, gTp, gCn, gNi, gIt, e_var, e_var1, e_var2, e_var3, e_var4, e_mov, e_mov1, e_mov2, e_mov3, e_mov4, e_tr1, e_tr2, e_tr3, e_tr4, e_tr5, e_own1, e_own2, e_reo1, e_reo2, e_of1, e_of2, e_pin1, e_pin2, e_pin3, e_arg1, e_arg2, e_arg3, e_arg4, e_isarg1, e_isarg2, e_conv1, e_conv2, e_conv3, e_conv4, e_conv5, e_conv6, e_sown1, e_sown2, e_sown3, e_sown4, e_put1, e_put2, e_po1, e_po2, e_p1, e_p2, e_ao1, e_ao2, e_nd0, e_nd1, e_nd2, e_sl, e_get1, e_get2, e_is, e_all, e_gets0, e_gets1, e_gets2, e_tms0, e_tms1, e_qg1, e_qg2, e_qg3, e_qgs0, e_qgs1, e_its1, e_its2, e_its3, e_its4, e_jts1, e_jts2, e_jts4, e_mt1, e_mt2, e_ty1, e_add1, e_add2, e_add3, e_sub, e_mul1, e_mul2, e_mul3, e_fdiv, e_mod, e_pow, e_neg, e_len1, e_len2, e_len3, e_len4, e_int1, e_int2, e_abs, e_max, e_min, e_ix1, e_ix2, e_ix3, e_ix4, e_eq1, e_eq2, e_eq3, e_lt1, e_le1, e_gt1, e_ge1, e_lt2, e_in1, e_app, e_ext, e_rev, e_clr, e_set, e_sl1, e_sl2, e_sl3, e_sl4, e_count, e_f1, e_f2, e_osh, e_owh, e_one, e_tt1, e_tt2, e_ctg1, e_ctg2, e_cn0, e_cn1, e_wi0, e_wi1, e_re0, e_re1, e_ifb1, e_ifb2, e_nm0, e_nm1, e_nm2, e_fa0, e_fa1, e_sum, e_allb, e_anyb, e_sp1, e_sp2, e_sp3, e_at0, e_at1, e_at2, e_at3, e_at4, e_at5, e_ixn40, e_ixn41, e_ixn42, e_ixn43, e_cp1, e_cp2, e_cp3, e_cp4, e_cp5, forall_eq, List.getD_cons_zero, List.getD_cons_succ, List.getD_nil, List.set_cons_zero, List.set_cons_succ, List.map_cons, List.map_nil, Option.map_some, Option.map_none, Option.bind_some, Option.bind_none, Option.getD_some, Option.some.injEq, exists_eq_left', exists_eq_left, exists_eq', exists_eq, decide_eq_true_eq, List.length_map, exists_eq_right, exists_and_left, exists_and_right, Option.isSome_some, T.int.injEq, T.str.injEq, T.lst.injEq, T.tup.injEq, T.bl.injEq, List.cons.injEq, Prod.mk.injEq, Hn.tm.injEq, true_and, and_true, and_assoc, and_self, ne_eq, not_false_eq_true, not_true_eq_false, ite_true, ite_false, if_true, if_false, reduceIte, reduceCtorEq, Bool.false_eq_true, false_and, and_false, imp_self, forall_const, implies_true, List.length_cons, List.length_nil, Nat.reduceAdd, Nat.reduceEqDiff, Bool.false_bne, Bool.true_bne, Bool.not_false, Bool.not_true, List.nil_append, List.cons_append, Int.reduceToNat, Int.reducePow, Int.reduceMul, Int.reduceSub, Int.reduceAdd, Int.reduceNeg, h3, decide_false]
      have : rowB l = false := by unfold rowB; rw [decide_eq_false h2]; rfl
      rw [this] at q
      exact q
  · rename_i t _
    intro pre q
    obtain ⟨c, e1, e2⟩ := pre
    show D_is_row [.sh t, .no] _
    simp only [sSeq, sSet, sPar, sIf, sRet, sRetN, sDrop, sNext, sDead, sBrk, sCnt, sAsg, sFor, dNm, dTm, dC, dOp1, dOp2, dOpN, dMt, dMut, dCall, dLst, dTup, dNil, dCons, dVn, dVc, dSl, dSl3, dNoP, dPrt, dIf, dAndV, dOrV, dNotV, dBv, dTru, dNotT, dAndT, dOrT, dChn, dEqQ, dRpQ, qOp, qNil, qCons, qLs, qTp, dSrc, dRng1, dRng2, dZip2, dEnum, dComp, dYes, gNm, gTp, gCn, gNi, gIt, e_var, e_var1, e_var2, e_var3, e_var4, e_mov, e_mov1, e_mov2, e_mov3, e_mov4, e_tr1, e_tr2, e_tr3, e_tr4, e_tr5, e_own1, e_own2, e_reo1, e_reo2, e_of1, e_of2, e_pin1, e_pin2, e_pin3, e_arg1, e_arg2, e_arg3, e_arg4, e_isarg1, e_isarg2, e_conv1, e_conv2, e_conv3, e_conv4, e_conv5, e_conv6, e_sown1, e_sown2, e_sown3, e_sown4, e_put1, e_put2, e_po1, e_po2, e_p1, e_p2, e_ao1, e_ao2, e_nd0, e_nd1, e_nd2, e_sl, e_get1, e_get2, e_is, e_all, e_gets0, e_gets1, e_gets2, e_tms0, e_tms1, e_qg1, e_qg2, e_qg3, e_qgs0, e_qgs1, e_its1, e_its2, e_its3, e_its4, e_jts1, e_jts2, e_jts4, e_mt1, e_mt2, e_ty1, e_add1, e_add2, e_add3, e_sub, e_mul1, e_mul2, e_mul3, e_fdiv, e_mod, e_pow, e_neg, e_len1, e_len2, e_len3, e_len4, e_int1, e_int2, e_abs, e_max, e_min, e_ix1, e_ix2, e_ix3, e_ix4, e_eq1, e_eq2, e_eq3, e_lt1, e_le1, e_gt1, e_ge1, e_lt2, e_in1, e_app, e_ext, e_rev, e_clr, e_set, e_sl1, e_sl2, e_sl3, e_sl4, e_count, e_f1, e_f2, e_osh, e_owh, e_one, e_tt1, e_tt2, e_ctg1, e_ctg2, e_cn0, e_cn1, e_wi0, e_wi1, e_re0, e_re1, e_ifb1, e_ifb2, e_nm0, e_nm1, e_nm2, e_fa0, e_fa1, e_sum, e_allb, e_anyb, e_sp1, e_sp2, e_sp3, e_at0, e_at1, e_at2, e_at3, e_at4, e_at5, e_ixn40, e_ixn41, e_ixn42, e_ixn43, e_cp1, e_cp2, e_cp3, e_cp4, e_cp5, forall_eq, List.getD_cons_zero, List.getD_cons_succ, List.getD_nil, List.set_cons_zero, List.set_cons_succ, List.map_cons, List.map_nil, Option.map_some, Option.map_none, Option.bind_some, Option.bind_none, Option.getD_some, Option.some.injEq, exists_eq_left', exists_eq_left, exists_eq', exists_eq, decide_eq_true_eq, List.length_map, exists_eq_right, exists_and_left, exists_and_right, Option.isSome_some, T.int.injEq, T.str.injEq, T.lst.injEq, T.tup.injEq, T.bl.injEq, List.cons.injEq, Prod.mk.injEq, Hn.tm.injEq, true_and, and_true, and_assoc, and_self, ne_eq, not_false_eq_true, not_true_eq_false, ite_true, ite_false, if_true, if_false, reduceIte, reduceCtorEq, Bool.false_eq_true, false_and, and_false, imp_self, forall_const, implies_true, List.length_cons, List.length_nil, Nat.reduceAdd, Nat.reduceEqDiff, Bool.false_bne, Bool.true_bne, Bool.not_false, Bool.not_true, List.nil_append, List.cons_append, Int.reduceToNat, Int.reducePow, Int.reduceMul, Int.reduceSub, Int.reduceAdd, Int.reduceNeg, D_is_row, isiT, e1, e2]
    exact q
  · intro pre; exact pre.elim
theorem row_len {l : List Nat} (h : rowB l = true) : l.length ≤ 200 := (rowB_iff.mp h).1
def pairsL (l : List Nat) : Int := ((((prefL l).zip l).filter fun p => decide (p.2 = 98)).map (·.1)).sum
def fPairs : List T → Ot
  | [.str l] => ⟨l.length < sizeLine, (false, .int (pairsL l))⟩
  | _ => .no
theorem zipT_maps {α β : Type} (f : α → T) (g : β → T) (xs : List α) (ys : List β) : zipT (xs.map f) (ys.map g) = (xs.zip ys).map fun p => .tup [f p.1, g p.2] := by
  unfold zipT
  rw [List.zip_map, List.map_map]
  rfl
theorem h_pairs_of (ars : Rho) (Q : Po Rv) (h : SP fPairs ars Q) : D_pairs_of (SP fPref) (ars ++ List.replicate 2 .no) (fwish ars Q) := by
  obtain ⟨ts, rfl, pre, q⟩ := h
  revert pre q
  unfold fPairs
  split
  · rename_i l
    intro pre q
    have pre : l.length < sizeLine := pre
    show D_pairs_of (SP fPref) [.sh (.str l), .no, .no] _
    simp only [sSeq, sSet, sPar, sIf, sRet, sRetN, sDrop, sNext, sDead, sBrk, sCnt, sAsg, sFor, dNm, dTm, dC, dOp1, dOp2, dOpN, dMt, dMut, dCall, dLst, dTup, dNil, dCons, dVn, dVc, dSl, dSl3, dNoP, dPrt, dIf, dAndV, dOrV, dNotV, dBv, dTru, dNotT, dAndT, dOrT, dChn, dEqQ, dRpQ, qOp, qNil, qCons, qLs, qTp, dSrc, dRng1, dRng2, dZip2, dEnum, dComp, dYes, gNm, gTp, gCn, gNi, gIt, e_var, e_var1, e_var2, e_var3, e_var4, e_mov, e_mov1, e_mov2, e_mov3, e_mov4, e_tr1, e_tr2, e_tr3, e_tr4, e_tr5, e_own1, e_own2, e_reo1, e_reo2, e_of1, e_of2, e_pin1, e_pin2, e_pin3, e_arg1, e_arg2, e_arg3, e_arg4, e_isarg1, e_isarg2, e_conv1, e_conv2, e_conv3, e_conv4, e_conv5, e_conv6, e_sown1, e_sown2, e_sown3, e_sown4, e_put1, e_put2, e_po1, e_po2, e_p1, e_p2, e_ao1, e_ao2, e_nd0, e_nd1, e_nd2, e_sl, e_get1, e_get2, e_is, e_all, e_gets0, e_gets1, e_gets2, e_tms0, e_tms1, e_qg1, e_qg2, e_qg3, e_qgs0, e_qgs1, e_its1, e_its2, e_its3, e_its4, e_jts1, e_jts2, e_jts4, e_mt1, e_mt2, e_ty1, e_add1, e_add2, e_add3, e_sub, e_mul1, e_mul2, e_mul3, e_fdiv, e_mod, e_pow, e_neg, e_len1, e_len2, e_len3, e_len4, e_int1, e_int2, e_abs, e_max, e_min, e_ix1, e_ix2, e_ix3, e_ix4, e_eq1, e_eq2, e_eq3, e_lt1, e_le1, e_gt1, e_ge1, e_lt2, e_in1, e_app, e_ext, e_rev, e_clr, e_set, e_sl1, e_sl2, e_sl3, e_sl4, e_count, e_f1, e_f2, e_osh, e_owh, e_one, e_tt1, e_tt2, e_ctg1, e_ctg2, e_cn0, e_cn1, e_wi0, e_wi1, e_re0, e_re1, e_ifb1, e_ifb2, e_nm0, e_nm1, e_nm2, e_fa0, e_fa1, e_sum, e_allb, e_anyb, e_sp1, e_sp2, e_sp3, e_at0, e_at1, e_at2, e_at3, e_at4, e_at5, e_ixn40, e_ixn41, e_ixn42, e_ixn43, e_cp1, e_cp2, e_cp3, e_cp4, e_cp5, forall_eq, List.getD_cons_zero, List.getD_cons_succ, List.getD_nil, List.set_cons_zero, List.set_cons_succ, List.map_cons, List.map_nil, Option.map_some, Option.map_none, Option.bind_some, Option.bind_none, Option.getD_some, Option.some.injEq, exists_eq_left', exists_eq_left, exists_eq', exists_eq, decide_eq_true_eq, List.length_map, exists_eq_right, exists_and_left, exists_and_right, Option.isSome_some, T.int.injEq, T.str.injEq, T.lst.injEq, T.tup.injEq, T.bl.injEq, List.cons.injEq, Prod.mk.injEq, Hn.tm.injEq, true_and, and_true, and_assoc, and_self, ne_eq, not_false_eq_true, not_true_eq_false, ite_true, ite_false, if_true, if_false, reduceIte, reduceCtorEq, Bool.false_eq_true, false_and, and_false, imp_self, forall_const, implies_true, List.length_cons, List.length_nil, Nat.reduceAdd, Nat.reduceEqDiff, Bool.false_bne, Bool.true_bne, Bool.not_false, Bool.not_true, List.nil_append, List.cons_append, Int.reduceToNat, Int.reducePow, Int.reduceMul, Int.reduceSub, Int.reduceAdd, Int.reduceNeg, D_pairs_of, fPref, zipT_maps]
    refine ⟨pre, comp_if (fun p : Int × Nat => decide (p.2 = 98)) (fun p => .int p.1) (fun p _ A B hA => ?_) ?_ ?_⟩
    · simp only [sSeq, sSet, sPar, sIf, sRet, sRetN, sDrop, sNext, sDead, sBrk, sCnt, sAsg, sFor, dNm, dTm, dC, dOp1, dOp2, dOpN, dMt, dMut, dCall, dLst, dTup, dNil, dCons, dVn, dVc, dSl, dSl3, dNoP, dPrt, dIf, dAndV, dOrV, dNotV, dBv, dTru, dNotT, dAndT, dOrT, dChn, dEqQ, dRpQ, qOp, qNil, qCons, qLs, qTp, dSrc, dRng1, dRng2, dZip2, dEnum, dComp, dYes, gNm, gTp, gCn, gNi, gIt, e_var, e_var1, e_var2, e_var3, e_var4, e_mov, e_mov1, e_mov2, e_mov3, e_mov4, e_tr1, e_tr2, e_tr3, e_tr4, e_tr5, e_own1, e_own2, e_reo1, e_reo2, e_of1, e_of2, e_pin1, e_pin2, e_pin3, e_arg1, e_arg2, e_arg3, e_arg4, e_isarg1, e_isarg2, e_conv1, e_conv2, e_conv3, e_conv4, e_conv5, e_conv6, e_sown1, e_sown2, e_sown3, e_sown4, e_put1, e_put2, e_po1, e_po2, e_p1, e_p2, e_ao1, e_ao2, e_nd0, e_nd1, e_nd2, e_sl, e_get1, e_get2, e_is, e_all, e_gets0, e_gets1, e_gets2, e_tms0, e_tms1, e_qg1, e_qg2, e_qg3, e_qgs0, e_qgs1, e_its1, e_its2, e_its3, e_its4, e_jts1, e_jts2, e_jts4, e_mt1, e_mt2, e_ty1, e_add1, e_add2, e_add3, e_sub, e_mul1, e_mul2, e_mul3, e_fdiv, e_mod, e_pow, e_neg, e_len1, e_len2, e_len3, e_len4, e_int1, e_int2, e_abs, e_max, e_min, e_ix1, e_ix2, e_ix3, e_ix4, e_eq1, e_eq2, e_eq3, e_lt1, e_le1, e_gt1, e_ge1, e_lt2, e_in1, e_app, e_ext, e_rev, e_clr, e_set, e_sl1, e_sl2, e_sl3, e_sl4, e_count, e_f1, e_f2, e_osh, e_owh, e_one, e_tt1, e_tt2, e_ctg1, e_ctg2, e_cn0, e_cn1, e_wi0, e_wi1, e_re0, e_re1, e_ifb1, e_ifb2, e_nm0, e_nm1, e_nm2, e_fa0, e_fa1, e_sum, e_allb, e_anyb, e_sp1, e_sp2, e_sp3, e_at0, e_at1, e_at2, e_at3, e_at4, e_at5, e_ixn40, e_ixn41, e_ixn42, e_ixn43, e_cp1, e_cp2, e_cp3, e_cp4, e_cp5, forall_eq, List.getD_cons_zero, List.getD_cons_succ, List.getD_nil, List.set_cons_zero, List.set_cons_succ, List.map_cons, List.map_nil, Option.map_some, Option.map_none, Option.bind_some, Option.bind_none, Option.getD_some, Option.some.injEq, exists_eq_left', exists_eq_left, exists_eq', exists_eq, decide_eq_true_eq, List.length_map, exists_eq_right, exists_and_left, exists_and_right, Option.isSome_some, T.int.injEq, T.str.injEq, T.lst.injEq, T.tup.injEq, T.bl.injEq, List.cons.injEq, Prod.mk.injEq, Hn.tm.injEq, true_and, and_true, and_assoc, and_self, ne_eq, not_false_eq_true, not_true_eq_false, ite_true, ite_false, if_true, if_false, reduceIte, reduceCtorEq, Bool.false_eq_true, false_and, and_false, imp_self, forall_const, implies_true, List.length_cons, List.length_nil, Nat.reduceAdd, Nat.reduceEqDiff, Bool.false_bne, Bool.true_bne, Bool.not_false, Bool.not_true, List.nil_append, List.cons_append, Int.reduceToNat, Int.reducePow, Int.reduceMul, Int.reduceSub, Int.reduceAdd, Int.reduceNeg]
      exact hA
    · rw [List.length_zip]; omega
    · have e : ((((prefL l).zip l).filter fun p => decide (p.2 = 98)).map fun p => T.int p.1) = ((((prefL l).zip l).filter fun p => decide (p.2 = 98)).map (·.1)).map T.int := by rw [List.map_map]; rfl
      rw [e]
      simp only [sSeq, sSet, sPar, sIf, sRet, sRetN, sDrop, sNext, sDead, sBrk, sCnt, sAsg, sFor, dNm, dTm, dC, dOp1, dOp2, dOpN, dMt, dMut, dCall, dLst, dTup, dNil, dCons, dVn, dVc, dSl, dSl3, dNoP, dPrt, dIf, dAndV, dOrV, dNotV, dBv, dTru, dNotT, dAndT, dOrT, dChn, dEqQ, dRpQ, qOp, qNil, qCons, qLs, qTp, dSrc, dRng1, dRng2, dZip2, dEnum, dComp, dYes, gNm, gTp, gCn, gNi, gIt, e_var, e_var1, e_var2, e_var3, e_var4, e_mov, e_mov1, e_mov2, e_mov3, e_mov4, e_tr1, e_tr2, e_tr3, e_tr4, e_tr5, e_own1, e_own2, e_reo1, e_reo2, e_of1, e_of2, e_pin1, e_pin2, e_pin3, e_arg1, e_arg2, e_arg3, e_arg4, e_isarg1, e_isarg2, e_conv1, e_conv2, e_conv3, e_conv4, e_conv5, e_conv6, e_sown1, e_sown2, e_sown3, e_sown4, e_put1, e_put2, e_po1, e_po2, e_p1, e_p2, e_ao1, e_ao2, e_nd0, e_nd1, e_nd2, e_sl, e_get1, e_get2, e_is, e_all, e_gets0, e_gets1, e_gets2, e_tms0, e_tms1, e_qg1, e_qg2, e_qg3, e_qgs0, e_qgs1, e_its1, e_its2, e_its3, e_its4, e_jts1, e_jts2, e_jts4, e_mt1, e_mt2, e_ty1, e_add1, e_add2, e_add3, e_sub, e_mul1, e_mul2, e_mul3, e_fdiv, e_mod, e_pow, e_neg, e_len1, e_len2, e_len3, e_len4, e_int1, e_int2, e_abs, e_max, e_min, e_ix1, e_ix2, e_ix3, e_ix4, e_eq1, e_eq2, e_eq3, e_lt1, e_le1, e_gt1, e_ge1, e_lt2, e_in1, e_app, e_ext, e_rev, e_clr, e_set, e_sl1, e_sl2, e_sl3, e_sl4, e_count, e_f1, e_f2, e_osh, e_owh, e_one, e_tt1, e_tt2, e_ctg1, e_ctg2, e_cn0, e_cn1, e_wi0, e_wi1, e_re0, e_re1, e_ifb1, e_ifb2, e_nm0, e_nm1, e_nm2, e_fa0, e_fa1, e_sum, e_allb, e_anyb, e_sp1, e_sp2, e_sp3, e_at0, e_at1, e_at2, e_at3, e_at4, e_at5, e_ixn40, e_ixn41, e_ixn42, e_ixn43, e_cp1, e_cp2, e_cp3, e_cp4, e_cp5, forall_eq, List.getD_cons_zero, List.getD_cons_succ, List.getD_nil, List.set_cons_zero, List.set_cons_succ, List.map_cons, List.map_nil, Option.map_some, Option.map_none, Option.bind_some, Option.bind_none, Option.getD_some, Option.some.injEq, exists_eq_left', exists_eq_left, exists_eq', exists_eq, decide_eq_true_eq, List.length_map, exists_eq_right, exists_and_left, exists_and_right, Option.isSome_some, T.int.injEq, T.str.injEq, T.lst.injEq, T.tup.injEq, T.bl.injEq, List.cons.injEq, Prod.mk.injEq, Hn.tm.injEq, true_and, and_true, and_assoc, and_self, ne_eq, not_false_eq_true, not_true_eq_false, ite_true, ite_false, if_true, if_false, reduceIte, reduceCtorEq, Bool.false_eq_true, false_and, and_false, imp_self, forall_const, implies_true, List.length_cons, List.length_nil, Nat.reduceAdd, Nat.reduceEqDiff, Bool.false_bne, Bool.true_bne, Bool.not_false, Bool.not_true, List.nil_append, List.cons_append, Int.reduceToNat, Int.reducePow, Int.reduceMul, Int.reduceSub, Int.reduceAdd, Int.reduceNeg]
      exact q
  · intro pre; exact pre.elim
end O
namespace O
open PySem PySem.Spec PyProof.Rows L2
abbrev big : Int := 170141183460469231731687303715884105727
def reelT (gs ss : List Int) (n stir : Int) : T := .lst [.lst (gs.map T.int), .lst (ss.map T.int), .int n, .int stir]
def IsReel (t : T) : Prop := ∃ gs ss n stir, t = reelT gs ss n stir ∧ gs.length ≤ 63 ∧ ss ≠ [] ∧ ss.length ≤ 64 ∧ (∀ s ∈ ss, 0 ≤ s ∧ s < 2 ^ 30) ∧ 0 ≤ stir ∧ stir < big
def SDraw : Sx := fun ars Q => ∃ t many, ars = [.io t, .sh (.int many)] ∧ IsReel t ∧ 0 < many ∧ many.natAbs.log2 < 9000 ∧ ∀ t' r, IsReel t' → 0 ≤ r → r < many → Q.ok (false, .int r) [.io t', .no]
theorem mn_SDraw : Mn SDraw := fun ρ Q Q' ⟨t, m, a, b, c, d, q⟩ k _ => ⟨t, m, a, b, c, d, fun t' r x y z => k _ _ (q t' r x y z)⟩
theorem e_sdraw {t : T} {many : Int} {Q : Po Rv} : SDraw [.io t, .sh (.int many)] Q = (IsReel t ∧ 0 < many ∧ many.natAbs.log2 < 9000 ∧ ∀ t' r, IsReel t' → 0 ≤ r → r < many → Q.ok (false, .int r) [.io t', .no]) :=
  propext ⟨fun ⟨_, _, e, h⟩ => by cases e; exact h, fun h => ⟨_, _, rfl, h⟩⟩
theorem e_mulI {i j : Int} (h : -(2 ^ 64) < j ∧ j < 2 ^ 64) : (CMul i j ∨ CMulW i j) = True := eq_true (.inl (.inr h))
theorem log_lt {i : Int} {k : Nat} (h : i.natAbs < 2 ^ (k + 1)) : i.natAbs.log2 ≤ k := by
  rcases Nat.eq_zero_or_pos i.natAbs with z | z
  · rw [z]; simp
  · exact Nat.le_of_lt_succ ((Nat.log2_lt (by omega)).mpr h)
theorem mul_stir {i : Int} (h0 : 0 ≤ i) (h1 : i < big) : (CMul i i ∨ CMulW i i) = True := by
  refine eq_true (.inr ?_)
  have : i.natAbs.log2 ≤ 126 := log_lt (by unfold big at h1; omega)
  unfold CMulW
  omega
theorem mulc1 {i : Int} : (CMul i 122949823 ∨ CMulW i 122949823) = True := e_mulI (by decide)
theorem mulc2 {i : Int} : (CMul i 999979 ∨ CMulW i 999979) = True := e_mulI (by decide)
theorem mulc3 {i : Int} : (CMul i 9223372036854775808 ∨ CMulW i 9223372036854775808) = True := e_mulI (by decide)
theorem cdiv45 {i : Int} : CDivW i 35184372088832 = True := eq_true ⟨by decide, by decide⟩
theorem h__law_draw (ars : Rho) (Q : Po Rv) (h : SDraw ars Q) : D__law_draw (ars ++ List.replicate 3 .no) (fwish ars Q) := by
  obtain ⟨t, many, rfl, ⟨gs, ss, n, stir, rfl, g63, sne, s64, sb, st0, st1⟩, m0, m1, q⟩ := h
  show D__law_draw [.io (reelT gs ss n stir), .sh (.int many), .no, .no, .no] _
  have m2 : ∀ i, CDivW i many = True := fun i => eq_true ⟨m0, m1⟩
  have hs := sizeLine_eq
  have spos : 0 < ss.length := List.length_pos_iff.mpr sne
  have l0 : (0 : Int) < (ss.length : Int) := by omega
  obtain ⟨x, xm, ex⟩ := atI_in (xs := ss) (i := (n + 1) % (ss.length : Int)) (Int.emod_nonneg _ (by omega)) (Int.emod_lt_of_pos _ l0)
  have hx : L2.atI (ss.map T.int) ((n + 1) % (ss.length : Int)) = some (.int x) := by rw [atI_map, ex]; rfl
  have okg := okD_ints gs
  have oke := okD_ints []
  have eqe := eqvO_ints gs []
  rw [show (T.lst (([] : List Int).map T.int)) = .lst [] from rfl] at oke eqe
  simp only [sSeq, sSet, sPar, sIf, sRet, sRetN, sDrop, sNext, sDead, sBrk, sCnt, sAsg, sFor, dNm, dTm, dC, dOp1, dOp2, dOpN, dMt, dMut, dCall, dLst, dTup, dNil, dCons, dVn, dVc, dSl, dSl3, dNoP, dPrt, dIf, dAndV, dOrV, dNotV, dBv, dTru, dNotT, dAndT, dOrT, dChn, dEqQ, dRpQ, qOp, qNil, qCons, qLs, qTp, dSrc, dRng1, dRng2, dZip2, dEnum, dComp, dYes, gNm, gTp, gCn, gNi, gIt, e_var, e_var1, e_var2, e_var3, e_var4, e_mov, e_mov1, e_mov2, e_mov3, e_mov4, e_tr1, e_tr2, e_tr3, e_tr4, e_tr5, e_own1, e_own2, e_reo1, e_reo2, e_of1, e_of2, e_pin1, e_pin2, e_pin3, e_arg1, e_arg2, e_arg3, e_arg4, e_isarg1, e_isarg2, e_conv1, e_conv2, e_conv3, e_conv4, e_conv5, e_conv6, e_sown1, e_sown2, e_sown3, e_sown4, e_put1, e_put2, e_po1, e_po2, e_p1, e_p2, e_ao1, e_ao2, e_nd0, e_nd1, e_nd2, e_sl, e_get1, e_get2, e_is, e_all, e_gets0, e_gets1, e_gets2, e_tms0, e_tms1, e_qg1, e_qg2, e_qg3, e_qgs0, e_qgs1, e_its1, e_its2, e_its3, e_its4, e_jts1, e_jts2, e_jts4, e_mt1, e_mt2, e_ty1, e_add1, e_add2, e_add3, e_sub, e_mul1, e_mul2, e_mul3, e_fdiv, e_mod, e_pow, e_neg, e_len1, e_len2, e_len3, e_len4, e_int1, e_int2, e_abs, e_max, e_min, e_ix1, e_ix2, e_ix3, e_ix4, e_eq1, e_eq2, e_eq3, e_lt1, e_le1, e_gt1, e_ge1, e_lt2, e_in1, e_app, e_ext, e_rev, e_clr, e_set, e_sl1, e_sl2, e_sl3, e_sl4, e_count, e_f1, e_f2, e_osh, e_owh, e_one, e_tt1, e_tt2, e_ctg1, e_ctg2, e_cn0, e_cn1, e_wi0, e_wi1, e_re0, e_re1, e_ifb1, e_ifb2, e_nm0, e_nm1, e_nm2, e_fa0, e_fa1, e_sum, e_allb, e_anyb, e_sp1, e_sp2, e_sp3, e_at0, e_at1, e_at2, e_at3, e_at4, e_at5, e_ixn40, e_ixn41, e_ixn42, e_ixn43, e_cp1, e_cp2, e_cp3, e_cp4, e_cp5, forall_eq, List.getD_cons_zero, List.getD_cons_succ, List.getD_nil, List.set_cons_zero, List.set_cons_succ, List.map_cons, List.map_nil, Option.map_some, Option.map_none, Option.bind_some, Option.bind_none, Option.getD_some, Option.some.injEq, exists_eq_left', exists_eq_left, exists_eq', exists_eq, decide_eq_true_eq, List.length_map, exists_eq_right, exists_and_left, exists_and_right, Option.isSome_some, T.int.injEq, T.str.injEq, T.lst.injEq, T.tup.injEq, T.bl.injEq, List.cons.injEq, Prod.mk.injEq, Hn.tm.injEq, true_and, and_true, and_assoc, and_self, ne_eq, not_false_eq_true, not_true_eq_false, ite_true, ite_false, if_true, if_false, reduceIte, reduceCtorEq, Bool.false_eq_true, false_and, and_false, imp_self, forall_const, implies_true, List.length_cons, List.length_nil, Nat.reduceAdd, Nat.reduceEqDiff, Bool.false_bne, Bool.true_bne, Bool.not_false, Bool.not_true, List.nil_append, List.cons_append, Int.reduceToNat, Int.reducePow, Int.reduceMul, Int.reduceSub, Int.reduceAdd, Int.reduceNeg, D__law_draw, reelT, okg, oke, eqe]
  refine ⟨by omega, ?_⟩
  cases gs with
  | nil =>
    simp only [sSeq, sSet, sPar, sIf, sRet, sRetN, sDrop, sNext, sDead, sBrk, sCnt, sAsg, sFor, dNm, dTm, dC, dOp1, dOp2, dOpN, dMt, dMut, dCall, dLst, dTup, dNil, dCons, dVn, dVc, dSl, dSl3, dNoP, dPrt, dIf, dAndV, dOrV, dNotV, dBv, dTru, dNotT, dAndT, dOrT, dChn, dEqQ, dRpQ, qOp, qNil, qCons, qLs, qTp, dSrc, dRng1, dRng2, dZip2, dEnum, dComp, dYes, gNm, gTp, gCn, gNi, gIt, e_var, e_var1, e_var2, e_var3, e_var4, e_mov, e_mov1, e_mov2, e_mov3, e_mov4, e_tr1, e_tr2, e_tr3, e_tr4, e_tr5, e_own1, e_own2, e_reo1, e_reo2, e_of1, e_of2, e_pin1, e_pin2, e_pin3, e_arg1, e_arg2, e_arg3, e_arg4, e_isarg1, e_isarg2, e_conv1, e_conv2, e_conv3, e_conv4, e_conv5, e_conv6, e_sown1, e_sown2, e_sown3, e_sown4, e_put1, e_put2, e_po1, e_po2, e_p1, e_p2, e_ao1, e_ao2, e_nd0, e_nd1, e_nd2, e_sl, e_get1, e_get2, e_is, e_all, e_gets0, e_gets1, e_gets2, e_tms0, e_tms1, e_qg1, e_qg2, e_qg3, e_qgs0, e_qgs1, e_its1, e_its2, e_its3, e_its4, e_jts1, e_jts2, e_jts4, e_mt1, e_mt2, e_ty1, e_add1, e_add2, e_add3, e_sub, e_mul1, e_mul2, e_mul3, e_fdiv, e_mod, e_pow, e_neg, e_len1, e_len2, e_len3, e_len4, e_int1, e_int2, e_abs, e_max, e_min, e_ix1, e_ix2, e_ix3, e_ix4, e_eq1, e_eq2, e_eq3, e_lt1, e_le1, e_gt1, e_ge1, e_lt2, e_in1, e_app, e_ext, e_rev, e_clr, e_set, e_sl1, e_sl2, e_sl3, e_sl4, e_count, e_f1, e_f2, e_osh, e_owh, e_one, e_tt1, e_tt2, e_ctg1, e_ctg2, e_cn0, e_cn1, e_wi0, e_wi1, e_re0, e_re1, e_ifb1, e_ifb2, e_nm0, e_nm1, e_nm2, e_fa0, e_fa1, e_sum, e_allb, e_anyb, e_sp1, e_sp2, e_sp3, e_at0, e_at1, e_at2, e_at3, e_at4, e_at5, e_ixn40, e_ixn41, e_ixn42, e_ixn43, e_cp1, e_cp2, e_cp3, e_cp4, e_cp5, forall_eq, List.getD_cons_zero, List.getD_cons_succ, List.getD_nil, List.set_cons_zero, List.set_cons_succ, List.map_cons, List.map_nil, Option.map_some, Option.map_none, Option.bind_some, Option.bind_none, Option.getD_some, Option.some.injEq, exists_eq_left', exists_eq_left, exists_eq', exists_eq, decide_eq_true_eq, List.length_map, exists_eq_right, exists_and_left, exists_and_right, Option.isSome_some, T.int.injEq, T.str.injEq, T.lst.injEq, T.tup.injEq, T.bl.injEq, List.cons.injEq, Prod.mk.injEq, Hn.tm.injEq, true_and, and_true, and_assoc, and_self, ne_eq, not_false_eq_true, not_true_eq_false, ite_true, ite_false, if_true, if_false, reduceIte, reduceCtorEq, Bool.false_eq_true, false_and, and_false, imp_self, forall_const, implies_true, List.length_cons, List.length_nil, Nat.reduceAdd, Nat.reduceEqDiff, Bool.false_bne, Bool.true_bne, Bool.not_false, Bool.not_true, List.nil_append, List.cons_append, Int.reduceToNat, Int.reducePow, Int.reduceMul, Int.reduceSub, Int.reduceAdd, Int.reduceNeg, decide_true, hx, l0, mulc1, mulc2, mulc3, mul_stir st0 st1, cdiv45]
    refine ⟨by decide, m0, ?_⟩
    refine q (reelT [] ss (n + 1) ((stir * stir + (x + 17) * 122949823 + (n + 1) * 999979) % big)) _ ⟨[], ss, n + 1, _, rfl, by decide, sne, s64, sb, Int.emod_nonneg _ (by decide), Int.emod_lt_of_pos _ (by decide)⟩ (Int.emod_nonneg _ (by omega)) (Int.emod_lt_of_pos _ m0)
  | cons g gs =>
    simp only [sSeq, sSet, sPar, sIf, sRet, sRetN, sDrop, sNext, sDead, sBrk, sCnt, sAsg, sFor, dNm, dTm, dC, dOp1, dOp2, dOpN, dMt, dMut, dCall, dLst, dTup, dNil, dCons, dVn, dVc, dSl, dSl3, dNoP, dPrt, dIf, dAndV, dOrV, dNotV, dBv, dTru, dNotT, dAndT, dOrT, dChn, dEqQ, dRpQ, qOp, qNil, qCons, qLs, qTp, dSrc, dRng1, dRng2, dZip2, dEnum, dComp, dYes, gNm, gTp, gCn, gNi, gIt, e_var, e_var1, e_var2, e_var3, e_var4, e_mov, e_mov1, e_mov2, e_mov3, e_mov4, e_tr1, e_tr2, e_tr3, e_tr4, e_tr5, e_own1, e_own2, e_reo1, e_reo2, e_of1, e_of2, e_pin1, e_pin2, e_pin3, e_arg1, e_arg2, e_arg3, e_arg4, e_isarg1, e_isarg2, e_conv1, e_conv2, e_conv3, e_conv4, e_conv5, e_conv6, e_sown1, e_sown2, e_sown3, e_sown4, e_put1, e_put2, e_po1, e_po2, e_p1, e_p2, e_ao1, e_ao2, e_nd0, e_nd1, e_nd2, e_sl, e_get1, e_get2, e_is, e_all, e_gets0, e_gets1, e_gets2, e_tms0, e_tms1, e_qg1, e_qg2, e_qg3, e_qgs0, e_qgs1, e_its1, e_its2, e_its3, e_its4, e_jts1, e_jts2, e_jts4, e_mt1, e_mt2, e_ty1, e_add1, e_add2, e_add3, e_sub, e_mul1, e_mul2, e_mul3, e_fdiv, e_mod, e_pow, e_neg, e_len1, e_len2, e_len3, e_len4, e_int1, e_int2, e_abs, e_max, e_min, e_ix1, e_ix2, e_ix3, e_ix4, e_eq1, e_eq2, e_eq3, e_lt1, e_le1, e_gt1, e_ge1, e_lt2, e_in1, e_app, e_ext, e_rev, e_clr, e_set, e_sl1, e_sl2, e_sl3, e_sl4, e_count, e_f1, e_f2, e_osh, e_owh, e_one, e_tt1, e_tt2, e_ctg1, e_ctg2, e_cn0, e_cn1, e_wi0, e_wi1, e_re0, e_re1, e_ifb1, e_ifb2, e_nm0, e_nm1, e_nm2, e_fa0, e_fa1, e_sum, e_allb, e_anyb, e_sp1, e_sp2, e_sp3, e_at0, e_at1, e_at2, e_at3, e_at4, e_at5, e_ixn40, e_ixn41, e_ixn42, e_ixn43, e_cp1, e_cp2, e_cp3, e_cp4, e_cp5, forall_eq, List.getD_cons_zero, List.getD_cons_succ, List.getD_nil, List.set_cons_zero, List.set_cons_succ, List.map_cons, List.map_nil, Option.map_some, Option.map_none, Option.bind_some, Option.bind_none, Option.getD_some, Option.some.injEq, exists_eq_left', exists_eq_left, exists_eq', exists_eq, decide_eq_true_eq, List.length_map, exists_eq_right, exists_and_left, exists_and_right, Option.isSome_some, T.int.injEq, T.str.injEq, T.lst.injEq, T.tup.injEq, T.bl.injEq, List.cons.injEq, Prod.mk.injEq, Hn.tm.injEq, true_and, and_true, and_assoc, and_self, ne_eq, not_false_eq_true, not_true_eq_false, ite_true, ite_false, if_true, if_false, reduceIte, reduceCtorEq, Bool.false_eq_true, false_and, and_false, imp_self, forall_const, implies_true, List.length_cons, List.length_nil, Nat.reduceAdd, Nat.reduceEqDiff, Bool.false_bne, Bool.true_bne, Bool.not_false, Bool.not_true, List.nil_append, List.cons_append, Int.reduceToNat, Int.reducePow, Int.reduceMul, Int.reduceSub, Int.reduceAdd, Int.reduceNeg, decide_false, m2, m0]
    have c1 : cutL (T.int g :: gs.map T.int) (some 1) none = gs.map T.int := cut_from (T.int g :: gs.map T.int) 1
    rw [c1]
    rw [List.length_cons] at g63
    by_cases hg : many ≤ g
    · simp only [if_pos hg]
      refine ⟨by omega, by decide, by decide, by rw [hs]; decide, by simp; omega, ?_⟩
      exact q (reelT ((g / many) :: gs) ss n stir) _ ⟨_, ss, n, stir, rfl, by simp; omega, sne, s64, sb, st0, st1⟩ (Int.emod_nonneg _ (by omega)) (Int.emod_lt_of_pos _ m0)
    · simp only [if_neg hg]
      refine ⟨by omega, by decide, by decide, by rw [hs]; decide, by simp; omega, ?_⟩
      exact q (reelT gs ss n stir) _ ⟨_, ss, n, stir, rfl, by omega, sne, s64, sb, st0, st1⟩ (Int.emod_nonneg _ (by omega)) (Int.emod_lt_of_pos _ m0)
def SReel : Sx := fun ars Q => ∃ ns : List Int, ars = [.sh (.scr (ns.map T.int))] ∧ ns.length ≤ 63 ∧ ∀ t, IsReel t → Q.ok (true, t) [.no]
theorem mn_SReel : Mn SReel := fun ρ Q Q' ⟨ns, a, b, q⟩ k _ => ⟨ns, a, b, fun t x => k _ _ (q t x)⟩
theorem e_sreel {ns : List Int} {Q : Po Rv} (h : ns.length ≤ 63) (q : ∀ t, IsReel t → Q.ok (true, t) [.no]) : SReel [.sh (.scr (ns.map T.int))] Q := ⟨ns, rfl, h, q⟩
theorem loop__law_reel (a : T) (Q : PoS) : ∀ (m : List Int) (stir : Int) (s u : Sl), s.pin = false → 0 ≤ stir → stir < big → (∀ stir' s', 0 ≤ stir' → stir' < big → Q.nx [.sh a, .sh (.int stir'), s', u]) →
    forD (gNm 2) B__law_reel_1 Q (m.map T.int) [.sh a, .sh (.int stir), s, u]
  | [], stir, s, u, hs, h0, h1, q => q stir s h0 h1
  | c :: m, stir, s, u, hs, h0, h1, q => by
    refine forD_step fun K hK => ?_
    have c0 : (0 : Int) < 1000000000000000031 := by decide
    have c1 : (0 : Int) < 170141183460469231731687303715884105727 := by decide
    simp only [sSeq, sSet, sPar, sIf, sRet, sRetN, sDrop, sNext, sDead, sBrk, sCnt, sAsg, sFor, dNm, dTm, dC, dOp1, dOp2, dOpN, dMt, dMut, dCall, dLst, dTup, dNil, dCons, dVn, dVc, dSl, dSl3, dNoP, dPrt, dIf, dAndV, dOrV, dNotV, dBv, dTru, dNotT, dAndT, dOrT, dChn, dEqQ, dRpQ, qOp, qNil, qCons, qLs, qTp, dSrc, dRng1, dRng2, dZip2, dEnum, dComp, dYes, gNm, gTp, gCn, gNi, gIt, e_var, e_var1, e_var2, e_var3, e_var4, e_mov, e_mov1, e_mov2, e_mov3, e_mov4, e_tr1, e_tr2, e_tr3, e_tr4, e_tr5, e_own1, e_own2, e_reo1, e_reo2, e_of1, e_of2, e_pin1, e_pin2, e_pin3, e_arg1, e_arg2, e_arg3, e_arg4, e_isarg1, e_isarg2, e_conv1, e_conv2, e_conv3, e_conv4, e_conv5, e_conv6, e_sown1, e_sown2, e_sown3, e_sown4, e_put1, e_put2, e_po1, e_po2, e_p1, e_p2, e_ao1, e_ao2, e_nd0, e_nd1, e_nd2, e_sl, e_get1, e_get2, e_is, e_all, e_gets0, e_gets1, e_gets2, e_tms0, e_tms1, e_qg1, e_qg2, e_qg3, e_qgs0, e_qgs1, e_its1, e_its2, e_its3, e_its4, e_jts1, e_jts2, e_jts4, e_mt1, e_mt2, e_ty1, e_add1, e_add2, e_add3, e_sub, e_mul1, e_mul2, e_mul3, e_fdiv, e_mod, e_pow, e_neg, e_len1, e_len2, e_len3, e_len4, e_int1, e_int2, e_abs, e_max, e_min, e_ix1, e_ix2, e_ix3, e_ix4, e_eq1, e_eq2, e_eq3, e_lt1, e_le1, e_gt1, e_ge1, e_lt2, e_in1, e_app, e_ext, e_rev, e_clr, e_set, e_sl1, e_sl2, e_sl3, e_sl4, e_count, e_f1, e_f2, e_osh, e_owh, e_one, e_tt1, e_tt2, e_ctg1, e_ctg2, e_cn0, e_cn1, e_wi0, e_wi1, e_re0, e_re1, e_ifb1, e_ifb2, e_nm0, e_nm1, e_nm2, e_fa0, e_fa1, e_sum, e_allb, e_anyb, e_sp1, e_sp2, e_sp3, e_at0, e_at1, e_at2, e_at3, e_at4, e_at5, e_ixn40, e_ixn41, e_ixn42, e_ixn43, e_cp1, e_cp2, e_cp3, e_cp4, e_cp5, forall_eq, List.getD_cons_zero, List.getD_cons_succ, List.getD_nil, List.set_cons_zero, List.set_cons_succ, List.map_cons, List.map_nil, Option.map_some, Option.map_none, Option.bind_some, Option.bind_none, Option.getD_some, Option.some.injEq, exists_eq_left', exists_eq_left, exists_eq', exists_eq, decide_eq_true_eq, List.length_map, exists_eq_right, exists_and_left, exists_and_right, Option.isSome_some, T.int.injEq, T.str.injEq, T.lst.injEq, T.tup.injEq, T.bl.injEq, List.cons.injEq, Prod.mk.injEq, Hn.tm.injEq, true_and, and_true, and_assoc, and_self, ne_eq, not_false_eq_true, not_true_eq_false, ite_true, ite_false, if_true, if_false, reduceIte, reduceCtorEq, Bool.false_eq_true, false_and, and_false, imp_self, forall_const, implies_true, List.length_cons, List.length_nil, Nat.reduceAdd, Nat.reduceEqDiff, Bool.false_bne, Bool.true_bne, Bool.not_false, Bool.not_true, List.nil_append, List.cons_append, Int.reduceToNat, Int.reducePow, Int.reduceMul, Int.reduceSub, Int.reduceAdd, Int.reduceNeg, hs, B__law_reel_1, mul_stir h0 h1, mulc3, c0, c1]
    exact hK _ (loop__law_reel a Q m _ _ u rfl (Int.emod_nonneg _ (by decide)) (Int.emod_lt_of_pos _ (by decide)) q)
theorem h__law_reel (ars : Rho) (Q : Po Rv) (h : SReel ars Q) : D__law_reel (ars ++ List.replicate 3 .no) (fwish ars Q) := by
  obtain ⟨ns, rfl, hl, q⟩ := h
  show D__law_reel [.sh (.scr (ns.map T.int)), .no, .no, .no] _
  have hsz := sizeLine_eq
  have ct : cutL (ns.map T.int) none (some 59) = (ns.take 59).map T.int := by rw [show (59 : Int) = ((59 : Nat) : Int) from rfl, cut_to, List.map_take]
  simp only [sSeq, sSet, sPar, sIf, sRet, sRetN, sDrop, sNext, sDead, sBrk, sCnt, sAsg, sFor, dNm, dTm, dC, dOp1, dOp2, dOpN, dMt, dMut, dCall, dLst, dTup, dNil, dCons, dVn, dVc, dSl, dSl3, dNoP, dPrt, dIf, dAndV, dOrV, dNotV, dBv, dTru, dNotT, dAndT, dOrT, dChn, dEqQ, dRpQ, qOp, qNil, qCons, qLs, qTp, dSrc, dRng1, dRng2, dZip2, dEnum, dComp, dYes, gNm, gTp, gCn, gNi, gIt, e_var, e_var1, e_var2, e_var3, e_var4, e_mov, e_mov1, e_mov2, e_mov3, e_mov4, e_tr1, e_tr2, e_tr3, e_tr4, e_tr5, e_own1, e_own2, e_reo1, e_reo2, e_of1, e_of2, e_pin1, e_pin2, e_pin3, e_arg1, e_arg2, e_arg3, e_arg4, e_isarg1, e_isarg2, e_conv1, e_conv2, e_conv3, e_conv4, e_conv5, e_conv6, e_sown1, e_sown2, e_sown3, e_sown4, e_put1, e_put2, e_po1, e_po2, e_p1, e_p2, e_ao1, e_ao2, e_nd0, e_nd1, e_nd2, e_sl, e_get1, e_get2, e_is, e_all, e_gets0, e_gets1, e_gets2, e_tms0, e_tms1, e_qg1, e_qg2, e_qg3, e_qgs0, e_qgs1, e_its1, e_its2, e_its3, e_its4, e_jts1, e_jts2, e_jts4, e_mt1, e_mt2, e_ty1, e_add1, e_add2, e_add3, e_sub, e_mul1, e_mul2, e_mul3, e_fdiv, e_mod, e_pow, e_neg, e_len1, e_len2, e_len3, e_len4, e_int1, e_int2, e_abs, e_max, e_min, e_ix1, e_ix2, e_ix3, e_ix4, e_eq1, e_eq2, e_eq3, e_lt1, e_le1, e_gt1, e_ge1, e_lt2, e_in1, e_app, e_ext, e_rev, e_clr, e_set, e_sl1, e_sl2, e_sl3, e_sl4, e_count, e_f1, e_f2, e_osh, e_owh, e_one, e_tt1, e_tt2, e_ctg1, e_ctg2, e_cn0, e_cn1, e_wi0, e_wi1, e_re0, e_re1, e_ifb1, e_ifb2, e_nm0, e_nm1, e_nm2, e_fa0, e_fa1, e_sum, e_allb, e_anyb, e_sp1, e_sp2, e_sp3, e_at0, e_at1, e_at2, e_at3, e_at4, e_at5, e_ixn40, e_ixn41, e_ixn42, e_ixn43, e_cp1, e_cp2, e_cp3, e_cp4, e_cp5, forall_eq, List.getD_cons_zero, List.getD_cons_succ, List.getD_nil, List.set_cons_zero, List.set_cons_succ, List.map_cons, List.map_nil, Option.map_some, Option.map_none, Option.bind_some, Option.bind_none, Option.getD_some, Option.some.injEq, exists_eq_left', exists_eq_left, exists_eq', exists_eq, decide_eq_true_eq, List.length_map, exists_eq_right, exists_and_left, exists_and_right, Option.isSome_some, T.int.injEq, T.str.injEq, T.lst.injEq, T.tup.injEq, T.bl.injEq, List.cons.injEq, Prod.mk.injEq, Hn.tm.injEq, true_and, and_true, and_assoc, and_self, ne_eq, not_false_eq_true, not_true_eq_false, ite_true, ite_false, if_true, if_false, reduceIte, reduceCtorEq, Bool.false_eq_true, false_and, and_false, imp_self, forall_const, implies_true, List.length_cons, List.length_nil, Nat.reduceAdd, Nat.reduceEqDiff, Bool.false_bne, Bool.true_bne, Bool.not_false, Bool.not_true, List.nil_append, List.cons_append, Int.reduceToNat, Int.reducePow, Int.reduceMul, Int.reduceSub, Int.reduceAdd, Int.reduceNeg, D__law_reel, ct]
  refine loop__law_reel _ _ _ _ _ _ rfl (by decide) (by decide) fun stir s h0 h1 => ?_
  simp only [sSeq, sSet, sPar, sIf, sRet, sRetN, sDrop, sNext, sDead, sBrk, sCnt, sAsg, sFor, dNm, dTm, dC, dOp1, dOp2, dOpN, dMt, dMut, dCall, dLst, dTup, dNil, dCons, dVn, dVc, dSl, dSl3, dNoP, dPrt, dIf, dAndV, dOrV, dNotV, dBv, dTru, dNotT, dAndT, dOrT, dChn, dEqQ, dRpQ, qOp, qNil, qCons, qLs, qTp, dSrc, dRng1, dRng2, dZip2, dEnum, dComp, dYes, gNm, gTp, gCn, gNi, gIt, e_var, e_var1, e_var2, e_var3, e_var4, e_mov, e_mov1, e_mov2, e_mov3, e_mov4, e_tr1, e_tr2, e_tr3, e_tr4, e_tr5, e_own1, e_own2, e_reo1, e_reo2, e_of1, e_of2, e_pin1, e_pin2, e_pin3, e_arg1, e_arg2, e_arg3, e_arg4, e_isarg1, e_isarg2, e_conv1, e_conv2, e_conv3, e_conv4, e_conv5, e_conv6, e_sown1, e_sown2, e_sown3, e_sown4, e_put1, e_put2, e_po1, e_po2, e_p1, e_p2, e_ao1, e_ao2, e_nd0, e_nd1, e_nd2, e_sl, e_get1, e_get2, e_is, e_all, e_gets0, e_gets1, e_gets2, e_tms0, e_tms1, e_qg1, e_qg2, e_qg3, e_qgs0, e_qgs1, e_its1, e_its2, e_its3, e_its4, e_jts1, e_jts2, e_jts4, e_mt1, e_mt2, e_ty1, e_add1, e_add2, e_add3, e_sub, e_mul1, e_mul2, e_mul3, e_fdiv, e_mod, e_pow, e_neg, e_len1, e_len2, e_len3, e_len4, e_int1, e_int2, e_abs, e_max, e_min, e_ix1, e_ix2, e_ix3, e_ix4, e_eq1, e_eq2, e_eq3, e_lt1, e_le1, e_gt1, e_ge1, e_lt2, e_in1, e_app, e_ext, e_rev, e_clr, e_set, e_sl1, e_sl2, e_sl3, e_sl4, e_count, e_f1, e_f2, e_osh, e_owh, e_one, e_tt1, e_tt2, e_ctg1, e_ctg2, e_cn0, e_cn1, e_wi0, e_wi1, e_re0, e_re1, e_ifb1, e_ifb2, e_nm0, e_nm1, e_nm2, e_fa0, e_fa1, e_sum, e_allb, e_anyb, e_sp1, e_sp2, e_sp3, e_at0, e_at1, e_at2, e_at3, e_at4, e_at5, e_ixn40, e_ixn41, e_ixn42, e_ixn43, e_cp1, e_cp2, e_cp3, e_cp4, e_cp5, forall_eq, List.getD_cons_zero, List.getD_cons_succ, List.getD_nil, List.set_cons_zero, List.set_cons_succ, List.map_cons, List.map_nil, Option.map_some, Option.map_none, Option.bind_some, Option.bind_none, Option.getD_some, Option.some.injEq, exists_eq_left', exists_eq_left, exists_eq', exists_eq, decide_eq_true_eq, List.length_map, exists_eq_right, exists_and_left, exists_and_right, Option.isSome_some, T.int.injEq, T.str.injEq, T.lst.injEq, T.tup.injEq, T.bl.injEq, List.cons.injEq, Prod.mk.injEq, Hn.tm.injEq, true_and, and_true, and_assoc, and_self, ne_eq, not_false_eq_true, not_true_eq_false, ite_true, ite_false, if_true, if_false, reduceIte, reduceCtorEq, Bool.false_eq_true, false_and, and_false, imp_self, forall_const, implies_true, List.length_cons, List.length_nil, Nat.reduceAdd, Nat.reduceEqDiff, Bool.false_bne, Bool.true_bne, Bool.not_false, Bool.not_true, List.nil_append, List.cons_append, Int.reduceToNat, Int.reducePow, Int.reduceMul, Int.reduceSub, Int.reduceAdd, Int.reduceNeg, ct]
  have c2 : (0 : Int) < 1000037 := by decide
  have l59 : (ns.take 59).length ≤ 59 := by rw [List.length_take]; omega
  refine comp_if (fun c : Int => decide (1000000000000000000 ≤ c)) (fun c => .int (c - 1000000000000000000)) (fun c _ A B hA => ?_) (by omega) ?_
  · simp only [sSeq, sSet, sPar, sIf, sRet, sRetN, sDrop, sNext, sDead, sBrk, sCnt, sAsg, sFor, dNm, dTm, dC, dOp1, dOp2, dOpN, dMt, dMut, dCall, dLst, dTup, dNil, dCons, dVn, dVc, dSl, dSl3, dNoP, dPrt, dIf, dAndV, dOrV, dNotV, dBv, dTru, dNotT, dAndT, dOrT, dChn, dEqQ, dRpQ, qOp, qNil, qCons, qLs, qTp, dSrc, dRng1, dRng2, dZip2, dEnum, dComp, dYes, gNm, gTp, gCn, gNi, gIt, e_var, e_var1, e_var2, e_var3, e_var4, e_mov, e_mov1, e_mov2, e_mov3, e_mov4, e_tr1, e_tr2, e_tr3, e_tr4, e_tr5, e_own1, e_own2, e_reo1, e_reo2, e_of1, e_of2, e_pin1, e_pin2, e_pin3, e_arg1, e_arg2, e_arg3, e_arg4, e_isarg1, e_isarg2, e_conv1, e_conv2, e_conv3, e_conv4, e_conv5, e_conv6, e_sown1, e_sown2, e_sown3, e_sown4, e_put1, e_put2, e_po1, e_po2, e_p1, e_p2, e_ao1, e_ao2, e_nd0, e_nd1, e_nd2, e_sl, e_get1, e_get2, e_is, e_all, e_gets0, e_gets1, e_gets2, e_tms0, e_tms1, e_qg1, e_qg2, e_qg3, e_qgs0, e_qgs1, e_its1, e_its2, e_its3, e_its4, e_jts1, e_jts2, e_jts4, e_mt1, e_mt2, e_ty1, e_add1, e_add2, e_add3, e_sub, e_mul1, e_mul2, e_mul3, e_fdiv, e_mod, e_pow, e_neg, e_len1, e_len2, e_len3, e_len4, e_int1, e_int2, e_abs, e_max, e_min, e_ix1, e_ix2, e_ix3, e_ix4, e_eq1, e_eq2, e_eq3, e_lt1, e_le1, e_gt1, e_ge1, e_lt2, e_in1, e_app, e_ext, e_rev, e_clr, e_set, e_sl1, e_sl2, e_sl3, e_sl4, e_count, e_f1, e_f2, e_osh, e_owh, e_one, e_tt1, e_tt2, e_ctg1, e_ctg2, e_cn0, e_cn1, e_wi0, e_wi1, e_re0, e_re1, e_ifb1, e_ifb2, e_nm0, e_nm1, e_nm2, e_fa0, e_fa1, e_sum, e_allb, e_anyb, e_sp1, e_sp2, e_sp3, e_at0, e_at1, e_at2, e_at3, e_at4, e_at5, e_ixn40, e_ixn41, e_ixn42, e_ixn43, e_cp1, e_cp2, e_cp3, e_cp4, e_cp5, forall_eq, List.getD_cons_zero, List.getD_cons_succ, List.getD_nil, List.set_cons_zero, List.set_cons_succ, List.map_cons, List.map_nil, Option.map_some, Option.map_none, Option.bind_some, Option.bind_none, Option.getD_some, Option.some.injEq, exists_eq_left', exists_eq_left, exists_eq', exists_eq, decide_eq_true_eq, List.length_map, exists_eq_right, exists_and_left, exists_and_right, Option.isSome_some, T.int.injEq, T.str.injEq, T.lst.injEq, T.tup.injEq, T.bl.injEq, List.cons.injEq, Prod.mk.injEq, Hn.tm.injEq, true_and, and_true, and_assoc, and_self, ne_eq, not_false_eq_true, not_true_eq_false, ite_true, ite_false, if_true, if_false, reduceIte, reduceCtorEq, Bool.false_eq_true, false_and, and_false, imp_self, forall_const, implies_true, List.length_cons, List.length_nil, Nat.reduceAdd, Nat.reduceEqDiff, Bool.false_bne, Bool.true_bne, Bool.not_false, Bool.not_true, List.nil_append, List.cons_append, Int.reduceToNat, Int.reducePow, Int.reduceMul, Int.reduceSub, Int.reduceAdd, Int.reduceNeg]
    exact hA
  · simp only [sSeq, sSet, sPar, sIf, sRet, sRetN, sDrop, sNext, sDead, sBrk, sCnt, sAsg, sFor, dNm, dTm, dC, dOp1, dOp2, dOpN, dMt, dMut, dCall, dLst, dTup, dNil, dCons, dVn, dVc, dSl, dSl3, dNoP, dPrt, dIf, dAndV, dOrV, dNotV, dBv, dTru, dNotT, dAndT, dOrT, dChn, dEqQ, dRpQ, qOp, qNil, qCons, qLs, qTp, dSrc, dRng1, dRng2, dZip2, dEnum, dComp, dYes, gNm, gTp, gCn, gNi, gIt, e_var, e_var1, e_var2, e_var3, e_var4, e_mov, e_mov1, e_mov2, e_mov3, e_mov4, e_tr1, e_tr2, e_tr3, e_tr4, e_tr5, e_own1, e_own2, e_reo1, e_reo2, e_of1, e_of2, e_pin1, e_pin2, e_pin3, e_arg1, e_arg2, e_arg3, e_arg4, e_isarg1, e_isarg2, e_conv1, e_conv2, e_conv3, e_conv4, e_conv5, e_conv6, e_sown1, e_sown2, e_sown3, e_sown4, e_put1, e_put2, e_po1, e_po2, e_p1, e_p2, e_ao1, e_ao2, e_nd0, e_nd1, e_nd2, e_sl, e_get1, e_get2, e_is, e_all, e_gets0, e_gets1, e_gets2, e_tms0, e_tms1, e_qg1, e_qg2, e_qg3, e_qgs0, e_qgs1, e_its1, e_its2, e_its3, e_its4, e_jts1, e_jts2, e_jts4, e_mt1, e_mt2, e_ty1, e_add1, e_add2, e_add3, e_sub, e_mul1, e_mul2, e_mul3, e_fdiv, e_mod, e_pow, e_neg, e_len1, e_len2, e_len3, e_len4, e_int1, e_int2, e_abs, e_max, e_min, e_ix1, e_ix2, e_ix3, e_ix4, e_eq1, e_eq2, e_eq3, e_lt1, e_le1, e_gt1, e_ge1, e_lt2, e_in1, e_app, e_ext, e_rev, e_clr, e_set, e_sl1, e_sl2, e_sl3, e_sl4, e_count, e_f1, e_f2, e_osh, e_owh, e_one, e_tt1, e_tt2, e_ctg1, e_ctg2, e_cn0, e_cn1, e_wi0, e_wi1, e_re0, e_re1, e_ifb1, e_ifb2, e_nm0, e_nm1, e_nm2, e_fa0, e_fa1, e_sum, e_allb, e_anyb, e_sp1, e_sp2, e_sp3, e_at0, e_at1, e_at2, e_at3, e_at4, e_at5, e_ixn40, e_ixn41, e_ixn42, e_ixn43, e_cp1, e_cp2, e_cp3, e_cp4, e_cp5, forall_eq, List.getD_cons_zero, List.getD_cons_succ, List.getD_nil, List.set_cons_zero, List.set_cons_succ, List.map_cons, List.map_nil, Option.map_some, Option.map_none, Option.bind_some, Option.bind_none, Option.getD_some, Option.some.injEq, exists_eq_left', exists_eq_left, exists_eq', exists_eq, decide_eq_true_eq, List.length_map, exists_eq_right, exists_and_left, exists_and_right, Option.isSome_some, T.int.injEq, T.str.injEq, T.lst.injEq, T.tup.injEq, T.bl.injEq, List.cons.injEq, Prod.mk.injEq, Hn.tm.injEq, true_and, and_true, and_assoc, and_self, ne_eq, not_false_eq_true, not_true_eq_false, ite_true, ite_false, if_true, if_false, reduceIte, reduceCtorEq, Bool.false_eq_true, false_and, and_false, imp_self, forall_const, implies_true, List.length_cons, List.length_nil, Nat.reduceAdd, Nat.reduceEqDiff, Bool.false_bne, Bool.true_bne, Bool.not_false, Bool.not_true, List.nil_append, List.cons_append, Int.reduceToNat, Int.reducePow, Int.reduceMul, Int.reduceSub, Int.reduceAdd, Int.reduceNeg, ct]
    refine comp_all (fun c : Int => .int (c % 1000037)) (fun c _ A B hA => ?_) (by omega) ?_
    · simp only [sSeq, sSet, sPar, sIf, sRet, sRetN, sDrop, sNext, sDead, sBrk, sCnt, sAsg, sFor, dNm, dTm, dC, dOp1, dOp2, dOpN, dMt, dMut, dCall, dLst, dTup, dNil, dCons, dVn, dVc, dSl, dSl3, dNoP, dPrt, dIf, dAndV, dOrV, dNotV, dBv, dTru, dNotT, dAndT, dOrT, dChn, dEqQ, dRpQ, qOp, qNil, qCons, qLs, qTp, dSrc, dRng1, dRng2, dZip2, dEnum, dComp, dYes, gNm, gTp, gCn, gNi, gIt, e_var, e_var1, e_var2, e_var3, e_var4, e_mov, e_mov1, e_mov2, e_mov3, e_mov4, e_tr1, e_tr2, e_tr3, e_tr4, e_tr5, e_own1, e_own2, e_reo1, e_reo2, e_of1, e_of2, e_pin1, e_pin2, e_pin3, e_arg1, e_arg2, e_arg3, e_arg4, e_isarg1, e_isarg2, e_conv1, e_conv2, e_conv3, e_conv4, e_conv5, e_conv6, e_sown1, e_sown2, e_sown3, e_sown4, e_put1, e_put2, e_po1, e_po2, e_p1, e_p2, e_ao1, e_ao2, e_nd0, e_nd1, e_nd2, e_sl, e_get1, e_get2, e_is, e_all, e_gets0, e_gets1, e_gets2, e_tms0, e_tms1, e_qg1, e_qg2, e_qg3, e_qgs0, e_qgs1, e_its1, e_its2, e_its3, e_its4, e_jts1, e_jts2, e_jts4, e_mt1, e_mt2, e_ty1, e_add1, e_add2, e_add3, e_sub, e_mul1, e_mul2, e_mul3, e_fdiv, e_mod, e_pow, e_neg, e_len1, e_len2, e_len3, e_len4, e_int1, e_int2, e_abs, e_max, e_min, e_ix1, e_ix2, e_ix3, e_ix4, e_eq1, e_eq2, e_eq3, e_lt1, e_le1, e_gt1, e_ge1, e_lt2, e_in1, e_app, e_ext, e_rev, e_clr, e_set, e_sl1, e_sl2, e_sl3, e_sl4, e_count, e_f1, e_f2, e_osh, e_owh, e_one, e_tt1, e_tt2, e_ctg1, e_ctg2, e_cn0, e_cn1, e_wi0, e_wi1, e_re0, e_re1, e_ifb1, e_ifb2, e_nm0, e_nm1, e_nm2, e_fa0, e_fa1, e_sum, e_allb, e_anyb, e_sp1, e_sp2, e_sp3, e_at0, e_at1, e_at2, e_at3, e_at4, e_at5, e_ixn40, e_ixn41, e_ixn42, e_ixn43, e_cp1, e_cp2, e_cp3, e_cp4, e_cp5, forall_eq, List.getD_cons_zero, List.getD_cons_succ, List.getD_nil, List.set_cons_zero, List.set_cons_succ, List.map_cons, List.map_nil, Option.map_some, Option.map_none, Option.bind_some, Option.bind_none, Option.getD_some, Option.some.injEq, exists_eq_left', exists_eq_left, exists_eq', exists_eq, decide_eq_true_eq, List.length_map, exists_eq_right, exists_and_left, exists_and_right, Option.isSome_some, T.int.injEq, T.str.injEq, T.lst.injEq, T.tup.injEq, T.bl.injEq, List.cons.injEq, Prod.mk.injEq, Hn.tm.injEq, true_and, and_true, and_assoc, and_self, ne_eq, not_false_eq_true, not_true_eq_false, ite_true, ite_false, if_true, if_false, reduceIte, reduceCtorEq, Bool.false_eq_true, false_and, and_false, imp_self, forall_const, implies_true, List.length_cons, List.length_nil, Nat.reduceAdd, Nat.reduceEqDiff, Bool.false_bne, Bool.true_bne, Bool.not_false, Bool.not_true, List.nil_append, List.cons_append, Int.reduceToNat, Int.reducePow, Int.reduceMul, Int.reduceSub, Int.reduceAdd, Int.reduceNeg, c2]
      exact hA
    · simp only [sSeq, sSet, sPar, sIf, sRet, sRetN, sDrop, sNext, sDead, sBrk, sCnt, sAsg, sFor, dNm, dTm, dC, dOp1, dOp2, dOpN, dMt, dMut, dCall, dLst, dTup, dNil, dCons, dVn, dVc, dSl, dSl3, dNoP, dPrt, dIf, dAndV, dOrV, dNotV, dBv, dTru, dNotT, dAndT, dOrT, dChn, dEqQ, dRpQ, qOp, qNil, qCons, qLs, qTp, dSrc, dRng1, dRng2, dZip2, dEnum, dComp, dYes, gNm, gTp, gCn, gNi, gIt, e_var, e_var1, e_var2, e_var3, e_var4, e_mov, e_mov1, e_mov2, e_mov3, e_mov4, e_tr1, e_tr2, e_tr3, e_tr4, e_tr5, e_own1, e_own2, e_reo1, e_reo2, e_of1, e_of2, e_pin1, e_pin2, e_pin3, e_arg1, e_arg2, e_arg3, e_arg4, e_isarg1, e_isarg2, e_conv1, e_conv2, e_conv3, e_conv4, e_conv5, e_conv6, e_sown1, e_sown2, e_sown3, e_sown4, e_put1, e_put2, e_po1, e_po2, e_p1, e_p2, e_ao1, e_ao2, e_nd0, e_nd1, e_nd2, e_sl, e_get1, e_get2, e_is, e_all, e_gets0, e_gets1, e_gets2, e_tms0, e_tms1, e_qg1, e_qg2, e_qg3, e_qgs0, e_qgs1, e_its1, e_its2, e_its3, e_its4, e_jts1, e_jts2, e_jts4, e_mt1, e_mt2, e_ty1, e_add1, e_add2, e_add3, e_sub, e_mul1, e_mul2, e_mul3, e_fdiv, e_mod, e_pow, e_neg, e_len1, e_len2, e_len3, e_len4, e_int1, e_int2, e_abs, e_max, e_min, e_ix1, e_ix2, e_ix3, e_ix4, e_eq1, e_eq2, e_eq3, e_lt1, e_le1, e_gt1, e_ge1, e_lt2, e_in1, e_app, e_ext, e_rev, e_clr, e_set, e_sl1, e_sl2, e_sl3, e_sl4, e_count, e_f1, e_f2, e_osh, e_owh, e_one, e_tt1, e_tt2, e_ctg1, e_ctg2, e_cn0, e_cn1, e_wi0, e_wi1, e_re0, e_re1, e_ifb1, e_ifb2, e_nm0, e_nm1, e_nm2, e_fa0, e_fa1, e_sum, e_allb, e_anyb, e_sp1, e_sp2, e_sp3, e_at0, e_at1, e_at2, e_at3, e_at4, e_at5, e_ixn40, e_ixn41, e_ixn42, e_ixn43, e_cp1, e_cp2, e_cp3, e_cp4, e_cp5, forall_eq, List.getD_cons_zero, List.getD_cons_succ, List.getD_nil, List.set_cons_zero, List.set_cons_succ, List.map_cons, List.map_nil, Option.map_some, Option.map_none, Option.bind_some, Option.bind_none, Option.getD_some, Option.some.injEq, exists_eq_left', exists_eq_left, exists_eq', exists_eq, decide_eq_true_eq, List.length_map, exists_eq_right, exists_and_left, exists_and_right, Option.isSome_some, T.int.injEq, T.str.injEq, T.lst.injEq, T.tup.injEq, T.bl.injEq, List.cons.injEq, Prod.mk.injEq, Hn.tm.injEq, true_and, and_true, and_assoc, and_self, ne_eq, not_false_eq_true, not_true_eq_false, ite_true, ite_false, if_true, if_false, reduceIte, reduceCtorEq, Bool.false_eq_true, false_and, and_false, imp_self, forall_const, implies_true, List.length_cons, List.length_nil, Nat.reduceAdd, Nat.reduceEqDiff, Bool.false_bne, Bool.true_bne, Bool.not_false, Bool.not_true, List.nil_append, List.cons_append, Int.reduceToNat, Int.reducePow, Int.reduceMul, Int.reduceSub, Int.reduceAdd, Int.reduceNeg]
      refine ⟨by omega, by omega, by omega, ?_⟩
      have e1 : ((ns.take 59).filter fun c : Int => decide (1000000000000000000 ≤ c)).map (fun c => T.int (c - 1000000000000000000)) = (((ns.take 59).filter fun c : Int => decide (1000000000000000000 ≤ c)).map fun c => c - 1000000000000000000).map T.int := by rw [List.map_map]; rfl
      have e2 : (ns.take 59).map (fun c : Int => T.int (c % 1000037)) ++ [T.int 71] = (((ns.take 59).map fun c => c % 1000037) ++ [71]).map T.int := by rw [List.map_append, List.map_map]; rfl
      rw [e1, e2]
      refine q (reelT _ _ 0 stir) ⟨_, _, 0, stir, rfl, ?_, by simp, by simp; omega, fun s hs => ?_, h0, h1⟩
      · rw [List.length_map]
        exact Nat.le_trans (List.length_filter_le _ _) (by omega)
      · rcases List.mem_append.mp hs with hs | hs
        · obtain ⟨c, _, rfl⟩ := List.mem_map.mp hs
          exact ⟨Int.emod_nonneg _ (by decide), Int.lt_of_lt_of_le (Int.emod_lt_of_pos _ c2) (by decide)⟩
        · rw [List.mem_singleton.mp hs]
          decide
end O
namespace O
open PySem PySem.Spec PyProof.Rows L2
theorem joinL_one : ∀ l : List Nat, joinL [] (l.map fun c => [c]) = l
  | [] => rfl
  | [c] => rfl
  | c :: d :: l => by
    show [c] ++ [] ++ joinL [] ((d :: l).map fun c => [c]) = _
    rw [joinL_one (d :: l)]
    rfl
theorem join_signs (l : List Nat) : joinT (.str []) [.lst (l.map fun c => .str [c])] = ⟨l.length ≤ 16777216, (false, .str l)⟩ := by
  have e : T.strs (l.map fun c => T.str [c]) = some (l.map fun c => [c]) := by
    have := strs_of (l.map fun c => [c])
    rw [List.map_map] at this
    exact this
  have e2 : ((l.map fun c => [c]).map fun x : List Nat => x.length).sum = l.length := by
    clear e
    induction l with
    | nil => rfl
    | cons c l ih => rw [List.map_cons, List.map_cons, List.sum_cons, ih, List.length_singleton, List.length_cons, Nat.add_comm]
  show (⟨∃ ls, T.strs (l.map fun c => T.str [c]) = some ls ∧ (ls.map (·.length)).sum + ls.length * ([] : List Nat).length ≤ 16777216, (false, .str (joinL [] ((T.strs (l.map fun c => T.str [c])).getD [])))⟩ : Ot) = _
  rw [e]
  simp only [Option.some.injEq, exists_eq_left', Option.getD_some, joinL_one, e2, List.length_nil, Nat.mul_zero, Nat.add_zero]
theorem rangeT_eq (lo : Int) (n : Nat) : rangeT lo n = ((List.range n).map fun i : Nat => lo + (i : Int)).map T.int := by
  unfold rangeT
  rw [List.map_map]
  rfl
def SWord : Sx := fun ars Q => ∃ t low high, ars = [.io t, .sh (.int low), .sh (.int high)] ∧ IsReel t ∧ 0 ≤ low ∧ low ≤ high ∧ high ≤ 10000 ∧ ∀ t' l, IsReel t' → abS l → low ≤ (l.length : Int) → (l.length : Int) ≤ high → Q.ok (false, .str l) [.io t', .no, .no]
theorem mn_SWord : Mn SWord := fun ρ Q Q' ⟨t, a, b, e, h1, h2, h3, h4, q⟩ k _ => ⟨t, a, b, e, h1, h2, h3, h4, fun t' l x y z u => k _ _ (q t' l x y z u)⟩
theorem e_sword {t : T} {low high : Int} {Q : Po Rv} : SWord [.io t, .sh (.int low), .sh (.int high)] Q = (IsReel t ∧ 0 ≤ low ∧ low ≤ high ∧ high ≤ 10000 ∧ ∀ t' l, IsReel t' → abS l → low ≤ (l.length : Int) → (l.length : Int) ≤ high → Q.ok (false, .str l) [.io t', .no, .no]) :=
  propext ⟨fun ⟨_, _, _, e, h⟩ => by cases e; exact h, fun h => ⟨_, _, _, rfl, h⟩⟩
theorem log_small {i : Int} (h0 : 0 ≤ i) (h1 : i < 2 ^ 64) : i.natAbs.log2 < 9000 := by
  have : i.natAbs.log2 ≤ 63 := log_lt (by omega)
  omega
theorem abS_nil : abS [] := fun c h => by cases h
theorem abS_app {a b : List Nat} (h : abS a) (k : abS b) : abS (a ++ b) := fun c m => (List.mem_append.mp m).elim (h c) (k c)
theorem abS_rep {c : Nat} (h : c = 97 ∨ c = 98) (n : Nat) : abS (List.replicate n [c]).flatten := fun d m => by
  obtain ⟨x, hx, hd⟩ := List.mem_flatten.mp m
  rw [List.eq_of_mem_replicate hx] at hd
  rw [List.mem_singleton.mp hd]
  exact h
theorem abS_take {a : List Nat} (h : abS a) (n : Nat) : abS (a.take n) := fun c m => h c (List.mem_of_mem_take m)
theorem abS_drop {a : List Nat} (h : abS a) (n : Nat) : abS (a.drop n) := fun c m => h c (List.mem_of_mem_drop m)
theorem len_rep {c : Nat} (n : Nat) : (List.replicate n [c]).flatten.length = n := by simp
theorem loop__law_word (Q : PoS) (size way : Int) (a1 a2 s6 s7 s9 : Sl) (w0 : 0 ≤ way) (w6 : way < 6) (w4 : way ≠ 4) (hz : size ≤ 10000) :
    ∀ (k : Nat) (t : T) (l : List Nat) (s8 : Sl), IsReel t → s8.pin = false → abS l → l.length ≤ 20000 → (size - l.length).toNat ≤ k →
      (∀ t' l' s8', IsReel t' → s8'.pin = false → abS l' → size ≤ (l'.length : Int) → l'.length ≤ 20000 → Q.nx [.io t', a1, a2, .sh (.int size), .sh (.int way), .sh (.str l'), s6, s7, s8', s9]) →
      whN (dBv (dOp2 ltT (dTm (dOpN (f1 lenT) (dCons (dNm 5) dNil))) (dNm 3))) (B__law_word_1 SDraw) Q (k + 1) [.io t, a1, a2, .sh (.int size), .sh (.int way), .sh (.str l), s6, s7, s8, s9] := by
  have hs := sizeLine_eq
  intro k
  induction k with
  | zero =>
    intro t l s8 ir h8 ab hl hk q
    refine wh_step fun K hK => ?_
    have c : ¬ (l.length : Int) < size := by omega
    simp only [sSeq, sSet, sPar, sIf, sRet, sRetN, sDrop, sNext, sDead, sBrk, sCnt, sAsg, sFor, dNm, dTm, dC, dOp1, dOp2, dOpN, dMt, dMut, dCall, dLst, dTup, dNil, dCons, dVn, dVc, dSl, dSl3, dNoP, dPrt, dIf, dAndV, dOrV, dNotV, dBv, dTru, dNotT, dAndT, dOrT, dChn, dEqQ, dRpQ, qOp, qNil, qCons, qLs, qTp, dSrc, dRng1, dRng2, dZip2, dEnum, dComp, dYes, gNm, gTp, gCn, gNi, gIt, e_var, e_var1, e_var2, e_var3, e_var4, e_mov, e_mov1, e_mov2, e_mov3, e_mov4, e_tr1, e_tr2, e_tr3, e_tr4, e_tr5, e_own1, e_own2, e_reo1, e_reo2, e_of1, e_of2, e_pin1, e_pin2, e_pin3, e_arg1, e_arg2, e_arg3, e_arg4, e_isarg1, e_isarg2, e_conv1, e_conv2, e_conv3, e_conv4, e_conv5, e_conv6, e_sown1, e_sown2, e_sown3, e_sown4, e_put1, e_put2, e_po1, e_po2, e_p1, e_p2, e_ao1, e_ao2, e_nd0, e_nd1, e_nd2, e_sl, e_get1, e_get2, e_is, e_all, e_gets0, e_gets1, e_gets2, e_tms0, e_tms1, e_qg1, e_qg2, e_qg3, e_qgs0, e_qgs1, e_its1, e_its2, e_its3, e_its4, e_jts1, e_jts2, e_jts4, e_mt1, e_mt2, e_ty1, e_add1, e_add2, e_add3, e_sub, e_mul1, e_mul2, e_mul3, e_fdiv, e_mod, e_pow, e_neg, e_len1, e_len2, e_len3, e_len4, e_int1, e_int2, e_abs, e_max, e_min, e_ix1, e_ix2, e_ix3, e_ix4, e_eq1, e_eq2, e_eq3, e_lt1, e_le1, e_gt1, e_ge1, e_lt2, e_in1, e_app, e_ext, e_rev, e_clr, e_set, e_sl1, e_sl2, e_sl3, e_sl4, e_count, e_f1, e_f2, e_osh, e_owh, e_one, e_tt1, e_tt2, e_ctg1, e_ctg2, e_cn0, e_cn1, e_wi0, e_wi1, e_re0, e_re1, e_ifb1, e_ifb2, e_nm0, e_nm1, e_nm2, e_fa0, e_fa1, e_sum, e_allb, e_anyb, e_sp1, e_sp2, e_sp3, e_at0, e_at1, e_at2, e_at3, e_at4, e_at5, e_ixn40, e_ixn41, e_ixn42, e_ixn43, e_cp1, e_cp2, e_cp3, e_cp4, e_cp5, forall_eq, List.getD_cons_zero, List.getD_cons_succ, List.getD_nil, List.set_cons_zero, List.set_cons_succ, List.map_cons, List.map_nil, Option.map_some, Option.map_none, Option.bind_some, Option.bind_none, Option.getD_some, Option.some.injEq, exists_eq_left', exists_eq_left, exists_eq', exists_eq, decide_eq_true_eq, List.length_map, exists_eq_right, exists_and_left, exists_and_right, Option.isSome_some, T.int.injEq, T.str.injEq, T.lst.injEq, T.tup.injEq, T.bl.injEq, List.cons.injEq, Prod.mk.injEq, Hn.tm.injEq, true_and, and_true, and_assoc, and_self, ne_eq, not_false_eq_true, not_true_eq_false, ite_true, ite_false, if_true, if_false, reduceIte, reduceCtorEq, Bool.false_eq_true, false_and, and_false, imp_self, forall_const, implies_true, List.length_cons, List.length_nil, Nat.reduceAdd, Nat.reduceEqDiff, Bool.false_bne, Bool.true_bne, Bool.not_false, Bool.not_true, List.nil_append, List.cons_append, Int.reduceToNat, Int.reducePow, Int.reduceMul, Int.reduceSub, Int.reduceAdd, Int.reduceNeg, c, decide_false]
    exact ⟨by omega, q t l s8 ir h8 ab (by omega) hl⟩
  | succ k ih =>
    intro t l s8 ir h8 ab hl hk q
    refine wh_step fun K hK => ?_
    by_cases c : (l.length : Int) < size
    · have fin : ∀ (t' : T) (ch : Nat) (m : Int) (s8' : Sl), IsReel t' → s8'.pin = false → (ch = 97 ∨ ch = 98) → 1 ≤ m → m < 100 → K [.io t', a1, a2, .sh (.int size), .sh (.int way), .sh (.str (l ++ (List.replicate m.toNat [ch]).flatten)), s6, s7, s8', s9] := fun t' ch m s8' i' h8' hc m1 m2 =>
        hK _ (ih t' _ s8' i' h8' (abS_app ab (abS_rep hc _)) (by rw [List.length_append, len_rep]; omega) (by rw [List.length_append, len_rep]; omega) q)
      have L9 : (9 : Int).natAbs.log2 < 9000 := log_small (by decide) (by decide)
      rcases (show way = 0 ∨ way = 1 ∨ way = 2 ∨ way = 3 ∨ way = 5 by omega) with rfl | rfl | rfl | rfl | rfl
      · simp only [sSeq, sSet, sPar, sIf, sRet, sRetN, sDrop, sNext, sDead, sBrk, sCnt, sAsg, sFor, dNm, dTm, dC, dOp1, dOp2, dOpN, dMt, dMut, dCall, dLst, dTup, dNil, dCons, dVn, dVc, dSl, dSl3, dNoP, dPrt, dIf, dAndV, dOrV, dNotV, dBv, dTru, dNotT, dAndT, dOrT, dChn, dEqQ, dRpQ, qOp, qNil, qCons, qLs, qTp, dSrc, dRng1, dRng2, dZip2, dEnum, dComp, dYes, gNm, gTp, gCn, gNi, gIt, e_var, e_var1, e_var2, e_var3, e_var4, e_mov, e_mov1, e_mov2, e_mov3, e_mov4, e_tr1, e_tr2, e_tr3, e_tr4, e_tr5, e_own1, e_own2, e_reo1, e_reo2, e_of1, e_of2, e_pin1, e_pin2, e_pin3, e_arg1, e_arg2, e_arg3, e_arg4, e_isarg1, e_isarg2, e_conv1, e_conv2, e_conv3, e_conv4, e_conv5, e_conv6, e_sown1, e_sown2, e_sown3, e_sown4, e_put1, e_put2, e_po1, e_po2, e_p1, e_p2, e_ao1, e_ao2, e_nd0, e_nd1, e_nd2, e_sl, e_get1, e_get2, e_is, e_all, e_gets0, e_gets1, e_gets2, e_tms0, e_tms1, e_qg1, e_qg2, e_qg3, e_qgs0, e_qgs1, e_its1, e_its2, e_its3, e_its4, e_jts1, e_jts2, e_jts4, e_mt1, e_mt2, e_ty1, e_add1, e_add2, e_add3, e_sub, e_mul1, e_mul2, e_mul3, e_fdiv, e_mod, e_pow, e_neg, e_len1, e_len2, e_len3, e_len4, e_int1, e_int2, e_abs, e_max, e_min, e_ix1, e_ix2, e_ix3, e_ix4, e_eq1, e_eq2, e_eq3, e_lt1, e_le1, e_gt1, e_ge1, e_lt2, e_in1, e_app, e_ext, e_rev, e_clr, e_set, e_sl1, e_sl2, e_sl3, e_sl4, e_count, e_f1, e_f2, e_osh, e_owh, e_one, e_tt1, e_tt2, e_ctg1, e_ctg2, e_cn0, e_cn1, e_wi0, e_wi1, e_re0, e_re1, e_ifb1, e_ifb2, e_nm0, e_nm1, e_nm2, e_fa0, e_fa1, e_sum, e_allb, e_anyb, e_sp1, e_sp2, e_sp3, e_at0, e_at1, e_at2, e_at3, e_at4, e_at5, e_ixn40, e_ixn41, e_ixn42, e_ixn43, e_cp1, e_cp2, e_cp3, e_cp4, e_cp5, forall_eq, List.getD_cons_zero, List.getD_cons_succ, List.getD_nil, List.set_cons_zero, List.set_cons_succ, List.map_cons, List.map_nil, Option.map_some, Option.map_none, Option.bind_some, Option.bind_none, Option.getD_some, Option.some.injEq, exists_eq_left', exists_eq_left, exists_eq', exists_eq, decide_eq_true_eq, List.length_map, exists_eq_right, exists_and_left, exists_and_right, Option.isSome_some, T.int.injEq, T.str.injEq, T.lst.injEq, T.tup.injEq, T.bl.injEq, List.cons.injEq, Prod.mk.injEq, Hn.tm.injEq, true_and, and_true, and_assoc, and_self, ne_eq, not_false_eq_true, not_true_eq_false, ite_true, ite_false, if_true, if_false, reduceIte, reduceCtorEq, Bool.false_eq_true, false_and, and_false, imp_self, forall_const, implies_true, List.length_cons, List.length_nil, Nat.reduceAdd, Nat.reduceEqDiff, Bool.false_bne, Bool.true_bne, Bool.not_false, Bool.not_true, List.nil_append, List.cons_append, Int.reduceToNat, Int.reducePow, Int.reduceMul, Int.reduceSub, Int.reduceAdd, Int.reduceNeg, c, decide_true, h8, B__law_word_1, e_sdraw]
        refine ⟨by omega, by omega, by omega, ir, by decide, log_small (by decide) (by decide), fun t1 r1 i1 x1 y1 => ?_⟩
        obtain ⟨ch, hm, e⟩ := atI_in (xs := [97, 98]) x1 y1
        have hc : ch = 97 ∨ ch = 98 := by simp at hm; omega
        simp only [e, Option.isSome_some, Option.getD_some, true_and]
        refine ⟨by omega, i1, by decide, L9, fun t2 r2 i2 x2 y2 => ?_⟩
        have fk := fin t2 ch 1 (.sh (.str [ch])) i2 rfl hc (by omega) (by omega)
        refine ⟨by omega, by omega, by omega, by omega, by rw [len_rep]; omega, fk⟩
      · simp only [sSeq, sSet, sPar, sIf, sRet, sRetN, sDrop, sNext, sDead, sBrk, sCnt, sAsg, sFor, dNm, dTm, dC, dOp1, dOp2, dOpN, dMt, dMut, dCall, dLst, dTup, dNil, dCons, dVn, dVc, dSl, dSl3, dNoP, dPrt, dIf, dAndV, dOrV, dNotV, dBv, dTru, dNotT, dAndT, dOrT, dChn, dEqQ, dRpQ, qOp, qNil, qCons, qLs, qTp, dSrc, dRng1, dRng2, dZip2, dEnum, dComp, dYes, gNm, gTp, gCn, gNi, gIt, e_var, e_var1, e_var2, e_var3, e_var4, e_mov, e_mov1, e_mov2, e_mov3, e_mov4, e_tr1, e_tr2, e_tr3, e_tr4, e_tr5, e_own1, e_own2, e_reo1, e_reo2, e_of1, e_of2, e_pin1, e_pin2, e_pin3, e_arg1, e_arg2, e_arg3, e_arg4, e_isarg1, e_isarg2, e_conv1, e_conv2, e_conv3, e_conv4, e_conv5, e_conv6, e_sown1, e_sown2, e_sown3, e_sown4, e_put1, e_put2, e_po1, e_po2, e_p1, e_p2, e_ao1, e_ao2, e_nd0, e_nd1, e_nd2, e_sl, e_get1, e_get2, e_is, e_all, e_gets0, e_gets1, e_gets2, e_tms0, e_tms1, e_qg1, e_qg2, e_qg3, e_qgs0, e_qgs1, e_its1, e_its2, e_its3, e_its4, e_jts1, e_jts2, e_jts4, e_mt1, e_mt2, e_ty1, e_add1, e_add2, e_add3, e_sub, e_mul1, e_mul2, e_mul3, e_fdiv, e_mod, e_pow, e_neg, e_len1, e_len2, e_len3, e_len4, e_int1, e_int2, e_abs, e_max, e_min, e_ix1, e_ix2, e_ix3, e_ix4, e_eq1, e_eq2, e_eq3, e_lt1, e_le1, e_gt1, e_ge1, e_lt2, e_in1, e_app, e_ext, e_rev, e_clr, e_set, e_sl1, e_sl2, e_sl3, e_sl4, e_count, e_f1, e_f2, e_osh, e_owh, e_one, e_tt1, e_tt2, e_ctg1, e_ctg2, e_cn0, e_cn1, e_wi0, e_wi1, e_re0, e_re1, e_ifb1, e_ifb2, e_nm0, e_nm1, e_nm2, e_fa0, e_fa1, e_sum, e_allb, e_anyb, e_sp1, e_sp2, e_sp3, e_at0, e_at1, e_at2, e_at3, e_at4, e_at5, e_ixn40, e_ixn41, e_ixn42, e_ixn43, e_cp1, e_cp2, e_cp3, e_cp4, e_cp5, forall_eq, List.getD_cons_zero, List.getD_cons_succ, List.getD_nil, List.set_cons_zero, List.set_cons_succ, List.map_cons, List.map_nil, Option.map_some, Option.map_none, Option.bind_some, Option.bind_none, Option.getD_some, Option.some.injEq, exists_eq_left', exists_eq_left, exists_eq', exists_eq, decide_eq_true_eq, List.length_map, exists_eq_right, exists_and_left, exists_and_right, Option.isSome_some, T.int.injEq, T.str.injEq, T.lst.injEq, T.tup.injEq, T.bl.injEq, List.cons.injEq, Prod.mk.injEq, Hn.tm.injEq, true_and, and_true, and_assoc, and_self, ne_eq, not_false_eq_true, not_true_eq_false, ite_true, ite_false, if_true, if_false, reduceIte, reduceCtorEq, Bool.false_eq_true, false_and, and_false, imp_self, forall_const, implies_true, List.length_cons, List.length_nil, Nat.reduceAdd, Nat.reduceEqDiff, Bool.false_bne, Bool.true_bne, Bool.not_false, Bool.not_true, List.nil_append, List.cons_append, Int.reduceToNat, Int.reducePow, Int.reduceMul, Int.reduceSub, Int.reduceAdd, Int.reduceNeg, c, decide_true, h8, B__law_word_1, e_sdraw]
        refine ⟨by omega, by omega, by omega, ir, by decide, log_small (by decide) (by decide), fun t1 r1 i1 x1 y1 => ?_⟩
        obtain ⟨ch, hm, e⟩ := atI_in (xs := [97, 97, 97, 97, 98]) x1 y1
        have hc : ch = 97 ∨ ch = 98 := by simp at hm; omega
        simp only [e, Option.isSome_some, Option.getD_some, true_and]
        refine ⟨by omega, i1, by decide, L9, fun t2 r2 i2 x2 y2 => ?_⟩
        have fk := fin t2 ch 1 (.sh (.str [ch])) i2 rfl hc (by omega) (by omega)
        refine ⟨by omega, by omega, by omega, by omega, by rw [len_rep]; omega, fk⟩
      · simp only [sSeq, sSet, sPar, sIf, sRet, sRetN, sDrop, sNext, sDead, sBrk, sCnt, sAsg, sFor, dNm, dTm, dC, dOp1, dOp2, dOpN, dMt, dMut, dCall, dLst, dTup, dNil, dCons, dVn, dVc, dSl, dSl3, dNoP, dPrt, dIf, dAndV, dOrV, dNotV, dBv, dTru, dNotT, dAndT, dOrT, dChn, dEqQ, dRpQ, qOp, qNil, qCons, qLs, qTp, dSrc, dRng1, dRng2, dZip2, dEnum, dComp, dYes, gNm, gTp, gCn, gNi, gIt, e_var, e_var1, e_var2, e_var3, e_var4, e_mov, e_mov1, e_mov2, e_mov3, e_mov4, e_tr1, e_tr2, e_tr3, e_tr4, e_tr5, e_own1, e_own2, e_reo1, e_reo2, e_of1, e_of2, e_pin1, e_pin2, e_pin3, e_arg1, e_arg2, e_arg3, e_arg4, e_isarg1, e_isarg2, e_conv1, e_conv2, e_conv3, e_conv4, e_conv5, e_conv6, e_sown1, e_sown2, e_sown3, e_sown4, e_put1, e_put2, e_po1, e_po2, e_p1, e_p2, e_ao1, e_ao2, e_nd0, e_nd1, e_nd2, e_sl, e_get1, e_get2, e_is, e_all, e_gets0, e_gets1, e_gets2, e_tms0, e_tms1, e_qg1, e_qg2, e_qg3, e_qgs0, e_qgs1, e_its1, e_its2, e_its3, e_its4, e_jts1, e_jts2, e_jts4, e_mt1, e_mt2, e_ty1, e_add1, e_add2, e_add3, e_sub, e_mul1, e_mul2, e_mul3, e_fdiv, e_mod, e_pow, e_neg, e_len1, e_len2, e_len3, e_len4, e_int1, e_int2, e_abs, e_max, e_min, e_ix1, e_ix2, e_ix3, e_ix4, e_eq1, e_eq2, e_eq3, e_lt1, e_le1, e_gt1, e_ge1, e_lt2, e_in1, e_app, e_ext, e_rev, e_clr, e_set, e_sl1, e_sl2, e_sl3, e_sl4, e_count, e_f1, e_f2, e_osh, e_owh, e_one, e_tt1, e_tt2, e_ctg1, e_ctg2, e_cn0, e_cn1, e_wi0, e_wi1, e_re0, e_re1, e_ifb1, e_ifb2, e_nm0, e_nm1, e_nm2, e_fa0, e_fa1, e_sum, e_allb, e_anyb, e_sp1, e_sp2, e_sp3, e_at0, e_at1, e_at2, e_at3, e_at4, e_at5, e_ixn40, e_ixn41, e_ixn42, e_ixn43, e_cp1, e_cp2, e_cp3, e_cp4, e_cp5, forall_eq, List.getD_cons_zero, List.getD_cons_succ, List.getD_nil, List.set_cons_zero, List.set_cons_succ, List.map_cons, List.map_nil, Option.map_some, Option.map_none, Option.bind_some, Option.bind_none, Option.getD_some, Option.some.injEq, exists_eq_left', exists_eq_left, exists_eq', exists_eq, decide_eq_true_eq, List.length_map, exists_eq_right, exists_and_left, exists_and_right, Option.isSome_some, T.int.injEq, T.str.injEq, T.lst.injEq, T.tup.injEq, T.bl.injEq, List.cons.injEq, Prod.mk.injEq, Hn.tm.injEq, true_and, and_true, and_assoc, and_self, ne_eq, not_false_eq_true, not_true_eq_false, ite_true, ite_false, if_true, if_false, reduceIte, reduceCtorEq, Bool.false_eq_true, false_and, and_false, imp_self, forall_const, implies_true, List.length_cons, List.length_nil, Nat.reduceAdd, Nat.reduceEqDiff, Bool.false_bne, Bool.true_bne, Bool.not_false, Bool.not_true, List.nil_append, List.cons_append, Int.reduceToNat, Int.reducePow, Int.reduceMul, Int.reduceSub, Int.reduceAdd, Int.reduceNeg, c, decide_true, h8, B__law_word_1, e_sdraw]
        refine ⟨by omega, by omega, by omega, ir, by decide, log_small (by decide) (by decide), fun t1 r1 i1 x1 y1 => ?_⟩
        obtain ⟨ch, hm, e⟩ := atI_in (xs := [97, 98]) x1 y1
        have hc : ch = 97 ∨ ch = 98 := by simp at hm; omega
        simp only [e, Option.isSome_some, Option.getD_some, true_and]
        refine ⟨by omega, i1, by decide, L9, fun t2 r2 i2 x2 y2 => ?_⟩
        have fk := fin t2 ch (1 + r2) (.sh (.str [ch])) i2 rfl hc (by omega) (by omega)
        refine ⟨by omega, by omega, by omega, by omega, by rw [len_rep]; omega, fk⟩
      · simp only [sSeq, sSet, sPar, sIf, sRet, sRetN, sDrop, sNext, sDead, sBrk, sCnt, sAsg, sFor, dNm, dTm, dC, dOp1, dOp2, dOpN, dMt, dMut, dCall, dLst, dTup, dNil, dCons, dVn, dVc, dSl, dSl3, dNoP, dPrt, dIf, dAndV, dOrV, dNotV, dBv, dTru, dNotT, dAndT, dOrT, dChn, dEqQ, dRpQ, qOp, qNil, qCons, qLs, qTp, dSrc, dRng1, dRng2, dZip2, dEnum, dComp, dYes, gNm, gTp, gCn, gNi, gIt, e_var, e_var1, e_var2, e_var3, e_var4, e_mov, e_mov1, e_mov2, e_mov3, e_mov4, e_tr1, e_tr2, e_tr3, e_tr4, e_tr5, e_own1, e_own2, e_reo1, e_reo2, e_of1, e_of2, e_pin1, e_pin2, e_pin3, e_arg1, e_arg2, e_arg3, e_arg4, e_isarg1, e_isarg2, e_conv1, e_conv2, e_conv3, e_conv4, e_conv5, e_conv6, e_sown1, e_sown2, e_sown3, e_sown4, e_put1, e_put2, e_po1, e_po2, e_p1, e_p2, e_ao1, e_ao2, e_nd0, e_nd1, e_nd2, e_sl, e_get1, e_get2, e_is, e_all, e_gets0, e_gets1, e_gets2, e_tms0, e_tms1, e_qg1, e_qg2, e_qg3, e_qgs0, e_qgs1, e_its1, e_its2, e_its3, e_its4, e_jts1, e_jts2, e_jts4, e_mt1, e_mt2, e_ty1, e_add1, e_add2, e_add3, e_sub, e_mul1, e_mul2, e_mul3, e_fdiv, e_mod, e_pow, e_neg, e_len1, e_len2, e_len3, e_len4, e_int1, e_int2, e_abs, e_max, e_min, e_ix1, e_ix2, e_ix3, e_ix4, e_eq1, e_eq2, e_eq3, e_lt1, e_le1, e_gt1, e_ge1, e_lt2, e_in1, e_app, e_ext, e_rev, e_clr, e_set, e_sl1, e_sl2, e_sl3, e_sl4, e_count, e_f1, e_f2, e_osh, e_owh, e_one, e_tt1, e_tt2, e_ctg1, e_ctg2, e_cn0, e_cn1, e_wi0, e_wi1, e_re0, e_re1, e_ifb1, e_ifb2, e_nm0, e_nm1, e_nm2, e_fa0, e_fa1, e_sum, e_allb, e_anyb, e_sp1, e_sp2, e_sp3, e_at0, e_at1, e_at2, e_at3, e_at4, e_at5, e_ixn40, e_ixn41, e_ixn42, e_ixn43, e_cp1, e_cp2, e_cp3, e_cp4, e_cp5, forall_eq, List.getD_cons_zero, List.getD_cons_succ, List.getD_nil, List.set_cons_zero, List.set_cons_succ, List.map_cons, List.map_nil, Option.map_some, Option.map_none, Option.bind_some, Option.bind_none, Option.getD_some, Option.some.injEq, exists_eq_left', exists_eq_left, exists_eq', exists_eq, decide_eq_true_eq, List.length_map, exists_eq_right, exists_and_left, exists_and_right, Option.isSome_some, T.int.injEq, T.str.injEq, T.lst.injEq, T.tup.injEq, T.bl.injEq, List.cons.injEq, Prod.mk.injEq, Hn.tm.injEq, true_and, and_true, and_assoc, and_self, ne_eq, not_false_eq_true, not_true_eq_false, ite_true, ite_false, if_true, if_false, reduceIte, reduceCtorEq, Bool.false_eq_true, false_and, and_false, imp_self, forall_const, implies_true, List.length_cons, List.length_nil, Nat.reduceAdd, Nat.reduceEqDiff, Bool.false_bne, Bool.true_bne, Bool.not_false, Bool.not_true, List.nil_append, List.cons_append, Int.reduceToNat, Int.reducePow, Int.reduceMul, Int.reduceSub, Int.reduceAdd, Int.reduceNeg, c, decide_true, h8, B__law_word_1, e_sdraw]
        refine ⟨by omega, by omega, by omega, ir, by decide, log_small (by decide) (by decide), fun t1 r1 i1 x1 y1 => ?_⟩
        obtain ⟨ch, hm, e⟩ := atI_in (xs := [98, 98, 98, 97]) x1 y1
        have hc : ch = 97 ∨ ch = 98 := by simp at hm; omega
        simp only [e, Option.isSome_some, Option.getD_some, true_and]
        refine ⟨by omega, i1, by decide, L9, fun t2 r2 i2 x2 y2 => ?_⟩
        have fk := fin t2 ch 1 (.sh (.str [ch])) i2 rfl hc (by omega) (by omega)
        refine ⟨by omega, by omega, by omega, by omega, by rw [len_rep]; omega, fk⟩
      · simp only [sSeq, sSet, sPar, sIf, sRet, sRetN, sDrop, sNext, sDead, sBrk, sCnt, sAsg, sFor, dNm, dTm, dC, dOp1, dOp2, dOpN, dMt, dMut, dCall, dLst, dTup, dNil, dCons, dVn, dVc, dSl, dSl3, dNoP, dPrt, dIf, dAndV, dOrV, dNotV, dBv, dTru, dNotT, dAndT, dOrT, dChn, dEqQ, dRpQ, qOp, qNil, qCons, qLs, qTp, dSrc, dRng1, dRng2, dZip2, dEnum, dComp, dYes, gNm, gTp, gCn, gNi, gIt, e_var, e_var1, e_var2, e_var3, e_var4, e_mov, e_mov1, e_mov2, e_mov3, e_mov4, e_tr1, e_tr2, e_tr3, e_tr4, e_tr5, e_own1, e_own2, e_reo1, e_reo2, e_of1, e_of2, e_pin1, e_pin2, e_pin3, e_arg1, e_arg2, e_arg3, e_arg4, e_isarg1, e_isarg2, e_conv1, e_conv2, e_conv3, e_conv4, e_conv5, e_conv6, e_sown1, e_sown2, e_sown3, e_sown4, e_put1, e_put2, e_po1, e_po2, e_p1, e_p2, e_ao1, e_ao2, e_nd0, e_nd1, e_nd2, e_sl, e_get1, e_get2, e_is, e_all, e_gets0, e_gets1, e_gets2, e_tms0, e_tms1, e_qg1, e_qg2, e_qg3, e_qgs0, e_qgs1, e_its1, e_its2, e_its3, e_its4, e_jts1, e_jts2, e_jts4, e_mt1, e_mt2, e_ty1, e_add1, e_add2, e_add3, e_sub, e_mul1, e_mul2, e_mul3, e_fdiv, e_mod, e_pow, e_neg, e_len1, e_len2, e_len3, e_len4, e_int1, e_int2, e_abs, e_max, e_min, e_ix1, e_ix2, e_ix3, e_ix4, e_eq1, e_eq2, e_eq3, e_lt1, e_le1, e_gt1, e_ge1, e_lt2, e_in1, e_app, e_ext, e_rev, e_clr, e_set, e_sl1, e_sl2, e_sl3, e_sl4, e_count, e_f1, e_f2, e_osh, e_owh, e_one, e_tt1, e_tt2, e_ctg1, e_ctg2, e_cn0, e_cn1, e_wi0, e_wi1, e_re0, e_re1, e_ifb1, e_ifb2, e_nm0, e_nm1, e_nm2, e_fa0, e_fa1, e_sum, e_allb, e_anyb, e_sp1, e_sp2, e_sp3, e_at0, e_at1, e_at2, e_at3, e_at4, e_at5, e_ixn40, e_ixn41, e_ixn42, e_ixn43, e_cp1, e_cp2, e_cp3, e_cp4, e_cp5, forall_eq, List.getD_cons_zero, List.getD_cons_succ, List.getD_nil, List.set_cons_zero, List.set_cons_succ, List.map_cons, List.map_nil, Option.map_some, Option.map_none, Option.bind_some, Option.bind_none, Option.getD_some, Option.some.injEq, exists_eq_left', exists_eq_left, exists_eq', exists_eq, decide_eq_true_eq, List.length_map, exists_eq_right, exists_and_left, exists_and_right, Option.isSome_some, T.int.injEq, T.str.injEq, T.lst.injEq, T.tup.injEq, T.bl.injEq, List.cons.injEq, Prod.mk.injEq, Hn.tm.injEq, true_and, and_true, and_assoc, and_self, ne_eq, not_false_eq_true, not_true_eq_false, ite_true, ite_false, if_true, if_false, reduceIte, reduceCtorEq, Bool.false_eq_true, false_and, and_false, imp_self, forall_const, implies_true, List.length_cons, List.length_nil, Nat.reduceAdd, Nat.reduceEqDiff, Bool.false_bne, Bool.true_bne, Bool.not_false, Bool.not_true, List.nil_append, List.cons_append, Int.reduceToNat, Int.reducePow, Int.reduceMul, Int.reduceSub, Int.reduceAdd, Int.reduceNeg, c, decide_true, h8, B__law_word_1, e_sdraw]
        refine ⟨by omega, by omega, by omega, ir, by decide, log_small (by decide) (by decide), fun t1 r1 i1 x1 y1 => ?_⟩
        obtain ⟨ch, hm, e⟩ := atI_in (xs := [98]) x1 y1
        have hc : ch = 97 ∨ ch = 98 := by simp at hm; omega
        simp only [e, Option.isSome_some, Option.getD_some, true_and]
        refine ⟨by omega, i1, by decide, L9, fun t2 r2 i2 x2 y2 => ?_⟩
        have fk := fin t2 ch 1 (.sh (.str [ch])) i2 rfl hc (by omega) (by omega)
        refine ⟨by omega, by omega, by omega, by omega, by rw [len_rep]; omega, fk⟩
    · simp only [sSeq, sSet, sPar, sIf, sRet, sRetN, sDrop, sNext, sDead, sBrk, sCnt, sAsg, sFor, dNm, dTm, dC, dOp1, dOp2, dOpN, dMt, dMut, dCall, dLst, dTup, dNil, dCons, dVn, dVc, dSl, dSl3, dNoP, dPrt, dIf, dAndV, dOrV, dNotV, dBv, dTru, dNotT, dAndT, dOrT, dChn, dEqQ, dRpQ, qOp, qNil, qCons, qLs, qTp, dSrc, dRng1, dRng2, dZip2, dEnum, dComp, dYes, gNm, gTp, gCn, gNi, gIt, e_var, e_var1, e_var2, e_var3, e_var4, e_mov, e_mov1, e_mov2, e_mov3, e_mov4, e_tr1, e_tr2, e_tr3, e_tr4, e_tr5, e_own1, e_own2, e_reo1, e_reo2, e_of1, e_of2, e_pin1, e_pin2, e_pin3, e_arg1, e_arg2, e_arg3, e_arg4, e_isarg1, e_isarg2, e_conv1, e_conv2, e_conv3, e_conv4, e_conv5, e_conv6, e_sown1, e_sown2, e_sown3, e_sown4, e_put1, e_put2, e_po1, e_po2, e_p1, e_p2, e_ao1, e_ao2, e_nd0, e_nd1, e_nd2, e_sl, e_get1, e_get2, e_is, e_all, e_gets0, e_gets1, e_gets2, e_tms0, e_tms1, e_qg1, e_qg2, e_qg3, e_qgs0, e_qgs1, e_its1, e_its2, e_its3, e_its4, e_jts1, e_jts2, e_jts4, e_mt1, e_mt2, e_ty1, e_add1, e_add2, e_add3, e_sub, e_mul1, e_mul2, e_mul3, e_fdiv, e_mod, e_pow, e_neg, e_len1, e_len2, e_len3, e_len4, e_int1, e_int2, e_abs, e_max, e_min, e_ix1, e_ix2, e_ix3, e_ix4, e_eq1, e_eq2, e_eq3, e_lt1, e_le1, e_gt1, e_ge1, e_lt2, e_in1, e_app, e_ext, e_rev, e_clr, e_set, e_sl1, e_sl2, e_sl3, e_sl4, e_count, e_f1, e_f2, e_osh, e_owh, e_one, e_tt1, e_tt2, e_ctg1, e_ctg2, e_cn0, e_cn1, e_wi0, e_wi1, e_re0, e_re1, e_ifb1, e_ifb2, e_nm0, e_nm1, e_nm2, e_fa0, e_fa1, e_sum, e_allb, e_anyb, e_sp1, e_sp2, e_sp3, e_at0, e_at1, e_at2, e_at3, e_at4, e_at5, e_ixn40, e_ixn41, e_ixn42, e_ixn43, e_cp1, e_cp2, e_cp3, e_cp4, e_cp5, forall_eq, List.getD_cons_zero, List.getD_cons_succ, List.getD_nil, List.set_cons_zero, List.set_cons_succ, List.map_cons, List.map_nil, Option.map_some, Option.map_none, Option.bind_some, Option.bind_none, Option.getD_some, Option.some.injEq, exists_eq_left', exists_eq_left, exists_eq', exists_eq, decide_eq_true_eq, List.length_map, exists_eq_right, exists_and_left, exists_and_right, Option.isSome_some, T.int.injEq, T.str.injEq, T.lst.injEq, T.tup.injEq, T.bl.injEq, List.cons.injEq, Prod.mk.injEq, Hn.tm.injEq, true_and, and_true, and_assoc, and_self, ne_eq, not_false_eq_true, not_true_eq_false, ite_true, ite_false, if_true, if_false, reduceIte, reduceCtorEq, Bool.false_eq_true, false_and, and_false, imp_self, forall_const, implies_true, List.length_cons, List.length_nil, Nat.reduceAdd, Nat.reduceEqDiff, Bool.false_bne, Bool.true_bne, Bool.not_false, Bool.not_true, List.nil_append, List.cons_append, Int.reduceToNat, Int.reducePow, Int.reduceMul, Int.reduceSub, Int.reduceAdd, Int.reduceNeg, c, decide_false]
      exact ⟨by omega, q t l s8 ir h8 ab (by omega) hl⟩
/-- one draw each: a comprehension of letters -/
theorem comp_ab {vs : List Nat} {k : List T → Rho → Prop} {tt : Dn Bool} {te : Dn Rv} {g : Tg} (mk : T → Rho) (st : ∀ t, IsReel t → ∀ (x : T) (A : T → Rho → Prop) (B : Rho → Prop), (∀ t' c, IsReel t' → (c = 97 ∨ c = 98) → A (.str [c]) (mk t')) → (∃ i, x = T.int i) →
      cTg g x (mk t) fun ρ1 => tt ρ1 ⟨fun b ρ2 => ifB b (te ρ2 ⟨fun r ρ3 => A r.2 (wipeR ρ3 vs), noex⟩) (B (wipeR ρ2 vs)), noex⟩) :
    ∀ (xs : List Int) (acc : List Nat) (t : T), IsReel t → abS acc → acc.length + xs.length ≤ sizeLine → (∀ t' l, IsReel t' → abS l → l.length = acc.length + xs.length → k (l.map fun c => .str [c]) (mk t')) → compD vs g tt te k (xs.map T.int) (acc.map fun c => .str [c]) (mk t)
  | [], acc, t, ir, ab, hl, q => by rw [List.map_nil, compD_nil]; exact q t acc ir ab (by simp)
  | x :: xs, acc, t, ir, ab, hl, q => by
    rw [List.length_cons] at hl
    refine compD_step fun K hK => st t ir (.int x) (fun u ρ' => (acc.map fun c => T.str [c]).length < sizeLine ∧ K ((acc.map fun c => T.str [c]) ++ [u]) ρ') (fun ρ' => K (acc.map fun c => T.str [c]) ρ') (fun t' c i' hc => ?_) ⟨x, rfl⟩
    refine ⟨by rw [List.length_map]; omega, hK _ _ ?_⟩
    have := comp_ab mk st xs (acc ++ [c]) t' i' (abS_app ab fun d m => by rw [List.mem_singleton.mp m]; exact hc) (by simp; omega) (fun t' l a b e => q t' l a b (by rw [e]; simp; omega))
    rw [List.map_append] at this
    exact this
theorem h__law_word (ars : Rho) (Q : Po Rv) (h : SWord ars Q) : D__law_word SDraw (ars ++ List.replicate 7 .no) (fwish ars Q) := by
  obtain ⟨t, low, high, rfl, ir, h0, h1, h2, q⟩ := h
  show D__law_word SDraw [.io t, .sh (.int low), .sh (.int high), .no, .no, .no, .no, .no, .no, .no] _
  have hs := sizeLine_eq
  simp only [sSeq, sSet, sPar, sIf, sRet, sRetN, sDrop, sNext, sDead, sBrk, sCnt, sAsg, sFor, dNm, dTm, dC, dOp1, dOp2, dOpN, dMt, dMut, dCall, dLst, dTup, dNil, dCons, dVn, dVc, dSl, dSl3, dNoP, dPrt, dIf, dAndV, dOrV, dNotV, dBv, dTru, dNotT, dAndT, dOrT, dChn, dEqQ, dRpQ, qOp, qNil, qCons, qLs, qTp, dSrc, dRng1, dRng2, dZip2, dEnum, dComp, dYes, gNm, gTp, gCn, gNi, gIt, e_var, e_var1, e_var2, e_var3, e_var4, e_mov, e_mov1, e_mov2, e_mov3, e_mov4, e_tr1, e_tr2, e_tr3, e_tr4, e_tr5, e_own1, e_own2, e_reo1, e_reo2, e_of1, e_of2, e_pin1, e_pin2, e_pin3, e_arg1, e_arg2, e_arg3, e_arg4, e_isarg1, e_isarg2, e_conv1, e_conv2, e_conv3, e_conv4, e_conv5, e_conv6, e_sown1, e_sown2, e_sown3, e_sown4, e_put1, e_put2, e_po1, e_po2, e_p1, e_p2, e_ao1, e_ao2, e_nd0, e_nd1, e_nd2, e_sl, e_get1, e_get2, e_is, e_all, e_gets0, e_gets1, e_gets2, e_tms0, e_tms1, e_qg1, e_qg2, e_qg3, e_qgs0, e_qgs1, e_its1, e_its2, e_its3, e_its4, e_jts1, e_jts2, e_jts4, e_mt1, e_mt2, e_ty1, e_add1, e_add2, e_add3, e_sub, e_mul1, e_mul2, e_mul3, e_fdiv, e_mod, e_pow, e_neg, e_len1, e_len2, e_len3, e_len4, e_int1, e_int2, e_abs, e_max, e_min, e_ix1, e_ix2, e_ix3, e_ix4, e_eq1, e_eq2, e_eq3, e_lt1, e_le1, e_gt1, e_ge1, e_lt2, e_in1, e_app, e_ext, e_rev, e_clr, e_set, e_sl1, e_sl2, e_sl3, e_sl4, e_count, e_f1, e_f2, e_osh, e_owh, e_one, e_tt1, e_tt2, e_ctg1, e_ctg2, e_cn0, e_cn1, e_wi0, e_wi1, e_re0, e_re1, e_ifb1, e_ifb2, e_nm0, e_nm1, e_nm2, e_fa0, e_fa1, e_sum, e_allb, e_anyb, e_sp1, e_sp2, e_sp3, e_at0, e_at1, e_at2, e_at3, e_at4, e_at5, e_ixn40, e_ixn41, e_ixn42, e_ixn43, e_cp1, e_cp2, e_cp3, e_cp4, e_cp5, forall_eq, List.getD_cons_zero, List.getD_cons_succ, List.getD_nil, List.set_cons_zero, List.set_cons_succ, List.map_cons, List.map_nil, Option.map_some, Option.map_none, Option.bind_some, Option.bind_none, Option.getD_some, Option.some.injEq, exists_eq_left', exists_eq_left, exists_eq', exists_eq, decide_eq_true_eq, List.length_map, exists_eq_right, exists_and_left, exists_and_right, Option.isSome_some, T.int.injEq, T.str.injEq, T.lst.injEq, T.tup.injEq, T.bl.injEq, List.cons.injEq, Prod.mk.injEq, Hn.tm.injEq, true_and, and_true, and_assoc, and_self, ne_eq, not_false_eq_true, not_true_eq_false, ite_true, ite_false, if_true, if_false, reduceIte, reduceCtorEq, Bool.false_eq_true, false_and, and_false, imp_self, forall_const, implies_true, List.length_cons, List.length_nil, Nat.reduceAdd, Nat.reduceEqDiff, Bool.false_bne, Bool.true_bne, Bool.not_false, Bool.not_true, List.nil_append, List.cons_append, Int.reduceToNat, Int.reducePow, Int.reduceMul, Int.reduceSub, Int.reduceAdd, Int.reduceNeg, D__law_word, e_sdraw]
  refine ⟨ir, by omega, log_small (by omega) (by omega), fun t1 r1 i1 x1 y1 => ⟨i1, by decide, log_small (by decide) (by decide), fun t2 way i2 x2 y2 => ?_⟩⟩
  refine ⟨fun w4 => ⟨i2, by decide, log_small (by decide) (by decide), fun t3 r3 i3 x3 y3 => ⟨⟨by omega, by omega⟩, ?_⟩⟩, fun w4 => ?_⟩
  · rw [rangeT_eq]
    have l0 : low + r1 ≤ 10000 := by omega
    refine comp_ab (fun t' => [Sl.io t', Sl.sh (T.int low), Sl.sh (T.int high), Sl.sh (T.int (low + r1)), Sl.sh (T.int way), Sl.sh (T.str []), Sl.no, Sl.no, Sl.no, Sl.no]) (fun t' it x A B hA hx => ?_) _ [] t3 i3 abS_nil (by simp; omega) (fun t' l it ab hl => ?_)
    · obtain ⟨i, rfl⟩ := hx
      simp only [sSeq, sSet, sPar, sIf, sRet, sRetN, sDrop, sNext, sDead, sBrk, sCnt, sAsg, sFor, dNm, dTm, dC, dOp1, dOp2, dOpN, dMt, dMut, dCall, dLst, dTup, dNil, dCons, dVn, dVc, dSl, dSl3, dNoP, dPrt, dIf, dAndV, dOrV, dNotV, dBv, dTru, dNotT, dAndT, dOrT, dChn, dEqQ, dRpQ, qOp, qNil, qCons, qLs, qTp, dSrc, dRng1, dRng2, dZip2, dEnum, dComp, dYes, gNm, gTp, gCn, gNi, gIt, e_var, e_var1, e_var2, e_var3, e_var4, e_mov, e_mov1, e_mov2, e_mov3, e_mov4, e_tr1, e_tr2, e_tr3, e_tr4, e_tr5, e_own1, e_own2, e_reo1, e_reo2, e_of1, e_of2, e_pin1, e_pin2, e_pin3, e_arg1, e_arg2, e_arg3, e_arg4, e_isarg1, e_isarg2, e_conv1, e_conv2, e_conv3, e_conv4, e_conv5, e_conv6, e_sown1, e_sown2, e_sown3, e_sown4, e_put1, e_put2, e_po1, e_po2, e_p1, e_p2, e_ao1, e_ao2, e_nd0, e_nd1, e_nd2, e_sl, e_get1, e_get2, e_is, e_all, e_gets0, e_gets1, e_gets2, e_tms0, e_tms1, e_qg1, e_qg2, e_qg3, e_qgs0, e_qgs1, e_its1, e_its2, e_its3, e_its4, e_jts1, e_jts2, e_jts4, e_mt1, e_mt2, e_ty1, e_add1, e_add2, e_add3, e_sub, e_mul1, e_mul2, e_mul3, e_fdiv, e_mod, e_pow, e_neg, e_len1, e_len2, e_len3, e_len4, e_int1, e_int2, e_abs, e_max, e_min, e_ix1, e_ix2, e_ix3, e_ix4, e_eq1, e_eq2, e_eq3, e_lt1, e_le1, e_gt1, e_ge1, e_lt2, e_in1, e_app, e_ext, e_rev, e_clr, e_set, e_sl1, e_sl2, e_sl3, e_sl4, e_count, e_f1, e_f2, e_osh, e_owh, e_one, e_tt1, e_tt2, e_ctg1, e_ctg2, e_cn0, e_cn1, e_wi0, e_wi1, e_re0, e_re1, e_ifb1, e_ifb2, e_nm0, e_nm1, e_nm2, e_fa0, e_fa1, e_sum, e_allb, e_anyb, e_sp1, e_sp2, e_sp3, e_at0, e_at1, e_at2, e_at3, e_at4, e_at5, e_ixn40, e_ixn41, e_ixn42, e_ixn43, e_cp1, e_cp2, e_cp3, e_cp4, e_cp5, forall_eq, List.getD_cons_zero, List.getD_cons_succ, List.getD_nil, List.set_cons_zero, List.set_cons_succ, List.map_cons, List.map_nil, Option.map_some, Option.map_none, Option.bind_some, Option.bind_none, Option.getD_some, Option.some.injEq, exists_eq_left', exists_eq_left, exists_eq', exists_eq, decide_eq_true_eq, List.length_map, exists_eq_right, exists_and_left, exists_and_right, Option.isSome_some, T.int.injEq, T.str.injEq, T.lst.injEq, T.tup.injEq, T.bl.injEq, List.cons.injEq, Prod.mk.injEq, Hn.tm.injEq, true_and, and_true, and_assoc, and_self, ne_eq, not_false_eq_true, not_true_eq_false, ite_true, ite_false, if_true, if_false, reduceIte, reduceCtorEq, Bool.false_eq_true, false_and, and_false, imp_self, forall_const, implies_true, List.length_cons, List.length_nil, Nat.reduceAdd, Nat.reduceEqDiff, Bool.false_bne, Bool.true_bne, Bool.not_false, Bool.not_true, List.nil_append, List.cons_append, Int.reduceToNat, Int.reducePow, Int.reduceMul, Int.reduceSub, Int.reduceAdd, Int.reduceNeg, e_sdraw]
      refine ⟨it, by decide, log_small (by decide) (by decide), fun t5 r5 i5 x5 y5 => ?_⟩
      obtain ⟨ch, hm, e⟩ := atI_in (xs := [97, 98]) x5 y5
      have hc : ch = 97 ∨ ch = 98 := by simp at hm; omega
      simp only [e, Option.isSome_some, Option.getD_some, true_and, and_true]
      exact ⟨by omega, hA t5 ch i5 hc⟩
    · have hl : l.length = (1 + r3).toNat := by simpa using hl
      simp only [sSeq, sSet, sPar, sIf, sRet, sRetN, sDrop, sNext, sDead, sBrk, sCnt, sAsg, sFor, dNm, dTm, dC, dOp1, dOp2, dOpN, dMt, dMut, dCall, dLst, dTup, dNil, dCons, dVn, dVc, dSl, dSl3, dNoP, dPrt, dIf, dAndV, dOrV, dNotV, dBv, dTru, dNotT, dAndT, dOrT, dChn, dEqQ, dRpQ, qOp, qNil, qCons, qLs, qTp, dSrc, dRng1, dRng2, dZip2, dEnum, dComp, dYes, gNm, gTp, gCn, gNi, gIt, e_var, e_var1, e_var2, e_var3, e_var4, e_mov, e_mov1, e_mov2, e_mov3, e_mov4, e_tr1, e_tr2, e_tr3, e_tr4, e_tr5, e_own1, e_own2, e_reo1, e_reo2, e_of1, e_of2, e_pin1, e_pin2, e_pin3, e_arg1, e_arg2, e_arg3, e_arg4, e_isarg1, e_isarg2, e_conv1, e_conv2, e_conv3, e_conv4, e_conv5, e_conv6, e_sown1, e_sown2, e_sown3, e_sown4, e_put1, e_put2, e_po1, e_po2, e_p1, e_p2, e_ao1, e_ao2, e_nd0, e_nd1, e_nd2, e_sl, e_get1, e_get2, e_is, e_all, e_gets0, e_gets1, e_gets2, e_tms0, e_tms1, e_qg1, e_qg2, e_qg3, e_qgs0, e_qgs1, e_its1, e_its2, e_its3, e_its4, e_jts1, e_jts2, e_jts4, e_mt1, e_mt2, e_ty1, e_add1, e_add2, e_add3, e_sub, e_mul1, e_mul2, e_mul3, e_fdiv, e_mod, e_pow, e_neg, e_len1, e_len2, e_len3, e_len4, e_int1, e_int2, e_abs, e_max, e_min, e_ix1, e_ix2, e_ix3, e_ix4, e_eq1, e_eq2, e_eq3, e_lt1, e_le1, e_gt1, e_ge1, e_lt2, e_in1, e_app, e_ext, e_rev, e_clr, e_set, e_sl1, e_sl2, e_sl3, e_sl4, e_count, e_f1, e_f2, e_osh, e_owh, e_one, e_tt1, e_tt2, e_ctg1, e_ctg2, e_cn0, e_cn1, e_wi0, e_wi1, e_re0, e_re1, e_ifb1, e_ifb2, e_nm0, e_nm1, e_nm2, e_fa0, e_fa1, e_sum, e_allb, e_anyb, e_sp1, e_sp2, e_sp3, e_at0, e_at1, e_at2, e_at3, e_at4, e_at5, e_ixn40, e_ixn41, e_ixn42, e_ixn43, e_cp1, e_cp2, e_cp3, e_cp4, e_cp5, forall_eq, List.getD_cons_zero, List.getD_cons_succ, List.getD_nil, List.set_cons_zero, List.set_cons_succ, List.map_cons, List.map_nil, Option.map_some, Option.map_none, Option.bind_some, Option.bind_none, Option.getD_some, Option.some.injEq, exists_eq_left', exists_eq_left, exists_eq', exists_eq, decide_eq_true_eq, List.length_map, exists_eq_right, exists_and_left, exists_and_right, Option.isSome_some, T.int.injEq, T.str.injEq, T.lst.injEq, T.tup.injEq, T.bl.injEq, List.cons.injEq, Prod.mk.injEq, Hn.tm.injEq, true_and, and_true, and_assoc, and_self, ne_eq, not_false_eq_true, not_true_eq_false, ite_true, ite_false, if_true, if_false, reduceIte, reduceCtorEq, Bool.false_eq_true, false_and, and_false, imp_self, forall_const, implies_true, List.length_cons, List.length_nil, Nat.reduceAdd, Nat.reduceEqDiff, Bool.false_bne, Bool.true_bne, Bool.not_false, Bool.not_true, List.nil_append, List.cons_append, Int.reduceToNat, Int.reducePow, Int.reduceMul, Int.reduceSub, Int.reduceAdd, Int.reduceNeg, join_signs]
      have c1 : cutL (List.replicate (low + r1).toNat l).flatten none (some (low + r1)) = (List.replicate (low + r1).toNat l).flatten.take (low + r1).toNat := cut_toI _ (by omega)
      have c2 : (List.replicate (low + r1).toNat l).flatten.length = (low + r1).toNat * l.length := by rw [List.length_flatten, List.map_replicate, List.sum_replicate_nat]
      have c3 : (low + r1).toNat ≤ (low + r1).toNat * l.length := Nat.le_mul_of_pos_right _ (by omega)
      have c4 : (low + r1).toNat * l.length ≤ 10000 * 5 := Nat.mul_le_mul (by omega) (by omega)
      rw [c1]
      refine ⟨by omega, by omega, by omega, by rw [Nat.mul_comm]; omega, by rw [c2]; omega, ?_⟩
      refine q t' _ it (abS_take (fun d m => ?_) _) ?_ ?_
      · obtain ⟨x, hx, hd⟩ := List.mem_flatten.mp m
        rw [List.eq_of_mem_replicate hx] at hd
        exact ab d hd
      · rw [List.length_take, c2]; omega
      · rw [List.length_take, c2]; omega
  · have w4' : way ≠ 4 := fun e => by rw [decide_eq_true e] at w4; cases w4
    refine ⟨_, loop__law_word _ (low + r1) way _ _ _ _ _ x2 y2 w4' (by omega) _ t2 [] _ i2 rfl abS_nil (by decide) (Nat.le_refl _) fun t' l s8 it h8 ab hl hm => ?_⟩
    simp only [sSeq, sSet, sPar, sIf, sRet, sRetN, sDrop, sNext, sDead, sBrk, sCnt, sAsg, sFor, dNm, dTm, dC, dOp1, dOp2, dOpN, dMt, dMut, dCall, dLst, dTup, dNil, dCons, dVn, dVc, dSl, dSl3, dNoP, dPrt, dIf, dAndV, dOrV, dNotV, dBv, dTru, dNotT, dAndT, dOrT, dChn, dEqQ, dRpQ, qOp, qNil, qCons, qLs, qTp, dSrc, dRng1, dRng2, dZip2, dEnum, dComp, dYes, gNm, gTp, gCn, gNi, gIt, e_var, e_var1, e_var2, e_var3, e_var4, e_mov, e_mov1, e_mov2, e_mov3, e_mov4, e_tr1, e_tr2, e_tr3, e_tr4, e_tr5, e_own1, e_own2, e_reo1, e_reo2, e_of1, e_of2, e_pin1, e_pin2, e_pin3, e_arg1, e_arg2, e_arg3, e_arg4, e_isarg1, e_isarg2, e_conv1, e_conv2, e_conv3, e_conv4, e_conv5, e_conv6, e_sown1, e_sown2, e_sown3, e_sown4, e_put1, e_put2, e_po1, e_po2, e_p1, e_p2, e_ao1, e_ao2, e_nd0, e_nd1, e_nd2, e_sl, e_get1, e_get2, e_is, e_all, e_gets0, e_gets1, e_gets2, e_tms0, e_tms1, e_qg1, e_qg2, e_qg3, e_qgs0, e_qgs1, e_its1, e_its2, e_its3, e_its4, e_jts1, e_jts2, e_jts4, e_mt1, e_mt2, e_ty1, e_add1, e_add2, e_add3, e_sub, e_mul1, e_mul2, e_mul3, e_fdiv, e_mod, e_pow, e_neg, e_len1, e_len2, e_len3, e_len4, e_int1, e_int2, e_abs, e_max, e_min, e_ix1, e_ix2, e_ix3, e_ix4, e_eq1, e_eq2, e_eq3, e_lt1, e_le1, e_gt1, e_ge1, e_lt2, e_in1, e_app, e_ext, e_rev, e_clr, e_set, e_sl1, e_sl2, e_sl3, e_sl4, e_count, e_f1, e_f2, e_osh, e_owh, e_one, e_tt1, e_tt2, e_ctg1, e_ctg2, e_cn0, e_cn1, e_wi0, e_wi1, e_re0, e_re1, e_ifb1, e_ifb2, e_nm0, e_nm1, e_nm2, e_fa0, e_fa1, e_sum, e_allb, e_anyb, e_sp1, e_sp2, e_sp3, e_at0, e_at1, e_at2, e_at3, e_at4, e_at5, e_ixn40, e_ixn41, e_ixn42, e_ixn43, e_cp1, e_cp2, e_cp3, e_cp4, e_cp5, forall_eq, List.getD_cons_zero, List.getD_cons_succ, List.getD_nil, List.set_cons_zero, List.set_cons_succ, List.map_cons, List.map_nil, Option.map_some, Option.map_none, Option.bind_some, Option.bind_none, Option.getD_some, Option.some.injEq, exists_eq_left', exists_eq_left, exists_eq', exists_eq, decide_eq_true_eq, List.length_map, exists_eq_right, exists_and_left, exists_and_right, Option.isSome_some, T.int.injEq, T.str.injEq, T.lst.injEq, T.tup.injEq, T.bl.injEq, List.cons.injEq, Prod.mk.injEq, Hn.tm.injEq, true_and, and_true, and_assoc, and_self, ne_eq, not_false_eq_true, not_true_eq_false, ite_true, ite_false, if_true, if_false, reduceIte, reduceCtorEq, Bool.false_eq_true, false_and, and_false, imp_self, forall_const, implies_true, List.length_cons, List.length_nil, Nat.reduceAdd, Nat.reduceEqDiff, Bool.false_bne, Bool.true_bne, Bool.not_false, Bool.not_true, List.nil_append, List.cons_append, Int.reduceToNat, Int.reducePow, Int.reduceMul, Int.reduceSub, Int.reduceAdd, Int.reduceNeg, e_sdraw]
    refine ⟨it, by omega, log_small (by omega) (by omega), fun t5 at_ i5 x5 y5 => ?_⟩
    have ck : cutL l none (some at_) = l.take at_.toNat := cut_toI l x5
    have ck1 : cutL l (some (at_ + 1)) none = l.drop (at_ + 1).toNat := cut_fromI l (by omega)
    have cz : ∀ m : List Nat, cutL m none (some (low + r1)) = m.take (low + r1).toNat := fun m => cut_toI m (by omega)
    refine ⟨fun w5 => ?_, fun w5 => ?_⟩
    · simp only [sSeq, sSet, sPar, sIf, sRet, sRetN, sDrop, sNext, sDead, sBrk, sCnt, sAsg, sFor, dNm, dTm, dC, dOp1, dOp2, dOpN, dMt, dMut, dCall, dLst, dTup, dNil, dCons, dVn, dVc, dSl, dSl3, dNoP, dPrt, dIf, dAndV, dOrV, dNotV, dBv, dTru, dNotT, dAndT, dOrT, dChn, dEqQ, dRpQ, qOp, qNil, qCons, qLs, qTp, dSrc, dRng1, dRng2, dZip2, dEnum, dComp, dYes, gNm, gTp, gCn, gNi, gIt, e_var, e_var1, e_var2, e_var3, e_var4, e_mov, e_mov1, e_mov2, e_mov3, e_mov4, e_tr1, e_tr2, e_tr3, e_tr4, e_tr5, e_own1, e_own2, e_reo1, e_reo2, e_of1, e_of2, e_pin1, e_pin2, e_pin3, e_arg1, e_arg2, e_arg3, e_arg4, e_isarg1, e_isarg2, e_conv1, e_conv2, e_conv3, e_conv4, e_conv5, e_conv6, e_sown1, e_sown2, e_sown3, e_sown4, e_put1, e_put2, e_po1, e_po2, e_p1, e_p2, e_ao1, e_ao2, e_nd0, e_nd1, e_nd2, e_sl, e_get1, e_get2, e_is, e_all, e_gets0, e_gets1, e_gets2, e_tms0, e_tms1, e_qg1, e_qg2, e_qg3, e_qgs0, e_qgs1, e_its1, e_its2, e_its3, e_its4, e_jts1, e_jts2, e_jts4, e_mt1, e_mt2, e_ty1, e_add1, e_add2, e_add3, e_sub, e_mul1, e_mul2, e_mul3, e_fdiv, e_mod, e_pow, e_neg, e_len1, e_len2, e_len3, e_len4, e_int1, e_int2, e_abs, e_max, e_min, e_ix1, e_ix2, e_ix3, e_ix4, e_eq1, e_eq2, e_eq3, e_lt1, e_le1, e_gt1, e_ge1, e_lt2, e_in1, e_app, e_ext, e_rev, e_clr, e_set, e_sl1, e_sl2, e_sl3, e_sl4, e_count, e_f1, e_f2, e_osh, e_owh, e_one, e_tt1, e_tt2, e_ctg1, e_ctg2, e_cn0, e_cn1, e_wi0, e_wi1, e_re0, e_re1, e_ifb1, e_ifb2, e_nm0, e_nm1, e_nm2, e_fa0, e_fa1, e_sum, e_allb, e_anyb, e_sp1, e_sp2, e_sp3, e_at0, e_at1, e_at2, e_at3, e_at4, e_at5, e_ixn40, e_ixn41, e_ixn42, e_ixn43, e_cp1, e_cp2, e_cp3, e_cp4, e_cp5, forall_eq, List.getD_cons_zero, List.getD_cons_succ, List.getD_nil, List.set_cons_zero, List.set_cons_succ, List.map_cons, List.map_nil, Option.map_some, Option.map_none, Option.bind_some, Option.bind_none, Option.getD_some, Option.some.injEq, exists_eq_left', exists_eq_left, exists_eq', exists_eq, decide_eq_true_eq, List.length_map, exists_eq_right, exists_and_left, exists_and_right, Option.isSome_some, T.int.injEq, T.str.injEq, T.lst.injEq, T.tup.injEq, T.bl.injEq, List.cons.injEq, Prod.mk.injEq, Hn.tm.injEq, true_and, and_true, and_assoc, and_self, ne_eq, not_false_eq_true, not_true_eq_false, ite_true, ite_false, if_true, if_false, reduceIte, reduceCtorEq, Bool.false_eq_true, false_and, and_false, imp_self, forall_const, implies_true, List.length_cons, List.length_nil, Nat.reduceAdd, Nat.reduceEqDiff, Bool.false_bne, Bool.true_bne, Bool.not_false, Bool.not_true, List.nil_append, List.cons_append, Int.reduceToNat, Int.reducePow, Int.reduceMul, Int.reduceSub, Int.reduceAdd, Int.reduceNeg, ck, ck1, cz]
      have ln : (l.take at_.toNat ++ [97] ++ l.drop (at_ + 1).toNat).length = min at_.toNat l.length + 1 + (l.length - (at_ + 1).toNat) := by simp; omega
      refine ⟨by omega, by rw [List.length_take]; omega, by omega, by rw [List.length_append, List.length_take, List.length_drop]; simp; omega, by rw [ln]; omega, ?_⟩
      refine q t5 _ i5 (abS_take (abS_app (abS_app (abS_take ab _) fun d m => .inl (List.mem_singleton.mp m)) (abS_drop ab _)) _) ?_ ?_
      · rw [List.length_take, ln]; omega
      · rw [List.length_take, ln]; omega
    · simp only [sSeq, sSet, sPar, sIf, sRet, sRetN, sDrop, sNext, sDead, sBrk, sCnt, sAsg, sFor, dNm, dTm, dC, dOp1, dOp2, dOpN, dMt, dMut, dCall, dLst, dTup, dNil, dCons, dVn, dVc, dSl, dSl3, dNoP, dPrt, dIf, dAndV, dOrV, dNotV, dBv, dTru, dNotT, dAndT, dOrT, dChn, dEqQ, dRpQ, qOp, qNil, qCons, qLs, qTp, dSrc, dRng1, dRng2, dZip2, dEnum, dComp, dYes, gNm, gTp, gCn, gNi, gIt, e_var, e_var1, e_var2, e_var3, e_var4, e_mov, e_mov1, e_mov2, e_mov3, e_mov4, e_tr1, e_tr2, e_tr3, e_tr4, e_tr5, e_own1, e_own2, e_reo1, e_reo2, e_of1, e_of2, e_pin1, e_pin2, e_pin3, e_arg1, e_arg2, e_arg3, e_arg4, e_isarg1, e_isarg2, e_conv1, e_conv2, e_conv3, e_conv4, e_conv5, e_conv6, e_sown1, e_sown2, e_sown3, e_sown4, e_put1, e_put2, e_po1, e_po2, e_p1, e_p2, e_ao1, e_ao2, e_nd0, e_nd1, e_nd2, e_sl, e_get1, e_get2, e_is, e_all, e_gets0, e_gets1, e_gets2, e_tms0, e_tms1, e_qg1, e_qg2, e_qg3, e_qgs0, e_qgs1, e_its1, e_its2, e_its3, e_its4, e_jts1, e_jts2, e_jts4, e_mt1, e_mt2, e_ty1, e_add1, e_add2, e_add3, e_sub, e_mul1, e_mul2, e_mul3, e_fdiv, e_mod, e_pow, e_neg, e_len1, e_len2, e_len3, e_len4, e_int1, e_int2, e_abs, e_max, e_min, e_ix1, e_ix2, e_ix3, e_ix4, e_eq1, e_eq2, e_eq3, e_lt1, e_le1, e_gt1, e_ge1, e_lt2, e_in1, e_app, e_ext, e_rev, e_clr, e_set, e_sl1, e_sl2, e_sl3, e_sl4, e_count, e_f1, e_f2, e_osh, e_owh, e_one, e_tt1, e_tt2, e_ctg1, e_ctg2, e_cn0, e_cn1, e_wi0, e_wi1, e_re0, e_re1, e_ifb1, e_ifb2, e_nm0, e_nm1, e_nm2, e_fa0, e_fa1, e_sum, e_allb, e_anyb, e_sp1, e_sp2, e_sp3, e_at0, e_at1, e_at2, e_at3, e_at4, e_at5, e_ixn40, e_ixn41, e_ixn42, e_ixn43, e_cp1, e_cp2, e_cp3, e_cp4, e_cp5, forall_eq, List.getD_cons_zero, List.getD_cons_succ, List.getD_nil, List.set_cons_zero, List.set_cons_succ, List.map_cons, List.map_nil, Option.map_some, Option.map_none, Option.bind_some, Option.bind_none, Option.getD_some, Option.some.injEq, exists_eq_left', exists_eq_left, exists_eq', exists_eq, decide_eq_true_eq, List.length_map, exists_eq_right, exists_and_left, exists_and_right, Option.isSome_some, T.int.injEq, T.str.injEq, T.lst.injEq, T.tup.injEq, T.bl.injEq, List.cons.injEq, Prod.mk.injEq, Hn.tm.injEq, true_and, and_true, and_assoc, and_self, ne_eq, not_false_eq_true, not_true_eq_false, ite_true, ite_false, if_true, if_false, reduceIte, reduceCtorEq, Bool.false_eq_true, false_and, and_false, imp_self, forall_const, implies_true, List.length_cons, List.length_nil, Nat.reduceAdd, Nat.reduceEqDiff, Bool.false_bne, Bool.true_bne, Bool.not_false, Bool.not_true, List.nil_append, List.cons_append, Int.reduceToNat, Int.reducePow, Int.reduceMul, Int.reduceSub, Int.reduceAdd, Int.reduceNeg, cz]
      refine ⟨by omega, q t5 _ i5 (abS_take ab _) ?_ ?_⟩
      · rw [List.length_take]; omega
      · rw [List.length_take]; omega
end O
namespace O
open PySem PySem.Spec PyProof.Rows L2
def Sh (d : PyData) (a m : Nat) : Prop := d.showable = true ∧ d.depth ≤ a ∧ d.shown.length ≤ m
theorem Sh.ok {d : PyData} {a m : Nat} (h : Sh d a m) (ha : a ≤ 64) (hm : m ≤ sizeLine) : shOk d := ⟨h.1, Nat.le_trans h.2.1 ha, Nat.le_trans h.2.2 hm⟩
theorem Sh.int {i : Int} (h : i.natAbs < 10 ^ 12) : Sh (.int i) 0 13 := by
  refine ⟨?_, Nat.le_refl _, PyData.shown_int_le h⟩
  show decide (i.natAbs.log2 < 1920) = true
  refine decide_eq_true ?_
  have : i.natAbs.log2 ≤ 63 := log_lt (Nat.lt_of_lt_of_le h (by decide))
  omega
theorem Sh.all {a m : Nat} : ∀ {ds : List PyData}, (∀ d ∈ ds, Sh d a m) → PyData.showableAll ds = true ∧ PyData.depthAll ds ≤ a ∧ ((PyData.shownAll ds).map (·.length)).sum ≤ m * ds.length
  | [], _ => ⟨rfl, Nat.zero_le _, Nat.le_of_eq rfl⟩
  | d :: ds, h => by
    obtain ⟨h1, h2, h3⟩ := h d List.mem_cons_self
    obtain ⟨k1, k2, k3⟩ := Sh.all (ds := ds) fun e m => h e (List.mem_cons_of_mem _ m)
    refine ⟨by show (d.showable && PyData.showableAll ds) = true; rw [h1, k1]; rfl, Nat.max_le.mpr ⟨h2, k2⟩, ?_⟩
    show (d.shown.length :: (PyData.shownAll ds).map (·.length)).sum ≤ m * (ds.length + 1)
    rw [List.sum_cons, Nat.mul_succ]
    omega
theorem Sh.list {ds : List PyData} {a m : Nat} (h : ∀ d ∈ ds, Sh d a m) : Sh (.list ds) (a + 1) ((m + 2) * ds.length + 3) := by
  obtain ⟨k1, k2, k3⟩ := Sh.all h
  refine ⟨k1, Nat.succ_le_succ k2, ?_⟩
  have := listText_len_le (PyData.shownAll ds)
  rw [PyData.shownAll_length] at this
  refine Nat.le_trans this ?_
  rw [Nat.add_mul]
  omega
theorem Sh.more {d : PyData} {a m b n : Nat} (h : Sh d a m) (h1 : a ≤ b) (h2 : m ≤ n) : Sh d b n := ⟨h.1, Nat.le_trans h.2.1 h1, Nat.le_trans h.2.2 h2⟩
def cntB (l : List Nat) : Int := ((l.filter fun d => decide (d = 98)).length : Nat)
def P2 : List Nat → Int
  | [] => 0
  | c :: l => (if c = 97 then cntB l else 0) + P2 l
def PF (n : Int) : List Nat → Int
  | [] => 0
  | c :: l => (if c = 98 then n else 0) + PF (n + if c = 97 then 1 else 0) l
theorem cntB_cons (c : Nat) (l : List Nat) : cntB (c :: l) = (if c = 98 then 1 else 0) + cntB l := by
  unfold cntB
  rw [List.filter_cons]
  by_cases h : c = 98
  · simp [h]; omega
  · simp [h]
theorem PF_eq : ∀ (l : List Nat) (n : Int), PF n l = n * cntB l + P2 l
  | [], n => by unfold PF P2 cntB; simp
  | c :: l, n => by
    unfold PF P2
    rw [PF_eq l, cntB_cons, Int.add_mul]
    by_cases h : c = 98
    · subst h; simp [Int.mul_add]; omega
    · by_cases h2 : c = 97
      · subst h2; simp; omega
      · simp [h, h2]
theorem zip_PF : ∀ (l : List Nat) (n : Int), ((((n :: prefs n l).zip l).filter fun p => decide (p.2 = 98)).map (·.1)).sum = PF n l
  | [], n => rfl
  | c :: l, n => by
    unfold prefs PF
    rw [List.zip_cons_cons, List.filter_cons]
    have ih := zip_PF l (n + if c = 97 then 1 else 0)
    by_cases h : c = 98
    · simp only [h, decide_true, if_true, List.map_cons, List.sum_cons]
      subst h
      rw [ih]
    · simp only [h, decide_false, if_false, Int.zero_add, Bool.false_eq_true]
      exact ih
theorem pairs_P2 (l : List Nat) : pairsL l = P2 l := by
  unfold pairsL prefL
  rw [zip_PF, PF_eq]
  simp
theorem cntB_le (l : List Nat) : 0 ≤ cntB l ∧ cntB l ≤ l.length := by
  unfold cntB
  have := List.length_filter_le (fun d => decide (d = 98)) l
  omega
theorem P2_le : ∀ l : List Nat, 0 ≤ P2 l ∧ P2 l ≤ (l.length : Int) * l.length
  | [] => by unfold P2; simp
  | c :: l => by
    unfold P2
    obtain ⟨a, b⟩ := P2_le l
    obtain ⟨c1, c2⟩ := cntB_le l
    rw [List.length_cons]
    have e : ((l.length + 1 : Nat) : Int) * ((l.length + 1 : Nat) : Int) = (l.length : Int) * l.length + 2 * l.length + 1 := by
      rw [Int.natCast_add, Int.add_mul, Int.mul_add]; omega
    rw [e]
    by_cases h : c = 97
    · simp only [h, if_true]; omega
    · simp only [h, if_false]; omega
end O
namespace O
open PySem PySem.Spec PyProof.Rows L2
/-- depth at most a, text at most m -/
def Nt (t : T) (a m : Nat) : Prop := ∃ d, t.pq = some d ∧ Sh d a m
def NtL (ts : List T) (a m : Nat) : Prop := ∃ ds, T.pqL ts = some ds ∧ ds.length = ts.length ∧ ∀ d ∈ ds, Sh d a m
theorem Nt.more {t : T} {a m b n : Nat} (h : Nt t a m) (h1 : a ≤ b) (h2 : m ≤ n) : Nt t b n := by obtain ⟨d, e, s⟩ := h; exact ⟨d, e, s.more h1 h2⟩
theorem Nt.non : Nt .non 0 4 := ⟨_, rfl, rfl, Nat.le_refl _, by decide⟩
theorem Nt.bl (b : Bool) : Nt (.bl b) 0 5 := ⟨_, rfl, rfl, Nat.le_refl _, by cases b <;> decide⟩
theorem Nt.int {i : Int} {k : Nat} (hk : 0 < k) (h : i.natAbs < 10 ^ k) (h2 : i.natAbs.log2 < 1920) : Nt (.int i) 0 (k + 1) := by
  refine ⟨_, rfl, decide_eq_true h2, Nat.le_refl _, ?_⟩
  have e := int_text_length_le10 hk h
  show (Str.ofString (toString i)).length ≤ k + 1
  rw [PySem.ofString_length]; exact e
theorem Nt.str {l : List Nat} (h : ∀ c ∈ l, c < 16 ^ 8) : Nt (.str l) 0 (10 * l.length + 8) := by
  refine ⟨_, rfl, rfl, Nat.le_refl _, ?_⟩
  have := PyData.shown_le 8 (by decide) (.str (S l)) (by
    have h' : ∀ c ∈ (S l).cps.toList, c < 16 ^ 8 := h
    simpa only [PyData.leavesShort, List.all_eq_true, decide_eq_true_eq] using h')
  have e : (PyData.str (S l)).weight = l.length := by show (S l).cps.size = _; simp [S]
  rw [e] at this
  exact this
theorem NtL.nil (a m : Nat) : NtL [] a m := ⟨[], rfl, rfl, fun d h => by cases h⟩
theorem NtL.cons {t : T} {ts : List T} {a m : Nat} (h : Nt t a m) (k : NtL ts a m) : NtL (t :: ts) a m := by
  obtain ⟨d, e, s⟩ := h
  obtain ⟨ds, e2, hl, s2⟩ := k
  refine ⟨d :: ds, ?_, by rw [List.length_cons, List.length_cons, hl], fun x hx => ?_⟩
  · show (T.pq t).bind _ = _
    rw [e]
    show (T.pqL ts).map _ = _
    rw [e2]; rfl
  · rcases List.mem_cons.mp hx with z | z
    · rw [z]; exact s
    · exact s2 x z
theorem NtL.of {a m : Nat} : ∀ {ts : List T}, (∀ t ∈ ts, Nt t a m) → NtL ts a m
  | [], _ => .nil a m
  | t :: ts, h => .cons (h t List.mem_cons_self) (NtL.of fun x hx => h x (List.mem_cons_of_mem _ hx))
theorem NtL.lst {ts : List T} {a m : Nat} (h : NtL ts a m) : Nt (.lst ts) (a + 1) ((m + 2) * ts.length + 3) := by
  obtain ⟨ds, e, hl, s⟩ := h
  refine ⟨.list ds, by show (T.pqL ts).map _ = _; rw [e]; rfl, ?_⟩
  rw [← hl]
  exact Sh.list s
theorem Sh.tuple {ds : List PyData} {a m : Nat} (h : ∀ d ∈ ds, Sh d a m) : Sh (.tuple ds) (a + 1) ((m + 2) * ds.length + 3) := by
  obtain ⟨k1, k2, k3⟩ := Sh.all h
  refine ⟨k1, Nat.succ_le_succ k2, ?_⟩
  have := tupleText_len_le (PyData.shownAll ds)
  rw [PyData.shownAll_length] at this
  refine Nat.le_trans this ?_
  rw [Nat.add_mul]
  omega
theorem NtL.tup {ts : List T} {a m : Nat} (h : NtL ts a m) : Nt (.tup ts) (a + 1) ((m + 2) * ts.length + 3) := by
  obtain ⟨ds, e, hl, s⟩ := h
  refine ⟨.tuple ds, by show (T.pqL ts).map _ = _; rw [e]; rfl, ?_⟩
  rw [← hl]
  exact Sh.tuple s
theorem Nt.lst {ts : List T} {a m : Nat} (h : ∀ t ∈ ts, Nt t a m) : Nt (.lst ts) (a + 1) ((m + 2) * ts.length + 3) := (NtL.of h).lst
theorem Nt.tup {ts : List T} {a m : Nat} (h : ∀ t ∈ ts, Nt t a m) : Nt (.tup ts) (a + 1) ((m + 2) * ts.length + 3) := (NtL.of h).tup
theorem Nt.dict0 : Nt (.dK []) 1 2 := ⟨.dict [], rfl, rfl, Nat.le_refl _, by decide⟩
/-- a dict of one pair, a text and an int -/
theorem Nt.dict1 {l : List Nat} {i : Int} {k : Nat} (h : ∀ c ∈ l, c < 16 ^ 8) (hk : 0 < k) (hi : i.natAbs < 10 ^ k) (h2 : i.natAbs.log2 < 1920) : Nt (.dK [(.inr (S l), .int i)]) 1 (10 * l.length + k + 20) := by
  obtain ⟨d1, e1, s1⟩ := Nt.str h
  obtain ⟨d2, e2, s2⟩ := Nt.int hk hi h2
  cases e1
  cases e2
  refine ⟨.dict [(.str (S l), .int i)], rfl, ?_, ?_, ?_⟩
  · show ((PyData.str (S l)).showable && (PyData.int i).showable && true) = true
    rw [s1.1, s2.1]; rfl
  · show max (max 0 0) 0 + 1 ≤ 1
    decide
  · have h3 := dictText_len_le (PyData.shownKv [(.str (S l), .int i)])
    rw [PyData.shownKv_length] at h3
    have h4 : ((PyData.shownKv [(.str (S l), .int i)]).map (·.length)).sum = (PyData.shown (.str (S l)) ++ ": " ++ PyData.shown (.int i)).length := by
      simp [PyData.shownKv]
    rw [h4, strLen_append, strLen_append] at h3
    have a1 := s1.2.2
    have a2 := s2.2.2
    have a3 : (": " : Str).length = 2 := rfl
    rw [a3] at h3
    simp only [List.length_cons, List.length_nil] at h3
    have e : (PyData.dict [(.str (S l), .int i)]).shown = dictText (PyData.shownKv [(.str (S l), .int i)]) := by simp only [PyData.shown]
    rw [e]
    omega
theorem Nt.rep {t : T} {a m : Nat} (h : Nt t a m) (hb : t.box = true) (ha : a ≤ 64) (hm : m ≤ sizeLine) : ∃ x, reprD t = ⟨True, (false, .str x)⟩ := by
  obtain ⟨d, e, s⟩ := h
  refine ⟨d.shown.cps.toList, ?_⟩
  unfold reprD
  rw [e, hb]
  show (⟨shOk d, _⟩ : Ot) = _
  rw [eq_true (s.ok ha hm)]
end O
namespace O
open PySem PySem.Spec PyProof.Rows L2
end O
namespace O
open PySem PySem.Spec PyProof.Rows L2
theorem seq_inv {a b : Ds} {Q : PoS} {ρ : Rho} (I : Rho → Prop) (h1 : ∀ K : Rho → Prop, (∀ ρ', I ρ' → K ρ') → a ρ { Q with nx := K }) (h2 : ∀ ρ', I ρ' → b ρ' Q) : sSeq a b ρ Q := h1 _ h2
end O
namespace O
open PySem PySem.Spec PyProof.Rows L2
theorem kt_NoneType_int : kitB "NoneType" "int" = some false := rfl
theorem kt_NoneType_bool : kitB "NoneType" "bool" = some false := rfl
theorem kt_NoneType_str : kitB "NoneType" "str" = some false := rfl
theorem kt_NoneType_list : kitB "NoneType" "list" = some false := rfl
theorem kt_NoneType_tuple : kitB "NoneType" "tuple" = some false := rfl
theorem kt_bool_int : kitB "bool" "int" = some true := rfl
theorem kt_bool_bool : kitB "bool" "bool" = some true := rfl
theorem kt_bool_str : kitB "bool" "str" = some false := rfl
theorem kt_bool_list : kitB "bool" "list" = some false := rfl
theorem kt_bool_tuple : kitB "bool" "tuple" = some false := rfl
theorem kt_int_int : kitB "int" "int" = some true := rfl
theorem kt_int_bool : kitB "int" "bool" = some false := rfl
theorem kt_int_str : kitB "int" "str" = some false := rfl
theorem kt_int_list : kitB "int" "list" = some false := rfl
theorem kt_int_tuple : kitB "int" "tuple" = some false := rfl
theorem kt_str_int : kitB "str" "int" = some false := rfl
theorem kt_str_bool : kitB "str" "bool" = some false := rfl
theorem kt_str_str : kitB "str" "str" = some true := rfl
theorem kt_str_list : kitB "str" "list" = some false := rfl
theorem kt_str_tuple : kitB "str" "tuple" = some false := rfl
theorem kt_list_int : kitB "list" "int" = some false := rfl
theorem kt_list_bool : kitB "list" "bool" = some false := rfl
theorem kt_list_str : kitB "list" "str" = some false := rfl
theorem kt_list_list : kitB "list" "list" = some true := rfl
theorem kt_list_tuple : kitB "list" "tuple" = some false := rfl
theorem kt_tuple_int : kitB "tuple" "int" = some false := rfl
theorem kt_tuple_bool : kitB "tuple" "bool" = some false := rfl
theorem kt_tuple_str : kitB "tuple" "str" = some false := rfl
theorem kt_tuple_list : kitB "tuple" "list" = some false := rfl
theorem kt_tuple_tuple : kitB "tuple" "tuple" = some true := rfl
theorem kt_dict_int : kitB "dict" "int" = some false := rfl
theorem kt_dict_bool : kitB "dict" "bool" = some false := rfl
theorem kt_dict_str : kitB "dict" "str" = some false := rfl
theorem kt_dict_list : kitB "dict" "list" = some false := rfl
theorem kt_dict_tuple : kitB "dict" "tuple" = some false := rfl
theorem e_iq1 {n : Bool} {a : T} : isT n a .non = ⟨True, (false, .bl (n != a.isNon))⟩ := by
  cases a <;> rfl
theorem e_iq2 {n : Bool} {a b : Bool} : isT n (.bl a) (.bl b) = ⟨True, (false, .bl (n != decide (a = b)))⟩ := rfl
theorem e_nn1 {i : Int} : T.isNon (.int i) = false := rfl
theorem e_nn2 : T.isNon .non = true := rfl
theorem e_nn3 {ts : List T} : T.isNon (.lst ts) = false := rfl
theorem e_nn4 {ts : List Nat} : T.isNon (.str ts) = false := rfl
theorem e_inp {n : Bool} {a : T} {ts : List T} : inTp n a (.tup ts) = ⟨a.flat = true ∧ ts.all T.flat = true, (false, .bl (n != ts.any fun y => y.eqF a))⟩ := rfl
theorem e_ixd {ts : List (Key × T)} {l : List Nat} : ixD (.dK ts) (.str l) = ⟨(valT ts (.inr (S l))).isSome = true, (false, (valT ts (.inr (S l))).getD .non)⟩ := rfl
theorem e_ii_non {b : Bool} {i : Int} {l : List Nat} {ts : List T} {ks : List (Key × T)} {kt : List (List Key × T)} {t : String} : isiT (.non) (.ty t) = ⟨(kitB "NoneType" t).isSome = true, (false, .bl ((kitB "NoneType" t).getD false))⟩ := rfl
theorem e_ii_bl {b : Bool} {i : Int} {l : List Nat} {ts : List T} {ks : List (Key × T)} {kt : List (List Key × T)} {t : String} : isiT (.bl b) (.ty t) = ⟨(kitB "bool" t).isSome = true, (false, .bl ((kitB "bool" t).getD false))⟩ := rfl
theorem e_ii_int {b : Bool} {i : Int} {l : List Nat} {ts : List T} {ks : List (Key × T)} {kt : List (List Key × T)} {t : String} : isiT (.int i) (.ty t) = ⟨(kitB "int" t).isSome = true, (false, .bl ((kitB "int" t).getD false))⟩ := rfl
theorem e_ii_str {b : Bool} {i : Int} {l : List Nat} {ts : List T} {ks : List (Key × T)} {kt : List (List Key × T)} {t : String} : isiT (.str l) (.ty t) = ⟨(kitB "str" t).isSome = true, (false, .bl ((kitB "str" t).getD false))⟩ := rfl
theorem e_ii_lst {b : Bool} {i : Int} {l : List Nat} {ts : List T} {ks : List (Key × T)} {kt : List (List Key × T)} {t : String} : isiT (.lst ts) (.ty t) = ⟨(kitB "list" t).isSome = true, (false, .bl ((kitB "list" t).getD false))⟩ := rfl
theorem e_ii_scr {b : Bool} {i : Int} {l : List Nat} {ts : List T} {ks : List (Key × T)} {kt : List (List Key × T)} {t : String} : isiT (.scr ts) (.ty t) = ⟨(kitB "list" t).isSome = true, (false, .bl ((kitB "list" t).getD false))⟩ := rfl
theorem e_ii_tup {b : Bool} {i : Int} {l : List Nat} {ts : List T} {ks : List (Key × T)} {kt : List (List Key × T)} {t : String} : isiT (.tup ts) (.ty t) = ⟨(kitB "tuple" t).isSome = true, (false, .bl ((kitB "tuple" t).getD false))⟩ := rfl
theorem e_ii_dK {b : Bool} {i : Int} {l : List Nat} {ts : List T} {ks : List (Key × T)} {kt : List (List Key × T)} {t : String} : isiT (.dK ks) (.ty t) = ⟨(kitB "dict" t).isSome = true, (false, .bl ((kitB "dict" t).getD false))⟩ := rfl
theorem e_ii_dT {b : Bool} {i : Int} {l : List Nat} {ts : List T} {ks : List (Key × T)} {kt : List (List Key × T)} {t : String} : isiT (.dT kt) (.ty t) = ⟨(kitB "dict" t).isSome = true, (false, .bl ((kitB "dict" t).getD false))⟩ := rfl
theorem e_cl_non {b : Bool} {i : Int} {l : List Nat} {ts : List T} {ks : List (Key × T)} {kt : List (List Key × T)} : T.cls (.non) = some "NoneType" := rfl
theorem e_cl_bl {b : Bool} {i : Int} {l : List Nat} {ts : List T} {ks : List (Key × T)} {kt : List (List Key × T)} : T.cls (.bl b) = some "bool" := rfl
theorem e_cl_int {b : Bool} {i : Int} {l : List Nat} {ts : List T} {ks : List (Key × T)} {kt : List (List Key × T)} : T.cls (.int i) = some "int" := rfl
theorem e_cl_str {b : Bool} {i : Int} {l : List Nat} {ts : List T} {ks : List (Key × T)} {kt : List (List Key × T)} : T.cls (.str l) = some "str" := rfl
theorem e_cl_lst {b : Bool} {i : Int} {l : List Nat} {ts : List T} {ks : List (Key × T)} {kt : List (List Key × T)} : T.cls (.lst ts) = some "list" := rfl
theorem e_cl_scr {b : Bool} {i : Int} {l : List Nat} {ts : List T} {ks : List (Key × T)} {kt : List (List Key × T)} : T.cls (.scr ts) = some "list" := rfl
theorem e_cl_tup {b : Bool} {i : Int} {l : List Nat} {ts : List T} {ks : List (Key × T)} {kt : List (List Key × T)} : T.cls (.tup ts) = some "tuple" := rfl
theorem e_cl_dK {b : Bool} {i : Int} {l : List Nat} {ts : List T} {ks : List (Key × T)} {kt : List (List Key × T)} : T.cls (.dK ks) = some "dict" := rfl
theorem e_cl_dT {b : Bool} {i : Int} {l : List Nat} {ts : List T} {ks : List (Key × T)} {kt : List (List Key × T)} : T.cls (.dT kt) = some "dict" := rfl
theorem e_keys0 : keysT [] = some [] := rfl
theorem e_keysS {l : List Nat} {b : T} {r : List T} : keysT (.str l :: b :: r) = (keysT r).map ((.inr (S l), b) :: ·) := by
  show (match keyT (.str l), keysT r with | some k, some ks => some ((k, b) :: ks) | _, _ => none) = _
  cases keysT r <;> rfl
theorem e_keysI {l : Int} {b : T} {r : List T} : keysT (.int l :: b :: r) = (keysT r).map ((.inl l, b) :: ·) := by
  show (match keyT (.int l), keysT r with | some k, some ks => some ((k, b) :: ks) | _, _ => none) = _
  cases keysT r <;> rfl
theorem e_fl1 : T.flat .non = true := rfl
theorem e_fl2 {b : Bool} : T.flat (.bl b) = true := rfl
theorem e_fl3 {i : Int} : T.flat (.int i) = true := rfl
theorem e_fl4 {l : List Nat} : T.flat (.str l) = true := rfl
theorem e_argL {ρ : Rho} {h : Hn} : argL ρ h = .sh ((h.get ρ).getD .non) := rfl
theorem e_ii_ins {C : Addr} {fs : List (Str × T)} {n : String} : isiT (.ins C fs) (.ty n) = ⟨n ∈ ["int", "bool", "str", "list", "tuple", "dict"], (false, .bl false)⟩ := rfl
end O
namespace O
open PySem PySem.Spec PyProof.Rows L2
/-- plain values as trees -/
structure Dt (α : Type) where
  t : α → T
  p : α → PyData
  dep : Nat
  ok : α → Prop
  pd : ∀ a, (t a).pd = some (p a)
  eqv : ∀ a b, PyData.eqv (p a) (p b) = true ↔ a = b
  lay : ∀ a, ok a → (p a).canLay0 = true
  dp : ∀ a, (p a).depth ≤ dep
section
variable {α : Type} (d : Dt α)
theorem Dt.okD {a : α} (h : d.ok a) (k : d.dep ≤ 64 := by decide) : okD (d.t a) := by
  refine ⟨_, d.pd a, ?_⟩
  unfold SeqAt.shaped
  rw [Bool.and_eq_true]
  exact ⟨d.lay a h, decide_eq_true (Nat.le_trans (d.dp a) k)⟩
theorem Dt.eqvO [DecidableEq α] (a b : α) : eqvO (d.t a).pd (d.t b).pd = decide (a = b) := by
  rw [d.pd, d.pd]
  show PyData.eqv _ _ = _
  by_cases h : a = b
  · rw [decide_eq_true h]; exact (d.eqv a b).mpr h
  · rw [decide_eq_false h]; exact Bool.eq_false_iff.mpr fun z => h ((d.eqv a b).mp z)
end
end O
namespace O
open PySem PySem.Spec PyProof.Rows L2
/-- an int from lo to hi -/
def isInt (lo : Int) (hi : Option Int) : T → Bool
  | .int i => decide (lo ≤ i) && (match hi with | none => true | some h => decide (i ≤ h))
  | _ => false
def fIsInt : List T → Ot
  | [v, .int lo, .non] => ⟨v.cls.isSome = true, (false, .bl (isInt lo none v))⟩
  | [v, .int lo, .int h] => ⟨v.cls.isSome = true, (false, .bl (isInt lo (some h) v))⟩
  | _ => .no
theorem isInt1 {lo i : Int} : isInt lo none (.int i) = decide (lo ≤ i) := by unfold isInt; simp
theorem isInt2 {lo h i : Int} : isInt lo (some h) (.int i) = (decide (lo ≤ i) && decide (i ≤ h)) := rfl
theorem h_is_integer (ars : Rho) (Q : Po Rv) (h : SP fIsInt ars Q) : D_is_integer (ars ++ List.replicate 0 .no) (fwish ars Q) := by
  obtain ⟨ts, rfl, pre, q⟩ := h
  revert pre q
  unfold fIsInt
  split
  · rename_i v lo
    intro pre q
    have pre : v.cls.isSome = true := pre
    show D_is_integer [.sh v, .sh (.int lo), .sh .non] _
    cases v <;> first | cases pre | skip
    all_goals simp only [sSeq, sSet, sPar, sIf, sRet, sRetN, sDrop, sNext, sDead, sBrk, sCnt, sAsg, sFor, dNm, dTm, dC, dOp1, dOp2, dOpN, dMt, dMut, dCall, dLst, dTup, dNil, dCons, dVn, dVc, dSl, dSl3, dNoP, dPrt, dIf, dAndV, dOrV, dNotV, dBv, dTru, dNotT, dAndT, dOrT, dChn, dEqQ, dRpQ, qOp, qNil, qCons, qLs, qTp, dSrc, dRng1, dRng2, dZip2, dEnum, dComp, dYes, gNm, gTp, gCn, gNi, gIt, e_var, e_var1, e_var2, e_var3, e_var4, e_mov, e_mov1, e_mov2, e_mov3, e_mov4, e_tr1, e_tr2, e_tr3, e_tr4, e_tr5, e_own1, e_own2, e_reo1, e_reo2, e_of1, e_of2, e_pin1, e_pin2, e_pin3, e_arg1, e_arg2, e_arg3, e_arg4, e_isarg1, e_isarg2, e_conv1, e_conv2, e_conv3, e_conv4, e_conv5, e_conv6, e_sown1, e_sown2, e_sown3, e_sown4, e_put1, e_put2, e_po1, e_po2, e_p1, e_p2, e_ao1, e_ao2, e_nd0, e_nd1, e_nd2, e_sl, e_get1, e_get2, e_is, e_all, e_gets0, e_gets1, e_gets2, e_tms0, e_tms1, e_qg1, e_qg2, e_qg3, e_qgs0, e_qgs1, e_its1, e_its2, e_its3, e_its4, e_jts1, e_jts2, e_jts4, e_mt1, e_mt2, e_ty1, e_add1, e_add2, e_add3, e_sub, e_mul1, e_mul2, e_mul3, e_fdiv, e_mod, e_pow, e_neg, e_len1, e_len2, e_len3, e_len4, e_int1, e_int2, e_abs, e_max, e_min, e_ix1, e_ix2, e_ix3, e_ix4, e_eq1, e_eq2, e_eq3, e_lt1, e_le1, e_gt1, e_ge1, e_lt2, e_in1, e_app, e_ext, e_rev, e_clr, e_set, e_sl1, e_sl2, e_sl3, e_sl4, e_count, e_f1, e_f2, e_osh, e_owh, e_one, e_tt1, e_tt2, e_ctg1, e_ctg2, e_cn0, e_cn1, e_wi0, e_wi1, e_re0, e_re1, e_ifb1, e_ifb2, e_nm0, e_nm1, e_nm2, e_fa0, e_fa1, e_sum, e_allb, e_anyb, e_sp1, e_sp2, e_sp3, e_at0, e_at1, e_at2, e_at3, e_at4, e_at5, e_ixn40, e_ixn41, e_ixn42, e_ixn43, e_cp1, e_cp2, e_cp3, e_cp4, e_cp5, forall_eq, List.getD_cons_zero, List.getD_cons_succ, List.getD_nil, List.set_cons_zero, List.set_cons_succ, List.map_cons, List.map_nil, Option.map_some, Option.map_none, Option.bind_some, Option.bind_none, Option.getD_some, Option.some.injEq, exists_eq_left', exists_eq_left, exists_eq', exists_eq, decide_eq_true_eq, List.length_map, exists_eq_right, exists_and_left, exists_and_right, Option.isSome_some, T.int.injEq, T.str.injEq, T.lst.injEq, T.tup.injEq, T.bl.injEq, List.cons.injEq, Prod.mk.injEq, Hn.tm.injEq, true_and, and_true, and_assoc, and_self, ne_eq, not_false_eq_true, not_true_eq_false, ite_true, ite_false, if_true, if_false, reduceIte, reduceCtorEq, Bool.false_eq_true, false_and, and_false, imp_self, forall_const, implies_true, List.length_cons, List.length_nil, Nat.reduceAdd, Nat.reduceEqDiff, Bool.false_bne, Bool.true_bne, Bool.not_false, Bool.not_true, List.nil_append, List.cons_append, Int.reduceToNat, Int.reducePow, Int.reduceMul, Int.reduceSub, Int.reduceAdd, Int.reduceNeg, isiT, T.cls, kt_NoneType_int, kt_NoneType_bool, kt_NoneType_str, kt_NoneType_list, kt_NoneType_tuple, kt_bool_int, kt_bool_bool, kt_bool_str, kt_bool_list, kt_bool_tuple, kt_int_int, kt_int_bool, kt_int_str, kt_int_list, kt_int_tuple, kt_str_int, kt_str_bool, kt_str_str, kt_str_list, kt_str_tuple, kt_list_int, kt_list_bool, kt_list_str, kt_list_list, kt_list_tuple, kt_tuple_int, kt_tuple_bool, kt_tuple_str, kt_tuple_list, kt_tuple_tuple, kt_dict_int, kt_dict_bool, kt_dict_str, kt_dict_list, kt_dict_tuple, D_is_integer, e_iq1, e_nn2]
    all_goals first | exact q | skip
    rename_i i
    rw [isInt1] at q
    by_cases h : lo ≤ i
    · simp only [h, decide_true, e_ifb1] at q ⊢
      exact q
    · simp only [h, decide_false, e_ifb2] at q ⊢
      exact q
  · rename_i v lo hi
    intro pre q
    have pre : v.cls.isSome = true := pre
    show D_is_integer [.sh v, .sh (.int lo), .sh (.int hi)] _
    cases v <;> first | cases pre | skip
    all_goals simp only [sSeq, sSet, sPar, sIf, sRet, sRetN, sDrop, sNext, sDead, sBrk, sCnt, sAsg, sFor, dNm, dTm, dC, dOp1, dOp2, dOpN, dMt, dMut, dCall, dLst, dTup, dNil, dCons, dVn, dVc, dSl, dSl3, dNoP, dPrt, dIf, dAndV, dOrV, dNotV, dBv, dTru, dNotT, dAndT, dOrT, dChn, dEqQ, dRpQ, qOp, qNil, qCons, qLs, qTp, dSrc, dRng1, dRng2, dZip2, dEnum, dComp, dYes, gNm, gTp, gCn, gNi, gIt, e_var, e_var1, e_var2, e_var3, e_var4, e_mov, e_mov1, e_mov2, e_mov3, e_mov4, e_tr1, e_tr2, e_tr3, e_tr4, e_tr5, e_own1, e_own2, e_reo1, e_reo2, e_of1, e_of2, e_pin1, e_pin2, e_pin3, e_arg1, e_arg2, e_arg3, e_arg4, e_isarg1, e_isarg2, e_conv1, e_conv2, e_conv3, e_conv4, e_conv5, e_conv6, e_sown1, e_sown2, e_sown3, e_sown4, e_put1, e_put2, e_po1, e_po2, e_p1, e_p2, e_ao1, e_ao2, e_nd0, e_nd1, e_nd2, e_sl, e_get1, e_get2, e_is, e_all, e_gets0, e_gets1, e_gets2, e_tms0, e_tms1, e_qg1, e_qg2, e_qg3, e_qgs0, e_qgs1, e_its1, e_its2, e_its3, e_its4, e_jts1, e_jts2, e_jts4, e_mt1, e_mt2, e_ty1, e_add1, e_add2, e_add3, e_sub, e_mul1, e_mul2, e_mul3, e_fdiv, e_mod, e_pow, e_neg, e_len1, e_len2, e_len3, e_len4, e_int1, e_int2, e_abs, e_max, e_min, e_ix1, e_ix2, e_ix3, e_ix4, e_eq1, e_eq2, e_eq3, e_lt1, e_le1, e_gt1, e_ge1, e_lt2, e_in1, e_app, e_ext, e_rev, e_clr, e_set, e_sl1, e_sl2, e_sl3, e_sl4, e_count, e_f1, e_f2, e_osh, e_owh, e_one, e_tt1, e_tt2, e_ctg1, e_ctg2, e_cn0, e_cn1, e_wi0, e_wi1, e_re0, e_re1, e_ifb1, e_ifb2, e_nm0, e_nm1, e_nm2, e_fa0, e_fa1, e_sum, e_allb, e_anyb, e_sp1, e_sp2, e_sp3, e_at0, e_at1, e_at2, e_at3, e_at4, e_at5, e_ixn40, e_ixn41, e_ixn42, e_ixn43, e_cp1, e_cp2, e_cp3, e_cp4, e_cp5, forall_eq, List.getD_cons_zero, List.getD_cons_succ, List.getD_nil, List.set_cons_zero, List.set_cons_succ, List.map_cons, List.map_nil, Option.map_some, Option.map_none, Option.bind_some, Option.bind_none, Option.getD_some, Option.some.injEq, exists_eq_left', exists_eq_left, exists_eq', exists_eq, decide_eq_true_eq, List.length_map, exists_eq_right, exists_and_left, exists_and_right, Option.isSome_some, T.int.injEq, T.str.injEq, T.lst.injEq, T.tup.injEq, T.bl.injEq, List.cons.injEq, Prod.mk.injEq, Hn.tm.injEq, true_and, and_true, and_assoc, and_self, ne_eq, not_false_eq_true, not_true_eq_false, ite_true, ite_false, if_true, if_false, reduceIte, reduceCtorEq, Bool.false_eq_true, false_and, and_false, imp_self, forall_const, implies_true, List.length_cons, List.length_nil, Nat.reduceAdd, Nat.reduceEqDiff, Bool.false_bne, Bool.true_bne, Bool.not_false, Bool.not_true, List.nil_append, List.cons_append, Int.reduceToNat, Int.reducePow, Int.reduceMul, Int.reduceSub, Int.reduceAdd, Int.reduceNeg, isiT, T.cls, kt_NoneType_int, kt_NoneType_bool, kt_NoneType_str, kt_NoneType_list, kt_NoneType_tuple, kt_bool_int, kt_bool_bool, kt_bool_str, kt_bool_list, kt_bool_tuple, kt_int_int, kt_int_bool, kt_int_str, kt_int_list, kt_int_tuple, kt_str_int, kt_str_bool, kt_str_str, kt_str_list, kt_str_tuple, kt_list_int, kt_list_bool, kt_list_str, kt_list_list, kt_list_tuple, kt_tuple_int, kt_tuple_bool, kt_tuple_str, kt_tuple_list, kt_tuple_tuple, kt_dict_int, kt_dict_bool, kt_dict_str, kt_dict_list, kt_dict_tuple, D_is_integer, e_iq1, e_nn1]
    all_goals first | exact q | skip
    rename_i i
    rw [isInt2] at q
    by_cases h : lo ≤ i
    · simp only [h, decide_true, e_ifb1, Bool.true_and] at q ⊢
      exact q
    · simp only [h, decide_false, e_ifb2, Bool.false_and] at q ⊢
      exact q
  · intro pre; exact pre.elim
abbrev Run := Nat × Int
def runT (r : Run) : T := .tup [.str [r.1], .int r.2]
end O
namespace O
open PySem PySem.Spec PyProof.Rows L2
theorem Nt.run {r : Run} (h : r.1 = 97 ∨ r.1 = 98) (k : r.2.natAbs < 10 ^ 70) : Nt (runT r) 1 250 := by
  have a1 : Nt (.str [r.1]) 0 80 := (Nt.str fun c m => by rw [List.mem_singleton.mp m]; rcases h with h | h <;> rw [h] <;> decide).more (by decide) (by simp)
  have a2 : Nt (.int r.2) 0 80 := (Nt.int (k := 70) (by decide) k (by
    have : r.2.natAbs.log2 ≤ 300 := log_lt (Nat.lt_trans k (by decide +kernel))
    omega)).more (by decide) (by decide)
  exact (Nt.tup (a := 0) (m := 80) fun t m => by
    rcases List.mem_cons.mp m with z | m
    · rw [z]; exact a1
    · rw [List.mem_singleton.mp m]; exact a2).more (by decide) (by simp)
end O
namespace O
open PySem PySem.Spec PyProof.Rows L2
def countsT (C : Addr) (a b p : Int) : T := .ins C [("triple", .tup [.int a, .int b, .int p])]
theorem e_cnt {C : Addr} {a b p : Int} {fs : List (Str × T)} : (countsT C a b p = .ins C fs) = (fs = [(("triple" : Str), T.tup [.int a, .int b, .int p])]) := by
  unfold countsT
  rw [T.ins.injEq]
  exact propext ⟨fun h => h.2.symm, fun h => ⟨rfl, h.symm⟩⟩
theorem e_lkT {t : T} : List.lookup ("triple" : Str) [(("triple" : Str), t)] = some t := rfl
theorem e_putT {t : T} : putT ("triple" : Str) t [] = [(("triple" : Str), t)] := rfl
theorem e_isiC {C : Addr} {a b p : Int} : isiC C (countsT C a b p) (.fn C) = ⟨True, (false, .bl true)⟩ := by
  show (⟨C = C ∧ C = C, (false, .bl true)⟩ : Ot) = _
  simp
theorem e_isiC2 {C : Addr} {t : T} {c : String} (h : t.cls = some c) : isiC C t (.fn C) = ⟨True, (false, .bl false)⟩ := by
  cases t <;> first | (cases h; done) | (unfold isiC; simp [T.cls])
/-- three counts -/
structure Cnt (a b p : Int) : Prop where
  a0 : 0 ≤ a
  b0 : 0 ≤ b
  p0 : 0 ≤ p
  p1 : p ≤ a * b
  a1 : a ≤ 10 ^ 200
  b1 : b ≤ 10 ^ 200
theorem log_pow {i : Int} (h0 : 0 ≤ i) (h1 : i ≤ 10 ^ 200) : i.natAbs.log2 ≤ 1000 := log_lt (by
  have h2 : (i.natAbs : Int) = i := Int.natAbs_of_nonneg h0
  have h3 : ((10 ^ 200 : Nat) : Int) = 10 ^ 200 := by decide +kernel
  have h4 : (i.natAbs : Int) ≤ ((10 ^ 200 : Nat) : Int) := by rw [h2, h3]; exact h1
  have h5 : (10 : Nat) ^ 200 < 2 ^ 1001 := by decide +kernel
  exact Nat.lt_of_le_of_lt (by exact_mod_cast h4) h5)
theorem mul_big {a b : Int} (a0 : 0 ≤ a) (b0 : 0 ≤ b) (a1 : a ≤ 10 ^ 200) (b1 : b ≤ 10 ^ 200) : (CMul a b ∨ CMulW a b) = True := by
  refine eq_true (.inr ?_)
  have := log_pow a0 a1
  have := log_pow b0 b1
  unfold CMulW
  omega
def cA (l : List Nat) : Int := (l.count 97 : Nat)
def cB (l : List Nat) : Int := (l.count 98 : Nat)
theorem cntB_cB (l : List Nat) : cntB l = cB l := by
  unfold cntB cB
  congr 1
  induction l with
  | nil => rfl
  | cons c l ih =>
    rw [List.filter_cons, List.count_cons]
    by_cases h : c = 98
    · simp [h, ih]
    · simp [h, ih]
theorem cA_le (l : List Nat) : 0 ≤ cA l ∧ cA l ≤ l.length := by have := List.count_le_length (a := 97) (l := l); unfold cA; omega
theorem cB_le (l : List Nat) : 0 ≤ cB l ∧ cB l ≤ l.length := by have := List.count_le_length (a := 98) (l := l); unfold cB; omega
theorem cB_cons (c : Nat) (l : List Nat) : cB (c :: l) = (if c = 98 then 1 else 0) + cB l := by rw [← cntB_cB, cntB_cons, cntB_cB]
theorem cA_cons (c : Nat) (l : List Nat) : cA (c :: l) = (if c = 97 then 1 else 0) + cA l := by
  unfold cA
  rw [List.count_cons]
  by_cases h : c = 97
  · simp [h]; omega
  · simp [h]
theorem P2_mul : ∀ l : List Nat, P2 l ≤ cA l * cB l
  | [] => by unfold P2 cA cB; simp
  | c :: l => by
    have ih := P2_mul l
    obtain ⟨a0, _⟩ := cA_le l
    obtain ⟨b0, _⟩ := cB_le l
    unfold P2
    rw [cA_cons, cB_cons, cntB_cB]
    by_cases h : c = 97
    · subst h
      simp only [if_true, show ¬ (97 = 98) by decide, if_false, Int.zero_add, Int.add_mul, Int.one_mul]
      omega
    · by_cases h2 : c = 98
      · subst h2
        simp only [if_true, show ¬ (98 = 97) by decide, if_false, Int.zero_add, Int.mul_add, Int.mul_one]
        omega
      · simp only [h, h2, if_false, Int.zero_add]
        exact ih
theorem cnt_row {l : List Nat} (h : l.length ≤ 100000) : Cnt (cA l) (cB l) (pairsL l) := by
  obtain ⟨a0, a1⟩ := cA_le l
  obtain ⟨b0, b1⟩ := cB_le l
  have : (100000 : Int) ≤ 10 ^ 200 := by decide +kernel
  refine ⟨a0, b0, ?_, ?_, by omega, by omega⟩
  · rw [pairs_P2]; exact (P2_le l).1
  · rw [pairs_P2]; exact P2_mul l
def fTriple : List T → Ot
  | [.str l] => ⟨l.length < sizeLine, (false, .tup [.int (cA l), .int (cB l), .int (pairsL l)])⟩
  | _ => .no
theorem h_triple_of (ars : Rho) (Q : Po Rv) (h : SP fTriple ars Q) : D_triple_of (SP fPairs) (ars ++ List.replicate 0 .no) (fwish ars Q) := by
  obtain ⟨ts, rfl, pre, q⟩ := h
  revert pre q
  unfold fTriple
  split
  · rename_i l
    intro pre q
    have pre : l.length < sizeLine := pre
    have hs := sizeLine_eq
    show D_triple_of (SP fPairs) [.sh (.str l)] _
    simp only [sSeq, sSet, sPar, sIf, sRet, sRetN, sDrop, sNext, sDead, sBrk, sCnt, sAsg, sFor, dNm, dTm, dC, dOp1, dOp2, dOpN, dMt, dMut, dCall, dLst, dTup, dNil, dCons, dVn, dVc, dSl, dSl3, dNoP, dPrt, dIf, dAndV, dOrV, dNotV, dBv, dTru, dNotT, dAndT, dOrT, dChn, dEqQ, dRpQ, qOp, qNil, qCons, qLs, qTp, dSrc, dRng1, dRng2, dZip2, dEnum, dComp, dYes, gNm, gTp, gCn, gNi, gIt, e_var, e_var1, e_var2, e_var3, e_var4, e_mov, e_mov1, e_mov2, e_mov3, e_mov4, e_tr1, e_tr2, e_tr3, e_tr4, e_tr5, e_own1, e_own2, e_reo1, e_reo2, e_of1, e_of2, e_pin1, e_pin2, e_pin3, e_arg1, e_arg2, e_arg3, e_arg4, e_isarg1, e_isarg2, e_conv1, e_conv2, e_conv3, e_conv4, e_conv5, e_conv6, e_sown1, e_sown2, e_sown3, e_sown4, e_put1, e_put2, e_po1, e_po2, e_p1, e_p2, e_ao1, e_ao2, e_nd0, e_nd1, e_nd2, e_sl, e_get1, e_get2, e_is, e_all, e_gets0, e_gets1, e_gets2, e_tms0, e_tms1, e_qg1, e_qg2, e_qg3, e_qgs0, e_qgs1, e_its1, e_its2, e_its3, e_its4, e_jts1, e_jts2, e_jts4, e_mt1, e_mt2, e_ty1, e_add1, e_add2, e_add3, e_sub, e_mul1, e_mul2, e_mul3, e_fdiv, e_mod, e_pow, e_neg, e_len1, e_len2, e_len3, e_len4, e_int1, e_int2, e_abs, e_max, e_min, e_ix1, e_ix2, e_ix3, e_ix4, e_eq1, e_eq2, e_eq3, e_lt1, e_le1, e_gt1, e_ge1, e_lt2, e_in1, e_app, e_ext, e_rev, e_clr, e_set, e_sl1, e_sl2, e_sl3, e_sl4, e_count, e_f1, e_f2, e_osh, e_owh, e_one, e_tt1, e_tt2, e_ctg1, e_ctg2, e_cn0, e_cn1, e_wi0, e_wi1, e_re0, e_re1, e_ifb1, e_ifb2, e_nm0, e_nm1, e_nm2, e_fa0, e_fa1, e_sum, e_allb, e_anyb, e_sp1, e_sp2, e_sp3, e_at0, e_at1, e_at2, e_at3, e_at4, e_at5, e_ixn40, e_ixn41, e_ixn42, e_ixn43, e_cp1, e_cp2, e_cp3, e_cp4, e_cp5, forall_eq, List.getD_cons_zero, List.getD_cons_succ, List.getD_nil, List.set_cons_zero, List.set_cons_succ, List.map_cons, List.map_nil, Option.map_some, Option.map_none, Option.bind_some, Option.bind_none, Option.getD_some, Option.some.injEq, exists_eq_left', exists_eq_left, exists_eq', exists_eq, decide_eq_true_eq, List.length_map, exists_eq_right, exists_and_left, exists_and_right, Option.isSome_some, T.int.injEq, T.str.injEq, T.lst.injEq, T.tup.injEq, T.bl.injEq, List.cons.injEq, Prod.mk.injEq, Hn.tm.injEq, true_and, and_true, and_assoc, and_self, ne_eq, not_false_eq_true, not_true_eq_false, ite_true, ite_false, if_true, if_false, reduceIte, reduceCtorEq, Bool.false_eq_true, false_and, and_false, imp_self, forall_const, implies_true, List.length_cons, List.length_nil, Nat.reduceAdd, Nat.reduceEqDiff, Bool.false_bne, Bool.true_bne, Bool.not_false, Bool.not_true, List.nil_append, List.cons_append, Int.reduceToNat, Int.reducePow, Int.reduceMul, Int.reduceSub, Int.reduceAdd, Int.reduceNeg, kt_NoneType_int, kt_NoneType_bool, kt_NoneType_str, kt_NoneType_list, kt_NoneType_tuple, kt_bool_int, kt_bool_bool, kt_bool_str, kt_bool_list, kt_bool_tuple, kt_int_int, kt_int_bool, kt_int_str, kt_int_list, kt_int_tuple, kt_str_int, kt_str_bool, kt_str_str, kt_str_list, kt_str_tuple, kt_list_int, kt_list_bool, kt_list_str, kt_list_list, kt_list_tuple, kt_tuple_int, kt_tuple_bool, kt_tuple_str, kt_tuple_list, kt_tuple_tuple, kt_dict_int, kt_dict_bool, kt_dict_str, kt_dict_list, kt_dict_tuple, e_ii_non, e_ii_bl, e_ii_int, e_ii_str, e_ii_lst, e_ii_scr, e_ii_tup, e_ii_dK, e_ii_dT, dShr, dNew, dNewL, dMeth, dProp, dCm, dFld, sFld, callK, lendK, noexP, Sl.io.injEq, Sl.sh.injEq, e_cnt, e_lkT, e_putT, e_isiC, e_isiC2, e_ii_ins, dCallL, e_argL, e_fl1, e_fl2, e_fl3, e_fl4, List.all_cons, List.all_nil, dDict, dDict0, e_keys0, e_keysS, e_keysI, e_cl_non, e_cl_bl, e_cl_int, e_cl_str, e_cl_lst, e_cl_scr, e_cl_tup, e_cl_dK, e_cl_dT, e_iq1, e_iq2, e_nn1, e_nn2, e_nn3, e_nn4, e_inp, e_ixd, Int.cast_ofNat_Int, Int.natCast_succ, decide_true, decide_false, Int.reduceEq, Int.reduceLT, Int.reduceLE, Int.reduceNe, Nat.reduceLT, Nat.reduceLeDiff, Bool.and_true, Bool.true_and, Bool.and_false, Bool.false_and, Bool.not_eq_true, Bool.or_true, Bool.or_false, Int.natCast_add, Int.natCast_one, Int.zero_add, Int.add_zero, D_triple_of, fPairs]
    exact ⟨pre, by omega, q⟩
  · intro pre; exact pre.elim
theorem rowB_of {l : List Nat} (h : abS l) (k : l.length ≤ 200) : rowB l = true := rowB_iff.mpr ⟨k, h⟩
end O
namespace O
open PySem PySem.Spec PyProof.Rows L2
def tri (a b p : Int) : T := .tup [.int a, .int b, .int p]
def SMany : Sx := fun ars Q => ∃ t, ars = [.io t] ∧ IsReel t ∧ ∀ t' v, IsReel t' → 0 ≤ v → v ≤ 10 ^ 30 → Q.ok (false, .int v) [.io t']
theorem mn_SMany : Mn SMany := fun ρ Q Q' ⟨t, e, i, q⟩ k _ => ⟨t, e, i, fun t' v a b c => k _ _ (q t' v a b c)⟩
theorem e_smany {t : T} {Q : Po Rv} : SMany [.io t] Q = (IsReel t ∧ ∀ t' v, IsReel t' → 0 ≤ v → v ≤ 10 ^ 30 → Q.ok (false, .int v) [.io t']) :=
  propext ⟨fun ⟨_, e, h⟩ => by cases e; exact h, fun h => ⟨_, rfl, h⟩⟩
theorem log_60 {i : Int} (h0 : 0 ≤ i) (h1 : i ≤ 10 ^ 190) : i.natAbs.log2 < 9000 := by
  have : (10 : Int) ^ 190 ≤ 10 ^ 200 := by decide +kernel
  have := log_pow h0 (by omega)
  omega
theorem pick_int {ns : List Int} {i : Int} (h0 : 0 ≤ i) (h1 : i < ns.length) : ∃ y ∈ ns, L2.atI (ns.map T.int) i = some (.int y) := by
  obtain ⟨y, m, e⟩ := atI_in h0 h1
  exact ⟨y, m, by rw [atI_map, e]; rfl⟩
theorem h__law_many (ars : Rho) (Q : Po Rv) (h : SMany ars Q) : D__law_many SDraw (ars ++ List.replicate 0 .no) (fwish ars Q) := by
  obtain ⟨t, rfl, ir, q⟩ := h
  have hs := sizeLine_eq
  show D__law_many SDraw [.io t] _
  have cp : CPow 10 30 = True := eq_true (by unfold CPow; decide)
  simp only [sSeq, sSet, sPar, sIf, sRet, sRetN, sDrop, sNext, sDead, sBrk, sCnt, sAsg, sFor, dNm, dTm, dC, dOp1, dOp2, dOpN, dMt, dMut, dCall, dLst, dTup, dNil, dCons, dVn, dVc, dSl, dSl3, dNoP, dPrt, dIf, dAndV, dOrV, dNotV, dBv, dTru, dNotT, dAndT, dOrT, dChn, dEqQ, dRpQ, qOp, qNil, qCons, qLs, qTp, dSrc, dRng1, dRng2, dZip2, dEnum, dComp, dYes, gNm, gTp, gCn, gNi, gIt, e_var, e_var1, e_var2, e_var3, e_var4, e_mov, e_mov1, e_mov2, e_mov3, e_mov4, e_tr1, e_tr2, e_tr3, e_tr4, e_tr5, e_own1, e_own2, e_reo1, e_reo2, e_of1, e_of2, e_pin1, e_pin2, e_pin3, e_arg1, e_arg2, e_arg3, e_arg4, e_isarg1, e_isarg2, e_conv1, e_conv2, e_conv3, e_conv4, e_conv5, e_conv6, e_sown1, e_sown2, e_sown3, e_sown4, e_put1, e_put2, e_po1, e_po2, e_p1, e_p2, e_ao1, e_ao2, e_nd0, e_nd1, e_nd2, e_sl, e_get1, e_get2, e_is, e_all, e_gets0, e_gets1, e_gets2, e_tms0, e_tms1, e_qg1, e_qg2, e_qg3, e_qgs0, e_qgs1, e_its1, e_its2, e_its3, e_its4, e_jts1, e_jts2, e_jts4, e_mt1, e_mt2, e_ty1, e_add1, e_add2, e_add3, e_sub, e_mul1, e_mul2, e_mul3, e_fdiv, e_mod, e_pow, e_neg, e_len1, e_len2, e_len3, e_len4, e_int1, e_int2, e_abs, e_max, e_min, e_ix1, e_ix2, e_ix3, e_ix4, e_eq1, e_eq2, e_eq3, e_lt1, e_le1, e_gt1, e_ge1, e_lt2, e_in1, e_app, e_ext, e_rev, e_clr, e_set, e_sl1, e_sl2, e_sl3, e_sl4, e_count, e_f1, e_f2, e_osh, e_owh, e_one, e_tt1, e_tt2, e_ctg1, e_ctg2, e_cn0, e_cn1, e_wi0, e_wi1, e_re0, e_re1, e_ifb1, e_ifb2, e_nm0, e_nm1, e_nm2, e_fa0, e_fa1, e_sum, e_allb, e_anyb, e_sp1, e_sp2, e_sp3, e_at0, e_at1, e_at2, e_at3, e_at4, e_at5, e_ixn40, e_ixn41, e_ixn42, e_ixn43, e_cp1, e_cp2, e_cp3, e_cp4, e_cp5, forall_eq, List.getD_cons_zero, List.getD_cons_succ, List.getD_nil, List.set_cons_zero, List.set_cons_succ, List.map_cons, List.map_nil, Option.map_some, Option.map_none, Option.bind_some, Option.bind_none, Option.getD_some, Option.some.injEq, exists_eq_left', exists_eq_left, exists_eq', exists_eq, decide_eq_true_eq, List.length_map, exists_eq_right, exists_and_left, exists_and_right, Option.isSome_some, T.int.injEq, T.str.injEq, T.lst.injEq, T.tup.injEq, T.bl.injEq, List.cons.injEq, Prod.mk.injEq, Hn.tm.injEq, true_and, and_true, and_assoc, and_self, ne_eq, not_false_eq_true, not_true_eq_false, ite_true, ite_false, if_true, if_false, reduceIte, reduceCtorEq, Bool.false_eq_true, false_and, and_false, imp_self, forall_const, implies_true, List.length_cons, List.length_nil, Nat.reduceAdd, Nat.reduceEqDiff, Bool.false_bne, Bool.true_bne, Bool.not_false, Bool.not_true, List.nil_append, List.cons_append, Int.reduceToNat, Int.reducePow, Int.reduceMul, Int.reduceSub, Int.reduceAdd, Int.reduceNeg, kt_NoneType_int, kt_NoneType_bool, kt_NoneType_str, kt_NoneType_list, kt_NoneType_tuple, kt_bool_int, kt_bool_bool, kt_bool_str, kt_bool_list, kt_bool_tuple, kt_int_int, kt_int_bool, kt_int_str, kt_int_list, kt_int_tuple, kt_str_int, kt_str_bool, kt_str_str, kt_str_list, kt_str_tuple, kt_list_int, kt_list_bool, kt_list_str, kt_list_list, kt_list_tuple, kt_tuple_int, kt_tuple_bool, kt_tuple_str, kt_tuple_list, kt_tuple_tuple, kt_dict_int, kt_dict_bool, kt_dict_str, kt_dict_list, kt_dict_tuple, e_ii_non, e_ii_bl, e_ii_int, e_ii_str, e_ii_lst, e_ii_scr, e_ii_tup, e_ii_dK, e_ii_dT, dShr, dNew, dNewL, dMeth, dProp, dCm, dFld, sFld, callK, lendK, noexP, Sl.io.injEq, Sl.sh.injEq, e_cnt, e_lkT, e_putT, e_isiC, e_isiC2, e_ii_ins, dCallL, e_argL, e_fl1, e_fl2, e_fl3, e_fl4, List.all_cons, List.all_nil, dDict, dDict0, e_keys0, e_keysS, e_keysI, e_cl_non, e_cl_bl, e_cl_int, e_cl_str, e_cl_lst, e_cl_scr, e_cl_tup, e_cl_dK, e_cl_dT, e_iq1, e_iq2, e_nn1, e_nn2, e_nn3, e_nn4, e_inp, e_ixd, Int.cast_ofNat_Int, Int.natCast_succ, decide_true, decide_false, Int.reduceEq, Int.reduceLT, Int.reduceLE, Int.reduceNe, Nat.reduceLT, Nat.reduceLeDiff, Bool.and_true, Bool.true_and, Bool.and_false, Bool.false_and, Bool.not_eq_true, Bool.or_true, Bool.or_false, Int.natCast_add, Int.natCast_one, Int.zero_add, Int.add_zero, D__law_many, e_sdraw, cp]
  refine ⟨ir, log_small (by decide) (by decide), fun t1 r1 i1 x1 y1 => ?_⟩
  refine ⟨i1, log_small (by decide) (by decide), fun t2 r2 i2 x2 y2 => ?_⟩
  refine ⟨i2, log_60 (by decide) (by decide +kernel), fun t3 r3 i3 x3 y3 => ?_⟩
  refine ⟨by omega, i3, log_small (by decide) (by decide), fun t4 r4 i4 x4 y4 => ?_⟩
  obtain ⟨y, ym, ey⟩ := pick_int (ns := [0, 1, r1, r2, r3]) x4 y4
  simp only [List.map_cons, List.map_nil] at ey
  simp only [sSeq, sSet, sPar, sIf, sRet, sRetN, sDrop, sNext, sDead, sBrk, sCnt, sAsg, sFor, dNm, dTm, dC, dOp1, dOp2, dOpN, dMt, dMut, dCall, dLst, dTup, dNil, dCons, dVn, dVc, dSl, dSl3, dNoP, dPrt, dIf, dAndV, dOrV, dNotV, dBv, dTru, dNotT, dAndT, dOrT, dChn, dEqQ, dRpQ, qOp, qNil, qCons, qLs, qTp, dSrc, dRng1, dRng2, dZip2, dEnum, dComp, dYes, gNm, gTp, gCn, gNi, gIt, e_var, e_var1, e_var2, e_var3, e_var4, e_mov, e_mov1, e_mov2, e_mov3, e_mov4, e_tr1, e_tr2, e_tr3, e_tr4, e_tr5, e_own1, e_own2, e_reo1, e_reo2, e_of1, e_of2, e_pin1, e_pin2, e_pin3, e_arg1, e_arg2, e_arg3, e_arg4, e_isarg1, e_isarg2, e_conv1, e_conv2, e_conv3, e_conv4, e_conv5, e_conv6, e_sown1, e_sown2, e_sown3, e_sown4, e_put1, e_put2, e_po1, e_po2, e_p1, e_p2, e_ao1, e_ao2, e_nd0, e_nd1, e_nd2, e_sl, e_get1, e_get2, e_is, e_all, e_gets0, e_gets1, e_gets2, e_tms0, e_tms1, e_qg1, e_qg2, e_qg3, e_qgs0, e_qgs1, e_its1, e_its2, e_its3, e_its4, e_jts1, e_jts2, e_jts4, e_mt1, e_mt2, e_ty1, e_add1, e_add2, e_add3, e_sub, e_mul1, e_mul2, e_mul3, e_fdiv, e_mod, e_pow, e_neg, e_len1, e_len2, e_len3, e_len4, e_int1, e_int2, e_abs, e_max, e_min, e_ix1, e_ix2, e_ix3, e_ix4, e_eq1, e_eq2, e_eq3, e_lt1, e_le1, e_gt1, e_ge1, e_lt2, e_in1, e_app, e_ext, e_rev, e_clr, e_set, e_sl1, e_sl2, e_sl3, e_sl4, e_count, e_f1, e_f2, e_osh, e_owh, e_one, e_tt1, e_tt2, e_ctg1, e_ctg2, e_cn0, e_cn1, e_wi0, e_wi1, e_re0, e_re1, e_ifb1, e_ifb2, e_nm0, e_nm1, e_nm2, e_fa0, e_fa1, e_sum, e_allb, e_anyb, e_sp1, e_sp2, e_sp3, e_at0, e_at1, e_at2, e_at3, e_at4, e_at5, e_ixn40, e_ixn41, e_ixn42, e_ixn43, e_cp1, e_cp2, e_cp3, e_cp4, e_cp5, forall_eq, List.getD_cons_zero, List.getD_cons_succ, List.getD_nil, List.set_cons_zero, List.set_cons_succ, List.map_cons, List.map_nil, Option.map_some, Option.map_none, Option.bind_some, Option.bind_none, Option.getD_some, Option.some.injEq, exists_eq_left', exists_eq_left, exists_eq', exists_eq, decide_eq_true_eq, List.length_map, exists_eq_right, exists_and_left, exists_and_right, Option.isSome_some, T.int.injEq, T.str.injEq, T.lst.injEq, T.tup.injEq, T.bl.injEq, List.cons.injEq, Prod.mk.injEq, Hn.tm.injEq, true_and, and_true, and_assoc, and_self, ne_eq, not_false_eq_true, not_true_eq_false, ite_true, ite_false, if_true, if_false, reduceIte, reduceCtorEq, Bool.false_eq_true, false_and, and_false, imp_self, forall_const, implies_true, List.length_cons, List.length_nil, Nat.reduceAdd, Nat.reduceEqDiff, Bool.false_bne, Bool.true_bne, Bool.not_false, Bool.not_true, List.nil_append, List.cons_append, Int.reduceToNat, Int.reducePow, Int.reduceMul, Int.reduceSub, Int.reduceAdd, Int.reduceNeg, kt_NoneType_int, kt_NoneType_bool, kt_NoneType_str, kt_NoneType_list, kt_NoneType_tuple, kt_bool_int, kt_bool_bool, kt_bool_str, kt_bool_list, kt_bool_tuple, kt_int_int, kt_int_bool, kt_int_str, kt_int_list, kt_int_tuple, kt_str_int, kt_str_bool, kt_str_str, kt_str_list, kt_str_tuple, kt_list_int, kt_list_bool, kt_list_str, kt_list_list, kt_list_tuple, kt_tuple_int, kt_tuple_bool, kt_tuple_str, kt_tuple_list, kt_tuple_tuple, kt_dict_int, kt_dict_bool, kt_dict_str, kt_dict_list, kt_dict_tuple, e_ii_non, e_ii_bl, e_ii_int, e_ii_str, e_ii_lst, e_ii_scr, e_ii_tup, e_ii_dK, e_ii_dT, dShr, dNew, dNewL, dMeth, dProp, dCm, dFld, sFld, callK, lendK, noexP, Sl.io.injEq, Sl.sh.injEq, e_cnt, e_lkT, e_putT, e_isiC, e_isiC2, e_ii_ins, dCallL, e_argL, e_fl1, e_fl2, e_fl3, e_fl4, List.all_cons, List.all_nil, dDict, dDict0, e_keys0, e_keysS, e_keysI, e_cl_non, e_cl_bl, e_cl_int, e_cl_str, e_cl_lst, e_cl_scr, e_cl_tup, e_cl_dK, e_cl_dT, e_iq1, e_iq2, e_nn1, e_nn2, e_nn3, e_nn4, e_inp, e_ixd, Int.cast_ofNat_Int, Int.natCast_succ, decide_true, decide_false, Int.reduceEq, Int.reduceLT, Int.reduceLE, Int.reduceNe, Nat.reduceLT, Nat.reduceLeDiff, Bool.and_true, Bool.true_and, Bool.and_false, Bool.false_and, Bool.not_eq_true, Bool.or_true, Bool.or_false, Int.natCast_add, Int.natCast_one, Int.zero_add, Int.add_zero, ey]
  simp only [List.mem_cons, List.not_mem_nil, or_false] at ym
  refine q t4 y i4 ?_ ?_
  · rcases ym with rfl | rfl | rfl | rfl | rfl <;> omega
  · rcases ym with rfl | rfl | rfl | rfl | rfl <;> omega
/-- what is drawn: three counts of up to sixty-one digits -/
structure Drawn (a b p : Int) : Prop where
  a0 : 0 ≤ a
  b0 : 0 ≤ b
  p0 : 0 ≤ p
  p1 : p ≤ a * b
  a1 : a ≤ 10 ^ 60
  b1 : b ≤ 10 ^ 60
  abL : a * b < 10 ^ 61
theorem Drawn.ab {a b p : Int} (d : Drawn a b p) : a * b ≤ 10 ^ 61 := Int.le_of_lt d.abL
theorem Drawn.cnt {a b p : Int} (d : Drawn a b p) : Cnt a b p := ⟨d.a0, d.b0, d.p0, d.p1, Int.le_trans d.a1 (by decide +kernel), Int.le_trans d.b1 (by decide +kernel)⟩
def SAny : Sx := fun ars Q => ∃ t, ars = [.io t] ∧ IsReel t ∧ ∀ t' a b p, IsReel t' → Drawn a b p → Q.ok (false, tri a b p) [.io t']
theorem mn_SAny : Mn SAny := fun ρ Q Q' ⟨t, e, i, q⟩ k _ => ⟨t, e, i, fun t' a b p x y => k _ _ (q t' a b p x y)⟩
theorem e_sany {t : T} {Q : Po Rv} : SAny [.io t] Q = (IsReel t ∧ ∀ t' a b p, IsReel t' → Drawn a b p → Q.ok (false, tri a b p) [.io t']) :=
  propext ⟨fun ⟨_, e, h⟩ => by cases e; exact h, fun h => ⟨_, rfl, h⟩⟩
theorem mul_bd {x y X Y : Int} (x0 : 0 ≤ x) (y0 : 0 ≤ y) (hx : x ≤ X) (hy : y ≤ Y) : x * y ≤ X * Y := Int.mul_le_mul hx hy y0 (by omega)
def RestAny : Ds :=
    (sSeq (sSet 3 (dOp2 mulT (dNm 1) (dNm 2)))
    (sSeq (sSet 4 (dLst (dCons (dTm (dC (.int 0))) (dCons (dTm (dVar 3)) (dCons (dTm (dOpN (f2 min2T) (dCons (dTm (dC (.int 1))) (dCons (dNm 3) dNil)))) (dCons (dTm (dOpN (f2 max2T) (dCons (dTm (dC (.int 0))) (dCons (dTm (dOp2 subT (dNm 3) (dTm (dC (.int 1))))) dNil)))) (dCons (dTm (dOp2 fdivT (dNm 3) (dTm (dC (.int 2))))) (dCons (dTm (dCall SDraw (dCons (dNm 0) (dCons (dTm (dOp2 addT (dNm 3) (dTm (dC (.int 1))))) dNil)))) dNil))))))))
    (sRet (dTup (dCons (dTm (dVar 1)) (dCons (dTm (dVar 2)) (dCons (dTm (dOp2 ixT (dNm 4) (dTm (dCall SDraw (dCons (dNm 0) (dCons (dTm (dC (.int 6))) dNil)))))) dNil)))))))
theorem any_rest (Q : Po Rv) (t0 t : T) (a b : Int) (ir : IsReel t) (a0 : 0 ≤ a) (b0 : 0 ≤ b) (a1 : a ≤ 10 ^ 60) (b1 : b ≤ 10 ^ 60) (ab : a * b < 10 ^ 61) (q : ∀ t' p, IsReel t' → Drawn a b p → Q.ok (false, tri a b p) [.io t']) :
    RestAny [.io t, .sh (.int a), .sh (.int b), .no, .no] (fwish [.io t0] Q) := by
  have hs := sizeLine_eq
  have m := mul_big a0 b0 (Int.le_trans a1 (by decide +kernel)) (Int.le_trans b1 (by decide +kernel))
  have p0 := Int.mul_nonneg a0 b0
  have c2 : CDivW (a * b) 2 = True := eq_true ⟨by decide, by decide⟩
  have big : (10 : Int) ^ 61 + 1 ≤ 10 ^ 190 := by decide +kernel
  unfold RestAny
  simp only [sSeq, sSet, sPar, sIf, sRet, sRetN, sDrop, sNext, sDead, sBrk, sCnt, sAsg, sFor, dNm, dTm, dC, dOp1, dOp2, dOpN, dMt, dMut, dCall, dLst, dTup, dNil, dCons, dVn, dVc, dSl, dSl3, dNoP, dPrt, dIf, dAndV, dOrV, dNotV, dBv, dTru, dNotT, dAndT, dOrT, dChn, dEqQ, dRpQ, qOp, qNil, qCons, qLs, qTp, dSrc, dRng1, dRng2, dZip2, dEnum, dComp, dYes, gNm, gTp, gCn, gNi, gIt, e_var, e_var1, e_var2, e_var3, e_var4, e_mov, e_mov1, e_mov2, e_mov3, e_mov4, e_tr1, e_tr2, e_tr3, e_tr4, e_tr5, e_own1, e_own2, e_reo1, e_reo2, e_of1, e_of2, e_pin1, e_pin2, e_pin3, e_arg1, e_arg2, e_arg3, e_arg4, e_isarg1, e_isarg2, e_conv1, e_conv2, e_conv3, e_conv4, e_conv5, e_conv6, e_sown1, e_sown2, e_sown3, e_sown4, e_put1, e_put2, e_po1, e_po2, e_p1, e_p2, e_ao1, e_ao2, e_nd0, e_nd1, e_nd2, e_sl, e_get1, e_get2, e_is, e_all, e_gets0, e_gets1, e_gets2, e_tms0, e_tms1, e_qg1, e_qg2, e_qg3, e_qgs0, e_qgs1, e_its1, e_its2, e_its3, e_its4, e_jts1, e_jts2, e_jts4, e_mt1, e_mt2, e_ty1, e_add1, e_add2, e_add3, e_sub, e_mul1, e_mul2, e_mul3, e_fdiv, e_mod, e_pow, e_neg, e_len1, e_len2, e_len3, e_len4, e_int1, e_int2, e_abs, e_max, e_min, e_ix1, e_ix2, e_ix3, e_ix4, e_eq1, e_eq2, e_eq3, e_lt1, e_le1, e_gt1, e_ge1, e_lt2, e_in1, e_app, e_ext, e_rev, e_clr, e_set, e_sl1, e_sl2, e_sl3, e_sl4, e_count, e_f1, e_f2, e_osh, e_owh, e_one, e_tt1, e_tt2, e_ctg1, e_ctg2, e_cn0, e_cn1, e_wi0, e_wi1, e_re0, e_re1, e_ifb1, e_ifb2, e_nm0, e_nm1, e_nm2, e_fa0, e_fa1, e_sum, e_allb, e_anyb, e_sp1, e_sp2, e_sp3, e_at0, e_at1, e_at2, e_at3, e_at4, e_at5, e_ixn40, e_ixn41, e_ixn42, e_ixn43, e_cp1, e_cp2, e_cp3, e_cp4, e_cp5, forall_eq, List.getD_cons_zero, List.getD_cons_succ, List.getD_nil, List.set_cons_zero, List.set_cons_succ, List.map_cons, List.map_nil, Option.map_some, Option.map_none, Option.bind_some, Option.bind_none, Option.getD_some, Option.some.injEq, exists_eq_left', exists_eq_left, exists_eq', exists_eq, decide_eq_true_eq, List.length_map, exists_eq_right, exists_and_left, exists_and_right, Option.isSome_some, T.int.injEq, T.str.injEq, T.lst.injEq, T.tup.injEq, T.bl.injEq, List.cons.injEq, Prod.mk.injEq, Hn.tm.injEq, true_and, and_true, and_assoc, and_self, ne_eq, not_false_eq_true, not_true_eq_false, ite_true, ite_false, if_true, if_false, reduceIte, reduceCtorEq, Bool.false_eq_true, false_and, and_false, imp_self, forall_const, implies_true, List.length_cons, List.length_nil, Nat.reduceAdd, Nat.reduceEqDiff, Bool.false_bne, Bool.true_bne, Bool.not_false, Bool.not_true, List.nil_append, List.cons_append, Int.reduceToNat, Int.reducePow, Int.reduceMul, Int.reduceSub, Int.reduceAdd, Int.reduceNeg, kt_NoneType_int, kt_NoneType_bool, kt_NoneType_str, kt_NoneType_list, kt_NoneType_tuple, kt_bool_int, kt_bool_bool, kt_bool_str, kt_bool_list, kt_bool_tuple, kt_int_int, kt_int_bool, kt_int_str, kt_int_list, kt_int_tuple, kt_str_int, kt_str_bool, kt_str_str, kt_str_list, kt_str_tuple, kt_list_int, kt_list_bool, kt_list_str, kt_list_list, kt_list_tuple, kt_tuple_int, kt_tuple_bool, kt_tuple_str, kt_tuple_list, kt_tuple_tuple, kt_dict_int, kt_dict_bool, kt_dict_str, kt_dict_list, kt_dict_tuple, e_ii_non, e_ii_bl, e_ii_int, e_ii_str, e_ii_lst, e_ii_scr, e_ii_tup, e_ii_dK, e_ii_dT, dShr, dNew, dNewL, dMeth, dProp, dCm, dFld, sFld, callK, lendK, noexP, Sl.io.injEq, Sl.sh.injEq, e_cnt, e_lkT, e_putT, e_isiC, e_isiC2, e_ii_ins, dCallL, e_argL, e_fl1, e_fl2, e_fl3, e_fl4, List.all_cons, List.all_nil, dDict, dDict0, e_keys0, e_keysS, e_keysI, e_cl_non, e_cl_bl, e_cl_int, e_cl_str, e_cl_lst, e_cl_scr, e_cl_tup, e_cl_dK, e_cl_dT, e_iq1, e_iq2, e_nn1, e_nn2, e_nn3, e_nn4, e_inp, e_ixd, Int.cast_ofNat_Int, Int.natCast_succ, decide_true, decide_false, Int.reduceEq, Int.reduceLT, Int.reduceLE, Int.reduceNe, Nat.reduceLT, Nat.reduceLeDiff, Bool.and_true, Bool.true_and, Bool.and_false, Bool.false_and, Bool.not_eq_true, Bool.or_true, Bool.or_false, Int.natCast_add, Int.natCast_one, Int.zero_add, Int.add_zero, m, c2, e_sdraw]
  refine ⟨ir, by omega, log_60 (by omega) (by omega), fun t1 r1 i1 x1 y1 => ?_⟩
  refine ⟨by omega, i1, log_small (by decide) (by decide), fun t2 r2 i2 x2 y2 => ?_⟩
  obtain ⟨y, ym, ey⟩ := pick_int (ns := [0, a * b, if a * b < 1 then a * b else 1, if a * b - 1 > 0 then a * b - 1 else 0, a * b / 2, r1]) x2 y2
  simp only [List.map_cons, List.map_nil] at ey
  simp only [sSeq, sSet, sPar, sIf, sRet, sRetN, sDrop, sNext, sDead, sBrk, sCnt, sAsg, sFor, dNm, dTm, dC, dOp1, dOp2, dOpN, dMt, dMut, dCall, dLst, dTup, dNil, dCons, dVn, dVc, dSl, dSl3, dNoP, dPrt, dIf, dAndV, dOrV, dNotV, dBv, dTru, dNotT, dAndT, dOrT, dChn, dEqQ, dRpQ, qOp, qNil, qCons, qLs, qTp, dSrc, dRng1, dRng2, dZip2, dEnum, dComp, dYes, gNm, gTp, gCn, gNi, gIt, e_var, e_var1, e_var2, e_var3, e_var4, e_mov, e_mov1, e_mov2, e_mov3, e_mov4, e_tr1, e_tr2, e_tr3, e_tr4, e_tr5, e_own1, e_own2, e_reo1, e_reo2, e_of1, e_of2, e_pin1, e_pin2, e_pin3, e_arg1, e_arg2, e_arg3, e_arg4, e_isarg1, e_isarg2, e_conv1, e_conv2, e_conv3, e_conv4, e_conv5, e_conv6, e_sown1, e_sown2, e_sown3, e_sown4, e_put1, e_put2, e_po1, e_po2, e_p1, e_p2, e_ao1, e_ao2, e_nd0, e_nd1, e_nd2, e_sl, e_get1, e_get2, e_is, e_all, e_gets0, e_gets1, e_gets2, e_tms0, e_tms1, e_qg1, e_qg2, e_qg3, e_qgs0, e_qgs1, e_its1, e_its2, e_its3, e_its4, e_jts1, e_jts2, e_jts4, e_mt1, e_mt2, e_ty1, e_add1, e_add2, e_add3, e_sub, e_mul1, e_mul2, e_mul3, e_fdiv, e_mod, e_pow, e_neg, e_len1, e_len2, e_len3, e_len4, e_int1, e_int2, e_abs, e_max, e_min, e_ix1, e_ix2, e_ix3, e_ix4, e_eq1, e_eq2, e_eq3, e_lt1, e_le1, e_gt1, e_ge1, e_lt2, e_in1, e_app, e_ext, e_rev, e_clr, e_set, e_sl1, e_sl2, e_sl3, e_sl4, e_count, e_f1, e_f2, e_osh, e_owh, e_one, e_tt1, e_tt2, e_ctg1, e_ctg2, e_cn0, e_cn1, e_wi0, e_wi1, e_re0, e_re1, e_ifb1, e_ifb2, e_nm0, e_nm1, e_nm2, e_fa0, e_fa1, e_sum, e_allb, e_anyb, e_sp1, e_sp2, e_sp3, e_at0, e_at1, e_at2, e_at3, e_at4, e_at5, e_ixn40, e_ixn41, e_ixn42, e_ixn43, e_cp1, e_cp2, e_cp3, e_cp4, e_cp5, forall_eq, List.getD_cons_zero, List.getD_cons_succ, List.getD_nil, List.set_cons_zero, List.set_cons_succ, List.map_cons, List.map_nil, Option.map_some, Option.map_none, Option.bind_some, Option.bind_none, Option.getD_some, Option.some.injEq, exists_eq_left', exists_eq_left, exists_eq', exists_eq, decide_eq_true_eq, List.length_map, exists_eq_right, exists_and_left, exists_and_right, Option.isSome_some, T.int.injEq, T.str.injEq, T.lst.injEq, T.tup.injEq, T.bl.injEq, List.cons.injEq, Prod.mk.injEq, Hn.tm.injEq, true_and, and_true, and_assoc, and_self, ne_eq, not_false_eq_true, not_true_eq_false, ite_true, ite_false, if_true, if_false, reduceIte, reduceCtorEq, Bool.false_eq_true, false_and, and_false, imp_self, forall_const, implies_true, List.length_cons, List.length_nil, Nat.reduceAdd, Nat.reduceEqDiff, Bool.false_bne, Bool.true_bne, Bool.not_false, Bool.not_true, List.nil_append, List.cons_append, Int.reduceToNat, Int.reducePow, Int.reduceMul, Int.reduceSub, Int.reduceAdd, Int.reduceNeg, kt_NoneType_int, kt_NoneType_bool, kt_NoneType_str, kt_NoneType_list, kt_NoneType_tuple, kt_bool_int, kt_bool_bool, kt_bool_str, kt_bool_list, kt_bool_tuple, kt_int_int, kt_int_bool, kt_int_str, kt_int_list, kt_int_tuple, kt_str_int, kt_str_bool, kt_str_str, kt_str_list, kt_str_tuple, kt_list_int, kt_list_bool, kt_list_str, kt_list_list, kt_list_tuple, kt_tuple_int, kt_tuple_bool, kt_tuple_str, kt_tuple_list, kt_tuple_tuple, kt_dict_int, kt_dict_bool, kt_dict_str, kt_dict_list, kt_dict_tuple, e_ii_non, e_ii_bl, e_ii_int, e_ii_str, e_ii_lst, e_ii_scr, e_ii_tup, e_ii_dK, e_ii_dT, dShr, dNew, dNewL, dMeth, dProp, dCm, dFld, sFld, callK, lendK, noexP, Sl.io.injEq, Sl.sh.injEq, e_cnt, e_lkT, e_putT, e_isiC, e_isiC2, e_ii_ins, dCallL, e_argL, e_fl1, e_fl2, e_fl3, e_fl4, List.all_cons, List.all_nil, dDict, dDict0, e_keys0, e_keysS, e_keysI, e_cl_non, e_cl_bl, e_cl_int, e_cl_str, e_cl_lst, e_cl_scr, e_cl_tup, e_cl_dK, e_cl_dT, e_iq1, e_iq2, e_nn1, e_nn2, e_nn3, e_nn4, e_inp, e_ixd, Int.cast_ofNat_Int, Int.natCast_succ, decide_true, decide_false, Int.reduceEq, Int.reduceLT, Int.reduceLE, Int.reduceNe, Nat.reduceLT, Nat.reduceLeDiff, Bool.and_true, Bool.true_and, Bool.and_false, Bool.false_and, Bool.not_eq_true, Bool.or_true, Bool.or_false, Int.natCast_add, Int.natCast_one, Int.zero_add, Int.add_zero, ey]
  simp only [List.mem_cons, List.not_mem_nil, or_false] at ym
  refine ⟨by omega, q t2 y i2 ⟨a0, b0, ?_, ?_, a1, b1, ab⟩⟩
  · rcases ym with rfl | rfl | rfl | rfl | rfl | rfl <;> first | omega | (split <;> omega)
  · rcases ym with rfl | rfl | rfl | rfl | rfl | rfl <;> first | omega | (split <;> omega)
theorem h__law_any (ars : Rho) (Q : Po Rv) (h : SAny ars Q) : D__law_any SMany SDraw (ars ++ List.replicate 4 .no) (fwish ars Q) := by
  obtain ⟨t, rfl, ir, q⟩ := h
  have hs := sizeLine_eq
  show D__law_any SMany SDraw [.io t, .no, .no, .no, .no] _
  have cp : CPow 10 60 = True := eq_true (by unfold CPow; decide)
  show sSeq _ (sSeq _ RestAny) _ _
  simp only [sSeq, sSet, sPar, sIf, sRet, sRetN, sDrop, sNext, sDead, sBrk, sCnt, sAsg, sFor, dNm, dTm, dC, dOp1, dOp2, dOpN, dMt, dMut, dCall, dLst, dTup, dNil, dCons, dVn, dVc, dSl, dSl3, dNoP, dPrt, dIf, dAndV, dOrV, dNotV, dBv, dTru, dNotT, dAndT, dOrT, dChn, dEqQ, dRpQ, qOp, qNil, qCons, qLs, qTp, dSrc, dRng1, dRng2, dZip2, dEnum, dComp, dYes, gNm, gTp, gCn, gNi, gIt, e_var, e_var1, e_var2, e_var3, e_var4, e_mov, e_mov1, e_mov2, e_mov3, e_mov4, e_tr1, e_tr2, e_tr3, e_tr4, e_tr5, e_own1, e_own2, e_reo1, e_reo2, e_of1, e_of2, e_pin1, e_pin2, e_pin3, e_arg1, e_arg2, e_arg3, e_arg4, e_isarg1, e_isarg2, e_conv1, e_conv2, e_conv3, e_conv4, e_conv5, e_conv6, e_sown1, e_sown2, e_sown3, e_sown4, e_put1, e_put2, e_po1, e_po2, e_p1, e_p2, e_ao1, e_ao2, e_nd0, e_nd1, e_nd2, e_sl, e_get1, e_get2, e_is, e_all, e_gets0, e_gets1, e_gets2, e_tms0, e_tms1, e_qg1, e_qg2, e_qg3, e_qgs0, e_qgs1, e_its1, e_its2, e_its3, e_its4, e_jts1, e_jts2, e_jts4, e_mt1, e_mt2, e_ty1, e_add1, e_add2, e_add3, e_sub, e_mul1, e_mul2, e_mul3, e_fdiv, e_mod, e_pow, e_neg, e_len1, e_len2, e_len3, e_len4, e_int1, e_int2, e_abs, e_max, e_min, e_ix1, e_ix2, e_ix3, e_ix4, e_eq1, e_eq2, e_eq3, e_lt1, e_le1, e_gt1, e_ge1, e_lt2, e_in1, e_app, e_ext, e_rev, e_clr, e_set, e_sl1, e_sl2, e_sl3, e_sl4, e_count, e_f1, e_f2, e_osh, e_owh, e_one, e_tt1, e_tt2, e_ctg1, e_ctg2, e_cn0, e_cn1, e_wi0, e_wi1, e_re0, e_re1, e_ifb1, e_ifb2, e_nm0, e_nm1, e_nm2, e_fa0, e_fa1, e_sum, e_allb, e_anyb, e_sp1, e_sp2, e_sp3, e_at0, e_at1, e_at2, e_at3, e_at4, e_at5, e_ixn40, e_ixn41, e_ixn42, e_ixn43, e_cp1, e_cp2, e_cp3, e_cp4, e_cp5, forall_eq, List.getD_cons_zero, List.getD_cons_succ, List.getD_nil, List.set_cons_zero, List.set_cons_succ, List.map_cons, List.map_nil, Option.map_some, Option.map_none, Option.bind_some, Option.bind_none, Option.getD_some, Option.some.injEq, exists_eq_left', exists_eq_left, exists_eq', exists_eq, decide_eq_true_eq, List.length_map, exists_eq_right, exists_and_left, exists_and_right, Option.isSome_some, T.int.injEq, T.str.injEq, T.lst.injEq, T.tup.injEq, T.bl.injEq, List.cons.injEq, Prod.mk.injEq, Hn.tm.injEq, true_and, and_true, and_assoc, and_self, ne_eq, not_false_eq_true, not_true_eq_false, ite_true, ite_false, if_true, if_false, reduceIte, reduceCtorEq, Bool.false_eq_true, false_and, and_false, imp_self, forall_const, implies_true, List.length_cons, List.length_nil, Nat.reduceAdd, Nat.reduceEqDiff, Bool.false_bne, Bool.true_bne, Bool.not_false, Bool.not_true, List.nil_append, List.cons_append, Int.reduceToNat, Int.reducePow, Int.reduceMul, Int.reduceSub, Int.reduceAdd, Int.reduceNeg, kt_NoneType_int, kt_NoneType_bool, kt_NoneType_str, kt_NoneType_list, kt_NoneType_tuple, kt_bool_int, kt_bool_bool, kt_bool_str, kt_bool_list, kt_bool_tuple, kt_int_int, kt_int_bool, kt_int_str, kt_int_list, kt_int_tuple, kt_str_int, kt_str_bool, kt_str_str, kt_str_list, kt_str_tuple, kt_list_int, kt_list_bool, kt_list_str, kt_list_list, kt_list_tuple, kt_tuple_int, kt_tuple_bool, kt_tuple_str, kt_tuple_list, kt_tuple_tuple, kt_dict_int, kt_dict_bool, kt_dict_str, kt_dict_list, kt_dict_tuple, e_ii_non, e_ii_bl, e_ii_int, e_ii_str, e_ii_lst, e_ii_scr, e_ii_tup, e_ii_dK, e_ii_dT, dShr, dNew, dNewL, dMeth, dProp, dCm, dFld, sFld, callK, lendK, noexP, Sl.io.injEq, Sl.sh.injEq, e_cnt, e_lkT, e_putT, e_isiC, e_isiC2, e_ii_ins, dCallL, e_argL, e_fl1, e_fl2, e_fl3, e_fl4, List.all_cons, List.all_nil, dDict, dDict0, e_keys0, e_keysS, e_keysI, e_cl_non, e_cl_bl, e_cl_int, e_cl_str, e_cl_lst, e_cl_scr, e_cl_tup, e_cl_dK, e_cl_dT, e_iq1, e_iq2, e_nn1, e_nn2, e_nn3, e_nn4, e_inp, e_ixd, Int.cast_ofNat_Int, Int.natCast_succ, decide_true, decide_false, Int.reduceEq, Int.reduceLT, Int.reduceLE, Int.reduceNe, Nat.reduceLT, Nat.reduceLeDiff, Bool.and_true, Bool.true_and, Bool.and_false, Bool.false_and, Bool.not_eq_true, Bool.or_true, Bool.or_false, Int.natCast_add, Int.natCast_one, Int.zero_add, Int.add_zero, e_smany, e_sdraw, cp]
  refine ⟨ir, fun t1 a i1 a0 a1 => ⟨i1, fun t2 b i2 b0 b1 => ?_⟩⟩
  refine ⟨i2, log_small (by decide) (by decide), fun t3 r i3 _ _ => ?_⟩
  have up : (10 : Int) ^ 30 ≤ 10 ^ 60 := by decide +kernel
  have m1 : (10 : Int) ^ 30 * 10 ^ 30 < 10 ^ 61 := by decide +kernel
  have m2 : (10 : Int) ^ 60 * 9 < 10 ^ 61 := by decide +kernel
  have le30 : (1000000000000000000000000000000 : Int) = 10 ^ 30 := by decide +kernel
  have le60 : (1000000000000000000000000000000000000000000000000000000000000 : Int) = 10 ^ 60 := by decide +kernel
  rw [le30] at a1 b1
  refine ⟨fun _ => ⟨i3, log_60 (by decide) (by decide +kernel), fun t4 c i4 c0 c1 => ⟨i4, log_small (by decide) (by decide), fun t5 d i5 d0 d1 => ⟨i5, log_small (by decide) (by decide), fun t6 s i6 _ _ => ⟨fun _ => ?_, fun _ => ?_⟩⟩⟩⟩, fun _ => ?_⟩
  · rw [le60] at c1
    refine any_rest Q t t6 d c i6 d0 c0 (by omega) (by omega) ?_ fun t' p i' z => q t' d c p i' z
    have := mul_bd d0 c0 (show d ≤ 9 by omega) (show c ≤ 10 ^ 60 by omega)
    omega
  · rw [le60] at c1
    refine any_rest Q t t6 c d i6 c0 d0 (by omega) (by omega) ?_ fun t' p i' z => q t' c d p i' z
    have := mul_bd c0 d0 (show c ≤ 10 ^ 60 by omega) (show d ≤ 9 by omega)
    omega
  · refine any_rest Q t t3 a b i3 a0 b0 (by omega) (by omega) ?_ fun t' p i' z => q t' a b p i' z
    have := mul_bd a0 b0 a1 b1
    omega
end O
namespace O
open PySem PySem.Spec PyProof.Rows L2
theorem lt_pow {i : Int} (h0 : 0 ≤ i) (h1 : i ≤ 10 ^ 65) : i.natAbs < 10 ^ 70 := by
  have h2 : (i.natAbs : Int) = i := Int.natAbs_of_nonneg h0
  have h3 : (10 : Int) ^ 65 < ((10 ^ 70 : Nat) : Int) := by decide +kernel
  have h4 : (i.natAbs : Int) < ((10 ^ 70 : Nat) : Int) := by rw [h2]; omega
  exact_mod_cast h4
theorem Nt.int65 {i : Int} (h0 : 0 ≤ i) (h1 : i ≤ 10 ^ 65) : Nt (.int i) 0 80 :=
  (Nt.int (k := 70) (by decide) (lt_pow h0 h1) (by
    have : i.natAbs.log2 ≤ 300 := log_lt (Nat.lt_trans (lt_pow h0 h1) (by decide +kernel))
    omega)).more (by decide) (by decide)
end O
namespace O
open PySem PySem.Spec PyProof.Rows L2
def NoRow (t : T) : Prop := (fIsRow [t]).pre ∧ (fIsRow [t]).val = (false, .bl false)
theorem NoRow.str {l : List Nat} (h : rowB l = false) (k : l.length ≤ sizeLine) : NoRow (.str l) := ⟨k, by show (false, T.bl (rowB l)) = _; rw [h]⟩
theorem NoRow.lst (ts : List T) : NoRow (.lst ts) := ⟨⟨"list", rfl, rfl⟩, rfl⟩
theorem NoRow.tup (ts : List T) : NoRow (.tup ts) := ⟨⟨"tuple", rfl, rfl⟩, rfl⟩
theorem NoRow.dK (ts : List (Key × T)) : NoRow (.dK ts) := ⟨⟨"dict", rfl, rfl⟩, rfl⟩
theorem NoRow.int (i : Int) : NoRow (.int i) := ⟨⟨"int", rfl, rfl⟩, rfl⟩
theorem NoRow.bl (i : Bool) : NoRow (.bl i) := ⟨⟨"bool", rfl, rfl⟩, rfl⟩
theorem NoRow.non : NoRow .non := ⟨⟨"NoneType", rfl, rfl⟩, rfl⟩
theorem rowB_bad {l : List Nat} {c : Nat} (h : c ∈ l) (n : c ≠ 97 ∧ c ≠ 98) : rowB l = false := by
  cases e : rowB l with
  | false => rfl
  | true => rcases (rowB_iff.mp e).2 c h with z | z <;> omega
theorem rowB_long {l : List Nat} (h : 200 < l.length) : rowB l = false := by
  cases e : rowB l with
  | false => rfl
  | true => have := (rowB_iff.mp e).1; omega
def Odd1 (v : T) : Prop := NoRow v ∧ Nt v 2 41000
def SNo : Sx := fun ars Q => ∃ t l, ars = [.io t, .sh (.str l)] ∧ IsReel t ∧ abS l ∧ l.length ≤ 200 ∧ ∀ t' vs, IsReel t' → vs.length ≤ 40 → (∀ v ∈ vs, Odd1 v) → Q.ok (true, .lst vs) [.io t', .no]
theorem mn_SNo : Mn SNo := fun ρ Q Q' ⟨t, l, e, h1, h2, h3, q⟩ k _ => ⟨t, l, e, h1, h2, h3, fun t' vs a b c => k _ _ (q t' vs a b c)⟩
theorem e_sno {t : T} {l : List Nat} {Q : Po Rv} : SNo [.io t, .sh (.str l)] Q = (IsReel t ∧ abS l ∧ l.length ≤ 200 ∧ ∀ t' vs, IsReel t' → vs.length ≤ 40 → (∀ v ∈ vs, Odd1 v) → Q.ok (true, .lst vs) [.io t', .no]) :=
  propext ⟨fun ⟨_, _, e, h⟩ => by cases e; exact h, fun h => ⟨_, _, rfl, h⟩⟩
def chS (l : List Nat) : Prop := ∀ c ∈ l, c < 128
theorem abS.ch {l : List Nat} (h : abS l) : chS l := fun c m => by rcases h c m with z | z <;> omega
theorem chS.nt {l : List Nat} (h : chS l) (k : l.length ≤ 4090) : Nt (.str l) 2 41000 := (Nt.str fun c m => Nat.lt_of_lt_of_le (h c m) (by decide)).more (by decide) (by omega)
theorem Odd1.txt {l : List Nat} {c : Nat} (m : c ∈ l) (n : c ≠ 97 ∧ c ≠ 98) (ch : chS l) (k : l.length ≤ 4090) : Odd1 (.str l) := ⟨.str (rowB_bad m n) (by have := sizeLine_eq; omega), ch.nt k⟩
theorem ocons {v : T} {vs : List T} (h : Odd1 v) (k : ∀ x ∈ vs, Odd1 x) : ∀ x ∈ v :: vs, Odd1 x := fun x m => by
  rcases List.mem_cons.mp m with z | z
  · rw [z]; exact h
  · exact k x z
theorem cpow_59 : CPow 10 59 := ⟨by decide, by decide, by decide⟩
theorem e_keys1 {l : List Nat} {u : T} : keysT [.str l, u] = some [(.inr (S l), u)] := rfl
theorem h__law_no_rows (ars : Rho) (Q : Po Rv) (h : SNo ars Q) : D__law_no_rows SDraw (ars ++ List.replicate 3 .no) (fwish ars Q) := by
  obtain ⟨t, l, rfl, ir, ab, hl, q⟩ := h
  have hs := sizeLine_eq
  show D__law_no_rows SDraw [.io t, .sh (.str l), .no, .no, .no] _
  simp only [sSeq, sSet, sPar, sIf, sRet, sRetN, sDrop, sNext, sDead, sBrk, sCnt, sAsg, sFor, dNm, dTm, dC, dOp1, dOp2, dOpN, dMt, dMut, dCall, dLst, dTup, dNil, dCons, dVn, dVc, dSl, dSl3, dNoP, dPrt, dIf, dAndV, dOrV, dNotV, dBv, dTru, dNotT, dAndT, dOrT, dChn, dEqQ, dRpQ, qOp, qNil, qCons, qLs, qTp, dSrc, dRng1, dRng2, dZip2, dEnum, dComp, dYes, gNm, gTp, gCn, gNi, gIt, e_var, e_var1, e_var2, e_var3, e_var4, e_mov, e_mov1, e_mov2, e_mov3, e_mov4, e_tr1, e_tr2, e_tr3, e_tr4, e_tr5, e_own1, e_own2, e_reo1, e_reo2, e_of1, e_of2, e_pin1, e_pin2, e_pin3, e_arg1, e_arg2, e_arg3, e_arg4, e_isarg1, e_isarg2, e_conv1, e_conv2, e_conv3, e_conv4, e_conv5, e_conv6, e_sown1, e_sown2, e_sown3, e_sown4, e_put1, e_put2, e_po1, e_po2, e_p1, e_p2, e_ao1, e_ao2, e_nd0, e_nd1, e_nd2, e_sl, e_get1, e_get2, e_is, e_all, e_gets0, e_gets1, e_gets2, e_tms0, e_tms1, e_qg1, e_qg2, e_qg3, e_qgs0, e_qgs1, e_its1, e_its2, e_its3, e_its4, e_jts1, e_jts2, e_jts4, e_mt1, e_mt2, e_ty1, e_add1, e_add2, e_add3, e_sub, e_mul1, e_mul2, e_mul3, e_fdiv, e_mod, e_pow, e_neg, e_len1, e_len2, e_len3, e_len4, e_int1, e_int2, e_abs, e_max, e_min, e_ix1, e_ix2, e_ix3, e_ix4, e_eq1, e_eq2, e_eq3, e_lt1, e_le1, e_gt1, e_ge1, e_lt2, e_in1, e_app, e_ext, e_rev, e_clr, e_set, e_sl1, e_sl2, e_sl3, e_sl4, e_count, e_f1, e_f2, e_osh, e_owh, e_one, e_tt1, e_tt2, e_ctg1, e_ctg2, e_cn0, e_cn1, e_wi0, e_wi1, e_re0, e_re1, e_ifb1, e_ifb2, e_nm0, e_nm1, e_nm2, e_fa0, e_fa1, e_sum, e_allb, e_anyb, e_sp1, e_sp2, e_sp3, e_at0, e_at1, e_at2, e_at3, e_at4, e_at5, e_ixn40, e_ixn41, e_ixn42, e_ixn43, e_cp1, e_cp2, e_cp3, e_cp4, e_cp5, forall_eq, List.getD_cons_zero, List.getD_cons_succ, List.getD_nil, List.set_cons_zero, List.set_cons_succ, List.map_cons, List.map_nil, Option.map_some, Option.map_none, Option.bind_some, Option.bind_none, Option.getD_some, Option.some.injEq, exists_eq_left', exists_eq_left, exists_eq', exists_eq, decide_eq_true_eq, List.length_map, exists_eq_right, exists_and_left, exists_and_right, Option.isSome_some, T.int.injEq, T.str.injEq, T.lst.injEq, T.tup.injEq, T.bl.injEq, List.cons.injEq, Prod.mk.injEq, Hn.tm.injEq, true_and, and_true, and_assoc, and_self, ne_eq, not_false_eq_true, not_true_eq_false, ite_true, ite_false, if_true, if_false, reduceIte, reduceCtorEq, Bool.false_eq_true, false_and, and_false, imp_self, forall_const, implies_true, List.length_cons, List.length_nil, Nat.reduceAdd, Nat.reduceEqDiff, Bool.false_bne, Bool.true_bne, Bool.not_false, Bool.not_true, List.nil_append, List.cons_append, Int.reduceToNat, Int.reducePow, Int.reduceMul, Int.reduceSub, Int.reduceAdd, Int.reduceNeg, D__law_no_rows, e_sdraw]
  refine ⟨by omega, ir, by omega, log_small (by omega) (by omega), fun t2 r ir2 r0 r1 => ?_⟩
  have r2 : 0 ≤ r + 1 := by omega
  have c1 : cutL l none (some r) = l.take r.toNat := cut_toI l r0
  have c2 : cutL l (some (r + 1)) none = l.drop (r + 1).toNat := cut_fromI l r2
  have len1 : ∀ c : Nat, (l.take r.toNat ++ [c] ++ l.drop (r + 1).toNat).length ≤ 201 := fun c => by simp; omega
  refine ⟨by omega, ?_⟩
  refine comp_all (w := fun c => T.str [c]) (xs := [65, 66, 99, 48, 45, 32, 10, 96, 63]) (fun c => .str (l.take r.toNat ++ [c] ++ l.drop (r + 1).toNat)) (fun c _ A B hA => ?_) (by rw [hs]; decide) ?_
  · simp only [sSeq, sSet, sPar, sIf, sRet, sRetN, sDrop, sNext, sDead, sBrk, sCnt, sAsg, sFor, dNm, dTm, dC, dOp1, dOp2, dOpN, dMt, dMut, dCall, dLst, dTup, dNil, dCons, dVn, dVc, dSl, dSl3, dNoP, dPrt, dIf, dAndV, dOrV, dNotV, dBv, dTru, dNotT, dAndT, dOrT, dChn, dEqQ, dRpQ, qOp, qNil, qCons, qLs, qTp, dSrc, dRng1, dRng2, dZip2, dEnum, dComp, dYes, gNm, gTp, gCn, gNi, gIt, e_var, e_var1, e_var2, e_var3, e_var4, e_mov, e_mov1, e_mov2, e_mov3, e_mov4, e_tr1, e_tr2, e_tr3, e_tr4, e_tr5, e_own1, e_own2, e_reo1, e_reo2, e_of1, e_of2, e_pin1, e_pin2, e_pin3, e_arg1, e_arg2, e_arg3, e_arg4, e_isarg1, e_isarg2, e_conv1, e_conv2, e_conv3, e_conv4, e_conv5, e_conv6, e_sown1, e_sown2, e_sown3, e_sown4, e_put1, e_put2, e_po1, e_po2, e_p1, e_p2, e_ao1, e_ao2, e_nd0, e_nd1, e_nd2, e_sl, e_get1, e_get2, e_is, e_all, e_gets0, e_gets1, e_gets2, e_tms0, e_tms1, e_qg1, e_qg2, e_qg3, e_qgs0, e_qgs1, e_its1, e_its2, e_its3, e_its4, e_jts1, e_jts2, e_jts4, e_mt1, e_mt2, e_ty1, e_add1, e_add2, e_add3, e_sub, e_mul1, e_mul2, e_mul3, e_fdiv, e_mod, e_pow, e_neg, e_len1, e_len2, e_len3, e_len4, e_int1, e_int2, e_abs, e_max, e_min, e_ix1, e_ix2, e_ix3, e_ix4, e_eq1, e_eq2, e_eq3, e_lt1, e_le1, e_gt1, e_ge1, e_lt2, e_in1, e_app, e_ext, e_rev, e_clr, e_set, e_sl1, e_sl2, e_sl3, e_sl4, e_count, e_f1, e_f2, e_osh, e_owh, e_one, e_tt1, e_tt2, e_ctg1, e_ctg2, e_cn0, e_cn1, e_wi0, e_wi1, e_re0, e_re1, e_ifb1, e_ifb2, e_nm0, e_nm1, e_nm2, e_fa0, e_fa1, e_sum, e_allb, e_anyb, e_sp1, e_sp2, e_sp3, e_at0, e_at1, e_at2, e_at3, e_at4, e_at5, e_ixn40, e_ixn41, e_ixn42, e_ixn43, e_cp1, e_cp2, e_cp3, e_cp4, e_cp5, forall_eq, List.getD_cons_zero, List.getD_cons_succ, List.getD_nil, List.set_cons_zero, List.set_cons_succ, List.map_cons, List.map_nil, Option.map_some, Option.map_none, Option.bind_some, Option.bind_none, Option.getD_some, Option.some.injEq, exists_eq_left', exists_eq_left, exists_eq', exists_eq, decide_eq_true_eq, List.length_map, exists_eq_right, exists_and_left, exists_and_right, Option.isSome_some, T.int.injEq, T.str.injEq, T.lst.injEq, T.tup.injEq, T.bl.injEq, List.cons.injEq, Prod.mk.injEq, Hn.tm.injEq, true_and, and_true, and_assoc, and_self, ne_eq, not_false_eq_true, not_true_eq_false, ite_true, ite_false, if_true, if_false, reduceIte, reduceCtorEq, Bool.false_eq_true, false_and, and_false, imp_self, forall_const, implies_true, List.length_cons, List.length_nil, Nat.reduceAdd, Nat.reduceEqDiff, Bool.false_bne, Bool.true_bne, Bool.not_false, Bool.not_true, List.nil_append, List.cons_append, Int.reduceToNat, Int.reducePow, Int.reduceMul, Int.reduceSub, Int.reduceAdd, Int.reduceNeg, c1, c2]
    have := len1 c
    simp only [List.length_append, List.length_cons, List.length_nil] at this ⊢
    exact ⟨by omega, by omega, by omega, by omega, hA⟩
  · have e201 : ((201 : Int) - (l.length : Int)) = ((201 - l.length : Nat) : Int) := by omega
    simp only [sSeq, sSet, sPar, sIf, sRet, sRetN, sDrop, sNext, sDead, sBrk, sCnt, sAsg, sFor, dNm, dTm, dC, dOp1, dOp2, dOpN, dMt, dMut, dCall, dLst, dTup, dNil, dCons, dVn, dVc, dSl, dSl3, dNoP, dPrt, dIf, dAndV, dOrV, dNotV, dBv, dTru, dNotT, dAndT, dOrT, dChn, dEqQ, dRpQ, qOp, qNil, qCons, qLs, qTp, dSrc, dRng1, dRng2, dZip2, dEnum, dComp, dYes, gNm, gTp, gCn, gNi, gIt, e_var, e_var1, e_var2, e_var3, e_var4, e_mov, e_mov1, e_mov2, e_mov3, e_mov4, e_tr1, e_tr2, e_tr3, e_tr4, e_tr5, e_own1, e_own2, e_reo1, e_reo2, e_of1, e_of2, e_pin1, e_pin2, e_pin3, e_arg1, e_arg2, e_arg3, e_arg4, e_isarg1, e_isarg2, e_conv1, e_conv2, e_conv3, e_conv4, e_conv5, e_conv6, e_sown1, e_sown2, e_sown3, e_sown4, e_put1, e_put2, e_po1, e_po2, e_p1, e_p2, e_ao1, e_ao2, e_nd0, e_nd1, e_nd2, e_sl, e_get1, e_get2, e_is, e_all, e_gets0, e_gets1, e_gets2, e_tms0, e_tms1, e_qg1, e_qg2, e_qg3, e_qgs0, e_qgs1, e_its1, e_its2, e_its3, e_its4, e_jts1, e_jts2, e_jts4, e_mt1, e_mt2, e_ty1, e_add1, e_add2, e_add3, e_sub, e_mul1, e_mul2, e_mul3, e_fdiv, e_mod, e_pow, e_neg, e_len1, e_len2, e_len3, e_len4, e_int1, e_int2, e_abs, e_max, e_min, e_ix1, e_ix2, e_ix3, e_ix4, e_eq1, e_eq2, e_eq3, e_lt1, e_le1, e_gt1, e_ge1, e_lt2, e_in1, e_app, e_ext, e_rev, e_clr, e_set, e_sl1, e_sl2, e_sl3, e_sl4, e_count, e_f1, e_f2, e_osh, e_owh, e_one, e_tt1, e_tt2, e_ctg1, e_ctg2, e_cn0, e_cn1, e_wi0, e_wi1, e_re0, e_re1, e_ifb1, e_ifb2, e_nm0, e_nm1, e_nm2, e_fa0, e_fa1, e_sum, e_allb, e_anyb, e_sp1, e_sp2, e_sp3, e_at0, e_at1, e_at2, e_at3, e_at4, e_at5, e_ixn40, e_ixn41, e_ixn42, e_ixn43, e_cp1, e_cp2, e_cp3, e_cp4, e_cp5, forall_eq, List.getD_cons_zero, List.getD_cons_succ, List.getD_nil, List.set_cons_zero, List.set_cons_succ, List.map_cons, List.map_nil, Option.map_some, Option.map_none, Option.bind_some, Option.bind_none, Option.getD_some, Option.some.injEq, exists_eq_left', exists_eq_left, exists_eq', exists_eq, decide_eq_true_eq, List.length_map, exists_eq_right, exists_and_left, exists_and_right, Option.isSome_some, T.int.injEq, T.str.injEq, T.lst.injEq, T.tup.injEq, T.bl.injEq, List.cons.injEq, Prod.mk.injEq, Hn.tm.injEq, true_and, and_true, and_assoc, and_self, ne_eq, not_false_eq_true, not_true_eq_false, ite_true, ite_false, if_true, if_false, reduceIte, reduceCtorEq, Bool.false_eq_true, false_and, and_false, imp_self, forall_const, implies_true, List.length_cons, List.length_nil, Nat.reduceAdd, Nat.reduceEqDiff, Bool.false_bne, Bool.true_bne, Bool.not_false, Bool.not_true, List.nil_append, List.cons_append, Int.reduceToNat, Int.reducePow, Int.reduceMul, Int.reduceSub, Int.reduceAdd, Int.reduceNeg, e201, tupleT, listT, dDict0, dDict, e_keys1]
    have n1 : (List.replicate (((201 - l.length : Nat) : Int)).toNat [97]).flatten.length = 201 - l.length := by simp
    have n2 : (List.replicate 4000 [98]).flatten.length = 4000 := by decide +kernel
    refine ⟨by omega, by omega, by omega, by omega, by omega, by omega, by omega, by omega, by omega, by omega, by omega, by omega, by omega, by omega, by omega, by omega, by omega, by simp, by omega, by omega, ?_⟩
    refine ⟨cpow_59, by omega, by omega, by omega, q t2 _ ir2 (by simp) ?_⟩
    have ch := ab.ch
    have chA : ∀ a b : List Nat, chS a → chS b → chS (a ++ b) := fun a b ha hb c m => (List.mem_append.mp m).elim (ha c) (hb c)
    have ch1 : ∀ c : Nat, c < 128 → chS [c] := fun c h d m => by rw [List.mem_singleton.mp m]; exact h
    have mid : ∀ c : Nat, c < 128 → c ≠ 97 ∧ c ≠ 98 → Odd1 (.str (l.take r.toNat ++ [c] ++ l.drop (r + 1).toNat)) := fun c h n =>
      .txt (c := c) (by simp) n (chA _ _ (chA _ _ (fun d m => ch d (List.mem_of_mem_take m)) (ch1 c h)) fun d m => ch d (List.mem_of_mem_drop m)) (by have := len1 c; omega)
    have sg : ∀ x ∈ l.map (fun c => T.str [c]), Nt x 0 18 := fun x m => by
      obtain ⟨c, hc, rfl⟩ := List.mem_map.mp m
      exact (Nt.str fun d z => Nat.lt_of_lt_of_le (ch1 c (ch c hc) d z) (by decide)).more (by decide) (by simp)
    have one : ∀ x ∈ [T.str l], Nt x 0 2008 := fun x m => by
      rw [List.mem_singleton.mp m]
      exact (Nt.str fun d z => Nat.lt_of_lt_of_le (ch d z) (by decide)).more (by decide) (by omega)
    have r97 : chS (List.replicate (((201 - l.length : Nat) : Int)).toNat [97]).flatten := (abS_rep (.inl rfl) _).ch
    have r98 : chS (List.replicate 4000 [98]).flatten := (abS_rep (.inr rfl) _).ch
    have lm : (l.map fun c => T.str [c]).length = l.length := List.length_map ..
    refine ocons (mid 65 (by decide) (by decide)) (ocons (mid 66 (by decide) (by decide)) (ocons (mid 99 (by decide) (by decide)) (ocons (mid 48 (by decide) (by decide)) (ocons (mid 45 (by decide) (by decide)) (ocons (mid 32 (by decide) (by decide)) (ocons (mid 10 (by decide) (by decide)) (ocons (mid 96 (by decide) (by decide)) (ocons (mid 63 (by decide) (by decide)) ?_))))))))
    refine ocons ⟨.str (rowB_long (by rw [List.length_append, n1]; omega)) (by rw [List.length_append, n1]; omega), (chA _ _ ch r97).nt (by rw [List.length_append, n1]; omega)⟩ ?_
    refine ocons ⟨.str (rowB_long (by rw [n2]; decide)) (by rw [n2, hs]; decide), r98.nt (by rw [n2]; decide)⟩ ?_
    refine ocons (.txt (c := 32) (by simp) (by decide) (chA _ _ ch (ch1 32 (by decide))) (by rw [List.length_append]; simp; omega)) ?_
    refine ocons (.txt (c := 10) (by simp) (by decide) (chA [10] l (ch1 10 (by decide)) ch) (by rw [List.length_cons]; omega)) ?_
    refine ocons ⟨.lst _, (Nt.lst one).more (by decide) (by simp)⟩ (ocons ⟨.tup _, (Nt.tup one).more (by decide) (by simp)⟩ (ocons ⟨.lst _, (Nt.lst sg).more (by decide) (by rw [lm]; omega)⟩ ?_))
    refine ocons ⟨.non, Nt.non.more (by decide) (by decide)⟩ (ocons ⟨.int _, (Nt.int (k := 1) (by decide) (by decide) (by decide)).more (by decide) (by decide)⟩ (ocons ⟨.int _, (Nt.int (k := 1) (by decide) (by decide) (by decide)).more (by decide) (by decide)⟩ (ocons ⟨.bl _, (Nt.bl _).more (by decide) (by decide)⟩ ?_)))
    refine ocons ⟨.lst _, (NtL.lst (.nil 0 0)).more (by decide) (by decide)⟩ (ocons ⟨.tup _, (NtL.tup (.nil 0 0)).more (by decide) (by decide)⟩ (ocons ⟨.dK _, Nt.dict0.more (by decide) (by decide)⟩ ?_))
    refine ocons ⟨.dK _, (Nt.dict1 (k := 1) (fun d z => Nat.lt_of_lt_of_le (ch d z) (by decide)) (by decide) (by decide) (by decide)).more (by decide) (by omega)⟩ (ocons ⟨.tup _, (Nt.tup sg).more (by decide) (by rw [lm]; omega)⟩ ?_)
    refine ocons ⟨.int _, (Nt.int (k := 60) (by decide) (by decide +kernel) (by decide +kernel)).more (by decide) (by decide)⟩ ?_
    refine ocons ⟨.lst _, (Nt.lst (a := 0) (m := 18) fun x m => ?_).more (by decide) (by decide)⟩ (ocons (.txt (c := 44) (by decide) (by decide) (fun d m => by simp at m; omega) (by decide)) fun x m => by cases m)
    rw [List.mem_singleton.mp m]
    exact (Nt.str (by decide)).more (by decide) (by decide)
theorem none_of {α : Type} : ∀ xs : List α, ([] : List T) ++ xs.filterMap (fun _ => (none : Option T)) = []
  | [] => rfl
  | _ :: xs => none_of xs
theorem eq_nil : eqvO (T.lst []).pd (T.lst []).pd = true := by decide
theorem ok_nil : okD (.lst []) := okD_ints []
end O
namespace O
open PySem PySem.Spec PyProof.Rows L2
def kindPs (is : Str → Bool) : List (List Nat × Bool) := [([114, 111, 119], is "InvalidRow"), ([99, 111, 117, 110, 116, 115], is "InvalidCounts"), ([114, 117, 110, 115], is "InvalidRuns"), ([115, 119, 97, 112], is "InvalidSwap"), ([112, 97, 116, 116, 101, 114, 110], is "InvalidPattern"), ([110, 117, 109, 98, 101, 114], is "InvalidNumber"),
  ([115, 116, 114, 97, 110, 100, 115], is "InvalidStrands"), ([99, 111, 109, 109, 97, 110, 100], is "InvalidCommand"), ([100, 105, 102, 102, 101, 114, 101, 110, 116], is "Different"), ([117, 110, 100, 111], is "NothingToUndo"), ([108, 97, 114, 103, 101], is "TooLarge"), ([116, 101, 120, 116], is "InvalidText")]
theorem kind_ps {n : Str} (h : n ∈ errNames) : (pickedT (kindPs (takesE n)) = [.str (kd__law_kind n)]) ∨ (pickedT (kindPs (takesE n)) = [] ∧ kd__law_kind n = oddT) := by
  simp only [errNames, List.mem_cons, List.not_mem_nil, or_false] at h
  rcases h with rfl | rfl | rfl | rfl | rfl | rfl | rfl | rfl | rfl | rfl | rfl | rfl | rfl <;> first | exact .inl rfl | exact .inr ⟨rfl, rfl⟩
theorem hk__law_kind (a C : Addr) (d : Option Addr) (fs : List (Str × T)) (n : Str) (h : n ∈ errNames) : D__law_kind (.exc a C d fs) (takesE n) (.sh (.exc a C d fs) :: List.replicate (5 - 1) .no) ⟨fun _ => False, fun r _ => r = (false, .str (kd__law_kind n)), fun _ => False, fun _ => False, fun _ _ _ => False⟩ := by
  have hs := sizeLine_eq
  have k := kind_ps h
  generalize takesE n = is at k ⊢
  show D__law_kind (.exc a C d fs) is [.sh (.exc a C d fs), .no, .no, .no, .no] _
  simp only [sSeq, sSet, sPar, sIf, sRet, sRetN, sDrop, sNext, sDead, sBrk, sCnt, sAsg, sFor, dNm, dTm, dC, dOp1, dOp2, dOpN, dMt, dMut, dCall, dLst, dTup, dNil, dCons, dVn, dVc, dSl, dSl3, dNoP, dPrt, dIf, dAndV, dOrV, dNotV, dBv, dTru, dNotT, dAndT, dOrT, dChn, dEqQ, dRpQ, qOp, qNil, qCons, qLs, qTp, dSrc, dRng1, dRng2, dZip2, dEnum, dComp, dYes, gNm, gTp, gCn, gNi, gIt, e_var, e_var1, e_var2, e_var3, e_var4, e_mov, e_mov1, e_mov2, e_mov3, e_mov4, e_tr1, e_tr2, e_tr3, e_tr4, e_tr5, e_own1, e_own2, e_reo1, e_reo2, e_of1, e_of2, e_pin1, e_pin2, e_pin3, e_arg1, e_arg2, e_arg3, e_arg4, e_isarg1, e_isarg2, e_conv1, e_conv2, e_conv3, e_conv4, e_conv5, e_conv6, e_sown1, e_sown2, e_sown3, e_sown4, e_put1, e_put2, e_po1, e_po2, e_p1, e_p2, e_ao1, e_ao2, e_nd0, e_nd1, e_nd2, e_sl, e_get1, e_get2, e_is, e_all, e_gets0, e_gets1, e_gets2, e_tms0, e_tms1, e_qg1, e_qg2, e_qg3, e_qgs0, e_qgs1, e_its1, e_its2, e_its3, e_its4, e_jts1, e_jts2, e_jts4, e_mt1, e_mt2, e_ty1, e_add1, e_add2, e_add3, e_sub, e_mul1, e_mul2, e_mul3, e_fdiv, e_mod, e_pow, e_neg, e_len1, e_len2, e_len3, e_len4, e_int1, e_int2, e_abs, e_max, e_min, e_ix1, e_ix2, e_ix3, e_ix4, e_eq1, e_eq2, e_eq3, e_lt1, e_le1, e_gt1, e_ge1, e_lt2, e_in1, e_app, e_ext, e_rev, e_clr, e_set, e_sl1, e_sl2, e_sl3, e_sl4, e_count, e_f1, e_f2, e_osh, e_owh, e_one, e_tt1, e_tt2, e_ctg1, e_ctg2, e_cn0, e_cn1, e_wi0, e_wi1, e_re0, e_re1, e_ifb1, e_ifb2, e_nm0, e_nm1, e_nm2, e_fa0, e_fa1, e_sum, e_allb, e_anyb, e_sp1, e_sp2, e_sp3, e_at0, e_at1, e_at2, e_at3, e_at4, e_at5, e_ixn40, e_ixn41, e_ixn42, e_ixn43, e_cp1, e_cp2, e_cp3, e_cp4, e_cp5, forall_eq, List.getD_cons_zero, List.getD_cons_succ, List.getD_nil, List.set_cons_zero, List.set_cons_succ, List.map_cons, List.map_nil, Option.map_some, Option.map_none, Option.bind_some, Option.bind_none, Option.getD_some, Option.some.injEq, exists_eq_left', exists_eq_left, exists_eq', exists_eq, decide_eq_true_eq, List.length_map, exists_eq_right, exists_and_left, exists_and_right, Option.isSome_some, T.int.injEq, T.str.injEq, T.lst.injEq, T.tup.injEq, T.bl.injEq, List.cons.injEq, Prod.mk.injEq, Hn.tm.injEq, true_and, and_true, and_assoc, and_self, ne_eq, not_false_eq_true, not_true_eq_false, ite_true, ite_false, if_true, if_false, reduceIte, reduceCtorEq, Bool.false_eq_true, false_and, and_false, imp_self, forall_const, implies_true, List.length_cons, List.length_nil, Nat.reduceAdd, Nat.reduceEqDiff, Bool.false_bne, Bool.true_bne, Bool.not_false, Bool.not_true, List.nil_append, List.cons_append, Int.reduceToNat, Int.reducePow, Int.reduceMul, Int.reduceSub, Int.reduceAdd, Int.reduceNeg, kt_NoneType_int, kt_NoneType_bool, kt_NoneType_str, kt_NoneType_list, kt_NoneType_tuple, kt_bool_int, kt_bool_bool, kt_bool_str, kt_bool_list, kt_bool_tuple, kt_int_int, kt_int_bool, kt_int_str, kt_int_list, kt_int_tuple, kt_str_int, kt_str_bool, kt_str_str, kt_str_list, kt_str_tuple, kt_list_int, kt_list_bool, kt_list_str, kt_list_list, kt_list_tuple, kt_tuple_int, kt_tuple_bool, kt_tuple_str, kt_tuple_list, kt_tuple_tuple, kt_dict_int, kt_dict_bool, kt_dict_str, kt_dict_list, kt_dict_tuple, e_ii_non, e_ii_bl, e_ii_int, e_ii_str, e_ii_lst, e_ii_scr, e_ii_tup, e_ii_dK, e_ii_dT, e_ii_ins, dCallL, e_argL, e_fl1, e_fl2, e_fl3, e_fl4, List.all_cons, List.all_nil, dDict, dDict0, e_keys0, e_keysS, e_keysI, e_cl_non, e_cl_bl, e_cl_int, e_cl_str, e_cl_lst, e_cl_scr, e_cl_tup, e_cl_dK, e_cl_dT, e_iq1, e_iq2, e_nn1, e_nn2, e_nn3, e_nn4, e_inp, e_ixd, Int.cast_ofNat_Int, Int.natCast_succ, decide_true, decide_false, Int.reduceEq, Int.reduceLT, Int.reduceLE, Int.reduceNe, Nat.reduceLT, Nat.reduceLeDiff, Bool.and_true, Bool.true_and, Bool.and_false, Bool.false_and, Bool.not_eq_true, Bool.or_true, Bool.or_false, Int.natCast_add, Int.natCast_one, Int.zero_add, Int.add_zero, sRaise, sTry, sGone, dHot, dIsE, sPick, e_spx1, e_spx2, e_spx3, D__law_kind]
  refine ⟨by omega, by omega, by omega, by omega, by omega, by omega, by omega, by omega, by omega, by omega, by omega, by omega, by omega, by omega, by omega, by omega, by omega, by omega, by omega, by omega, by omega, by omega, by omega, kindPs is, rfl, (by show (12 : Nat) < 100; decide), ?_⟩
  rcases k with k | ⟨k, e⟩
  · rw [k]
    exact ⟨fun _ => ⟨rfl, rfl⟩, fun z => by cases z⟩
  · rw [k, e]
    exact ⟨(fun z => by cases z), fun _ => rfl⟩
def isRowB : T → Bool
  | .str l => rowB l
  | _ => false
def fChkX (C_InvalidRow : Addr) : List T → Ox
  | [t] => ⟨(fIsRow [t]).pre, isRowB t, C_InvalidRow, (false, .non)⟩
  | _ => .no
theorem isRow_val {t : T} (h : (fIsRow [t]).pre) : (fIsRow [t]).val = (false, .bl (isRowB t)) := by cases t <;> rfl
theorem h_check_row_x (C_InvalidRow : Addr) (ars : Rho) (Q : Po Rv) (h : (SPX (fChkX C_InvalidRow)) ars Q) : D_check_row_x (SP fIsRow) C_InvalidRow (ars ++ List.replicate 0 .no) (fwish ars Q) := by
  obtain ⟨ts, rfl, pre, q⟩ := h
  revert pre q
  unfold fChkX
  split
  · rename_i t
    intro pre q
    have pre : (fIsRow [t]).pre := pre
    show D_check_row_x (SP fIsRow) C_InvalidRow [.sh t] _
    have e := isRow_val pre
    simp only [sSeq, sSet, sPar, sIf, sRet, sRetN, sDrop, sNext, sDead, sBrk, sCnt, sAsg, sFor, dNm, dTm, dC, dOp1, dOp2, dOpN, dMt, dMut, dCall, dLst, dTup, dNil, dCons, dVn, dVc, dSl, dSl3, dNoP, dPrt, dIf, dAndV, dOrV, dNotV, dBv, dTru, dNotT, dAndT, dOrT, dChn, dEqQ, dRpQ, qOp, qNil, qCons, qLs, qTp, dSrc, dRng1, dRng2, dZip2, dEnum, dComp, dYes, gNm, gTp, gCn, gNi, gIt, e_var, e_var1, e_var2, e_var3, e_var4, e_mov, e_mov1, e_mov2, e_mov3, e_mov4, e_tr1, e_tr2, e_tr3, e_tr4, e_tr5, e_own1, e_own2, e_reo1, e_reo2, e_of1, e_of2, e_pin1, e_pin2, e_pin3, e_arg1, e_arg2, e_arg3, e_arg4, e_isarg1, e_isarg2, e_conv1, e_conv2, e_conv3, e_conv4, e_conv5, e_conv6, e_sown1, e_sown2, e_sown3, e_sown4, e_put1, e_put2, e_po1, e_po2, e_p1, e_p2, e_ao1, e_ao2, e_nd0, e_nd1, e_nd2, e_sl, e_get1, e_get2, e_is, e_all, e_gets0, e_gets1, e_gets2, e_tms0, e_tms1, e_qg1, e_qg2, e_qg3, e_qgs0, e_qgs1, e_its1, e_its2, e_its3, e_its4, e_jts1, e_jts2, e_jts4, e_mt1, e_mt2, e_ty1, e_add1, e_add2, e_add3, e_sub, e_mul1, e_mul2, e_mul3, e_fdiv, e_mod, e_pow, e_neg, e_len1, e_len2, e_len3, e_len4, e_int1, e_int2, e_abs, e_max, e_min, e_ix1, e_ix2, e_ix3, e_ix4, e_eq1, e_eq2, e_eq3, e_lt1, e_le1, e_gt1, e_ge1, e_lt2, e_in1, e_app, e_ext, e_rev, e_clr, e_set, e_sl1, e_sl2, e_sl3, e_sl4, e_count, e_f1, e_f2, e_osh, e_owh, e_one, e_tt1, e_tt2, e_ctg1, e_ctg2, e_cn0, e_cn1, e_wi0, e_wi1, e_re0, e_re1, e_ifb1, e_ifb2, e_nm0, e_nm1, e_nm2, e_fa0, e_fa1, e_sum, e_allb, e_anyb, e_sp1, e_sp2, e_sp3, e_at0, e_at1, e_at2, e_at3, e_at4, e_at5, e_ixn40, e_ixn41, e_ixn42, e_ixn43, e_cp1, e_cp2, e_cp3, e_cp4, e_cp5, forall_eq, List.getD_cons_zero, List.getD_cons_succ, List.getD_nil, List.set_cons_zero, List.set_cons_succ, List.map_cons, List.map_nil, Option.map_some, Option.map_none, Option.bind_some, Option.bind_none, Option.getD_some, Option.some.injEq, exists_eq_left', exists_eq_left, exists_eq', exists_eq, decide_eq_true_eq, List.length_map, exists_eq_right, exists_and_left, exists_and_right, Option.isSome_some, T.int.injEq, T.str.injEq, T.lst.injEq, T.tup.injEq, T.bl.injEq, List.cons.injEq, Prod.mk.injEq, Hn.tm.injEq, true_and, and_true, and_assoc, and_self, ne_eq, not_false_eq_true, not_true_eq_false, ite_true, ite_false, if_true, if_false, reduceIte, reduceCtorEq, Bool.false_eq_true, false_and, and_false, imp_self, forall_const, implies_true, List.length_cons, List.length_nil, Nat.reduceAdd, Nat.reduceEqDiff, Bool.false_bne, Bool.true_bne, Bool.not_false, Bool.not_true, List.nil_append, List.cons_append, Int.reduceToNat, Int.reducePow, Int.reduceMul, Int.reduceSub, Int.reduceAdd, Int.reduceNeg, kt_NoneType_int, kt_NoneType_bool, kt_NoneType_str, kt_NoneType_list, kt_NoneType_tuple, kt_bool_int, kt_bool_bool, kt_bool_str, kt_bool_list, kt_bool_tuple, kt_int_int, kt_int_bool, kt_int_str, kt_int_list, kt_int_tuple, kt_str_int, kt_str_bool, kt_str_str, kt_str_list, kt_str_tuple, kt_list_int, kt_list_bool, kt_list_str, kt_list_list, kt_list_tuple, kt_tuple_int, kt_tuple_bool, kt_tuple_str, kt_tuple_list, kt_tuple_tuple, kt_dict_int, kt_dict_bool, kt_dict_str, kt_dict_list, kt_dict_tuple, e_ii_non, e_ii_bl, e_ii_int, e_ii_str, e_ii_lst, e_ii_scr, e_ii_tup, e_ii_dK, e_ii_dT, e_ii_ins, dCallL, e_argL, e_fl1, e_fl2, e_fl3, e_fl4, List.all_cons, List.all_nil, dDict, dDict0, e_keys0, e_keysS, e_keysI, e_cl_non, e_cl_bl, e_cl_int, e_cl_str, e_cl_lst, e_cl_scr, e_cl_tup, e_cl_dK, e_cl_dT, e_iq1, e_iq2, e_nn1, e_nn2, e_nn3, e_nn4, e_inp, e_ixd, Int.cast_ofNat_Int, Int.natCast_succ, decide_true, decide_false, Int.reduceEq, Int.reduceLT, Int.reduceLE, Int.reduceNe, Nat.reduceLT, Nat.reduceLeDiff, Bool.and_true, Bool.true_and, Bool.and_false, Bool.false_and, Bool.not_eq_true, Bool.or_true, Bool.or_false, Int.natCast_add, Int.natCast_one, Int.zero_add, Int.add_zero, sRaise, sTry, sGone, dHot, dIsE, sPick, e_spx1, e_spx2, e_spx3, D_check_row_x, pre, e]
    have q : ifB (isRowB t) (Q.ok (false, .non) [.no]) (Q.ex C_InvalidRow [] [.no]) := q
    cases hb : isRowB t with
    | true => rw [hb] at q; simp only [sSeq, sSet, sPar, sIf, sRet, sRetN, sDrop, sNext, sDead, sBrk, sCnt, sAsg, sFor, dNm, dTm, dC, dOp1, dOp2, dOpN, dMt, dMut, dCall, dLst, dTup, dNil, dCons, dVn, dVc, dSl, dSl3, dNoP, dPrt, dIf, dAndV, dOrV, dNotV, dBv, dTru, dNotT, dAndT, dOrT, dChn, dEqQ, dRpQ, qOp, qNil, qCons, qLs, qTp, dSrc, dRng1, dRng2, dZip2, dEnum, dComp, dYes, gNm, gTp, gCn, gNi, gIt, e_var, e_var1, e_var2, e_var3, e_var4, e_mov, e_mov1, e_mov2, e_mov3, e_mov4, e_tr1, e_tr2, e_tr3, e_tr4, e_tr5, e_own1, e_own2, e_reo1, e_reo2, e_of1, e_of2, e_pin1, e_pin2, e_pin3, e_arg1, e_arg2, e_arg3, e_arg4, e_isarg1, e_isarg2, e_conv1, e_conv2, e_conv3, e_conv4, e_conv5, e_conv6, e_sown1, e_sown2, e_sown3, e_sown4, e_put1, e_put2, e_po1, e_po2, e_p1, e_p2, e_ao1, e_ao2, e_nd0, e_nd1, e_nd2, e_sl, e_get1, e_get2, e_is, e_all, e_gets0, e_gets1, e_gets2, e_tms0, e_tms1, e_qg1, e_qg2, e_qg3, e_qgs0, e_qgs1, e_its1, e_its2, e_its3, e_its4, e_jts1, e_jts2, e_jts4, e_mt1, e_mt2, e_ty1, e_add1, e_add2, e_add3, e_sub, e_mul1, e_mul2, e_mul3, e_fdiv, e_mod, e_pow, e_neg, e_len1, e_len2, e_len3, e_len4, e_int1, e_int2, e_abs, e_max, e_min, e_ix1, e_ix2, e_ix3, e_ix4, e_eq1, e_eq2, e_eq3, e_lt1, e_le1, e_gt1, e_ge1, e_lt2, e_in1, e_app, e_ext, e_rev, e_clr, e_set, e_sl1, e_sl2, e_sl3, e_sl4, e_count, e_f1, e_f2, e_osh, e_owh, e_one, e_tt1, e_tt2, e_ctg1, e_ctg2, e_cn0, e_cn1, e_wi0, e_wi1, e_re0, e_re1, e_ifb1, e_ifb2, e_nm0, e_nm1, e_nm2, e_fa0, e_fa1, e_sum, e_allb, e_anyb, e_sp1, e_sp2, e_sp3, e_at0, e_at1, e_at2, e_at3, e_at4, e_at5, e_ixn40, e_ixn41, e_ixn42, e_ixn43, e_cp1, e_cp2, e_cp3, e_cp4, e_cp5, forall_eq, List.getD_cons_zero, List.getD_cons_succ, List.getD_nil, List.set_cons_zero, List.set_cons_succ, List.map_cons, List.map_nil, Option.map_some, Option.map_none, Option.bind_some, Option.bind_none, Option.getD_some, Option.some.injEq, exists_eq_left', exists_eq_left, exists_eq', exists_eq, decide_eq_true_eq, List.length_map, exists_eq_right, exists_and_left, exists_and_right, Option.isSome_some, T.int.injEq, T.str.injEq, T.lst.injEq, T.tup.injEq, T.bl.injEq, List.cons.injEq, Prod.mk.injEq, Hn.tm.injEq, true_and, and_true, and_assoc, and_self, ne_eq, not_false_eq_true, not_true_eq_false, ite_true, ite_false, if_true, if_false, reduceIte, reduceCtorEq, Bool.false_eq_true, false_and, and_false, imp_self, forall_const, implies_true, List.length_cons, List.length_nil, Nat.reduceAdd, Nat.reduceEqDiff, Bool.false_bne, Bool.true_bne, Bool.not_false, Bool.not_true, List.nil_append, List.cons_append, Int.reduceToNat, Int.reducePow, Int.reduceMul, Int.reduceSub, Int.reduceAdd, Int.reduceNeg, kt_NoneType_int, kt_NoneType_bool, kt_NoneType_str, kt_NoneType_list, kt_NoneType_tuple, kt_bool_int, kt_bool_bool, kt_bool_str, kt_bool_list, kt_bool_tuple, kt_int_int, kt_int_bool, kt_int_str, kt_int_list, kt_int_tuple, kt_str_int, kt_str_bool, kt_str_str, kt_str_list, kt_str_tuple, kt_list_int, kt_list_bool, kt_list_str, kt_list_list, kt_list_tuple, kt_tuple_int, kt_tuple_bool, kt_tuple_str, kt_tuple_list, kt_tuple_tuple, kt_dict_int, kt_dict_bool, kt_dict_str, kt_dict_list, kt_dict_tuple, e_ii_non, e_ii_bl, e_ii_int, e_ii_str, e_ii_lst, e_ii_scr, e_ii_tup, e_ii_dK, e_ii_dT, e_ii_ins, dCallL, e_argL, e_fl1, e_fl2, e_fl3, e_fl4, List.all_cons, List.all_nil, dDict, dDict0, e_keys0, e_keysS, e_keysI, e_cl_non, e_cl_bl, e_cl_int, e_cl_str, e_cl_lst, e_cl_scr, e_cl_tup, e_cl_dK, e_cl_dT, e_iq1, e_iq2, e_nn1, e_nn2, e_nn3, e_nn4, e_inp, e_ixd, Int.cast_ofNat_Int, Int.natCast_succ, decide_true, decide_false, Int.reduceEq, Int.reduceLT, Int.reduceLE, Int.reduceNe, Nat.reduceLT, Nat.reduceLeDiff, Bool.and_true, Bool.true_and, Bool.and_false, Bool.false_and, Bool.not_eq_true, Bool.or_true, Bool.or_false, Int.natCast_add, Int.natCast_one, Int.zero_add, Int.add_zero, sRaise, sTry, sGone, dHot, dIsE, sPick, e_spx1, e_spx2, e_spx3] at q ⊢; exact q
    | false => rw [hb] at q; simp only [sSeq, sSet, sPar, sIf, sRet, sRetN, sDrop, sNext, sDead, sBrk, sCnt, sAsg, sFor, dNm, dTm, dC, dOp1, dOp2, dOpN, dMt, dMut, dCall, dLst, dTup, dNil, dCons, dVn, dVc, dSl, dSl3, dNoP, dPrt, dIf, dAndV, dOrV, dNotV, dBv, dTru, dNotT, dAndT, dOrT, dChn, dEqQ, dRpQ, qOp, qNil, qCons, qLs, qTp, dSrc, dRng1, dRng2, dZip2, dEnum, dComp, dYes, gNm, gTp, gCn, gNi, gIt, e_var, e_var1, e_var2, e_var3, e_var4, e_mov, e_mov1, e_mov2, e_mov3, e_mov4, e_tr1, e_tr2, e_tr3, e_tr4, e_tr5, e_own1, e_own2, e_reo1, e_reo2, e_of1, e_of2, e_pin1, e_pin2, e_pin3, e_arg1, e_arg2, e_arg3, e_arg4, e_isarg1, e_isarg2, e_conv1, e_conv2, e_conv3, e_conv4, e_conv5, e_conv6, e_sown1, e_sown2, e_sown3, e_sown4, e_put1, e_put2, e_po1, e_po2, e_p1, e_p2, e_ao1, e_ao2, e_nd0, e_nd1, e_nd2, e_sl, e_get1, e_get2, e_is, e_all, e_gets0, e_gets1, e_gets2, e_tms0, e_tms1, e_qg1, e_qg2, e_qg3, e_qgs0, e_qgs1, e_its1, e_its2, e_its3, e_its4, e_jts1, e_jts2, e_jts4, e_mt1, e_mt2, e_ty1, e_add1, e_add2, e_add3, e_sub, e_mul1, e_mul2, e_mul3, e_fdiv, e_mod, e_pow, e_neg, e_len1, e_len2, e_len3, e_len4, e_int1, e_int2, e_abs, e_max, e_min, e_ix1, e_ix2, e_ix3, e_ix4, e_eq1, e_eq2, e_eq3, e_lt1, e_le1, e_gt1, e_ge1, e_lt2, e_in1, e_app, e_ext, e_rev, e_clr, e_set, e_sl1, e_sl2, e_sl3, e_sl4, e_count, e_f1, e_f2, e_osh, e_owh, e_one, e_tt1, e_tt2, e_ctg1, e_ctg2, e_cn0, e_cn1, e_wi0, e_wi1, e_re0, e_re1, e_ifb1, e_ifb2, e_nm0, e_nm1, e_nm2, e_fa0, e_fa1, e_sum, e_allb, e_anyb, e_sp1, e_sp2, e_sp3, e_at0, e_at1, e_at2, e_at3, e_at4, e_at5, e_ixn40, e_ixn41, e_ixn42, e_ixn43, e_cp1, e_cp2, e_cp3, e_cp4, e_cp5, forall_eq, List.getD_cons_zero, List.getD_cons_succ, List.getD_nil, List.set_cons_zero, List.set_cons_succ, List.map_cons, List.map_nil, Option.map_some, Option.map_none, Option.bind_some, Option.bind_none, Option.getD_some, Option.some.injEq, exists_eq_left', exists_eq_left, exists_eq', exists_eq, decide_eq_true_eq, List.length_map, exists_eq_right, exists_and_left, exists_and_right, Option.isSome_some, T.int.injEq, T.str.injEq, T.lst.injEq, T.tup.injEq, T.bl.injEq, List.cons.injEq, Prod.mk.injEq, Hn.tm.injEq, true_and, and_true, and_assoc, and_self, ne_eq, not_false_eq_true, not_true_eq_false, ite_true, ite_false, if_true, if_false, reduceIte, reduceCtorEq, Bool.false_eq_true, false_and, and_false, imp_self, forall_const, implies_true, List.length_cons, List.length_nil, Nat.reduceAdd, Nat.reduceEqDiff, Bool.false_bne, Bool.true_bne, Bool.not_false, Bool.not_true, List.nil_append, List.cons_append, Int.reduceToNat, Int.reducePow, Int.reduceMul, Int.reduceSub, Int.reduceAdd, Int.reduceNeg, kt_NoneType_int, kt_NoneType_bool, kt_NoneType_str, kt_NoneType_list, kt_NoneType_tuple, kt_bool_int, kt_bool_bool, kt_bool_str, kt_bool_list, kt_bool_tuple, kt_int_int, kt_int_bool, kt_int_str, kt_int_list, kt_int_tuple, kt_str_int, kt_str_bool, kt_str_str, kt_str_list, kt_str_tuple, kt_list_int, kt_list_bool, kt_list_str, kt_list_list, kt_list_tuple, kt_tuple_int, kt_tuple_bool, kt_tuple_str, kt_tuple_list, kt_tuple_tuple, kt_dict_int, kt_dict_bool, kt_dict_str, kt_dict_list, kt_dict_tuple, e_ii_non, e_ii_bl, e_ii_int, e_ii_str, e_ii_lst, e_ii_scr, e_ii_tup, e_ii_dK, e_ii_dT, e_ii_ins, dCallL, e_argL, e_fl1, e_fl2, e_fl3, e_fl4, List.all_cons, List.all_nil, dDict, dDict0, e_keys0, e_keysS, e_keysI, e_cl_non, e_cl_bl, e_cl_int, e_cl_str, e_cl_lst, e_cl_scr, e_cl_tup, e_cl_dK, e_cl_dT, e_iq1, e_iq2, e_nn1, e_nn2, e_nn3, e_nn4, e_inp, e_ixd, Int.cast_ofNat_Int, Int.natCast_succ, decide_true, decide_false, Int.reduceEq, Int.reduceLT, Int.reduceLE, Int.reduceNe, Nat.reduceLT, Nat.reduceLeDiff, Bool.and_true, Bool.true_and, Bool.and_false, Bool.false_and, Bool.not_eq_true, Bool.or_true, Bool.or_false, Int.natCast_add, Int.natCast_one, Int.zero_add, Int.add_zero, sRaise, sTry, sGone, dHot, dIsE, sPick, e_spx1, e_spx2, e_spx3] at q ⊢; exact q
  · intro pre; exact pre.elim
def natB : T → Bool
  | .int i => decide (0 ≤ i)
  | _ => false
/-- whether three values are counts -/
def cnt3 : T → T → T → Bool
  | .int a, .int b, .int p => decide (0 ≤ a) && decide (0 ≤ b) && (decide (0 ≤ p) && decide (p ≤ a * b))
  | _, _, _ => false
theorem cnt3_int {a b p : Int} : cnt3 (.int a) (.int b) (.int p) = (decide (0 ≤ a) && decide (0 ≤ b) && (decide (0 ≤ p) && decide (p ≤ a * b))) := rfl
/-- a value that may be handed in: its kind is told, whole numbers are not too large -/
def smallV (t : T) : Prop := t.cls.isSome = true ∧ ∀ i, t = .int i → i.natAbs.log2 ≤ 1000
theorem mul_small {a b : Int} (ha : a.natAbs.log2 ≤ 1000) (hb : b.natAbs.log2 ≤ 1000) : (CMul a b ∨ CMulW a b) = True := by
  refine eq_true (.inr ?_)
  unfold CMulW
  omega
def SInitX (C_InvalidCounts : Addr) (C_Counts : Addr) : Sx := fun ars Q => ∃ u v w : T, ars = [.io (.ins C_Counts []), .sh u, .sh v, .sh w] ∧ smallV u ∧ smallV v ∧ smallV w ∧ (cnt3 u v w = true → Q.ok (false, .non) [.io (.ins C_Counts [("triple", .tup [u, v, w])]), .no, .no, .no]) ∧
  (cnt3 u v w = false → Q.ex C_InvalidCounts [] [.io (.ins C_Counts []), .no, .no, .no])
theorem mn_SInitX {C D : Addr} : Mn (SInitX C D) := fun ρ Q Q' ⟨u, v, w, e, h1, h2, h3, a, b⟩ k x => ⟨u, v, w, e, h1, h2, h3, fun z => k _ _ (a z), fun z => x _ _ _ (b z)⟩
theorem e_sinitx {C D : Addr} {u v w : T} {Q : Po Rv} : SInitX D C [.io (.ins C []), .sh u, .sh v, .sh w] Q = (smallV u ∧ smallV v ∧ smallV w ∧ (cnt3 u v w = true → Q.ok (false, .non) [.io (.ins C [("triple", .tup [u, v, w])]), .no, .no, .no]) ∧
    (cnt3 u v w = false → Q.ex D [] [.io (.ins C []), .no, .no, .no])) :=
  propext ⟨fun ⟨_, _, _, e, h⟩ => by cases e; exact h, fun h => ⟨_, _, _, rfl, h⟩⟩
theorem fIsInt_n {t : T} (h : t.cls.isSome = true) (lo : Int) : fIsInt [t, .int lo, .non] = ⟨True, (false, .bl (isInt lo none t))⟩ := by
  have e := eq_true h
  show (⟨t.cls.isSome = true, _⟩ : Ot) = _
  rw [e]
theorem fIsInt_s {t : T} (h : t.cls.isSome = true) (lo hi : Int) : fIsInt [t, .int lo, .int hi] = ⟨True, (false, .bl (isInt lo (some hi) t))⟩ := by
  have e := eq_true h
  show (⟨t.cls.isSome = true, _⟩ : Ot) = _
  rw [e]
theorem isInt_int {t : T} {lo : Int} {hi : Option Int} (h : isInt lo hi t = true) : ∃ i, t = .int i := by cases t <;> first | exact ⟨_, rfl⟩ | cases h
theorem h_Counts_init_x (C_InvalidCounts : Addr) (C_Counts : Addr) (ars : Rho) (Q : Po Rv) (h : (SInitX C_InvalidCounts C_Counts) ars Q) : D_Counts_init_x (SP fIsInt) C_InvalidCounts C_Counts (ars ++ List.replicate 0 .no) (fwish ars Q) := by
  obtain ⟨u, v, w, rfl, hu, hv, hw, q1, q2⟩ := h
  have hs := sizeLine_eq
  show D_Counts_init_x (SP fIsInt) C_InvalidCounts C_Counts [.io (.ins C_Counts []), .sh u, .sh v, .sh w] _
  have e1 := fIsInt_n hu.1 0
  have e2 := fIsInt_n hv.1 0
  simp only [sSeq, sSet, sPar, sIf, sRet, sRetN, sDrop, sNext, sDead, sBrk, sCnt, sAsg, sFor, dNm, dTm, dC, dOp1, dOp2, dOpN, dMt, dMut, dCall, dLst, dTup, dNil, dCons, dVn, dVc, dSl, dSl3, dNoP, dPrt, dIf, dAndV, dOrV, dNotV, dBv, dTru, dNotT, dAndT, dOrT, dChn, dEqQ, dRpQ, qOp, qNil, qCons, qLs, qTp, dSrc, dRng1, dRng2, dZip2, dEnum, dComp, dYes, gNm, gTp, gCn, gNi, gIt, e_var, e_var1, e_var2, e_var3, e_var4, e_mov, e_mov1, e_mov2, e_mov3, e_mov4, e_tr1, e_tr2, e_tr3, e_tr4, e_tr5, e_own1, e_own2, e_reo1, e_reo2, e_of1, e_of2, e_pin1, e_pin2, e_pin3, e_arg1, e_arg2, e_arg3, e_arg4, e_isarg1, e_isarg2, e_conv1, e_conv2, e_conv3, e_conv4, e_conv5, e_conv6, e_sown1, e_sown2, e_sown3, e_sown4, e_put1, e_put2, e_po1, e_po2, e_p1, e_p2, e_ao1, e_ao2, e_nd0, e_nd1, e_nd2, e_sl, e_get1, e_get2, e_is, e_all, e_gets0, e_gets1, e_gets2, e_tms0, e_tms1, e_qg1, e_qg2, e_qg3, e_qgs0, e_qgs1, e_its1, e_its2, e_its3, e_its4, e_jts1, e_jts2, e_jts4, e_mt1, e_mt2, e_ty1, e_add1, e_add2, e_add3, e_sub, e_mul1, e_mul2, e_mul3, e_fdiv, e_mod, e_pow, e_neg, e_len1, e_len2, e_len3, e_len4, e_int1, e_int2, e_abs, e_max, e_min, e_ix1, e_ix2, e_ix3, e_ix4, e_eq1, e_eq2, e_eq3, e_lt1, e_le1, e_gt1, e_ge1, e_lt2, e_in1, e_app, e_ext, e_rev, e_clr, e_set, e_sl1, e_sl2, e_sl3, e_sl4, e_count, e_f1, e_f2, e_osh, e_owh, e_one, e_tt1, e_tt2, e_ctg1, e_ctg2, e_cn0, e_cn1, e_wi0, e_wi1, e_re0, e_re1, e_ifb1, e_ifb2, e_nm0, e_nm1, e_nm2, e_fa0, e_fa1, e_sum, e_allb, e_anyb, e_sp1, e_sp2, e_sp3, e_at0, e_at1, e_at2, e_at3, e_at4, e_at5, e_ixn40, e_ixn41, e_ixn42, e_ixn43, e_cp1, e_cp2, e_cp3, e_cp4, e_cp5, forall_eq, List.getD_cons_zero, List.getD_cons_succ, List.getD_nil, List.set_cons_zero, List.set_cons_succ, List.map_cons, List.map_nil, Option.map_some, Option.map_none, Option.bind_some, Option.bind_none, Option.getD_some, Option.some.injEq, exists_eq_left', exists_eq_left, exists_eq', exists_eq, decide_eq_true_eq, List.length_map, exists_eq_right, exists_and_left, exists_and_right, Option.isSome_some, T.int.injEq, T.str.injEq, T.lst.injEq, T.tup.injEq, T.bl.injEq, List.cons.injEq, Prod.mk.injEq, Hn.tm.injEq, true_and, and_true, and_assoc, and_self, ne_eq, not_false_eq_true, not_true_eq_false, ite_true, ite_false, if_true, if_false, reduceIte, reduceCtorEq, Bool.false_eq_true, false_and, and_false, imp_self, forall_const, implies_true, List.length_cons, List.length_nil, Nat.reduceAdd, Nat.reduceEqDiff, Bool.false_bne, Bool.true_bne, Bool.not_false, Bool.not_true, List.nil_append, List.cons_append, Int.reduceToNat, Int.reducePow, Int.reduceMul, Int.reduceSub, Int.reduceAdd, Int.reduceNeg, kt_NoneType_int, kt_NoneType_bool, kt_NoneType_str, kt_NoneType_list, kt_NoneType_tuple, kt_bool_int, kt_bool_bool, kt_bool_str, kt_bool_list, kt_bool_tuple, kt_int_int, kt_int_bool, kt_int_str, kt_int_list, kt_int_tuple, kt_str_int, kt_str_bool, kt_str_str, kt_str_list, kt_str_tuple, kt_list_int, kt_list_bool, kt_list_str, kt_list_list, kt_list_tuple, kt_tuple_int, kt_tuple_bool, kt_tuple_str, kt_tuple_list, kt_tuple_tuple, kt_dict_int, kt_dict_bool, kt_dict_str, kt_dict_list, kt_dict_tuple, e_ii_non, e_ii_bl, e_ii_int, e_ii_str, e_ii_lst, e_ii_scr, e_ii_tup, e_ii_dK, e_ii_dT, dShr, dNew, dNewL, dMeth, dProp, dCm, dFld, sFld, callK, lendK, noexP, Sl.io.injEq, Sl.sh.injEq, e_cnt, e_lkT, e_putT, e_isiC, e_isiC2, e_ii_ins, dCallL, e_argL, e_fl1, e_fl2, e_fl3, e_fl4, List.all_cons, List.all_nil, dDict, dDict0, e_keys0, e_keysS, e_keysI, e_cl_non, e_cl_bl, e_cl_int, e_cl_str, e_cl_lst, e_cl_scr, e_cl_tup, e_cl_dK, e_cl_dT, e_iq1, e_iq2, e_nn1, e_nn2, e_nn3, e_nn4, e_inp, e_ixd, Int.cast_ofNat_Int, Int.natCast_succ, decide_true, decide_false, Int.reduceEq, Int.reduceLT, Int.reduceLE, Int.reduceNe, Nat.reduceLT, Nat.reduceLeDiff, Bool.and_true, Bool.true_and, Bool.and_false, Bool.false_and, Bool.not_eq_true, Bool.or_true, Bool.or_false, Int.natCast_add, Int.natCast_one, Int.zero_add, Int.add_zero, sRaise, sTry, sGone, dHot, dIsE, sPick, e_spx1, e_spx2, e_spx3, D_Counts_init_x, e1, e2]
  cases h1 : isInt 0 none u with
  | false =>
    simp only [sSeq, sSet, sPar, sIf, sRet, sRetN, sDrop, sNext, sDead, sBrk, sCnt, sAsg, sFor, dNm, dTm, dC, dOp1, dOp2, dOpN, dMt, dMut, dCall, dLst, dTup, dNil, dCons, dVn, dVc, dSl, dSl3, dNoP, dPrt, dIf, dAndV, dOrV, dNotV, dBv, dTru, dNotT, dAndT, dOrT, dChn, dEqQ, dRpQ, qOp, qNil, qCons, qLs, qTp, dSrc, dRng1, dRng2, dZip2, dEnum, dComp, dYes, gNm, gTp, gCn, gNi, gIt, e_var, e_var1, e_var2, e_var3, e_var4, e_mov, e_mov1, e_mov2, e_mov3, e_mov4, e_tr1, e_tr2, e_tr3, e_tr4, e_tr5, e_own1, e_own2, e_reo1, e_reo2, e_of1, e_of2, e_pin1, e_pin2, e_pin3, e_arg1, e_arg2, e_arg3, e_arg4, e_isarg1, e_isarg2, e_conv1, e_conv2, e_conv3, e_conv4, e_conv5, e_conv6, e_sown1, e_sown2, e_sown3, e_sown4, e_put1, e_put2, e_po1, e_po2, e_p1, e_p2, e_ao1, e_ao2, e_nd0, e_nd1, e_nd2, e_sl, e_get1, e_get2, e_is, e_all, e_gets0, e_gets1, e_gets2, e_tms0, e_tms1, e_qg1, e_qg2, e_qg3, e_qgs0, e_qgs1, e_its1, e_its2, e_its3, e_its4, e_jts1, e_jts2, e_jts4, e_mt1, e_mt2, e_ty1, e_add1, e_add2, e_add3, e_sub, e_mul1, e_mul2, e_mul3, e_fdiv, e_mod, e_pow, e_neg, e_len1, e_len2, e_len3, e_len4, e_int1, e_int2, e_abs, e_max, e_min, e_ix1, e_ix2, e_ix3, e_ix4, e_eq1, e_eq2, e_eq3, e_lt1, e_le1, e_gt1, e_ge1, e_lt2, e_in1, e_app, e_ext, e_rev, e_clr, e_set, e_sl1, e_sl2, e_sl3, e_sl4, e_count, e_f1, e_f2, e_osh, e_owh, e_one, e_tt1, e_tt2, e_ctg1, e_ctg2, e_cn0, e_cn1, e_wi0, e_wi1, e_re0, e_re1, e_ifb1, e_ifb2, e_nm0, e_nm1, e_nm2, e_fa0, e_fa1, e_sum, e_allb, e_anyb, e_sp1, e_sp2, e_sp3, e_at0, e_at1, e_at2, e_at3, e_at4, e_at5, e_ixn40, e_ixn41, e_ixn42, e_ixn43, e_cp1, e_cp2, e_cp3, e_cp4, e_cp5, forall_eq, List.getD_cons_zero, List.getD_cons_succ, List.getD_nil, List.set_cons_zero, List.set_cons_succ, List.map_cons, List.map_nil, Option.map_some, Option.map_none, Option.bind_some, Option.bind_none, Option.getD_some, Option.some.injEq, exists_eq_left', exists_eq_left, exists_eq', exists_eq, decide_eq_true_eq, List.length_map, exists_eq_right, exists_and_left, exists_and_right, Option.isSome_some, T.int.injEq, T.str.injEq, T.lst.injEq, T.tup.injEq, T.bl.injEq, List.cons.injEq, Prod.mk.injEq, Hn.tm.injEq, true_and, and_true, and_assoc, and_self, ne_eq, not_false_eq_true, not_true_eq_false, ite_true, ite_false, if_true, if_false, reduceIte, reduceCtorEq, Bool.false_eq_true, false_and, and_false, imp_self, forall_const, implies_true, List.length_cons, List.length_nil, Nat.reduceAdd, Nat.reduceEqDiff, Bool.false_bne, Bool.true_bne, Bool.not_false, Bool.not_true, List.nil_append, List.cons_append, Int.reduceToNat, Int.reducePow, Int.reduceMul, Int.reduceSub, Int.reduceAdd, Int.reduceNeg, kt_NoneType_int, kt_NoneType_bool, kt_NoneType_str, kt_NoneType_list, kt_NoneType_tuple, kt_bool_int, kt_bool_bool, kt_bool_str, kt_bool_list, kt_bool_tuple, kt_int_int, kt_int_bool, kt_int_str, kt_int_list, kt_int_tuple, kt_str_int, kt_str_bool, kt_str_str, kt_str_list, kt_str_tuple, kt_list_int, kt_list_bool, kt_list_str, kt_list_list, kt_list_tuple, kt_tuple_int, kt_tuple_bool, kt_tuple_str, kt_tuple_list, kt_tuple_tuple, kt_dict_int, kt_dict_bool, kt_dict_str, kt_dict_list, kt_dict_tuple, e_ii_non, e_ii_bl, e_ii_int, e_ii_str, e_ii_lst, e_ii_scr, e_ii_tup, e_ii_dK, e_ii_dT, dShr, dNew, dNewL, dMeth, dProp, dCm, dFld, sFld, callK, lendK, noexP, Sl.io.injEq, Sl.sh.injEq, e_cnt, e_lkT, e_putT, e_isiC, e_isiC2, e_ii_ins, dCallL, e_argL, e_fl1, e_fl2, e_fl3, e_fl4, List.all_cons, List.all_nil, dDict, dDict0, e_keys0, e_keysS, e_keysI, e_cl_non, e_cl_bl, e_cl_int, e_cl_str, e_cl_lst, e_cl_scr, e_cl_tup, e_cl_dK, e_cl_dT, e_iq1, e_iq2, e_nn1, e_nn2, e_nn3, e_nn4, e_inp, e_ixd, Int.cast_ofNat_Int, Int.natCast_succ, decide_true, decide_false, Int.reduceEq, Int.reduceLT, Int.reduceLE, Int.reduceNe, Nat.reduceLT, Nat.reduceLeDiff, Bool.and_true, Bool.true_and, Bool.and_false, Bool.false_and, Bool.not_eq_true, Bool.or_true, Bool.or_false, Int.natCast_add, Int.natCast_one, Int.zero_add, Int.add_zero, sRaise, sTry, sGone, dHot, dIsE, sPick, e_spx1, e_spx2, e_spx3]
    refine q2 ?_
    cases u <;> cases v <;> cases w <;> first | rfl | skip
    rw [isInt1] at h1
    rw [cnt3_int, h1]; rfl
  | true =>
    obtain ⟨a, rfl⟩ := isInt_int h1
    simp only [sSeq, sSet, sPar, sIf, sRet, sRetN, sDrop, sNext, sDead, sBrk, sCnt, sAsg, sFor, dNm, dTm, dC, dOp1, dOp2, dOpN, dMt, dMut, dCall, dLst, dTup, dNil, dCons, dVn, dVc, dSl, dSl3, dNoP, dPrt, dIf, dAndV, dOrV, dNotV, dBv, dTru, dNotT, dAndT, dOrT, dChn, dEqQ, dRpQ, qOp, qNil, qCons, qLs, qTp, dSrc, dRng1, dRng2, dZip2, dEnum, dComp, dYes, gNm, gTp, gCn, gNi, gIt, e_var, e_var1, e_var2, e_var3, e_var4, e_mov, e_mov1, e_mov2, e_mov3, e_mov4, e_tr1, e_tr2, e_tr3, e_tr4, e_tr5, e_own1, e_own2, e_reo1, e_reo2, e_of1, e_of2, e_pin1, e_pin2, e_pin3, e_arg1, e_arg2, e_arg3, e_arg4, e_isarg1, e_isarg2, e_conv1, e_conv2, e_conv3, e_conv4, e_conv5, e_conv6, e_sown1, e_sown2, e_sown3, e_sown4, e_put1, e_put2, e_po1, e_po2, e_p1, e_p2, e_ao1, e_ao2, e_nd0, e_nd1, e_nd2, e_sl, e_get1, e_get2, e_is, e_all, e_gets0, e_gets1, e_gets2, e_tms0, e_tms1, e_qg1, e_qg2, e_qg3, e_qgs0, e_qgs1, e_its1, e_its2, e_its3, e_its4, e_jts1, e_jts2, e_jts4, e_mt1, e_mt2, e_ty1, e_add1, e_add2, e_add3, e_sub, e_mul1, e_mul2, e_mul3, e_fdiv, e_mod, e_pow, e_neg, e_len1, e_len2, e_len3, e_len4, e_int1, e_int2, e_abs, e_max, e_min, e_ix1, e_ix2, e_ix3, e_ix4, e_eq1, e_eq2, e_eq3, e_lt1, e_le1, e_gt1, e_ge1, e_lt2, e_in1, e_app, e_ext, e_rev, e_clr, e_set, e_sl1, e_sl2, e_sl3, e_sl4, e_count, e_f1, e_f2, e_osh, e_owh, e_one, e_tt1, e_tt2, e_ctg1, e_ctg2, e_cn0, e_cn1, e_wi0, e_wi1, e_re0, e_re1, e_ifb1, e_ifb2, e_nm0, e_nm1, e_nm2, e_fa0, e_fa1, e_sum, e_allb, e_anyb, e_sp1, e_sp2, e_sp3, e_at0, e_at1, e_at2, e_at3, e_at4, e_at5, e_ixn40, e_ixn41, e_ixn42, e_ixn43, e_cp1, e_cp2, e_cp3, e_cp4, e_cp5, forall_eq, List.getD_cons_zero, List.getD_cons_succ, List.getD_nil, List.set_cons_zero, List.set_cons_succ, List.map_cons, List.map_nil, Option.map_some, Option.map_none, Option.bind_some, Option.bind_none, Option.getD_some, Option.some.injEq, exists_eq_left', exists_eq_left, exists_eq', exists_eq, decide_eq_true_eq, List.length_map, exists_eq_right, exists_and_left, exists_and_right, Option.isSome_some, T.int.injEq, T.str.injEq, T.lst.injEq, T.tup.injEq, T.bl.injEq, List.cons.injEq, Prod.mk.injEq, Hn.tm.injEq, true_and, and_true, and_assoc, and_self, ne_eq, not_false_eq_true, not_true_eq_false, ite_true, ite_false, if_true, if_false, reduceIte, reduceCtorEq, Bool.false_eq_true, false_and, and_false, imp_self, forall_const, implies_true, List.length_cons, List.length_nil, Nat.reduceAdd, Nat.reduceEqDiff, Bool.false_bne, Bool.true_bne, Bool.not_false, Bool.not_true, List.nil_append, List.cons_append, Int.reduceToNat, Int.reducePow, Int.reduceMul, Int.reduceSub, Int.reduceAdd, Int.reduceNeg, kt_NoneType_int, kt_NoneType_bool, kt_NoneType_str, kt_NoneType_list, kt_NoneType_tuple, kt_bool_int, kt_bool_bool, kt_bool_str, kt_bool_list, kt_bool_tuple, kt_int_int, kt_int_bool, kt_int_str, kt_int_list, kt_int_tuple, kt_str_int, kt_str_bool, kt_str_str, kt_str_list, kt_str_tuple, kt_list_int, kt_list_bool, kt_list_str, kt_list_list, kt_list_tuple, kt_tuple_int, kt_tuple_bool, kt_tuple_str, kt_tuple_list, kt_tuple_tuple, kt_dict_int, kt_dict_bool, kt_dict_str, kt_dict_list, kt_dict_tuple, e_ii_non, e_ii_bl, e_ii_int, e_ii_str, e_ii_lst, e_ii_scr, e_ii_tup, e_ii_dK, e_ii_dT, dShr, dNew, dNewL, dMeth, dProp, dCm, dFld, sFld, callK, lendK, noexP, Sl.io.injEq, Sl.sh.injEq, e_cnt, e_lkT, e_putT, e_isiC, e_isiC2, e_ii_ins, dCallL, e_argL, e_fl1, e_fl2, e_fl3, e_fl4, List.all_cons, List.all_nil, dDict, dDict0, e_keys0, e_keysS, e_keysI, e_cl_non, e_cl_bl, e_cl_int, e_cl_str, e_cl_lst, e_cl_scr, e_cl_tup, e_cl_dK, e_cl_dT, e_iq1, e_iq2, e_nn1, e_nn2, e_nn3, e_nn4, e_inp, e_ixd, Int.cast_ofNat_Int, Int.natCast_succ, decide_true, decide_false, Int.reduceEq, Int.reduceLT, Int.reduceLE, Int.reduceNe, Nat.reduceLT, Nat.reduceLeDiff, Bool.and_true, Bool.true_and, Bool.and_false, Bool.false_and, Bool.not_eq_true, Bool.or_true, Bool.or_false, Int.natCast_add, Int.natCast_one, Int.zero_add, Int.add_zero, sRaise, sTry, sGone, dHot, dIsE, sPick, e_spx1, e_spx2, e_spx3]
    cases h2 : isInt 0 none v with
    | false =>
      simp only [sSeq, sSet, sPar, sIf, sRet, sRetN, sDrop, sNext, sDead, sBrk, sCnt, sAsg, sFor, dNm, dTm, dC, dOp1, dOp2, dOpN, dMt, dMut, dCall, dLst, dTup, dNil, dCons, dVn, dVc, dSl, dSl3, dNoP, dPrt, dIf, dAndV, dOrV, dNotV, dBv, dTru, dNotT, dAndT, dOrT, dChn, dEqQ, dRpQ, qOp, qNil, qCons, qLs, qTp, dSrc, dRng1, dRng2, dZip2, dEnum, dComp, dYes, gNm, gTp, gCn, gNi, gIt, e_var, e_var1, e_var2, e_var3, e_var4, e_mov, e_mov1, e_mov2, e_mov3, e_mov4, e_tr1, e_tr2, e_tr3, e_tr4, e_tr5, e_own1, e_own2, e_reo1, e_reo2, e_of1, e_of2, e_pin1, e_pin2, e_pin3, e_arg1, e_arg2, e_arg3, e_arg4, e_isarg1, e_isarg2, e_conv1, e_conv2, e_conv3, e_conv4, e_conv5, e_conv6, e_sown1, e_sown2, e_sown3, e_sown4, e_put1, e_put2, e_po1, e_po2, e_p1, e_p2, e_ao1, e_ao2, e_nd0, e_nd1, e_nd2, e_sl, e_get1, e_get2, e_is, e_all, e_gets0, e_gets1, e_gets2, e_tms0, e_tms1, e_qg1, e_qg2, e_qg3, e_qgs0, e_qgs1, e_its1, e_its2, e_its3, e_its4, e_jts1, e_jts2, e_jts4, e_mt1, e_mt2, e_ty1, e_add1, e_add2, e_add3, e_sub, e_mul1, e_mul2, e_mul3, e_fdiv, e_mod, e_pow, e_neg, e_len1, e_len2, e_len3, e_len4, e_int1, e_int2, e_abs, e_max, e_min, e_ix1, e_ix2, e_ix3, e_ix4, e_eq1, e_eq2, e_eq3, e_lt1, e_le1, e_gt1, e_ge1, e_lt2, e_in1, e_app, e_ext, e_rev, e_clr, e_set, e_sl1, e_sl2, e_sl3, e_sl4, e_count, e_f1, e_f2, e_osh, e_owh, e_one, e_tt1, e_tt2, e_ctg1, e_ctg2, e_cn0, e_cn1, e_wi0, e_wi1, e_re0, e_re1, e_ifb1, e_ifb2, e_nm0, e_nm1, e_nm2, e_fa0, e_fa1, e_sum, e_allb, e_anyb, e_sp1, e_sp2, e_sp3, e_at0, e_at1, e_at2, e_at3, e_at4, e_at5, e_ixn40, e_ixn41, e_ixn42, e_ixn43, e_cp1, e_cp2, e_cp3, e_cp4, e_cp5, forall_eq, List.getD_cons_zero, List.getD_cons_succ, List.getD_nil, List.set_cons_zero, List.set_cons_succ, List.map_cons, List.map_nil, Option.map_some, Option.map_none, Option.bind_some, Option.bind_none, Option.getD_some, Option.some.injEq, exists_eq_left', exists_eq_left, exists_eq', exists_eq, decide_eq_true_eq, List.length_map, exists_eq_right, exists_and_left, exists_and_right, Option.isSome_some, T.int.injEq, T.str.injEq, T.lst.injEq, T.tup.injEq, T.bl.injEq, List.cons.injEq, Prod.mk.injEq, Hn.tm.injEq, true_and, and_true, and_assoc, and_self, ne_eq, not_false_eq_true, not_true_eq_false, ite_true, ite_false, if_true, if_false, reduceIte, reduceCtorEq, Bool.false_eq_true, false_and, and_false, imp_self, forall_const, implies_true, List.length_cons, List.length_nil, Nat.reduceAdd, Nat.reduceEqDiff, Bool.false_bne, Bool.true_bne, Bool.not_false, Bool.not_true, List.nil_append, List.cons_append, Int.reduceToNat, Int.reducePow, Int.reduceMul, Int.reduceSub, Int.reduceAdd, Int.reduceNeg, kt_NoneType_int, kt_NoneType_bool, kt_NoneType_str, kt_NoneType_list, kt_NoneType_tuple, kt_bool_int, kt_bool_bool, kt_bool_str, kt_bool_list, kt_bool_tuple, kt_int_int, kt_int_bool, kt_int_str, kt_int_list, kt_int_tuple, kt_str_int, kt_str_bool, kt_str_str, kt_str_list, kt_str_tuple, kt_list_int, kt_list_bool, kt_list_str, kt_list_list, kt_list_tuple, kt_tuple_int, kt_tuple_bool, kt_tuple_str, kt_tuple_list, kt_tuple_tuple, kt_dict_int, kt_dict_bool, kt_dict_str, kt_dict_list, kt_dict_tuple, e_ii_non, e_ii_bl, e_ii_int, e_ii_str, e_ii_lst, e_ii_scr, e_ii_tup, e_ii_dK, e_ii_dT, dShr, dNew, dNewL, dMeth, dProp, dCm, dFld, sFld, callK, lendK, noexP, Sl.io.injEq, Sl.sh.injEq, e_cnt, e_lkT, e_putT, e_isiC, e_isiC2, e_ii_ins, dCallL, e_argL, e_fl1, e_fl2, e_fl3, e_fl4, List.all_cons, List.all_nil, dDict, dDict0, e_keys0, e_keysS, e_keysI, e_cl_non, e_cl_bl, e_cl_int, e_cl_str, e_cl_lst, e_cl_scr, e_cl_tup, e_cl_dK, e_cl_dT, e_iq1, e_iq2, e_nn1, e_nn2, e_nn3, e_nn4, e_inp, e_ixd, Int.cast_ofNat_Int, Int.natCast_succ, decide_true, decide_false, Int.reduceEq, Int.reduceLT, Int.reduceLE, Int.reduceNe, Nat.reduceLT, Nat.reduceLeDiff, Bool.and_true, Bool.true_and, Bool.and_false, Bool.false_and, Bool.not_eq_true, Bool.or_true, Bool.or_false, Int.natCast_add, Int.natCast_one, Int.zero_add, Int.add_zero, sRaise, sTry, sGone, dHot, dIsE, sPick, e_spx1, e_spx2, e_spx3]
      refine q2 ?_
      cases v <;> cases w <;> first | rfl | skip
      rw [isInt1] at h2
      rw [cnt3_int, h2]; simp
    | true =>
      obtain ⟨b, rfl⟩ := isInt_int h2
      have m := mul_small (hu.2 a rfl) (hv.2 b rfl)
      have e3 := fIsInt_s hw.1 0 (a * b)
      rw [isInt1] at h1 h2
      simp only [sSeq, sSet, sPar, sIf, sRet, sRetN, sDrop, sNext, sDead, sBrk, sCnt, sAsg, sFor, dNm, dTm, dC, dOp1, dOp2, dOpN, dMt, dMut, dCall, dLst, dTup, dNil, dCons, dVn, dVc, dSl, dSl3, dNoP, dPrt, dIf, dAndV, dOrV, dNotV, dBv, dTru, dNotT, dAndT, dOrT, dChn, dEqQ, dRpQ, qOp, qNil, qCons, qLs, qTp, dSrc, dRng1, dRng2, dZip2, dEnum, dComp, dYes, gNm, gTp, gCn, gNi, gIt, e_var, e_var1, e_var2, e_var3, e_var4, e_mov, e_mov1, e_mov2, e_mov3, e_mov4, e_tr1, e_tr2, e_tr3, e_tr4, e_tr5, e_own1, e_own2, e_reo1, e_reo2, e_of1, e_of2, e_pin1, e_pin2, e_pin3, e_arg1, e_arg2, e_arg3, e_arg4, e_isarg1, e_isarg2, e_conv1, e_conv2, e_conv3, e_conv4, e_conv5, e_conv6, e_sown1, e_sown2, e_sown3, e_sown4, e_put1, e_put2, e_po1, e_po2, e_p1, e_p2, e_ao1, e_ao2, e_nd0, e_nd1, e_nd2, e_sl, e_get1, e_get2, e_is, e_all, e_gets0, e_gets1, e_gets2, e_tms0, e_tms1, e_qg1, e_qg2, e_qg3, e_qgs0, e_qgs1, e_its1, e_its2, e_its3, e_its4, e_jts1, e_jts2, e_jts4, e_mt1, e_mt2, e_ty1, e_add1, e_add2, e_add3, e_sub, e_mul1, e_mul2, e_mul3, e_fdiv, e_mod, e_pow, e_neg, e_len1, e_len2, e_len3, e_len4, e_int1, e_int2, e_abs, e_max, e_min, e_ix1, e_ix2, e_ix3, e_ix4, e_eq1, e_eq2, e_eq3, e_lt1, e_le1, e_gt1, e_ge1, e_lt2, e_in1, e_app, e_ext, e_rev, e_clr, e_set, e_sl1, e_sl2, e_sl3, e_sl4, e_count, e_f1, e_f2, e_osh, e_owh, e_one, e_tt1, e_tt2, e_ctg1, e_ctg2, e_cn0, e_cn1, e_wi0, e_wi1, e_re0, e_re1, e_ifb1, e_ifb2, e_nm0, e_nm1, e_nm2, e_fa0, e_fa1, e_sum, e_allb, e_anyb, e_sp1, e_sp2, e_sp3, e_at0, e_at1, e_at2, e_at3, e_at4, e_at5, e_ixn40, e_ixn41, e_ixn42, e_ixn43, e_cp1, e_cp2, e_cp3, e_cp4, e_cp5, forall_eq, List.getD_cons_zero, List.getD_cons_succ, List.getD_nil, List.set_cons_zero, List.set_cons_succ, List.map_cons, List.map_nil, Option.map_some, Option.map_none, Option.bind_some, Option.bind_none, Option.getD_some, Option.some.injEq, exists_eq_left', exists_eq_left, exists_eq', exists_eq, decide_eq_true_eq, List.length_map, exists_eq_right, exists_and_left, exists_and_right, Option.isSome_some, T.int.injEq, T.str.injEq, T.lst.injEq, T.tup.injEq, T.bl.injEq, List.cons.injEq, Prod.mk.injEq, Hn.tm.injEq, true_and, and_true, and_assoc, and_self, ne_eq, not_false_eq_true, not_true_eq_false, ite_true, ite_false, if_true, if_false, reduceIte, reduceCtorEq, Bool.false_eq_true, false_and, and_false, imp_self, forall_const, implies_true, List.length_cons, List.length_nil, Nat.reduceAdd, Nat.reduceEqDiff, Bool.false_bne, Bool.true_bne, Bool.not_false, Bool.not_true, List.nil_append, List.cons_append, Int.reduceToNat, Int.reducePow, Int.reduceMul, Int.reduceSub, Int.reduceAdd, Int.reduceNeg, kt_NoneType_int, kt_NoneType_bool, kt_NoneType_str, kt_NoneType_list, kt_NoneType_tuple, kt_bool_int, kt_bool_bool, kt_bool_str, kt_bool_list, kt_bool_tuple, kt_int_int, kt_int_bool, kt_int_str, kt_int_list, kt_int_tuple, kt_str_int, kt_str_bool, kt_str_str, kt_str_list, kt_str_tuple, kt_list_int, kt_list_bool, kt_list_str, kt_list_list, kt_list_tuple, kt_tuple_int, kt_tuple_bool, kt_tuple_str, kt_tuple_list, kt_tuple_tuple, kt_dict_int, kt_dict_bool, kt_dict_str, kt_dict_list, kt_dict_tuple, e_ii_non, e_ii_bl, e_ii_int, e_ii_str, e_ii_lst, e_ii_scr, e_ii_tup, e_ii_dK, e_ii_dT, dShr, dNew, dNewL, dMeth, dProp, dCm, dFld, sFld, callK, lendK, noexP, Sl.io.injEq, Sl.sh.injEq, e_cnt, e_lkT, e_putT, e_isiC, e_isiC2, e_ii_ins, dCallL, e_argL, e_fl1, e_fl2, e_fl3, e_fl4, List.all_cons, List.all_nil, dDict, dDict0, e_keys0, e_keysS, e_keysI, e_cl_non, e_cl_bl, e_cl_int, e_cl_str, e_cl_lst, e_cl_scr, e_cl_tup, e_cl_dK, e_cl_dT, e_iq1, e_iq2, e_nn1, e_nn2, e_nn3, e_nn4, e_inp, e_ixd, Int.cast_ofNat_Int, Int.natCast_succ, decide_true, decide_false, Int.reduceEq, Int.reduceLT, Int.reduceLE, Int.reduceNe, Nat.reduceLT, Nat.reduceLeDiff, Bool.and_true, Bool.true_and, Bool.and_false, Bool.false_and, Bool.not_eq_true, Bool.or_true, Bool.or_false, Int.natCast_add, Int.natCast_one, Int.zero_add, Int.add_zero, sRaise, sTry, sGone, dHot, dIsE, sPick, e_spx1, e_spx2, e_spx3, m, e3]
      cases h3 : isInt 0 (some (a * b)) w with
      | false =>
        simp only [sSeq, sSet, sPar, sIf, sRet, sRetN, sDrop, sNext, sDead, sBrk, sCnt, sAsg, sFor, dNm, dTm, dC, dOp1, dOp2, dOpN, dMt, dMut, dCall, dLst, dTup, dNil, dCons, dVn, dVc, dSl, dSl3, dNoP, dPrt, dIf, dAndV, dOrV, dNotV, dBv, dTru, dNotT, dAndT, dOrT, dChn, dEqQ, dRpQ, qOp, qNil, qCons, qLs, qTp, dSrc, dRng1, dRng2, dZip2, dEnum, dComp, dYes, gNm, gTp, gCn, gNi, gIt, e_var, e_var1, e_var2, e_var3, e_var4, e_mov, e_mov1, e_mov2, e_mov3, e_mov4, e_tr1, e_tr2, e_tr3, e_tr4, e_tr5, e_own1, e_own2, e_reo1, e_reo2, e_of1, e_of2, e_pin1, e_pin2, e_pin3, e_arg1, e_arg2, e_arg3, e_arg4, e_isarg1, e_isarg2, e_conv1, e_conv2, e_conv3, e_conv4, e_conv5, e_conv6, e_sown1, e_sown2, e_sown3, e_sown4, e_put1, e_put2, e_po1, e_po2, e_p1, e_p2, e_ao1, e_ao2, e_nd0, e_nd1, e_nd2, e_sl, e_get1, e_get2, e_is, e_all, e_gets0, e_gets1, e_gets2, e_tms0, e_tms1, e_qg1, e_qg2, e_qg3, e_qgs0, e_qgs1, e_its1, e_its2, e_its3, e_its4, e_jts1, e_jts2, e_jts4, e_mt1, e_mt2, e_ty1, e_add1, e_add2, e_add3, e_sub, e_mul1, e_mul2, e_mul3, e_fdiv, e_mod, e_pow, e_neg, e_len1, e_len2, e_len3, e_len4, e_int1, e_int2, e_abs, e_max, e_min, e_ix1, e_ix2, e_ix3, e_ix4, e_eq1, e_eq2, e_eq3, e_lt1, e_le1, e_gt1, e_ge1, e_lt2, e_in1, e_app, e_ext, e_rev, e_clr, e_set, e_sl1, e_sl2, e_sl3, e_sl4, e_count, e_f1, e_f2, e_osh, e_owh, e_one, e_tt1, e_tt2, e_ctg1, e_ctg2, e_cn0, e_cn1, e_wi0, e_wi1, e_re0, e_re1, e_ifb1, e_ifb2, e_nm0, e_nm1, e_nm2, e_fa0, e_fa1, e_sum, e_allb, e_anyb, e_sp1, e_sp2, e_sp3, e_at0, e_at1, e_at2, e_at3, e_at4, e_at5, e_ixn40, e_ixn41, e_ixn42, e_ixn43, e_cp1, e_cp2, e_cp3, e_cp4, e_cp5, forall_eq, List.getD_cons_zero, List.getD_cons_succ, List.getD_nil, List.set_cons_zero, List.set_cons_succ, List.map_cons, List.map_nil, Option.map_some, Option.map_none, Option.bind_some, Option.bind_none, Option.getD_some, Option.some.injEq, exists_eq_left', exists_eq_left, exists_eq', exists_eq, decide_eq_true_eq, List.length_map, exists_eq_right, exists_and_left, exists_and_right, Option.isSome_some, T.int.injEq, T.str.injEq, T.lst.injEq, T.tup.injEq, T.bl.injEq, List.cons.injEq, Prod.mk.injEq, Hn.tm.injEq, true_and, and_true, and_assoc, and_self, ne_eq, not_false_eq_true, not_true_eq_false, ite_true, ite_false, if_true, if_false, reduceIte, reduceCtorEq, Bool.false_eq_true, false_and, and_false, imp_self, forall_const, implies_true, List.length_cons, List.length_nil, Nat.reduceAdd, Nat.reduceEqDiff, Bool.false_bne, Bool.true_bne, Bool.not_false, Bool.not_true, List.nil_append, List.cons_append, Int.reduceToNat, Int.reducePow, Int.reduceMul, Int.reduceSub, Int.reduceAdd, Int.reduceNeg, kt_NoneType_int, kt_NoneType_bool, kt_NoneType_str, kt_NoneType_list, kt_NoneType_tuple, kt_bool_int, kt_bool_bool, kt_bool_str, kt_bool_list, kt_bool_tuple, kt_int_int, kt_int_bool, kt_int_str, kt_int_list, kt_int_tuple, kt_str_int, kt_str_bool, kt_str_str, kt_str_list, kt_str_tuple, kt_list_int, kt_list_bool, kt_list_str, kt_list_list, kt_list_tuple, kt_tuple_int, kt_tuple_bool, kt_tuple_str, kt_tuple_list, kt_tuple_tuple, kt_dict_int, kt_dict_bool, kt_dict_str, kt_dict_list, kt_dict_tuple, e_ii_non, e_ii_bl, e_ii_int, e_ii_str, e_ii_lst, e_ii_scr, e_ii_tup, e_ii_dK, e_ii_dT, dShr, dNew, dNewL, dMeth, dProp, dCm, dFld, sFld, callK, lendK, noexP, Sl.io.injEq, Sl.sh.injEq, e_cnt, e_lkT, e_putT, e_isiC, e_isiC2, e_ii_ins, dCallL, e_argL, e_fl1, e_fl2, e_fl3, e_fl4, List.all_cons, List.all_nil, dDict, dDict0, e_keys0, e_keysS, e_keysI, e_cl_non, e_cl_bl, e_cl_int, e_cl_str, e_cl_lst, e_cl_scr, e_cl_tup, e_cl_dK, e_cl_dT, e_iq1, e_iq2, e_nn1, e_nn2, e_nn3, e_nn4, e_inp, e_ixd, Int.cast_ofNat_Int, Int.natCast_succ, decide_true, decide_false, Int.reduceEq, Int.reduceLT, Int.reduceLE, Int.reduceNe, Nat.reduceLT, Nat.reduceLeDiff, Bool.and_true, Bool.true_and, Bool.and_false, Bool.false_and, Bool.not_eq_true, Bool.or_true, Bool.or_false, Int.natCast_add, Int.natCast_one, Int.zero_add, Int.add_zero, sRaise, sTry, sGone, dHot, dIsE, sPick, e_spx1, e_spx2, e_spx3]
        refine q2 ?_
        cases w <;> first | rfl | skip
        rw [isInt2] at h3
        rw [cnt3_int, h3]; simp
      | true =>
        obtain ⟨p, rfl⟩ := isInt_int h3
        rw [isInt2] at h3
        simp only [sSeq, sSet, sPar, sIf, sRet, sRetN, sDrop, sNext, sDead, sBrk, sCnt, sAsg, sFor, dNm, dTm, dC, dOp1, dOp2, dOpN, dMt, dMut, dCall, dLst, dTup, dNil, dCons, dVn, dVc, dSl, dSl3, dNoP, dPrt, dIf, dAndV, dOrV, dNotV, dBv, dTru, dNotT, dAndT, dOrT, dChn, dEqQ, dRpQ, qOp, qNil, qCons, qLs, qTp, dSrc, dRng1, dRng2, dZip2, dEnum, dComp, dYes, gNm, gTp, gCn, gNi, gIt, e_var, e_var1, e_var2, e_var3, e_var4, e_mov, e_mov1, e_mov2, e_mov3, e_mov4, e_tr1, e_tr2, e_tr3, e_tr4, e_tr5, e_own1, e_own2, e_reo1, e_reo2, e_of1, e_of2, e_pin1, e_pin2, e_pin3, e_arg1, e_arg2, e_arg3, e_arg4, e_isarg1, e_isarg2, e_conv1, e_conv2, e_conv3, e_conv4, e_conv5, e_conv6, e_sown1, e_sown2, e_sown3, e_sown4, e_put1, e_put2, e_po1, e_po2, e_p1, e_p2, e_ao1, e_ao2, e_nd0, e_nd1, e_nd2, e_sl, e_get1, e_get2, e_is, e_all, e_gets0, e_gets1, e_gets2, e_tms0, e_tms1, e_qg1, e_qg2, e_qg3, e_qgs0, e_qgs1, e_its1, e_its2, e_its3, e_its4, e_jts1, e_jts2, e_jts4, e_mt1, e_mt2, e_ty1, e_add1, e_add2, e_add3, e_sub, e_mul1, e_mul2, e_mul3, e_fdiv, e_mod, e_pow, e_neg, e_len1, e_len2, e_len3, e_len4, e_int1, e_int2, e_abs, e_max, e_min, e_ix1, e_ix2, e_ix3, e_ix4, e_eq1, e_eq2, e_eq3, e_lt1, e_le1, e_gt1, e_ge1, e_lt2, e_in1, e_app, e_ext, e_rev, e_clr, e_set, e_sl1, e_sl2, e_sl3, e_sl4, e_count, e_f1, e_f2, e_osh, e_owh, e_one, e_tt1, e_tt2, e_ctg1, e_ctg2, e_cn0, e_cn1, e_wi0, e_wi1, e_re0, e_re1, e_ifb1, e_ifb2, e_nm0, e_nm1, e_nm2, e_fa0, e_fa1, e_sum, e_allb, e_anyb, e_sp1, e_sp2, e_sp3, e_at0, e_at1, e_at2, e_at3, e_at4, e_at5, e_ixn40, e_ixn41, e_ixn42, e_ixn43, e_cp1, e_cp2, e_cp3, e_cp4, e_cp5, forall_eq, List.getD_cons_zero, List.getD_cons_succ, List.getD_nil, List.set_cons_zero, List.set_cons_succ, List.map_cons, List.map_nil, Option.map_some, Option.map_none, Option.bind_some, Option.bind_none, Option.getD_some, Option.some.injEq, exists_eq_left', exists_eq_left, exists_eq', exists_eq, decide_eq_true_eq, List.length_map, exists_eq_right, exists_and_left, exists_and_right, Option.isSome_some, T.int.injEq, T.str.injEq, T.lst.injEq, T.tup.injEq, T.bl.injEq, List.cons.injEq, Prod.mk.injEq, Hn.tm.injEq, true_and, and_true, and_assoc, and_self, ne_eq, not_false_eq_true, not_true_eq_false, ite_true, ite_false, if_true, if_false, reduceIte, reduceCtorEq, Bool.false_eq_true, false_and, and_false, imp_self, forall_const, implies_true, List.length_cons, List.length_nil, Nat.reduceAdd, Nat.reduceEqDiff, Bool.false_bne, Bool.true_bne, Bool.not_false, Bool.not_true, List.nil_append, List.cons_append, Int.reduceToNat, Int.reducePow, Int.reduceMul, Int.reduceSub, Int.reduceAdd, Int.reduceNeg, kt_NoneType_int, kt_NoneType_bool, kt_NoneType_str, kt_NoneType_list, kt_NoneType_tuple, kt_bool_int, kt_bool_bool, kt_bool_str, kt_bool_list, kt_bool_tuple, kt_int_int, kt_int_bool, kt_int_str, kt_int_list, kt_int_tuple, kt_str_int, kt_str_bool, kt_str_str, kt_str_list, kt_str_tuple, kt_list_int, kt_list_bool, kt_list_str, kt_list_list, kt_list_tuple, kt_tuple_int, kt_tuple_bool, kt_tuple_str, kt_tuple_list, kt_tuple_tuple, kt_dict_int, kt_dict_bool, kt_dict_str, kt_dict_list, kt_dict_tuple, e_ii_non, e_ii_bl, e_ii_int, e_ii_str, e_ii_lst, e_ii_scr, e_ii_tup, e_ii_dK, e_ii_dT, dShr, dNew, dNewL, dMeth, dProp, dCm, dFld, sFld, callK, lendK, noexP, Sl.io.injEq, Sl.sh.injEq, e_cnt, e_lkT, e_putT, e_isiC, e_isiC2, e_ii_ins, dCallL, e_argL, e_fl1, e_fl2, e_fl3, e_fl4, List.all_cons, List.all_nil, dDict, dDict0, e_keys0, e_keysS, e_keysI, e_cl_non, e_cl_bl, e_cl_int, e_cl_str, e_cl_lst, e_cl_scr, e_cl_tup, e_cl_dK, e_cl_dT, e_iq1, e_iq2, e_nn1, e_nn2, e_nn3, e_nn4, e_inp, e_ixd, Int.cast_ofNat_Int, Int.natCast_succ, decide_true, decide_false, Int.reduceEq, Int.reduceLT, Int.reduceLE, Int.reduceNe, Nat.reduceLT, Nat.reduceLeDiff, Bool.and_true, Bool.true_and, Bool.and_false, Bool.false_and, Bool.not_eq_true, Bool.or_true, Bool.or_false, Int.natCast_add, Int.natCast_one, Int.zero_add, Int.add_zero, sRaise, sTry, sGone, dHot, dIsE, sPick, e_spx1, e_spx2, e_spx3, T.ins.injEq]
        refine ⟨by omega, q1 ?_⟩
        rw [cnt3_int, h1, h2, h3]; rfl
def SOfX (C_InvalidRow : Addr) (C_Counts : Addr) : Sx := fun ars Q => ∃ t : T, ars = [.sh (.fn C_Counts), .sh t] ∧ (fIsRow [t]).pre ∧ (∀ l, t = .str l → rowB l = true → Q.ok (false, countsT C_Counts (cA l) (cB l) (pairsL l)) [.no, .no]) ∧ (isRowB t = false → Q.ex C_InvalidRow [] [.no, .no])
theorem mn_SOfX {C D : Addr} : Mn (SOfX C D) := fun ρ Q Q' ⟨t, e, h1, a, b⟩ k x => ⟨t, e, h1, fun l z1 z2 => k _ _ (a l z1 z2), fun z => x _ _ _ (b z)⟩
theorem e_sofx {C D : Addr} {t : T} {Q : Po Rv} : SOfX C D [.sh (.fn D), .sh t] Q = ((fIsRow [t]).pre ∧ (∀ l, t = .str l → rowB l = true → Q.ok (false, countsT D (cA l) (cB l) (pairsL l)) [.no, .no]) ∧ (isRowB t = false → Q.ex C [] [.no, .no])) :=
  propext ⟨fun ⟨_, e, h⟩ => by cases e; exact h, fun h => ⟨_, rfl, h⟩⟩
theorem small_nat {n : Int} (h0 : 0 ≤ n) (h1 : n ≤ 10 ^ 200) : smallV (.int n) := ⟨rfl, fun i e => by cases e; exact log_pow h0 h1⟩
theorem cnt3_of {a b p : Int} (c : Cnt a b p) : cnt3 (.int a) (.int b) (.int p) = true := by
  rw [cnt3_int, decide_eq_true c.a0, decide_eq_true c.b0, decide_eq_true c.p0, decide_eq_true c.p1]; rfl
theorem pairs_small {l : List Nat} (h : l.length ≤ 200) : smallV (.int (pairsL l)) := by
  have c := cnt_row (l := l) (by omega)
  obtain ⟨a0, a1⟩ := cA_le l
  obtain ⟨b0, b1⟩ := cB_le l
  have m : cA l * cB l ≤ 200 * 200 := Int.mul_le_mul (by omega) (by omega) b0 (by decide)
  have := c.p1
  exact small_nat c.p0 (Int.le_trans (by omega : pairsL l ≤ 40000) (by decide +kernel))
theorem h_Counts_of_x (C_InvalidRow : Addr) (C_InvalidCounts : Addr) (C_Counts : Addr) (ars : Rho) (Q : Po Rv) (h : (SOfX C_InvalidRow C_Counts) ars Q) : D_Counts_of (SPX (fChkX C_InvalidRow)) (SP fTriple) (SInitX C_InvalidCounts C_Counts) C_Counts (ars ++ List.replicate 1 .no) (fwish ars Q) := by
  obtain ⟨t, rfl, hp, q1, q2⟩ := h
  have hs := sizeLine_eq
  show D_Counts_of (SPX (fChkX C_InvalidRow)) (SP fTriple) (SInitX C_InvalidCounts C_Counts) C_Counts [.sh (.fn C_Counts), .sh t, .no] _
  simp only [sSeq, sSet, sPar, sIf, sRet, sRetN, sDrop, sNext, sDead, sBrk, sCnt, sAsg, sFor, dNm, dTm, dC, dOp1, dOp2, dOpN, dMt, dMut, dCall, dLst, dTup, dNil, dCons, dVn, dVc, dSl, dSl3, dNoP, dPrt, dIf, dAndV, dOrV, dNotV, dBv, dTru, dNotT, dAndT, dOrT, dChn, dEqQ, dRpQ, qOp, qNil, qCons, qLs, qTp, dSrc, dRng1, dRng2, dZip2, dEnum, dComp, dYes, gNm, gTp, gCn, gNi, gIt, e_var, e_var1, e_var2, e_var3, e_var4, e_mov, e_mov1, e_mov2, e_mov3, e_mov4, e_tr1, e_tr2, e_tr3, e_tr4, e_tr5, e_own1, e_own2, e_reo1, e_reo2, e_of1, e_of2, e_pin1, e_pin2, e_pin3, e_arg1, e_arg2, e_arg3, e_arg4, e_isarg1, e_isarg2, e_conv1, e_conv2, e_conv3, e_conv4, e_conv5, e_conv6, e_sown1, e_sown2, e_sown3, e_sown4, e_put1, e_put2, e_po1, e_po2, e_p1, e_p2, e_ao1, e_ao2, e_nd0, e_nd1, e_nd2, e_sl, e_get1, e_get2, e_is, e_all, e_gets0, e_gets1, e_gets2, e_tms0, e_tms1, e_qg1, e_qg2, e_qg3, e_qgs0, e_qgs1, e_its1, e_its2, e_its3, e_its4, e_jts1, e_jts2, e_jts4, e_mt1, e_mt2, e_ty1, e_add1, e_add2, e_add3, e_sub, e_mul1, e_mul2, e_mul3, e_fdiv, e_mod, e_pow, e_neg, e_len1, e_len2, e_len3, e_len4, e_int1, e_int2, e_abs, e_max, e_min, e_ix1, e_ix2, e_ix3, e_ix4, e_eq1, e_eq2, e_eq3, e_lt1, e_le1, e_gt1, e_ge1, e_lt2, e_in1, e_app, e_ext, e_rev, e_clr, e_set, e_sl1, e_sl2, e_sl3, e_sl4, e_count, e_f1, e_f2, e_osh, e_owh, e_one, e_tt1, e_tt2, e_ctg1, e_ctg2, e_cn0, e_cn1, e_wi0, e_wi1, e_re0, e_re1, e_ifb1, e_ifb2, e_nm0, e_nm1, e_nm2, e_fa0, e_fa1, e_sum, e_allb, e_anyb, e_sp1, e_sp2, e_sp3, e_at0, e_at1, e_at2, e_at3, e_at4, e_at5, e_ixn40, e_ixn41, e_ixn42, e_ixn43, e_cp1, e_cp2, e_cp3, e_cp4, e_cp5, forall_eq, List.getD_cons_zero, List.getD_cons_succ, List.getD_nil, List.set_cons_zero, List.set_cons_succ, List.map_cons, List.map_nil, Option.map_some, Option.map_none, Option.bind_some, Option.bind_none, Option.getD_some, Option.some.injEq, exists_eq_left', exists_eq_left, exists_eq', exists_eq, decide_eq_true_eq, List.length_map, exists_eq_right, exists_and_left, exists_and_right, Option.isSome_some, T.int.injEq, T.str.injEq, T.lst.injEq, T.tup.injEq, T.bl.injEq, List.cons.injEq, Prod.mk.injEq, Hn.tm.injEq, true_and, and_true, and_assoc, and_self, ne_eq, not_false_eq_true, not_true_eq_false, ite_true, ite_false, if_true, if_false, reduceIte, reduceCtorEq, Bool.false_eq_true, false_and, and_false, imp_self, forall_const, implies_true, List.length_cons, List.length_nil, Nat.reduceAdd, Nat.reduceEqDiff, Bool.false_bne, Bool.true_bne, Bool.not_false, Bool.not_true, List.nil_append, List.cons_append, Int.reduceToNat, Int.reducePow, Int.reduceMul, Int.reduceSub, Int.reduceAdd, Int.reduceNeg, kt_NoneType_int, kt_NoneType_bool, kt_NoneType_str, kt_NoneType_list, kt_NoneType_tuple, kt_bool_int, kt_bool_bool, kt_bool_str, kt_bool_list, kt_bool_tuple, kt_int_int, kt_int_bool, kt_int_str, kt_int_list, kt_int_tuple, kt_str_int, kt_str_bool, kt_str_str, kt_str_list, kt_str_tuple, kt_list_int, kt_list_bool, kt_list_str, kt_list_list, kt_list_tuple, kt_tuple_int, kt_tuple_bool, kt_tuple_str, kt_tuple_list, kt_tuple_tuple, kt_dict_int, kt_dict_bool, kt_dict_str, kt_dict_list, kt_dict_tuple, e_ii_non, e_ii_bl, e_ii_int, e_ii_str, e_ii_lst, e_ii_scr, e_ii_tup, e_ii_dK, e_ii_dT, dShr, dNew, dNewL, dMeth, dProp, dCm, dFld, sFld, callK, lendK, noexP, Sl.io.injEq, Sl.sh.injEq, e_cnt, e_lkT, e_putT, e_isiC, e_isiC2, e_ii_ins, dCallL, e_argL, e_fl1, e_fl2, e_fl3, e_fl4, List.all_cons, List.all_nil, dDict, dDict0, e_keys0, e_keysS, e_keysI, e_cl_non, e_cl_bl, e_cl_int, e_cl_str, e_cl_lst, e_cl_scr, e_cl_tup, e_cl_dK, e_cl_dT, e_iq1, e_iq2, e_nn1, e_nn2, e_nn3, e_nn4, e_inp, e_ixd, Int.cast_ofNat_Int, Int.natCast_succ, decide_true, decide_false, Int.reduceEq, Int.reduceLT, Int.reduceLE, Int.reduceNe, Nat.reduceLT, Nat.reduceLeDiff, Bool.and_true, Bool.true_and, Bool.and_false, Bool.false_and, Bool.not_eq_true, Bool.or_true, Bool.or_false, Int.natCast_add, Int.natCast_one, Int.zero_add, Int.add_zero, sRaise, sTry, sGone, dHot, dIsE, sPick, e_spx1, e_spx2, e_spx3, D_Counts_of, fChkX, hp]
  cases hb : isRowB t with
  | false =>
    simp only [sSeq, sSet, sPar, sIf, sRet, sRetN, sDrop, sNext, sDead, sBrk, sCnt, sAsg, sFor, dNm, dTm, dC, dOp1, dOp2, dOpN, dMt, dMut, dCall, dLst, dTup, dNil, dCons, dVn, dVc, dSl, dSl3, dNoP, dPrt, dIf, dAndV, dOrV, dNotV, dBv, dTru, dNotT, dAndT, dOrT, dChn, dEqQ, dRpQ, qOp, qNil, qCons, qLs, qTp, dSrc, dRng1, dRng2, dZip2, dEnum, dComp, dYes, gNm, gTp, gCn, gNi, gIt, e_var, e_var1, e_var2, e_var3, e_var4, e_mov, e_mov1, e_mov2, e_mov3, e_mov4, e_tr1, e_tr2, e_tr3, e_tr4, e_tr5, e_own1, e_own2, e_reo1, e_reo2, e_of1, e_of2, e_pin1, e_pin2, e_pin3, e_arg1, e_arg2, e_arg3, e_arg4, e_isarg1, e_isarg2, e_conv1, e_conv2, e_conv3, e_conv4, e_conv5, e_conv6, e_sown1, e_sown2, e_sown3, e_sown4, e_put1, e_put2, e_po1, e_po2, e_p1, e_p2, e_ao1, e_ao2, e_nd0, e_nd1, e_nd2, e_sl, e_get1, e_get2, e_is, e_all, e_gets0, e_gets1, e_gets2, e_tms0, e_tms1, e_qg1, e_qg2, e_qg3, e_qgs0, e_qgs1, e_its1, e_its2, e_its3, e_its4, e_jts1, e_jts2, e_jts4, e_mt1, e_mt2, e_ty1, e_add1, e_add2, e_add3, e_sub, e_mul1, e_mul2, e_mul3, e_fdiv, e_mod, e_pow, e_neg, e_len1, e_len2, e_len3, e_len4, e_int1, e_int2, e_abs, e_max, e_min, e_ix1, e_ix2, e_ix3, e_ix4, e_eq1, e_eq2, e_eq3, e_lt1, e_le1, e_gt1, e_ge1, e_lt2, e_in1, e_app, e_ext, e_rev, e_clr, e_set, e_sl1, e_sl2, e_sl3, e_sl4, e_count, e_f1, e_f2, e_osh, e_owh, e_one, e_tt1, e_tt2, e_ctg1, e_ctg2, e_cn0, e_cn1, e_wi0, e_wi1, e_re0, e_re1, e_ifb1, e_ifb2, e_nm0, e_nm1, e_nm2, e_fa0, e_fa1, e_sum, e_allb, e_anyb, e_sp1, e_sp2, e_sp3, e_at0, e_at1, e_at2, e_at3, e_at4, e_at5, e_ixn40, e_ixn41, e_ixn42, e_ixn43, e_cp1, e_cp2, e_cp3, e_cp4, e_cp5, forall_eq, List.getD_cons_zero, List.getD_cons_succ, List.getD_nil, List.set_cons_zero, List.set_cons_succ, List.map_cons, List.map_nil, Option.map_some, Option.map_none, Option.bind_some, Option.bind_none, Option.getD_some, Option.some.injEq, exists_eq_left', exists_eq_left, exists_eq', exists_eq, decide_eq_true_eq, List.length_map, exists_eq_right, exists_and_left, exists_and_right, Option.isSome_some, T.int.injEq, T.str.injEq, T.lst.injEq, T.tup.injEq, T.bl.injEq, List.cons.injEq, Prod.mk.injEq, Hn.tm.injEq, true_and, and_true, and_assoc, and_self, ne_eq, not_false_eq_true, not_true_eq_false, ite_true, ite_false, if_true, if_false, reduceIte, reduceCtorEq, Bool.false_eq_true, false_and, and_false, imp_self, forall_const, implies_true, List.length_cons, List.length_nil, Nat.reduceAdd, Nat.reduceEqDiff, Bool.false_bne, Bool.true_bne, Bool.not_false, Bool.not_true, List.nil_append, List.cons_append, Int.reduceToNat, Int.reducePow, Int.reduceMul, Int.reduceSub, Int.reduceAdd, Int.reduceNeg, kt_NoneType_int, kt_NoneType_bool, kt_NoneType_str, kt_NoneType_list, kt_NoneType_tuple, kt_bool_int, kt_bool_bool, kt_bool_str, kt_bool_list, kt_bool_tuple, kt_int_int, kt_int_bool, kt_int_str, kt_int_list, kt_int_tuple, kt_str_int, kt_str_bool, kt_str_str, kt_str_list, kt_str_tuple, kt_list_int, kt_list_bool, kt_list_str, kt_list_list, kt_list_tuple, kt_tuple_int, kt_tuple_bool, kt_tuple_str, kt_tuple_list, kt_tuple_tuple, kt_dict_int, kt_dict_bool, kt_dict_str, kt_dict_list, kt_dict_tuple, e_ii_non, e_ii_bl, e_ii_int, e_ii_str, e_ii_lst, e_ii_scr, e_ii_tup, e_ii_dK, e_ii_dT, dShr, dNew, dNewL, dMeth, dProp, dCm, dFld, sFld, callK, lendK, noexP, Sl.io.injEq, Sl.sh.injEq, e_cnt, e_lkT, e_putT, e_isiC, e_isiC2, e_ii_ins, dCallL, e_argL, e_fl1, e_fl2, e_fl3, e_fl4, List.all_cons, List.all_nil, dDict, dDict0, e_keys0, e_keysS, e_keysI, e_cl_non, e_cl_bl, e_cl_int, e_cl_str, e_cl_lst, e_cl_scr, e_cl_tup, e_cl_dK, e_cl_dT, e_iq1, e_iq2, e_nn1, e_nn2, e_nn3, e_nn4, e_inp, e_ixd, Int.cast_ofNat_Int, Int.natCast_succ, decide_true, decide_false, Int.reduceEq, Int.reduceLT, Int.reduceLE, Int.reduceNe, Nat.reduceLT, Nat.reduceLeDiff, Bool.and_true, Bool.true_and, Bool.and_false, Bool.false_and, Bool.not_eq_true, Bool.or_true, Bool.or_false, Int.natCast_add, Int.natCast_one, Int.zero_add, Int.add_zero, sRaise, sTry, sGone, dHot, dIsE, sPick, e_spx1, e_spx2, e_spx3]
    exact q2 hb
  | true =>
    obtain ⟨l, rfl⟩ : ∃ l, t = .str l := by cases t <;> first | exact ⟨_, rfl⟩ | cases hb
    have hl := row_len hb
    have c := cnt_row (l := l) (by omega)
    simp only [sSeq, sSet, sPar, sIf, sRet, sRetN, sDrop, sNext, sDead, sBrk, sCnt, sAsg, sFor, dNm, dTm, dC, dOp1, dOp2, dOpN, dMt, dMut, dCall, dLst, dTup, dNil, dCons, dVn, dVc, dSl, dSl3, dNoP, dPrt, dIf, dAndV, dOrV, dNotV, dBv, dTru, dNotT, dAndT, dOrT, dChn, dEqQ, dRpQ, qOp, qNil, qCons, qLs, qTp, dSrc, dRng1, dRng2, dZip2, dEnum, dComp, dYes, gNm, gTp, gCn, gNi, gIt, e_var, e_var1, e_var2, e_var3, e_var4, e_mov, e_mov1, e_mov2, e_mov3, e_mov4, e_tr1, e_tr2, e_tr3, e_tr4, e_tr5, e_own1, e_own2, e_reo1, e_reo2, e_of1, e_of2, e_pin1, e_pin2, e_pin3, e_arg1, e_arg2, e_arg3, e_arg4, e_isarg1, e_isarg2, e_conv1, e_conv2, e_conv3, e_conv4, e_conv5, e_conv6, e_sown1, e_sown2, e_sown3, e_sown4, e_put1, e_put2, e_po1, e_po2, e_p1, e_p2, e_ao1, e_ao2, e_nd0, e_nd1, e_nd2, e_sl, e_get1, e_get2, e_is, e_all, e_gets0, e_gets1, e_gets2, e_tms0, e_tms1, e_qg1, e_qg2, e_qg3, e_qgs0, e_qgs1, e_its1, e_its2, e_its3, e_its4, e_jts1, e_jts2, e_jts4, e_mt1, e_mt2, e_ty1, e_add1, e_add2, e_add3, e_sub, e_mul1, e_mul2, e_mul3, e_fdiv, e_mod, e_pow, e_neg, e_len1, e_len2, e_len3, e_len4, e_int1, e_int2, e_abs, e_max, e_min, e_ix1, e_ix2, e_ix3, e_ix4, e_eq1, e_eq2, e_eq3, e_lt1, e_le1, e_gt1, e_ge1, e_lt2, e_in1, e_app, e_ext, e_rev, e_clr, e_set, e_sl1, e_sl2, e_sl3, e_sl4, e_count, e_f1, e_f2, e_osh, e_owh, e_one, e_tt1, e_tt2, e_ctg1, e_ctg2, e_cn0, e_cn1, e_wi0, e_wi1, e_re0, e_re1, e_ifb1, e_ifb2, e_nm0, e_nm1, e_nm2, e_fa0, e_fa1, e_sum, e_allb, e_anyb, e_sp1, e_sp2, e_sp3, e_at0, e_at1, e_at2, e_at3, e_at4, e_at5, e_ixn40, e_ixn41, e_ixn42, e_ixn43, e_cp1, e_cp2, e_cp3, e_cp4, e_cp5, forall_eq, List.getD_cons_zero, List.getD_cons_succ, List.getD_nil, List.set_cons_zero, List.set_cons_succ, List.map_cons, List.map_nil, Option.map_some, Option.map_none, Option.bind_some, Option.bind_none, Option.getD_some, Option.some.injEq, exists_eq_left', exists_eq_left, exists_eq', exists_eq, decide_eq_true_eq, List.length_map, exists_eq_right, exists_and_left, exists_and_right, Option.isSome_some, T.int.injEq, T.str.injEq, T.lst.injEq, T.tup.injEq, T.bl.injEq, List.cons.injEq, Prod.mk.injEq, Hn.tm.injEq, true_and, and_true, and_assoc, and_self, ne_eq, not_false_eq_true, not_true_eq_false, ite_true, ite_false, if_true, if_false, reduceIte, reduceCtorEq, Bool.false_eq_true, false_and, and_false, imp_self, forall_const, implies_true, List.length_cons, List.length_nil, Nat.reduceAdd, Nat.reduceEqDiff, Bool.false_bne, Bool.true_bne, Bool.not_false, Bool.not_true, List.nil_append, List.cons_append, Int.reduceToNat, Int.reducePow, Int.reduceMul, Int.reduceSub, Int.reduceAdd, Int.reduceNeg, kt_NoneType_int, kt_NoneType_bool, kt_NoneType_str, kt_NoneType_list, kt_NoneType_tuple, kt_bool_int, kt_bool_bool, kt_bool_str, kt_bool_list, kt_bool_tuple, kt_int_int, kt_int_bool, kt_int_str, kt_int_list, kt_int_tuple, kt_str_int, kt_str_bool, kt_str_str, kt_str_list, kt_str_tuple, kt_list_int, kt_list_bool, kt_list_str, kt_list_list, kt_list_tuple, kt_tuple_int, kt_tuple_bool, kt_tuple_str, kt_tuple_list, kt_tuple_tuple, kt_dict_int, kt_dict_bool, kt_dict_str, kt_dict_list, kt_dict_tuple, e_ii_non, e_ii_bl, e_ii_int, e_ii_str, e_ii_lst, e_ii_scr, e_ii_tup, e_ii_dK, e_ii_dT, dShr, dNew, dNewL, dMeth, dProp, dCm, dFld, sFld, callK, lendK, noexP, Sl.io.injEq, Sl.sh.injEq, e_cnt, e_lkT, e_putT, e_isiC, e_isiC2, e_ii_ins, dCallL, e_argL, e_fl1, e_fl2, e_fl3, e_fl4, List.all_cons, List.all_nil, dDict, dDict0, e_keys0, e_keysS, e_keysI, e_cl_non, e_cl_bl, e_cl_int, e_cl_str, e_cl_lst, e_cl_scr, e_cl_tup, e_cl_dK, e_cl_dT, e_iq1, e_iq2, e_nn1, e_nn2, e_nn3, e_nn4, e_inp, e_ixd, Int.cast_ofNat_Int, Int.natCast_succ, decide_true, decide_false, Int.reduceEq, Int.reduceLT, Int.reduceLE, Int.reduceNe, Nat.reduceLT, Nat.reduceLeDiff, Bool.and_true, Bool.true_and, Bool.and_false, Bool.false_and, Bool.not_eq_true, Bool.or_true, Bool.or_false, Int.natCast_add, Int.natCast_one, Int.zero_add, Int.add_zero, sRaise, sTry, sGone, dHot, dIsE, sPick, e_spx1, e_spx2, e_spx3, fTriple, e_sinitx]
    exact ⟨by omega, small_nat c.a0 c.a1, small_nat c.b0 c.b1, pairs_small hl, fun _ => q1 l rfl hb, fun z => by rw [cnt3_of c] at z; cases z⟩
end O
namespace O
open PySem PySem.Spec PyProof.Rows L2
def fineT : List Nat := [102, 105, 110, 101]
def countsS : List Nat := [99, 111, 117, 110, 116, 115]
def rowS : List Nat := [114, 111, 119]
def fTold06 : List T → Ot
  | [.int d, t] => ⟨(d = 0 ∧ ∃ u v w, t = .tup [u, v, w] ∧ smallV u ∧ smallV v ∧ smallV w) ∨ (d = 1 ∧ (fIsRow [t]).pre),
      (false, .str (if d = 0 then (match t with | .tup [u, v, w] => if cnt3 u v w = true then fineT else countsS | _ => []) else if isRowB t = true then fineT else rowS))⟩
  | _ => .no
theorem h__law_told_2 (R : Er) (C_InvalidCounts : Addr) (C_InvalidRow : Addr) (C_Counts : Addr) (r_InvalidCounts : R C_InvalidCounts "InvalidCounts") (r_InvalidRow : R C_InvalidRow "InvalidRow") (ars : Rho) (Q : Po Rv) (h : SP fTold06 ars Q) :
    D__law_told_2 (SInitX C_InvalidCounts C_Counts) (SOfX C_InvalidRow C_Counts) C_Counts R (ars ++ List.replicate 2 .no) (fwish ars Q) := by
  obtain ⟨ts, rfl, pre, q⟩ := h
  revert pre q
  unfold fTold06
  split
  · rename_i d t
    rintro (⟨rfl, u, v, w, rfl, hu, hv, hw⟩ | ⟨rfl, hp⟩) q
    · have q : Q.ok (false, .str (if cnt3 u v w = true then fineT else countsS)) [.no, .no] := q
      show D__law_told_2 (SInitX C_InvalidCounts C_Counts) (SOfX C_InvalidRow C_Counts) C_Counts R [.sh (.int 0), .sh (.tup [u, v, w]), .no, .no] _
      simp only [sSeq, sSet, sPar, sIf, sRet, sRetN, sDrop, sNext, sDead, sBrk, sCnt, sAsg, sFor, dNm, dTm, dC, dOp1, dOp2, dOpN, dMt, dMut, dCall, dLst, dTup, dNil, dCons, dVn, dVc, dSl, dSl3, dNoP, dPrt, dIf, dAndV, dOrV, dNotV, dBv, dTru, dNotT, dAndT, dOrT, dChn, dEqQ, dRpQ, qOp, qNil, qCons, qLs, qTp, dSrc, dRng1, dRng2, dZip2, dEnum, dComp, dYes, gNm, gTp, gCn, gNi, gIt, e_var, e_var1, e_var2, e_var3, e_var4, e_mov, e_mov1, e_mov2, e_mov3, e_mov4, e_tr1, e_tr2, e_tr3, e_tr4, e_tr5, e_own1, e_own2, e_reo1, e_reo2, e_of1, e_of2, e_pin1, e_pin2, e_pin3, e_arg1, e_arg2, e_arg3, e_arg4, e_isarg1, e_isarg2, e_conv1, e_conv2, e_conv3, e_conv4, e_conv5, e_conv6, e_sown1, e_sown2, e_sown3, e_sown4, e_put1, e_put2, e_po1, e_po2, e_p1, e_p2, e_ao1, e_ao2, e_nd0, e_nd1, e_nd2, e_sl, e_get1, e_get2, e_is, e_all, e_gets0, e_gets1, e_gets2, e_tms0, e_tms1, e_qg1, e_qg2, e_qg3, e_qgs0, e_qgs1, e_its1, e_its2, e_its3, e_its4, e_jts1, e_jts2, e_jts4, e_mt1, e_mt2, e_ty1, e_add1, e_add2, e_add3, e_sub, e_mul1, e_mul2, e_mul3, e_fdiv, e_mod, e_pow, e_neg, e_len1, e_len2, e_len3, e_len4, e_int1, e_int2, e_abs, e_max, e_min, e_ix1, e_ix2, e_ix3, e_ix4, e_eq1, e_eq2, e_eq3, e_lt1, e_le1, e_gt1, e_ge1, e_lt2, e_in1, e_app, e_ext, e_rev, e_clr, e_set, e_sl1, e_sl2, e_sl3, e_sl4, e_count, e_f1, e_f2, e_osh, e_owh, e_one, e_tt1, e_tt2, e_ctg1, e_ctg2, e_cn0, e_cn1, e_wi0, e_wi1, e_re0, e_re1, e_ifb1, e_ifb2, e_nm0, e_nm1, e_nm2, e_fa0, e_fa1, e_sum, e_allb, e_anyb, e_sp1, e_sp2, e_sp3, e_at0, e_at1, e_at2, e_at3, e_at4, e_at5, e_ixn40, e_ixn41, e_ixn42, e_ixn43, e_cp1, e_cp2, e_cp3, e_cp4, e_cp5, forall_eq, List.getD_cons_zero, List.getD_cons_succ, List.getD_nil, List.set_cons_zero, List.set_cons_succ, List.map_cons, List.map_nil, Option.map_some, Option.map_none, Option.bind_some, Option.bind_none, Option.getD_some, Option.some.injEq, exists_eq_left', exists_eq_left, exists_eq', exists_eq, decide_eq_true_eq, List.length_map, exists_eq_right, exists_and_left, exists_and_right, Option.isSome_some, T.int.injEq, T.str.injEq, T.lst.injEq, T.tup.injEq, T.bl.injEq, List.cons.injEq, Prod.mk.injEq, Hn.tm.injEq, true_and, and_true, and_assoc, and_self, ne_eq, not_false_eq_true, not_true_eq_false, ite_true, ite_false, if_true, if_false, reduceIte, reduceCtorEq, Bool.false_eq_true, false_and, and_false, imp_self, forall_const, implies_true, List.length_cons, List.length_nil, Nat.reduceAdd, Nat.reduceEqDiff, Bool.false_bne, Bool.true_bne, Bool.not_false, Bool.not_true, List.nil_append, List.cons_append, Int.reduceToNat, Int.reducePow, Int.reduceMul, Int.reduceSub, Int.reduceAdd, Int.reduceNeg, kt_NoneType_int, kt_NoneType_bool, kt_NoneType_str, kt_NoneType_list, kt_NoneType_tuple, kt_bool_int, kt_bool_bool, kt_bool_str, kt_bool_list, kt_bool_tuple, kt_int_int, kt_int_bool, kt_int_str, kt_int_list, kt_int_tuple, kt_str_int, kt_str_bool, kt_str_str, kt_str_list, kt_str_tuple, kt_list_int, kt_list_bool, kt_list_str, kt_list_list, kt_list_tuple, kt_tuple_int, kt_tuple_bool, kt_tuple_str, kt_tuple_list, kt_tuple_tuple, kt_dict_int, kt_dict_bool, kt_dict_str, kt_dict_list, kt_dict_tuple, e_ii_non, e_ii_bl, e_ii_int, e_ii_str, e_ii_lst, e_ii_scr, e_ii_tup, e_ii_dK, e_ii_dT, dShr, dNew, dNewL, dMeth, dProp, dCm, dFld, sFld, callK, lendK, noexP, Sl.io.injEq, Sl.sh.injEq, e_cnt, e_lkT, e_putT, e_isiC, e_isiC2, e_ii_ins, dCallL, e_argL, e_fl1, e_fl2, e_fl3, e_fl4, List.all_cons, List.all_nil, dDict, dDict0, e_keys0, e_keysS, e_keysI, e_cl_non, e_cl_bl, e_cl_int, e_cl_str, e_cl_lst, e_cl_scr, e_cl_tup, e_cl_dK, e_cl_dT, e_iq1, e_iq2, e_nn1, e_nn2, e_nn3, e_nn4, e_inp, e_ixd, Int.cast_ofNat_Int, Int.natCast_succ, decide_true, decide_false, Int.reduceEq, Int.reduceLT, Int.reduceLE, Int.reduceNe, Nat.reduceLT, Nat.reduceLeDiff, Bool.and_true, Bool.true_and, Bool.and_false, Bool.false_and, Bool.not_eq_true, Bool.or_true, Bool.or_false, Int.natCast_add, Int.natCast_one, Int.zero_add, Int.add_zero, sRaise, sTry, sGone, dHot, dIsE, sPick, e_spx1, e_spx2, e_spx3, D__law_told_2, e_sinitx, List.drop_succ_cons, List.drop_zero]
      refine ⟨hu, hv, hw, fun c => ?_, fun c => ?_⟩
      · rw [c, if_pos rfl] at q
        exact q
      · rw [c, if_neg Bool.false_ne_true] at q
        exact ⟨"InvalidCounts", r_InvalidCounts, fun _ => ⟨"InvalidCounts", r_InvalidCounts, q⟩, fun z => by cases z⟩
    · have q : Q.ok (false, .str (if isRowB t = true then fineT else rowS)) [.no, .no] := q
      show D__law_told_2 (SInitX C_InvalidCounts C_Counts) (SOfX C_InvalidRow C_Counts) C_Counts R [.sh (.int 1), .sh t, .no, .no] _
      simp only [sSeq, sSet, sPar, sIf, sRet, sRetN, sDrop, sNext, sDead, sBrk, sCnt, sAsg, sFor, dNm, dTm, dC, dOp1, dOp2, dOpN, dMt, dMut, dCall, dLst, dTup, dNil, dCons, dVn, dVc, dSl, dSl3, dNoP, dPrt, dIf, dAndV, dOrV, dNotV, dBv, dTru, dNotT, dAndT, dOrT, dChn, dEqQ, dRpQ, qOp, qNil, qCons, qLs, qTp, dSrc, dRng1, dRng2, dZip2, dEnum, dComp, dYes, gNm, gTp, gCn, gNi, gIt, e_var, e_var1, e_var2, e_var3, e_var4, e_mov, e_mov1, e_mov2, e_mov3, e_mov4, e_tr1, e_tr2, e_tr3, e_tr4, e_tr5, e_own1, e_own2, e_reo1, e_reo2, e_of1, e_of2, e_pin1, e_pin2, e_pin3, e_arg1, e_arg2, e_arg3, e_arg4, e_isarg1, e_isarg2, e_conv1, e_conv2, e_conv3, e_conv4, e_conv5, e_conv6, e_sown1, e_sown2, e_sown3, e_sown4, e_put1, e_put2, e_po1, e_po2, e_p1, e_p2, e_ao1, e_ao2, e_nd0, e_nd1, e_nd2, e_sl, e_get1, e_get2, e_is, e_all, e_gets0, e_gets1, e_gets2, e_tms0, e_tms1, e_qg1, e_qg2, e_qg3, e_qgs0, e_qgs1, e_its1, e_its2, e_its3, e_its4, e_jts1, e_jts2, e_jts4, e_mt1, e_mt2, e_ty1, e_add1, e_add2, e_add3, e_sub, e_mul1, e_mul2, e_mul3, e_fdiv, e_mod, e_pow, e_neg, e_len1, e_len2, e_len3, e_len4, e_int1, e_int2, e_abs, e_max, e_min, e_ix1, e_ix2, e_ix3, e_ix4, e_eq1, e_eq2, e_eq3, e_lt1, e_le1, e_gt1, e_ge1, e_lt2, e_in1, e_app, e_ext, e_rev, e_clr, e_set, e_sl1, e_sl2, e_sl3, e_sl4, e_count, e_f1, e_f2, e_osh, e_owh, e_one, e_tt1, e_tt2, e_ctg1, e_ctg2, e_cn0, e_cn1, e_wi0, e_wi1, e_re0, e_re1, e_ifb1, e_ifb2, e_nm0, e_nm1, e_nm2, e_fa0, e_fa1, e_sum, e_allb, e_anyb, e_sp1, e_sp2, e_sp3, e_at0, e_at1, e_at2, e_at3, e_at4, e_at5, e_ixn40, e_ixn41, e_ixn42, e_ixn43, e_cp1, e_cp2, e_cp3, e_cp4, e_cp5, forall_eq, List.getD_cons_zero, List.getD_cons_succ, List.getD_nil, List.set_cons_zero, List.set_cons_succ, List.map_cons, List.map_nil, Option.map_some, Option.map_none, Option.bind_some, Option.bind_none, Option.getD_some, Option.some.injEq, exists_eq_left', exists_eq_left, exists_eq', exists_eq, decide_eq_true_eq, List.length_map, exists_eq_right, exists_and_left, exists_and_right, Option.isSome_some, T.int.injEq, T.str.injEq, T.lst.injEq, T.tup.injEq, T.bl.injEq, List.cons.injEq, Prod.mk.injEq, Hn.tm.injEq, true_and, and_true, and_assoc, and_self, ne_eq, not_false_eq_true, not_true_eq_false, ite_true, ite_false, if_true, if_false, reduceIte, reduceCtorEq, Bool.false_eq_true, false_and, and_false, imp_self, forall_const, implies_true, List.length_cons, List.length_nil, Nat.reduceAdd, Nat.reduceEqDiff, Bool.false_bne, Bool.true_bne, Bool.not_false, Bool.not_true, List.nil_append, List.cons_append, Int.reduceToNat, Int.reducePow, Int.reduceMul, Int.reduceSub, Int.reduceAdd, Int.reduceNeg, kt_NoneType_int, kt_NoneType_bool, kt_NoneType_str, kt_NoneType_list, kt_NoneType_tuple, kt_bool_int, kt_bool_bool, kt_bool_str, kt_bool_list, kt_bool_tuple, kt_int_int, kt_int_bool, kt_int_str, kt_int_list, kt_int_tuple, kt_str_int, kt_str_bool, kt_str_str, kt_str_list, kt_str_tuple, kt_list_int, kt_list_bool, kt_list_str, kt_list_list, kt_list_tuple, kt_tuple_int, kt_tuple_bool, kt_tuple_str, kt_tuple_list, kt_tuple_tuple, kt_dict_int, kt_dict_bool, kt_dict_str, kt_dict_list, kt_dict_tuple, e_ii_non, e_ii_bl, e_ii_int, e_ii_str, e_ii_lst, e_ii_scr, e_ii_tup, e_ii_dK, e_ii_dT, dShr, dNew, dNewL, dMeth, dProp, dCm, dFld, sFld, callK, lendK, noexP, Sl.io.injEq, Sl.sh.injEq, e_cnt, e_lkT, e_putT, e_isiC, e_isiC2, e_ii_ins, dCallL, e_argL, e_fl1, e_fl2, e_fl3, e_fl4, List.all_cons, List.all_nil, dDict, dDict0, e_keys0, e_keysS, e_keysI, e_cl_non, e_cl_bl, e_cl_int, e_cl_str, e_cl_lst, e_cl_scr, e_cl_tup, e_cl_dK, e_cl_dT, e_iq1, e_iq2, e_nn1, e_nn2, e_nn3, e_nn4, e_inp, e_ixd, Int.cast_ofNat_Int, Int.natCast_succ, decide_true, decide_false, Int.reduceEq, Int.reduceLT, Int.reduceLE, Int.reduceNe, Nat.reduceLT, Nat.reduceLeDiff, Bool.and_true, Bool.true_and, Bool.and_false, Bool.false_and, Bool.not_eq_true, Bool.or_true, Bool.or_false, Int.natCast_add, Int.natCast_one, Int.zero_add, Int.add_zero, sRaise, sTry, sGone, dHot, dIsE, sPick, e_spx1, e_spx2, e_spx3, D__law_told_2, e_sofx]
      refine ⟨hp, fun l e c => ?_, fun c => ?_⟩
      · rw [show isRowB t = true by rw [e]; exact c, if_pos rfl] at q
        exact q
      · rw [c, if_neg Bool.false_ne_true] at q
        exact ⟨"InvalidRow", r_InvalidRow, fun _ => ⟨"InvalidRow", r_InvalidRow, q⟩, fun z => by cases z⟩
  · intro pre; exact pre.elim
theorem told06_0 {u v w : T} (hu : smallV u) (hv : smallV v) (hw : smallV w) : fTold06 [.int 0, .tup [u, v, w]] = ⟨True, (false, .str (if cnt3 u v w = true then fineT else countsS))⟩ := by
  have e : ((fTold06 [.int 0, .tup [u, v, w]]).pre) = True := eq_true (.inl ⟨rfl, u, v, w, rfl, hu, hv, hw⟩)
  show (⟨(fTold06 [.int 0, .tup [u, v, w]]).pre, _⟩ : Ot) = _
  rw [e]
  rfl
theorem told06_1 {t : T} (hp : (fIsRow [t]).pre) : fTold06 [.int 1, t] = ⟨True, (false, .str (if isRowB t = true then fineT else rowS))⟩ := by
  have e : ((fTold06 [.int 1, t]).pre) = True := eq_true (.inr ⟨rfl, hp⟩)
  show (⟨(fTold06 [.int 1, t]).pre, _⟩ : Ot) = _
  rw [e]
  rfl
theorem cnt3_bad {u v w : T} (h : natB u = false ∨ natB v = false ∨ natB w = false) : cnt3 u v w = false := by
  cases u <;> cases v <;> cases w <;> first | rfl | skip
  rename_i a b p
  rw [cnt3_int]
  have k : ∀ i, natB (.int i) = decide (0 ≤ i) := fun _ => rfl
  rw [k, k, k] at h
  rcases h with h | h | h <;> rw [h] <;> simp
theorem cnt3_over {a b p : Int} (h : a * b < p) : cnt3 (.int a) (.int b) (.int p) = false := by
  rw [cnt3_int, decide_eq_false (show ¬ p ≤ a * b by omega)]; simp
/-- a value that is no number of letters -/
structure OddV (v : T) : Prop where
  sm : smallV v
  no : natB v = false
  nt : Nt v 1 400
/-- three values that are no counts -/
def BadT (t : T) : Prop := ∃ u v w, t = .tup [u, v, w] ∧ smallV u ∧ smallV v ∧ smallV w ∧ cnt3 u v w = false ∧ Nt t 2 2000
theorem BadT.mk {u v w : T} (hu : smallV u) (hv : smallV v) (hw : smallV w) (c : cnt3 u v w = false) (nu : Nt u 1 400) (nv : Nt v 1 400) (nw : Nt w 1 400) : BadT (.tup [u, v, w]) :=
  ⟨u, v, w, rfl, hu, hv, hw, c, (Nt.tup (a := 1) (m := 400) fun t m => by
    simp only [List.mem_cons, List.not_mem_nil, or_false] at m
    rcases m with rfl | rfl | rfl <;> assumption).more (by decide) (by show (400 + 2) * 3 + 3 ≤ 2000; decide)⟩
theorem comp_allT {vs : List Nat} {g : Tg} {tt : Dn Bool} {te : Dn Rv} {k : List T → Rho → Prop} (G : T → T) {ρ : Rho} {ts : List T}
    (st : ∀ t ∈ ts, ∀ (A : T → Rho → Prop) (B : Rho → Prop), A (G t) ρ → cTg g t ρ fun ρ1 => tt ρ1 ⟨fun b ρ2 => ifB b (te ρ2 ⟨fun r ρ3 => A r.2 (wipeR ρ3 vs), noex⟩) (B (wipeR ρ2 vs)), noex⟩) (hl : ts.length ≤ sizeLine) (h : k (ts.map G) ρ) : compD vs g tt te k ts [] ρ := by
  refine comp_map (fun t => some (G t)) (fun t m A B hA => st t m A B hA) (by simpa using hl) ?_
  rw [List.nil_append, List.filterMap_eq_map']
  exact h
theorem comp_noneT {vs : List Nat} {g : Tg} {tt : Dn Bool} {te : Dn Rv} {k : List T → Rho → Prop} {ρ : Rho} {ts : List T}
    (st : ∀ t ∈ ts, ∀ (A : T → Rho → Prop) (B : Rho → Prop), B ρ → cTg g t ρ fun ρ1 => tt ρ1 ⟨fun b ρ2 => ifB b (te ρ2 ⟨fun r ρ3 => A r.2 (wipeR ρ3 vs), noex⟩) (B (wipeR ρ2 vs)), noex⟩) (hl : ts.length ≤ sizeLine) (h : k [] ρ) : compD vs g tt te k ts [] ρ := by
  refine comp_map (fun _ => none) (fun t m A B hA => st t m A B hA) (by simpa using hl) ?_
  rw [none_of]
  exact h
def big59 : Int := -100000000000000000000000000000000000000000000000000000000000
def oddV (a b p : Int) : List T := [.int (-1), .int (-2), .int big59, .non, .bl true, .bl false, .str [49], .str [], .lst [.int 1], .tup [.int 1], .dK [], tri a b p]
theorem smallV_no {t : T} (h : t.cls.isSome = true) (n : ∀ i, t ≠ .int i) : smallV t := ⟨h, fun i e => (n i e).elim⟩
theorem oddV_ok {a b p : Int} (d : Drawn a b p) : ∀ v ∈ oddV a b p, OddV v := fun v m => by
  have up : (10 : Int) ^ 60 ≤ 10 ^ 65 ∧ (10 : Int) ^ 61 ≤ 10 ^ 65 := by decide +kernel
  have one : Nt (.int 1) 0 2 := Nt.int (k := 1) (by decide) (by decide) (by decide)
  simp only [oddV, List.mem_cons, List.not_mem_nil, or_false] at m
  rcases m with rfl | rfl | rfl | rfl | rfl | rfl | rfl | rfl | rfl | rfl | rfl | rfl
  · exact ⟨⟨rfl, fun i e => by cases e; decide⟩, rfl, (Nt.int (k := 1) (by decide) (by decide) (by decide)).more (by decide) (by decide)⟩
  · exact ⟨⟨rfl, fun i e => by cases e; decide⟩, rfl, (Nt.int (k := 1) (by decide) (by decide) (by decide)).more (by decide) (by decide)⟩
  · exact ⟨⟨rfl, fun i e => by cases e; decide +kernel⟩, by decide +kernel, (Nt.int (k := 60) (by decide) (by decide +kernel) (by decide +kernel)).more (by decide) (by decide)⟩
  · exact ⟨smallV_no rfl (fun _ e => by cases e), rfl, Nt.non.more (by decide) (by decide)⟩
  · exact ⟨smallV_no rfl (fun _ e => by cases e), rfl, (Nt.bl _).more (by decide) (by decide)⟩
  · exact ⟨smallV_no rfl (fun _ e => by cases e), rfl, (Nt.bl _).more (by decide) (by decide)⟩
  · exact ⟨smallV_no rfl (fun _ e => by cases e), rfl, (Nt.str (by decide)).more (by decide) (by decide)⟩
  · exact ⟨smallV_no rfl (fun _ e => by cases e), rfl, (Nt.str (by decide)).more (by decide) (by decide)⟩
  · exact ⟨smallV_no rfl (fun _ e => by cases e), rfl, (Nt.lst (a := 0) (m := 2) fun t m => by rw [List.mem_singleton.mp m]; exact one).more (by decide) (by decide)⟩
  · exact ⟨smallV_no rfl (fun _ e => by cases e), rfl, (Nt.tup (a := 0) (m := 2) fun t m => by rw [List.mem_singleton.mp m]; exact one).more (by decide) (by decide)⟩
  · exact ⟨smallV_no rfl (fun _ e => by cases e), rfl, Nt.dict0.more (by decide) (by decide)⟩
  · refine ⟨smallV_no rfl (fun _ e => by cases e), rfl, (Nt.tup (a := 0) (m := 80) fun t m => ?_).more (by decide) (by show (80 + 2) * 3 + 3 ≤ 400; decide)⟩
    simp only [List.mem_cons, List.not_mem_nil, or_false] at m
    rcases m with rfl | rfl | rfl
    · exact Nt.int65 d.a0 (Int.le_trans d.a1 up.1)
    · exact Nt.int65 d.b0 (Int.le_trans d.b1 up.1)
    · exact Nt.int65 d.p0 (Int.le_trans d.p1 (Int.le_trans d.ab up.2))
def SRight06 : Sx := fun ars Q => ∃ t, ars = [.io t] ∧ IsReel t ∧ ∀ t', IsReel t' → Q.ok (false, .bl true) [.io t']
theorem mn_SRight06 : Mn SRight06 := fun ρ Q Q' ⟨t, e, i, q⟩ k _ => ⟨t, e, i, fun t' a => k _ _ (q t' a)⟩
theorem e_sright06 {t : T} {Q : Po Rv} : SRight06 [.io t] Q = (IsReel t ∧ ∀ t', IsReel t' → Q.ok (false, .bl true) [.io t']) :=
  propext ⟨fun ⟨_, e, h⟩ => by cases e; exact h, fun h => ⟨_, rfl, h⟩⟩
theorem h__law_right_3 (ars : Rho) (Q : Po Rv) (h : SRight06 ars Q) : D__law_right_3 SAny SDraw (SP fTold06) (ars ++ List.replicate 10 .no) (fwish ars Q) := by
  obtain ⟨t, rfl, ir, q⟩ := h
  have hs := sizeLine_eq
  show D__law_right_3 SAny SDraw (SP fTold06) [.io t, .no, .no, .no, .no, .no, .no, .no, .no, .no, .no] _
  unfold D__law_right_3
  refine seq_inv (fun ρ' => ∃ t a b p, IsReel t ∧ Drawn a b p ∧ ρ' = [.io t, .sh (tri a b p), .no, .no, .no, .no, .no, .no, .no, .no, .no]) (fun K hK => ?_) (fun ρ' ⟨t, a, b, p, ir, d, e⟩ => ?_)
  · simp only [sSeq, sSet, sPar, sIf, sRet, sRetN, sDrop, sNext, sDead, sBrk, sCnt, sAsg, sFor, dNm, dTm, dC, dOp1, dOp2, dOpN, dMt, dMut, dCall, dLst, dTup, dNil, dCons, dVn, dVc, dSl, dSl3, dNoP, dPrt, dIf, dAndV, dOrV, dNotV, dBv, dTru, dNotT, dAndT, dOrT, dChn, dEqQ, dRpQ, qOp, qNil, qCons, qLs, qTp, dSrc, dRng1, dRng2, dZip2, dEnum, dComp, dYes, gNm, gTp, gCn, gNi, gIt, e_var, e_var1, e_var2, e_var3, e_var4, e_mov, e_mov1, e_mov2, e_mov3, e_mov4, e_tr1, e_tr2, e_tr3, e_tr4, e_tr5, e_own1, e_own2, e_reo1, e_reo2, e_of1, e_of2, e_pin1, e_pin2, e_pin3, e_arg1, e_arg2, e_arg3, e_arg4, e_isarg1, e_isarg2, e_conv1, e_conv2, e_conv3, e_conv4, e_conv5, e_conv6, e_sown1, e_sown2, e_sown3, e_sown4, e_put1, e_put2, e_po1, e_po2, e_p1, e_p2, e_ao1, e_ao2, e_nd0, e_nd1, e_nd2, e_sl, e_get1, e_get2, e_is, e_all, e_gets0, e_gets1, e_gets2, e_tms0, e_tms1, e_qg1, e_qg2, e_qg3, e_qgs0, e_qgs1, e_its1, e_its2, e_its3, e_its4, e_jts1, e_jts2, e_jts4, e_mt1, e_mt2, e_ty1, e_add1, e_add2, e_add3, e_sub, e_mul1, e_mul2, e_mul3, e_fdiv, e_mod, e_pow, e_neg, e_len1, e_len2, e_len3, e_len4, e_int1, e_int2, e_abs, e_max, e_min, e_ix1, e_ix2, e_ix3, e_ix4, e_eq1, e_eq2, e_eq3, e_lt1, e_le1, e_gt1, e_ge1, e_lt2, e_in1, e_app, e_ext, e_rev, e_clr, e_set, e_sl1, e_sl2, e_sl3, e_sl4, e_count, e_f1, e_f2, e_osh, e_owh, e_one, e_tt1, e_tt2, e_ctg1, e_ctg2, e_cn0, e_cn1, e_wi0, e_wi1, e_re0, e_re1, e_ifb1, e_ifb2, e_nm0, e_nm1, e_nm2, e_fa0, e_fa1, e_sum, e_allb, e_anyb, e_sp1, e_sp2, e_sp3, e_at0, e_at1, e_at2, e_at3, e_at4, e_at5, e_ixn40, e_ixn41, e_ixn42, e_ixn43, e_cp1, e_cp2, e_cp3, e_cp4, e_cp5, forall_eq, List.getD_cons_zero, List.getD_cons_succ, List.getD_nil, List.set_cons_zero, List.set_cons_succ, List.map_cons, List.map_nil, Option.map_some, Option.map_none, Option.bind_some, Option.bind_none, Option.getD_some, Option.some.injEq, exists_eq_left', exists_eq_left, exists_eq', exists_eq, decide_eq_true_eq, List.length_map, exists_eq_right, exists_and_left, exists_and_right, Option.isSome_some, T.int.injEq, T.str.injEq, T.lst.injEq, T.tup.injEq, T.bl.injEq, List.cons.injEq, Prod.mk.injEq, Hn.tm.injEq, true_and, and_true, and_assoc, and_self, ne_eq, not_false_eq_true, not_true_eq_false, ite_true, ite_false, if_true, if_false, reduceIte, reduceCtorEq, Bool.false_eq_true, false_and, and_false, imp_self, forall_const, implies_true, List.length_cons, List.length_nil, Nat.reduceAdd, Nat.reduceEqDiff, Bool.false_bne, Bool.true_bne, Bool.not_false, Bool.not_true, List.nil_append, List.cons_append, Int.reduceToNat, Int.reducePow, Int.reduceMul, Int.reduceSub, Int.reduceAdd, Int.reduceNeg, kt_NoneType_int, kt_NoneType_bool, kt_NoneType_str, kt_NoneType_list, kt_NoneType_tuple, kt_bool_int, kt_bool_bool, kt_bool_str, kt_bool_list, kt_bool_tuple, kt_int_int, kt_int_bool, kt_int_str, kt_int_list, kt_int_tuple, kt_str_int, kt_str_bool, kt_str_str, kt_str_list, kt_str_tuple, kt_list_int, kt_list_bool, kt_list_str, kt_list_list, kt_list_tuple, kt_tuple_int, kt_tuple_bool, kt_tuple_str, kt_tuple_list, kt_tuple_tuple, kt_dict_int, kt_dict_bool, kt_dict_str, kt_dict_list, kt_dict_tuple, e_ii_non, e_ii_bl, e_ii_int, e_ii_str, e_ii_lst, e_ii_scr, e_ii_tup, e_ii_dK, e_ii_dT, dShr, dNew, dNewL, dMeth, dProp, dCm, dFld, sFld, callK, lendK, noexP, Sl.io.injEq, Sl.sh.injEq, e_cnt, e_lkT, e_putT, e_isiC, e_isiC2, e_ii_ins, dCallL, e_argL, e_fl1, e_fl2, e_fl3, e_fl4, List.all_cons, List.all_nil, dDict, dDict0, e_keys0, e_keysS, e_keysI, e_cl_non, e_cl_bl, e_cl_int, e_cl_str, e_cl_lst, e_cl_scr, e_cl_tup, e_cl_dK, e_cl_dT, e_iq1, e_iq2, e_nn1, e_nn2, e_nn3, e_nn4, e_inp, e_ixd, Int.cast_ofNat_Int, Int.natCast_succ, decide_true, decide_false, Int.reduceEq, Int.reduceLT, Int.reduceLE, Int.reduceNe, Nat.reduceLT, Nat.reduceLeDiff, Bool.and_true, Bool.true_and, Bool.and_false, Bool.false_and, Bool.not_eq_true, Bool.or_true, Bool.or_false, Int.natCast_add, Int.natCast_one, Int.zero_add, Int.add_zero, sRaise, sTry, sGone, dHot, dIsE, sPick, e_spx1, e_spx2, e_spx3, e_sany]
    exact ⟨ir, fun t' a b p i d => hK _ ⟨t', a, b, p, i, d, rfl⟩⟩
  subst e
  refine seq_inv (fun ρ' => ρ' = [.io t, .sh (tri a b p), .sh (.int a), .sh (.int b), .sh (.int p), .no, .no, .no, .no, .no, .no]) (fun K hK => ?_) (fun ρ' e => ?_)
  · simp only [sSeq, sSet, sPar, sIf, sRet, sRetN, sDrop, sNext, sDead, sBrk, sCnt, sAsg, sFor, dNm, dTm, dC, dOp1, dOp2, dOpN, dMt, dMut, dCall, dLst, dTup, dNil, dCons, dVn, dVc, dSl, dSl3, dNoP, dPrt, dIf, dAndV, dOrV, dNotV, dBv, dTru, dNotT, dAndT, dOrT, dChn, dEqQ, dRpQ, qOp, qNil, qCons, qLs, qTp, dSrc, dRng1, dRng2, dZip2, dEnum, dComp, dYes, gNm, gTp, gCn, gNi, gIt, e_var, e_var1, e_var2, e_var3, e_var4, e_mov, e_mov1, e_mov2, e_mov3, e_mov4, e_tr1, e_tr2, e_tr3, e_tr4, e_tr5, e_own1, e_own2, e_reo1, e_reo2, e_of1, e_of2, e_pin1, e_pin2, e_pin3, e_arg1, e_arg2, e_arg3, e_arg4, e_isarg1, e_isarg2, e_conv1, e_conv2, e_conv3, e_conv4, e_conv5, e_conv6, e_sown1, e_sown2, e_sown3, e_sown4, e_put1, e_put2, e_po1, e_po2, e_p1, e_p2, e_ao1, e_ao2, e_nd0, e_nd1, e_nd2, e_sl, e_get1, e_get2, e_is, e_all, e_gets0, e_gets1, e_gets2, e_tms0, e_tms1, e_qg1, e_qg2, e_qg3, e_qgs0, e_qgs1, e_its1, e_its2, e_its3, e_its4, e_jts1, e_jts2, e_jts4, e_mt1, e_mt2, e_ty1, e_add1, e_add2, e_add3, e_sub, e_mul1, e_mul2, e_mul3, e_fdiv, e_mod, e_pow, e_neg, e_len1, e_len2, e_len3, e_len4, e_int1, e_int2, e_abs, e_max, e_min, e_ix1, e_ix2, e_ix3, e_ix4, e_eq1, e_eq2, e_eq3, e_lt1, e_le1, e_gt1, e_ge1, e_lt2, e_in1, e_app, e_ext, e_rev, e_clr, e_set, e_sl1, e_sl2, e_sl3, e_sl4, e_count, e_f1, e_f2, e_osh, e_owh, e_one, e_tt1, e_tt2, e_ctg1, e_ctg2, e_cn0, e_cn1, e_wi0, e_wi1, e_re0, e_re1, e_ifb1, e_ifb2, e_nm0, e_nm1, e_nm2, e_fa0, e_fa1, e_sum, e_allb, e_anyb, e_sp1, e_sp2, e_sp3, e_at0, e_at1, e_at2, e_at3, e_at4, e_at5, e_ixn40, e_ixn41, e_ixn42, e_ixn43, e_cp1, e_cp2, e_cp3, e_cp4, e_cp5, forall_eq, List.getD_cons_zero, List.getD_cons_succ, List.getD_nil, List.set_cons_zero, List.set_cons_succ, List.map_cons, List.map_nil, Option.map_some, Option.map_none, Option.bind_some, Option.bind_none, Option.getD_some, Option.some.injEq, exists_eq_left', exists_eq_left, exists_eq', exists_eq, decide_eq_true_eq, List.length_map, exists_eq_right, exists_and_left, exists_and_right, Option.isSome_some, T.int.injEq, T.str.injEq, T.lst.injEq, T.tup.injEq, T.bl.injEq, List.cons.injEq, Prod.mk.injEq, Hn.tm.injEq, true_and, and_true, and_assoc, and_self, ne_eq, not_false_eq_true, not_true_eq_false, ite_true, ite_false, if_true, if_false, reduceIte, reduceCtorEq, Bool.false_eq_true, false_and, and_false, imp_self, forall_const, implies_true, List.length_cons, List.length_nil, Nat.reduceAdd, Nat.reduceEqDiff, Bool.false_bne, Bool.true_bne, Bool.not_false, Bool.not_true, List.nil_append, List.cons_append, Int.reduceToNat, Int.reducePow, Int.reduceMul, Int.reduceSub, Int.reduceAdd, Int.reduceNeg, kt_NoneType_int, kt_NoneType_bool, kt_NoneType_str, kt_NoneType_list, kt_NoneType_tuple, kt_bool_int, kt_bool_bool, kt_bool_str, kt_bool_list, kt_bool_tuple, kt_int_int, kt_int_bool, kt_int_str, kt_int_list, kt_int_tuple, kt_str_int, kt_str_bool, kt_str_str, kt_str_list, kt_str_tuple, kt_list_int, kt_list_bool, kt_list_str, kt_list_list, kt_list_tuple, kt_tuple_int, kt_tuple_bool, kt_tuple_str, kt_tuple_list, kt_tuple_tuple, kt_dict_int, kt_dict_bool, kt_dict_str, kt_dict_list, kt_dict_tuple, e_ii_non, e_ii_bl, e_ii_int, e_ii_str, e_ii_lst, e_ii_scr, e_ii_tup, e_ii_dK, e_ii_dT, dShr, dNew, dNewL, dMeth, dProp, dCm, dFld, sFld, callK, lendK, noexP, Sl.io.injEq, Sl.sh.injEq, e_cnt, e_lkT, e_putT, e_isiC, e_isiC2, e_ii_ins, dCallL, e_argL, e_fl1, e_fl2, e_fl3, e_fl4, List.all_cons, List.all_nil, dDict, dDict0, e_keys0, e_keysS, e_keysI, e_cl_non, e_cl_bl, e_cl_int, e_cl_str, e_cl_lst, e_cl_scr, e_cl_tup, e_cl_dK, e_cl_dT, e_iq1, e_iq2, e_nn1, e_nn2, e_nn3, e_nn4, e_inp, e_ixd, Int.cast_ofNat_Int, Int.natCast_succ, decide_true, decide_false, Int.reduceEq, Int.reduceLT, Int.reduceLE, Int.reduceNe, Nat.reduceLT, Nat.reduceLeDiff, Bool.and_true, Bool.true_and, Bool.and_false, Bool.false_and, Bool.not_eq_true, Bool.or_true, Bool.or_false, Int.natCast_add, Int.natCast_one, Int.zero_add, Int.add_zero, sRaise, sTry, sGone, dHot, dIsE, sPick, e_spx1, e_spx2, e_spx3, tri]
    exact hK _ rfl
  subst e
  have cp : CPow 10 59 = True := eq_true cpow_59
  refine seq_inv (fun ρ' => ρ' = [.io t, .sh (tri a b p), .sh (.int a), .sh (.int b), .sh (.int p), .ow (.lst (oddV a b p)), .no, .no, .no, .no, .no]) (fun K hK => ?_) (fun ρ' e => ?_)
  · simp only [sSeq, sSet, sPar, sIf, sRet, sRetN, sDrop, sNext, sDead, sBrk, sCnt, sAsg, sFor, dNm, dTm, dC, dOp1, dOp2, dOpN, dMt, dMut, dCall, dLst, dTup, dNil, dCons, dVn, dVc, dSl, dSl3, dNoP, dPrt, dIf, dAndV, dOrV, dNotV, dBv, dTru, dNotT, dAndT, dOrT, dChn, dEqQ, dRpQ, qOp, qNil, qCons, qLs, qTp, dSrc, dRng1, dRng2, dZip2, dEnum, dComp, dYes, gNm, gTp, gCn, gNi, gIt, e_var, e_var1, e_var2, e_var3, e_var4, e_mov, e_mov1, e_mov2, e_mov3, e_mov4, e_tr1, e_tr2, e_tr3, e_tr4, e_tr5, e_own1, e_own2, e_reo1, e_reo2, e_of1, e_of2, e_pin1, e_pin2, e_pin3, e_arg1, e_arg2, e_arg3, e_arg4, e_isarg1, e_isarg2, e_conv1, e_conv2, e_conv3, e_conv4, e_conv5, e_conv6, e_sown1, e_sown2, e_sown3, e_sown4, e_put1, e_put2, e_po1, e_po2, e_p1, e_p2, e_ao1, e_ao2, e_nd0, e_nd1, e_nd2, e_sl, e_get1, e_get2, e_is, e_all, e_gets0, e_gets1, e_gets2, e_tms0, e_tms1, e_qg1, e_qg2, e_qg3, e_qgs0, e_qgs1, e_its1, e_its2, e_its3, e_its4, e_jts1, e_jts2, e_jts4, e_mt1, e_mt2, e_ty1, e_add1, e_add2, e_add3, e_sub, e_mul1, e_mul2, e_mul3, e_fdiv, e_mod, e_pow, e_neg, e_len1, e_len2, e_len3, e_len4, e_int1, e_int2, e_abs, e_max, e_min, e_ix1, e_ix2, e_ix3, e_ix4, e_eq1, e_eq2, e_eq3, e_lt1, e_le1, e_gt1, e_ge1, e_lt2, e_in1, e_app, e_ext, e_rev, e_clr, e_set, e_sl1, e_sl2, e_sl3, e_sl4, e_count, e_f1, e_f2, e_osh, e_owh, e_one, e_tt1, e_tt2, e_ctg1, e_ctg2, e_cn0, e_cn1, e_wi0, e_wi1, e_re0, e_re1, e_ifb1, e_ifb2, e_nm0, e_nm1, e_nm2, e_fa0, e_fa1, e_sum, e_allb, e_anyb, e_sp1, e_sp2, e_sp3, e_at0, e_at1, e_at2, e_at3, e_at4, e_at5, e_ixn40, e_ixn41, e_ixn42, e_ixn43, e_cp1, e_cp2, e_cp3, e_cp4, e_cp5, forall_eq, List.getD_cons_zero, List.getD_cons_succ, List.getD_nil, List.set_cons_zero, List.set_cons_succ, List.map_cons, List.map_nil, Option.map_some, Option.map_none, Option.bind_some, Option.bind_none, Option.getD_some, Option.some.injEq, exists_eq_left', exists_eq_left, exists_eq', exists_eq, decide_eq_true_eq, List.length_map, exists_eq_right, exists_and_left, exists_and_right, Option.isSome_some, T.int.injEq, T.str.injEq, T.lst.injEq, T.tup.injEq, T.bl.injEq, List.cons.injEq, Prod.mk.injEq, Hn.tm.injEq, true_and, and_true, and_assoc, and_self, ne_eq, not_false_eq_true, not_true_eq_false, ite_true, ite_false, if_true, if_false, reduceIte, reduceCtorEq, Bool.false_eq_true, false_and, and_false, imp_self, forall_const, implies_true, List.length_cons, List.length_nil, Nat.reduceAdd, Nat.reduceEqDiff, Bool.false_bne, Bool.true_bne, Bool.not_false, Bool.not_true, List.nil_append, List.cons_append, Int.reduceToNat, Int.reducePow, Int.reduceMul, Int.reduceSub, Int.reduceAdd, Int.reduceNeg, kt_NoneType_int, kt_NoneType_bool, kt_NoneType_str, kt_NoneType_list, kt_NoneType_tuple, kt_bool_int, kt_bool_bool, kt_bool_str, kt_bool_list, kt_bool_tuple, kt_int_int, kt_int_bool, kt_int_str, kt_int_list, kt_int_tuple, kt_str_int, kt_str_bool, kt_str_str, kt_str_list, kt_str_tuple, kt_list_int, kt_list_bool, kt_list_str, kt_list_list, kt_list_tuple, kt_tuple_int, kt_tuple_bool, kt_tuple_str, kt_tuple_list, kt_tuple_tuple, kt_dict_int, kt_dict_bool, kt_dict_str, kt_dict_list, kt_dict_tuple, e_ii_non, e_ii_bl, e_ii_int, e_ii_str, e_ii_lst, e_ii_scr, e_ii_tup, e_ii_dK, e_ii_dT, dShr, dNew, dNewL, dMeth, dProp, dCm, dFld, sFld, callK, lendK, noexP, Sl.io.injEq, Sl.sh.injEq, e_cnt, e_lkT, e_putT, e_isiC, e_isiC2, e_ii_ins, dCallL, e_argL, e_fl1, e_fl2, e_fl3, e_fl4, List.all_cons, List.all_nil, dDict, dDict0, e_keys0, e_keysS, e_keysI, e_cl_non, e_cl_bl, e_cl_int, e_cl_str, e_cl_lst, e_cl_scr, e_cl_tup, e_cl_dK, e_cl_dT, e_iq1, e_iq2, e_nn1, e_nn2, e_nn3, e_nn4, e_inp, e_ixd, Int.cast_ofNat_Int, Int.natCast_succ, decide_true, decide_false, Int.reduceEq, Int.reduceLT, Int.reduceLE, Int.reduceNe, Nat.reduceLT, Nat.reduceLeDiff, Bool.and_true, Bool.true_and, Bool.and_false, Bool.false_and, Bool.not_eq_true, Bool.or_true, Bool.or_false, Int.natCast_add, Int.natCast_one, Int.zero_add, Int.add_zero, sRaise, sTry, sGone, dHot, dIsE, sPick, e_spx1, e_spx2, e_spx3, cp]
    exact ⟨by omega, by omega, by omega, hK _ rfl⟩
  subst e
  have ok := oddV_ok d
  have lo : (oddV a b p).length = 12 := rfl
  generalize oddV a b p = od at ok lo ⊢
  have up : (10 : Int) ^ 60 ≤ 10 ^ 65 ∧ (10 : Int) ^ 61 ≤ 10 ^ 65 ∧ (10 : Int) ^ 65 ≤ 10 ^ 200 := by decide +kernel
  have p65 := Int.le_trans d.p1 (Int.le_trans d.ab up.2.1)
  have a65 := Int.le_trans d.a1 up.1
  have b65 := Int.le_trans d.b1 up.1
  have sa := small_nat d.a0 (Int.le_trans a65 up.2.2)
  have sb := small_nat d.b0 (Int.le_trans b65 up.2.2)
  have sp := small_nat d.p0 (Int.le_trans p65 up.2.2)
  have na : Nt (.int a) 1 400 := (Nt.int65 d.a0 a65).more (by decide) (by decide)
  have nb : Nt (.int b) 1 400 := (Nt.int65 d.b0 b65).more (by decide) (by decide)
  have np : Nt (.int p) 1 400 := (Nt.int65 d.p0 p65).more (by decide) (by decide)
  have bd : ∀ (G : T → T) (ts : List T), (∀ v ∈ od, BadT (G v)) → (∀ t ∈ ts, BadT t) → ∀ t ∈ ts ++ od.map G, BadT t := fun G ts h k t m => by
    rcases List.mem_append.mp m with z | z
    · exact k t z
    · obtain ⟨v, hv, rfl⟩ := List.mem_map.mp z
      exact h v hv
  refine seq_inv (fun ρ' => ∃ bad, ρ' = [.io t, .sh (tri a b p), .sh (.int a), .sh (.int b), .sh (.int p), .sh (.lst od), .ow (.lst bad), .no, .no, .no, .no] ∧ bad.length = 24 ∧ ∀ t ∈ bad, BadT t) (fun K hK => ?_) (fun ρ' ⟨bad, e, bl, hb⟩ => ?_)
  · simp only [sSeq, sSet, sPar, sIf, sRet, sRetN, sDrop, sNext, sDead, sBrk, sCnt, sAsg, sFor, dNm, dTm, dC, dOp1, dOp2, dOpN, dMt, dMut, dCall, dLst, dTup, dNil, dCons, dVn, dVc, dSl, dSl3, dNoP, dPrt, dIf, dAndV, dOrV, dNotV, dBv, dTru, dNotT, dAndT, dOrT, dChn, dEqQ, dRpQ, qOp, qNil, qCons, qLs, qTp, dSrc, dRng1, dRng2, dZip2, dEnum, dComp, dYes, gNm, gTp, gCn, gNi, gIt, e_var, e_var1, e_var2, e_var3, e_var4, e_mov, e_mov1, e_mov2, e_mov3, e_mov4, e_tr1, e_tr2, e_tr3, e_tr4, e_tr5, e_own1, e_own2, e_reo1, e_reo2, e_of1, e_of2, e_pin1, e_pin2, e_pin3, e_arg1, e_arg2, e_arg3, e_arg4, e_isarg1, e_isarg2, e_conv1, e_conv2, e_conv3, e_conv4, e_conv5, e_conv6, e_sown1, e_sown2, e_sown3, e_sown4, e_put1, e_put2, e_po1, e_po2, e_p1, e_p2, e_ao1, e_ao2, e_nd0, e_nd1, e_nd2, e_sl, e_get1, e_get2, e_is, e_all, e_gets0, e_gets1, e_gets2, e_tms0, e_tms1, e_qg1, e_qg2, e_qg3, e_qgs0, e_qgs1, e_its1, e_its2, e_its3, e_its4, e_jts1, e_jts2, e_jts4, e_mt1, e_mt2, e_ty1, e_add1, e_add2, e_add3, e_sub, e_mul1, e_mul2, e_mul3, e_fdiv, e_mod, e_pow, e_neg, e_len1, e_len2, e_len3, e_len4, e_int1, e_int2, e_abs, e_max, e_min, e_ix1, e_ix2, e_ix3, e_ix4, e_eq1, e_eq2, e_eq3, e_lt1, e_le1, e_gt1, e_ge1, e_lt2, e_in1, e_app, e_ext, e_rev, e_clr, e_set, e_sl1, e_sl2, e_sl3, e_sl4, e_count, e_f1, e_f2, e_osh, e_owh, e_one, e_tt1, e_tt2, e_ctg1, e_ctg2, e_cn0, e_cn1, e_wi0, e_wi1, e_re0, e_re1, e_ifb1, e_ifb2, e_nm0, e_nm1, e_nm2, e_fa0, e_fa1, e_sum, e_allb, e_anyb, e_sp1, e_sp2, e_sp3, e_at0, e_at1, e_at2, e_at3, e_at4, e_at5, e_ixn40, e_ixn41, e_ixn42, e_ixn43, e_cp1, e_cp2, e_cp3, e_cp4, e_cp5, forall_eq, List.getD_cons_zero, List.getD_cons_succ, List.getD_nil, List.set_cons_zero, List.set_cons_succ, List.map_cons, List.map_nil, Option.map_some, Option.map_none, Option.bind_some, Option.bind_none, Option.getD_some, Option.some.injEq, exists_eq_left', exists_eq_left, exists_eq', exists_eq, decide_eq_true_eq, List.length_map, exists_eq_right, exists_and_left, exists_and_right, Option.isSome_some, T.int.injEq, T.str.injEq, T.lst.injEq, T.tup.injEq, T.bl.injEq, List.cons.injEq, Prod.mk.injEq, Hn.tm.injEq, true_and, and_true, and_assoc, and_self, ne_eq, not_false_eq_true, not_true_eq_false, ite_true, ite_false, if_true, if_false, reduceIte, reduceCtorEq, Bool.false_eq_true, false_and, and_false, imp_self, forall_const, implies_true, List.length_cons, List.length_nil, Nat.reduceAdd, Nat.reduceEqDiff, Bool.false_bne, Bool.true_bne, Bool.not_false, Bool.not_true, List.nil_append, List.cons_append, Int.reduceToNat, Int.reducePow, Int.reduceMul, Int.reduceSub, Int.reduceAdd, Int.reduceNeg, kt_NoneType_int, kt_NoneType_bool, kt_NoneType_str, kt_NoneType_list, kt_NoneType_tuple, kt_bool_int, kt_bool_bool, kt_bool_str, kt_bool_list, kt_bool_tuple, kt_int_int, kt_int_bool, kt_int_str, kt_int_list, kt_int_tuple, kt_str_int, kt_str_bool, kt_str_str, kt_str_list, kt_str_tuple, kt_list_int, kt_list_bool, kt_list_str, kt_list_list, kt_list_tuple, kt_tuple_int, kt_tuple_bool, kt_tuple_str, kt_tuple_list, kt_tuple_tuple, kt_dict_int, kt_dict_bool, kt_dict_str, kt_dict_list, kt_dict_tuple, e_ii_non, e_ii_bl, e_ii_int, e_ii_str, e_ii_lst, e_ii_scr, e_ii_tup, e_ii_dK, e_ii_dT, dShr, dNew, dNewL, dMeth, dProp, dCm, dFld, sFld, callK, lendK, noexP, Sl.io.injEq, Sl.sh.injEq, e_cnt, e_lkT, e_putT, e_isiC, e_isiC2, e_ii_ins, dCallL, e_argL, e_fl1, e_fl2, e_fl3, e_fl4, List.all_cons, List.all_nil, dDict, dDict0, e_keys0, e_keysS, e_keysI, e_cl_non, e_cl_bl, e_cl_int, e_cl_str, e_cl_lst, e_cl_scr, e_cl_tup, e_cl_dK, e_cl_dT, e_iq1, e_iq2, e_nn1, e_nn2, e_nn3, e_nn4, e_inp, e_ixd, Int.cast_ofNat_Int, Int.natCast_succ, decide_true, decide_false, Int.reduceEq, Int.reduceLT, Int.reduceLE, Int.reduceNe, Nat.reduceLT, Nat.reduceLeDiff, Bool.and_true, Bool.true_and, Bool.and_false, Bool.false_and, Bool.not_eq_true, Bool.or_true, Bool.or_false, Int.natCast_add, Int.natCast_one, Int.zero_add, Int.add_zero, sRaise, sTry, sGone, dHot, dIsE, sPick, e_spx1, e_spx2, e_spx3]
    refine comp_allT (fun v => .tup [v, .int b, .int p]) (fun v m A B hA => ?_) (by omega) ?_
    · simp only [sSeq, sSet, sPar, sIf, sRet, sRetN, sDrop, sNext, sDead, sBrk, sCnt, sAsg, sFor, dNm, dTm, dC, dOp1, dOp2, dOpN, dMt, dMut, dCall, dLst, dTup, dNil, dCons, dVn, dVc, dSl, dSl3, dNoP, dPrt, dIf, dAndV, dOrV, dNotV, dBv, dTru, dNotT, dAndT, dOrT, dChn, dEqQ, dRpQ, qOp, qNil, qCons, qLs, qTp, dSrc, dRng1, dRng2, dZip2, dEnum, dComp, dYes, gNm, gTp, gCn, gNi, gIt, e_var, e_var1, e_var2, e_var3, e_var4, e_mov, e_mov1, e_mov2, e_mov3, e_mov4, e_tr1, e_tr2, e_tr3, e_tr4, e_tr5, e_own1, e_own2, e_reo1, e_reo2, e_of1, e_of2, e_pin1, e_pin2, e_pin3, e_arg1, e_arg2, e_arg3, e_arg4, e_isarg1, e_isarg2, e_conv1, e_conv2, e_conv3, e_conv4, e_conv5, e_conv6, e_sown1, e_sown2, e_sown3, e_sown4, e_put1, e_put2, e_po1, e_po2, e_p1, e_p2, e_ao1, e_ao2, e_nd0, e_nd1, e_nd2, e_sl, e_get1, e_get2, e_is, e_all, e_gets0, e_gets1, e_gets2, e_tms0, e_tms1, e_qg1, e_qg2, e_qg3, e_qgs0, e_qgs1, e_its1, e_its2, e_its3, e_its4, e_jts1, e_jts2, e_jts4, e_mt1, e_mt2, e_ty1, e_add1, e_add2, e_add3, e_sub, e_mul1, e_mul2, e_mul3, e_fdiv, e_mod, e_pow, e_neg, e_len1, e_len2, e_len3, e_len4, e_int1, e_int2, e_abs, e_max, e_min, e_ix1, e_ix2, e_ix3, e_ix4, e_eq1, e_eq2, e_eq3, e_lt1, e_le1, e_gt1, e_ge1, e_lt2, e_in1, e_app, e_ext, e_rev, e_clr, e_set, e_sl1, e_sl2, e_sl3, e_sl4, e_count, e_f1, e_f2, e_osh, e_owh, e_one, e_tt1, e_tt2, e_ctg1, e_ctg2, e_cn0, e_cn1, e_wi0, e_wi1, e_re0, e_re1, e_ifb1, e_ifb2, e_nm0, e_nm1, e_nm2, e_fa0, e_fa1, e_sum, e_allb, e_anyb, e_sp1, e_sp2, e_sp3, e_at0, e_at1, e_at2, e_at3, e_at4, e_at5, e_ixn40, e_ixn41, e_ixn42, e_ixn43, e_cp1, e_cp2, e_cp3, e_cp4, e_cp5, forall_eq, List.getD_cons_zero, List.getD_cons_succ, List.getD_nil, List.set_cons_zero, List.set_cons_succ, List.map_cons, List.map_nil, Option.map_some, Option.map_none, Option.bind_some, Option.bind_none, Option.getD_some, Option.some.injEq, exists_eq_left', exists_eq_left, exists_eq', exists_eq, decide_eq_true_eq, List.length_map, exists_eq_right, exists_and_left, exists_and_right, Option.isSome_some, T.int.injEq, T.str.injEq, T.lst.injEq, T.tup.injEq, T.bl.injEq, List.cons.injEq, Prod.mk.injEq, Hn.tm.injEq, true_and, and_true, and_assoc, and_self, ne_eq, not_false_eq_true, not_true_eq_false, ite_true, ite_false, if_true, if_false, reduceIte, reduceCtorEq, Bool.false_eq_true, false_and, and_false, imp_self, forall_const, implies_true, List.length_cons, List.length_nil, Nat.reduceAdd, Nat.reduceEqDiff, Bool.false_bne, Bool.true_bne, Bool.not_false, Bool.not_true, List.nil_append, List.cons_append, Int.reduceToNat, Int.reducePow, Int.reduceMul, Int.reduceSub, Int.reduceAdd, Int.reduceNeg, kt_NoneType_int, kt_NoneType_bool, kt_NoneType_str, kt_NoneType_list, kt_NoneType_tuple, kt_bool_int, kt_bool_bool, kt_bool_str, kt_bool_list, kt_bool_tuple, kt_int_int, kt_int_bool, kt_int_str, kt_int_list, kt_int_tuple, kt_str_int, kt_str_bool, kt_str_str, kt_str_list, kt_str_tuple, kt_list_int, kt_list_bool, kt_list_str, kt_list_list, kt_list_tuple, kt_tuple_int, kt_tuple_bool, kt_tuple_str, kt_tuple_list, kt_tuple_tuple, kt_dict_int, kt_dict_bool, kt_dict_str, kt_dict_list, kt_dict_tuple, e_ii_non, e_ii_bl, e_ii_int, e_ii_str, e_ii_lst, e_ii_scr, e_ii_tup, e_ii_dK, e_ii_dT, dShr, dNew, dNewL, dMeth, dProp, dCm, dFld, sFld, callK, lendK, noexP, Sl.io.injEq, Sl.sh.injEq, e_cnt, e_lkT, e_putT, e_isiC, e_isiC2, e_ii_ins, dCallL, e_argL, e_fl1, e_fl2, e_fl3, e_fl4, List.all_cons, List.all_nil, dDict, dDict0, e_keys0, e_keysS, e_keysI, e_cl_non, e_cl_bl, e_cl_int, e_cl_str, e_cl_lst, e_cl_scr, e_cl_tup, e_cl_dK, e_cl_dT, e_iq1, e_iq2, e_nn1, e_nn2, e_nn3, e_nn4, e_inp, e_ixd, Int.cast_ofNat_Int, Int.natCast_succ, decide_true, decide_false, Int.reduceEq, Int.reduceLT, Int.reduceLE, Int.reduceNe, Nat.reduceLT, Nat.reduceLeDiff, Bool.and_true, Bool.true_and, Bool.and_false, Bool.false_and, Bool.not_eq_true, Bool.or_true, Bool.or_false, Int.natCast_add, Int.natCast_one, Int.zero_add, Int.add_zero, sRaise, sTry, sGone, dHot, dIsE, sPick, e_spx1, e_spx2, e_spx3]
      exact ⟨by omega, hA⟩
    · simp only [sSeq, sSet, sPar, sIf, sRet, sRetN, sDrop, sNext, sDead, sBrk, sCnt, sAsg, sFor, dNm, dTm, dC, dOp1, dOp2, dOpN, dMt, dMut, dCall, dLst, dTup, dNil, dCons, dVn, dVc, dSl, dSl3, dNoP, dPrt, dIf, dAndV, dOrV, dNotV, dBv, dTru, dNotT, dAndT, dOrT, dChn, dEqQ, dRpQ, qOp, qNil, qCons, qLs, qTp, dSrc, dRng1, dRng2, dZip2, dEnum, dComp, dYes, gNm, gTp, gCn, gNi, gIt, e_var, e_var1, e_var2, e_var3, e_var4, e_mov, e_mov1, e_mov2, e_mov3, e_mov4, e_tr1, e_tr2, e_tr3, e_tr4, e_tr5, e_own1, e_own2, e_reo1, e_reo2, e_of1, e_of2, e_pin1, e_pin2, e_pin3, e_arg1, e_arg2, e_arg3, e_arg4, e_isarg1, e_isarg2, e_conv1, e_conv2, e_conv3, e_conv4, e_conv5, e_conv6, e_sown1, e_sown2, e_sown3, e_sown4, e_put1, e_put2, e_po1, e_po2, e_p1, e_p2, e_ao1, e_ao2, e_nd0, e_nd1, e_nd2, e_sl, e_get1, e_get2, e_is, e_all, e_gets0, e_gets1, e_gets2, e_tms0, e_tms1, e_qg1, e_qg2, e_qg3, e_qgs0, e_qgs1, e_its1, e_its2, e_its3, e_its4, e_jts1, e_jts2, e_jts4, e_mt1, e_mt2, e_ty1, e_add1, e_add2, e_add3, e_sub, e_mul1, e_mul2, e_mul3, e_fdiv, e_mod, e_pow, e_neg, e_len1, e_len2, e_len3, e_len4, e_int1, e_int2, e_abs, e_max, e_min, e_ix1, e_ix2, e_ix3, e_ix4, e_eq1, e_eq2, e_eq3, e_lt1, e_le1, e_gt1, e_ge1, e_lt2, e_in1, e_app, e_ext, e_rev, e_clr, e_set, e_sl1, e_sl2, e_sl3, e_sl4, e_count, e_f1, e_f2, e_osh, e_owh, e_one, e_tt1, e_tt2, e_ctg1, e_ctg2, e_cn0, e_cn1, e_wi0, e_wi1, e_re0, e_re1, e_ifb1, e_ifb2, e_nm0, e_nm1, e_nm2, e_fa0, e_fa1, e_sum, e_allb, e_anyb, e_sp1, e_sp2, e_sp3, e_at0, e_at1, e_at2, e_at3, e_at4, e_at5, e_ixn40, e_ixn41, e_ixn42, e_ixn43, e_cp1, e_cp2, e_cp3, e_cp4, e_cp5, forall_eq, List.getD_cons_zero, List.getD_cons_succ, List.getD_nil, List.set_cons_zero, List.set_cons_succ, List.map_cons, List.map_nil, Option.map_some, Option.map_none, Option.bind_some, Option.bind_none, Option.getD_some, Option.some.injEq, exists_eq_left', exists_eq_left, exists_eq', exists_eq, decide_eq_true_eq, List.length_map, exists_eq_right, exists_and_left, exists_and_right, Option.isSome_some, T.int.injEq, T.str.injEq, T.lst.injEq, T.tup.injEq, T.bl.injEq, List.cons.injEq, Prod.mk.injEq, Hn.tm.injEq, true_and, and_true, and_assoc, and_self, ne_eq, not_false_eq_true, not_true_eq_false, ite_true, ite_false, if_true, if_false, reduceIte, reduceCtorEq, Bool.false_eq_true, false_and, and_false, imp_self, forall_const, implies_true, List.length_cons, List.length_nil, Nat.reduceAdd, Nat.reduceEqDiff, Bool.false_bne, Bool.true_bne, Bool.not_false, Bool.not_true, List.nil_append, List.cons_append, Int.reduceToNat, Int.reducePow, Int.reduceMul, Int.reduceSub, Int.reduceAdd, Int.reduceNeg, kt_NoneType_int, kt_NoneType_bool, kt_NoneType_str, kt_NoneType_list, kt_NoneType_tuple, kt_bool_int, kt_bool_bool, kt_bool_str, kt_bool_list, kt_bool_tuple, kt_int_int, kt_int_bool, kt_int_str, kt_int_list, kt_int_tuple, kt_str_int, kt_str_bool, kt_str_str, kt_str_list, kt_str_tuple, kt_list_int, kt_list_bool, kt_list_str, kt_list_list, kt_list_tuple, kt_tuple_int, kt_tuple_bool, kt_tuple_str, kt_tuple_list, kt_tuple_tuple, kt_dict_int, kt_dict_bool, kt_dict_str, kt_dict_list, kt_dict_tuple, e_ii_non, e_ii_bl, e_ii_int, e_ii_str, e_ii_lst, e_ii_scr, e_ii_tup, e_ii_dK, e_ii_dT, dShr, dNew, dNewL, dMeth, dProp, dCm, dFld, sFld, callK, lendK, noexP, Sl.io.injEq, Sl.sh.injEq, e_cnt, e_lkT, e_putT, e_isiC, e_isiC2, e_ii_ins, dCallL, e_argL, e_fl1, e_fl2, e_fl3, e_fl4, List.all_cons, List.all_nil, dDict, dDict0, e_keys0, e_keysS, e_keysI, e_cl_non, e_cl_bl, e_cl_int, e_cl_str, e_cl_lst, e_cl_scr, e_cl_tup, e_cl_dK, e_cl_dT, e_iq1, e_iq2, e_nn1, e_nn2, e_nn3, e_nn4, e_inp, e_ixd, Int.cast_ofNat_Int, Int.natCast_succ, decide_true, decide_false, Int.reduceEq, Int.reduceLT, Int.reduceLE, Int.reduceNe, Nat.reduceLT, Nat.reduceLeDiff, Bool.and_true, Bool.true_and, Bool.and_false, Bool.false_and, Bool.not_eq_true, Bool.or_true, Bool.or_false, Int.natCast_add, Int.natCast_one, Int.zero_add, Int.add_zero, sRaise, sTry, sGone, dHot, dIsE, sPick, e_spx1, e_spx2, e_spx3]
      refine comp_allT (fun v => .tup [.int a, v, .int p]) (fun v m A B hA => ?_) (by omega) ?_
      · simp only [sSeq, sSet, sPar, sIf, sRet, sRetN, sDrop, sNext, sDead, sBrk, sCnt, sAsg, sFor, dNm, dTm, dC, dOp1, dOp2, dOpN, dMt, dMut, dCall, dLst, dTup, dNil, dCons, dVn, dVc, dSl, dSl3, dNoP, dPrt, dIf, dAndV, dOrV, dNotV, dBv, dTru, dNotT, dAndT, dOrT, dChn, dEqQ, dRpQ, qOp, qNil, qCons, qLs, qTp, dSrc, dRng1, dRng2, dZip2, dEnum, dComp, dYes, gNm, gTp, gCn, gNi, gIt, e_var, e_var1, e_var2, e_var3, e_var4, e_mov, e_mov1, e_mov2, e_mov3, e_mov4, e_tr1, e_tr2, e_tr3, e_tr4, e_tr5, e_own1, e_own2, e_reo1, e_reo2, e_of1, e_of2, e_pin1, e_pin2, e_pin3, e_arg1, e_arg2, e_arg3, e_arg4, e_isarg1, e_isarg2, e_conv1, e_conv2, e_conv3, e_conv4, e_conv5, e_conv6, e_sown1, e_sown2, e_sown3, e_sown4, e_put1, e_put2, e_po1, e_po2, e_p1, e_p2, e_ao1, e_ao2, e_nd0, e_nd1, e_nd2, e_sl, e_get1, e_get2, e_is, e_all, e_gets0, e_gets1, e_gets2, e_tms0, e_tms1, e_qg1, e_qg2, e_qg3, e_qgs0, e_qgs1, e_its1, e_its2, e_its3, e_its4, e_jts1, e_jts2, e_jts4, e_mt1, e_mt2, e_ty1, e_add1, e_add2, e_add3, e_sub, e_mul1, e_mul2, e_mul3, e_fdiv, e_mod, e_pow, e_neg, e_len1, e_len2, e_len3, e_len4, e_int1, e_int2, e_abs, e_max, e_min, e_ix1, e_ix2, e_ix3, e_ix4, e_eq1, e_eq2, e_eq3, e_lt1, e_le1, e_gt1, e_ge1, e_lt2, e_in1, e_app, e_ext, e_rev, e_clr, e_set, e_sl1, e_sl2, e_sl3, e_sl4, e_count, e_f1, e_f2, e_osh, e_owh, e_one, e_tt1, e_tt2, e_ctg1, e_ctg2, e_cn0, e_cn1, e_wi0, e_wi1, e_re0, e_re1, e_ifb1, e_ifb2, e_nm0, e_nm1, e_nm2, e_fa0, e_fa1, e_sum, e_allb, e_anyb, e_sp1, e_sp2, e_sp3, e_at0, e_at1, e_at2, e_at3, e_at4, e_at5, e_ixn40, e_ixn41, e_ixn42, e_ixn43, e_cp1, e_cp2, e_cp3, e_cp4, e_cp5, forall_eq, List.getD_cons_zero, List.getD_cons_succ, List.getD_nil, List.set_cons_zero, List.set_cons_succ, List.map_cons, List.map_nil, Option.map_some, Option.map_none, Option.bind_some, Option.bind_none, Option.getD_some, Option.some.injEq, exists_eq_left', exists_eq_left, exists_eq', exists_eq, decide_eq_true_eq, List.length_map, exists_eq_right, exists_and_left, exists_and_right, Option.isSome_some, T.int.injEq, T.str.injEq, T.lst.injEq, T.tup.injEq, T.bl.injEq, List.cons.injEq, Prod.mk.injEq, Hn.tm.injEq, true_and, and_true, and_assoc, and_self, ne_eq, not_false_eq_true, not_true_eq_false, ite_true, ite_false, if_true, if_false, reduceIte, reduceCtorEq, Bool.false_eq_true, false_and, and_false, imp_self, forall_const, implies_true, List.length_cons, List.length_nil, Nat.reduceAdd, Nat.reduceEqDiff, Bool.false_bne, Bool.true_bne, Bool.not_false, Bool.not_true, List.nil_append, List.cons_append, Int.reduceToNat, Int.reducePow, Int.reduceMul, Int.reduceSub, Int.reduceAdd, Int.reduceNeg, kt_NoneType_int, kt_NoneType_bool, kt_NoneType_str, kt_NoneType_list, kt_NoneType_tuple, kt_bool_int, kt_bool_bool, kt_bool_str, kt_bool_list, kt_bool_tuple, kt_int_int, kt_int_bool, kt_int_str, kt_int_list, kt_int_tuple, kt_str_int, kt_str_bool, kt_str_str, kt_str_list, kt_str_tuple, kt_list_int, kt_list_bool, kt_list_str, kt_list_list, kt_list_tuple, kt_tuple_int, kt_tuple_bool, kt_tuple_str, kt_tuple_list, kt_tuple_tuple, kt_dict_int, kt_dict_bool, kt_dict_str, kt_dict_list, kt_dict_tuple, e_ii_non, e_ii_bl, e_ii_int, e_ii_str, e_ii_lst, e_ii_scr, e_ii_tup, e_ii_dK, e_ii_dT, dShr, dNew, dNewL, dMeth, dProp, dCm, dFld, sFld, callK, lendK, noexP, Sl.io.injEq, Sl.sh.injEq, e_cnt, e_lkT, e_putT, e_isiC, e_isiC2, e_ii_ins, dCallL, e_argL, e_fl1, e_fl2, e_fl3, e_fl4, List.all_cons, List.all_nil, dDict, dDict0, e_keys0, e_keysS, e_keysI, e_cl_non, e_cl_bl, e_cl_int, e_cl_str, e_cl_lst, e_cl_scr, e_cl_tup, e_cl_dK, e_cl_dT, e_iq1, e_iq2, e_nn1, e_nn2, e_nn3, e_nn4, e_inp, e_ixd, Int.cast_ofNat_Int, Int.natCast_succ, decide_true, decide_false, Int.reduceEq, Int.reduceLT, Int.reduceLE, Int.reduceNe, Nat.reduceLT, Nat.reduceLeDiff, Bool.and_true, Bool.true_and, Bool.and_false, Bool.false_and, Bool.not_eq_true, Bool.or_true, Bool.or_false, Int.natCast_add, Int.natCast_one, Int.zero_add, Int.add_zero, sRaise, sTry, sGone, dHot, dIsE, sPick, e_spx1, e_spx2, e_spx3]
        exact ⟨by omega, hA⟩
      · simp only [sSeq, sSet, sPar, sIf, sRet, sRetN, sDrop, sNext, sDead, sBrk, sCnt, sAsg, sFor, dNm, dTm, dC, dOp1, dOp2, dOpN, dMt, dMut, dCall, dLst, dTup, dNil, dCons, dVn, dVc, dSl, dSl3, dNoP, dPrt, dIf, dAndV, dOrV, dNotV, dBv, dTru, dNotT, dAndT, dOrT, dChn, dEqQ, dRpQ, qOp, qNil, qCons, qLs, qTp, dSrc, dRng1, dRng2, dZip2, dEnum, dComp, dYes, gNm, gTp, gCn, gNi, gIt, e_var, e_var1, e_var2, e_var3, e_var4, e_mov, e_mov1, e_mov2, e_mov3, e_mov4, e_tr1, e_tr2, e_tr3, e_tr4, e_tr5, e_own1, e_own2, e_reo1, e_reo2, e_of1, e_of2, e_pin1, e_pin2, e_pin3, e_arg1, e_arg2, e_arg3, e_arg4, e_isarg1, e_isarg2, e_conv1, e_conv2, e_conv3, e_conv4, e_conv5, e_conv6, e_sown1, e_sown2, e_sown3, e_sown4, e_put1, e_put2, e_po1, e_po2, e_p1, e_p2, e_ao1, e_ao2, e_nd0, e_nd1, e_nd2, e_sl, e_get1, e_get2, e_is, e_all, e_gets0, e_gets1, e_gets2, e_tms0, e_tms1, e_qg1, e_qg2, e_qg3, e_qgs0, e_qgs1, e_its1, e_its2, e_its3, e_its4, e_jts1, e_jts2, e_jts4, e_mt1, e_mt2, e_ty1, e_add1, e_add2, e_add3, e_sub, e_mul1, e_mul2, e_mul3, e_fdiv, e_mod, e_pow, e_neg, e_len1, e_len2, e_len3, e_len4, e_int1, e_int2, e_abs, e_max, e_min, e_ix1, e_ix2, e_ix3, e_ix4, e_eq1, e_eq2, e_eq3, e_lt1, e_le1, e_gt1, e_ge1, e_lt2, e_in1, e_app, e_ext, e_rev, e_clr, e_set, e_sl1, e_sl2, e_sl3, e_sl4, e_count, e_f1, e_f2, e_osh, e_owh, e_one, e_tt1, e_tt2, e_ctg1, e_ctg2, e_cn0, e_cn1, e_wi0, e_wi1, e_re0, e_re1, e_ifb1, e_ifb2, e_nm0, e_nm1, e_nm2, e_fa0, e_fa1, e_sum, e_allb, e_anyb, e_sp1, e_sp2, e_sp3, e_at0, e_at1, e_at2, e_at3, e_at4, e_at5, e_ixn40, e_ixn41, e_ixn42, e_ixn43, e_cp1, e_cp2, e_cp3, e_cp4, e_cp5, forall_eq, List.getD_cons_zero, List.getD_cons_succ, List.getD_nil, List.set_cons_zero, List.set_cons_succ, List.map_cons, List.map_nil, Option.map_some, Option.map_none, Option.bind_some, Option.bind_none, Option.getD_some, Option.some.injEq, exists_eq_left', exists_eq_left, exists_eq', exists_eq, decide_eq_true_eq, List.length_map, exists_eq_right, exists_and_left, exists_and_right, Option.isSome_some, T.int.injEq, T.str.injEq, T.lst.injEq, T.tup.injEq, T.bl.injEq, List.cons.injEq, Prod.mk.injEq, Hn.tm.injEq, true_and, and_true, and_assoc, and_self, ne_eq, not_false_eq_true, not_true_eq_false, ite_true, ite_false, if_true, if_false, reduceIte, reduceCtorEq, Bool.false_eq_true, false_and, and_false, imp_self, forall_const, implies_true, List.length_cons, List.length_nil, Nat.reduceAdd, Nat.reduceEqDiff, Bool.false_bne, Bool.true_bne, Bool.not_false, Bool.not_true, List.nil_append, List.cons_append, Int.reduceToNat, Int.reducePow, Int.reduceMul, Int.reduceSub, Int.reduceAdd, Int.reduceNeg, kt_NoneType_int, kt_NoneType_bool, kt_NoneType_str, kt_NoneType_list, kt_NoneType_tuple, kt_bool_int, kt_bool_bool, kt_bool_str, kt_bool_list, kt_bool_tuple, kt_int_int, kt_int_bool, kt_int_str, kt_int_list, kt_int_tuple, kt_str_int, kt_str_bool, kt_str_str, kt_str_list, kt_str_tuple, kt_list_int, kt_list_bool, kt_list_str, kt_list_list, kt_list_tuple, kt_tuple_int, kt_tuple_bool, kt_tuple_str, kt_tuple_list, kt_tuple_tuple, kt_dict_int, kt_dict_bool, kt_dict_str, kt_dict_list, kt_dict_tuple, e_ii_non, e_ii_bl, e_ii_int, e_ii_str, e_ii_lst, e_ii_scr, e_ii_tup, e_ii_dK, e_ii_dT, dShr, dNew, dNewL, dMeth, dProp, dCm, dFld, sFld, callK, lendK, noexP, Sl.io.injEq, Sl.sh.injEq, e_cnt, e_lkT, e_putT, e_isiC, e_isiC2, e_ii_ins, dCallL, e_argL, e_fl1, e_fl2, e_fl3, e_fl4, List.all_cons, List.all_nil, dDict, dDict0, e_keys0, e_keysS, e_keysI, e_cl_non, e_cl_bl, e_cl_int, e_cl_str, e_cl_lst, e_cl_scr, e_cl_tup, e_cl_dK, e_cl_dT, e_iq1, e_iq2, e_nn1, e_nn2, e_nn3, e_nn4, e_inp, e_ixd, Int.cast_ofNat_Int, Int.natCast_succ, decide_true, decide_false, Int.reduceEq, Int.reduceLT, Int.reduceLE, Int.reduceNe, Nat.reduceLT, Nat.reduceLeDiff, Bool.and_true, Bool.true_and, Bool.and_false, Bool.false_and, Bool.not_eq_true, Bool.or_true, Bool.or_false, Int.natCast_add, Int.natCast_one, Int.zero_add, Int.add_zero, sRaise, sTry, sGone, dHot, dIsE, sPick, e_spx1, e_spx2, e_spx3]
        refine ⟨by omega, hK _ ⟨_, rfl, by rw [List.length_append, List.length_map, List.length_map]; omega, bd _ _ (fun v m => .mk sa (ok v m).sm sp (cnt3_bad (.inr (.inl (ok v m).no))) na (ok v m).nt np) ?_⟩⟩
        have := bd (fun v => .tup [v, .int b, .int p]) [] (fun v m => .mk (ok v m).sm sb sp (cnt3_bad (.inl (ok v m).no)) (ok v m).nt nb np) (fun _ m => by cases m)
        exact this
  subst e
  refine seq_inv (fun ρ' => ∃ bad, ρ' = [.io t, .sh (tri a b p), .sh (.int a), .sh (.int b), .sh (.int p), .sh (.lst od), .ow (.lst bad), .no, .no, .no, .no] ∧ bad.length = 48 ∧ ∀ t ∈ bad, BadT t) (fun K hK => ?_) (fun ρ' ⟨bad, e, bl, hb⟩ => ?_)
  · simp only [sSeq, sSet, sPar, sIf, sRet, sRetN, sDrop, sNext, sDead, sBrk, sCnt, sAsg, sFor, dNm, dTm, dC, dOp1, dOp2, dOpN, dMt, dMut, dCall, dLst, dTup, dNil, dCons, dVn, dVc, dSl, dSl3, dNoP, dPrt, dIf, dAndV, dOrV, dNotV, dBv, dTru, dNotT, dAndT, dOrT, dChn, dEqQ, dRpQ, qOp, qNil, qCons, qLs, qTp, dSrc, dRng1, dRng2, dZip2, dEnum, dComp, dYes, gNm, gTp, gCn, gNi, gIt, e_var, e_var1, e_var2, e_var3, e_var4, e_mov, e_mov1, e_mov2, e_mov3, e_mov4, e_tr1, e_tr2, e_tr3, e_tr4, e_tr5, e_own1, e_own2, e_reo1, e_reo2, e_of1, e_of2, e_pin1, e_pin2, e_pin3, e_arg1, e_arg2, e_arg3, e_arg4, e_isarg1, e_isarg2, e_conv1, e_conv2, e_conv3, e_conv4, e_conv5, e_conv6, e_sown1, e_sown2, e_sown3, e_sown4, e_put1, e_put2, e_po1, e_po2, e_p1, e_p2, e_ao1, e_ao2, e_nd0, e_nd1, e_nd2, e_sl, e_get1, e_get2, e_is, e_all, e_gets0, e_gets1, e_gets2, e_tms0, e_tms1, e_qg1, e_qg2, e_qg3, e_qgs0, e_qgs1, e_its1, e_its2, e_its3, e_its4, e_jts1, e_jts2, e_jts4, e_mt1, e_mt2, e_ty1, e_add1, e_add2, e_add3, e_sub, e_mul1, e_mul2, e_mul3, e_fdiv, e_mod, e_pow, e_neg, e_len1, e_len2, e_len3, e_len4, e_int1, e_int2, e_abs, e_max, e_min, e_ix1, e_ix2, e_ix3, e_ix4, e_eq1, e_eq2, e_eq3, e_lt1, e_le1, e_gt1, e_ge1, e_lt2, e_in1, e_app, e_ext, e_rev, e_clr, e_set, e_sl1, e_sl2, e_sl3, e_sl4, e_count, e_f1, e_f2, e_osh, e_owh, e_one, e_tt1, e_tt2, e_ctg1, e_ctg2, e_cn0, e_cn1, e_wi0, e_wi1, e_re0, e_re1, e_ifb1, e_ifb2, e_nm0, e_nm1, e_nm2, e_fa0, e_fa1, e_sum, e_allb, e_anyb, e_sp1, e_sp2, e_sp3, e_at0, e_at1, e_at2, e_at3, e_at4, e_at5, e_ixn40, e_ixn41, e_ixn42, e_ixn43, e_cp1, e_cp2, e_cp3, e_cp4, e_cp5, forall_eq, List.getD_cons_zero, List.getD_cons_succ, List.getD_nil, List.set_cons_zero, List.set_cons_succ, List.map_cons, List.map_nil, Option.map_some, Option.map_none, Option.bind_some, Option.bind_none, Option.getD_some, Option.some.injEq, exists_eq_left', exists_eq_left, exists_eq', exists_eq, decide_eq_true_eq, List.length_map, exists_eq_right, exists_and_left, exists_and_right, Option.isSome_some, T.int.injEq, T.str.injEq, T.lst.injEq, T.tup.injEq, T.bl.injEq, List.cons.injEq, Prod.mk.injEq, Hn.tm.injEq, true_and, and_true, and_assoc, and_self, ne_eq, not_false_eq_true, not_true_eq_false, ite_true, ite_false, if_true, if_false, reduceIte, reduceCtorEq, Bool.false_eq_true, false_and, and_false, imp_self, forall_const, implies_true, List.length_cons, List.length_nil, Nat.reduceAdd, Nat.reduceEqDiff, Bool.false_bne, Bool.true_bne, Bool.not_false, Bool.not_true, List.nil_append, List.cons_append, Int.reduceToNat, Int.reducePow, Int.reduceMul, Int.reduceSub, Int.reduceAdd, Int.reduceNeg, kt_NoneType_int, kt_NoneType_bool, kt_NoneType_str, kt_NoneType_list, kt_NoneType_tuple, kt_bool_int, kt_bool_bool, kt_bool_str, kt_bool_list, kt_bool_tuple, kt_int_int, kt_int_bool, kt_int_str, kt_int_list, kt_int_tuple, kt_str_int, kt_str_bool, kt_str_str, kt_str_list, kt_str_tuple, kt_list_int, kt_list_bool, kt_list_str, kt_list_list, kt_list_tuple, kt_tuple_int, kt_tuple_bool, kt_tuple_str, kt_tuple_list, kt_tuple_tuple, kt_dict_int, kt_dict_bool, kt_dict_str, kt_dict_list, kt_dict_tuple, e_ii_non, e_ii_bl, e_ii_int, e_ii_str, e_ii_lst, e_ii_scr, e_ii_tup, e_ii_dK, e_ii_dT, dShr, dNew, dNewL, dMeth, dProp, dCm, dFld, sFld, callK, lendK, noexP, Sl.io.injEq, Sl.sh.injEq, e_cnt, e_lkT, e_putT, e_isiC, e_isiC2, e_ii_ins, dCallL, e_argL, e_fl1, e_fl2, e_fl3, e_fl4, List.all_cons, List.all_nil, dDict, dDict0, e_keys0, e_keysS, e_keysI, e_cl_non, e_cl_bl, e_cl_int, e_cl_str, e_cl_lst, e_cl_scr, e_cl_tup, e_cl_dK, e_cl_dT, e_iq1, e_iq2, e_nn1, e_nn2, e_nn3, e_nn4, e_inp, e_ixd, Int.cast_ofNat_Int, Int.natCast_succ, decide_true, decide_false, Int.reduceEq, Int.reduceLT, Int.reduceLE, Int.reduceNe, Nat.reduceLT, Nat.reduceLeDiff, Bool.and_true, Bool.true_and, Bool.and_false, Bool.false_and, Bool.not_eq_true, Bool.or_true, Bool.or_false, Int.natCast_add, Int.natCast_one, Int.zero_add, Int.add_zero, sRaise, sTry, sGone, dHot, dIsE, sPick, e_spx1, e_spx2, e_spx3]
    refine comp_allT (fun v => .tup [.int a, .int b, v]) (fun v m A B hA => ?_) (by omega) ?_
    · simp only [sSeq, sSet, sPar, sIf, sRet, sRetN, sDrop, sNext, sDead, sBrk, sCnt, sAsg, sFor, dNm, dTm, dC, dOp1, dOp2, dOpN, dMt, dMut, dCall, dLst, dTup, dNil, dCons, dVn, dVc, dSl, dSl3, dNoP, dPrt, dIf, dAndV, dOrV, dNotV, dBv, dTru, dNotT, dAndT, dOrT, dChn, dEqQ, dRpQ, qOp, qNil, qCons, qLs, qTp, dSrc, dRng1, dRng2, dZip2, dEnum, dComp, dYes, gNm, gTp, gCn, gNi, gIt, e_var, e_var1, e_var2, e_var3, e_var4, e_mov, e_mov1, e_mov2, e_mov3, e_mov4, e_tr1, e_tr2, e_tr3, e_tr4, e_tr5, e_own1, e_own2, e_reo1, e_reo2, e_of1, e_of2, e_pin1, e_pin2, e_pin3, e_arg1, e_arg2, e_arg3, e_arg4, e_isarg1, e_isarg2, e_conv1, e_conv2, e_conv3, e_conv4, e_conv5, e_conv6, e_sown1, e_sown2, e_sown3, e_sown4, e_put1, e_put2, e_po1, e_po2, e_p1, e_p2, e_ao1, e_ao2, e_nd0, e_nd1, e_nd2, e_sl, e_get1, e_get2, e_is, e_all, e_gets0, e_gets1, e_gets2, e_tms0, e_tms1, e_qg1, e_qg2, e_qg3, e_qgs0, e_qgs1, e_its1, e_its2, e_its3, e_its4, e_jts1, e_jts2, e_jts4, e_mt1, e_mt2, e_ty1, e_add1, e_add2, e_add3, e_sub, e_mul1, e_mul2, e_mul3, e_fdiv, e_mod, e_pow, e_neg, e_len1, e_len2, e_len3, e_len4, e_int1, e_int2, e_abs, e_max, e_min, e_ix1, e_ix2, e_ix3, e_ix4, e_eq1, e_eq2, e_eq3, e_lt1, e_le1, e_gt1, e_ge1, e_lt2, e_in1, e_app, e_ext, e_rev, e_clr, e_set, e_sl1, e_sl2, e_sl3, e_sl4, e_count, e_f1, e_f2, e_osh, e_owh, e_one, e_tt1, e_tt2, e_ctg1, e_ctg2, e_cn0, e_cn1, e_wi0, e_wi1, e_re0, e_re1, e_ifb1, e_ifb2, e_nm0, e_nm1, e_nm2, e_fa0, e_fa1, e_sum, e_allb, e_anyb, e_sp1, e_sp2, e_sp3, e_at0, e_at1, e_at2, e_at3, e_at4, e_at5, e_ixn40, e_ixn41, e_ixn42, e_ixn43, e_cp1, e_cp2, e_cp3, e_cp4, e_cp5, forall_eq, List.getD_cons_zero, List.getD_cons_succ, List.getD_nil, List.set_cons_zero, List.set_cons_succ, List.map_cons, List.map_nil, Option.map_some, Option.map_none, Option.bind_some, Option.bind_none, Option.getD_some, Option.some.injEq, exists_eq_left', exists_eq_left, exists_eq', exists_eq, decide_eq_true_eq, List.length_map, exists_eq_right, exists_and_left, exists_and_right, Option.isSome_some, T.int.injEq, T.str.injEq, T.lst.injEq, T.tup.injEq, T.bl.injEq, List.cons.injEq, Prod.mk.injEq, Hn.tm.injEq, true_and, and_true, and_assoc, and_self, ne_eq, not_false_eq_true, not_true_eq_false, ite_true, ite_false, if_true, if_false, reduceIte, reduceCtorEq, Bool.false_eq_true, false_and, and_false, imp_self, forall_const, implies_true, List.length_cons, List.length_nil, Nat.reduceAdd, Nat.reduceEqDiff, Bool.false_bne, Bool.true_bne, Bool.not_false, Bool.not_true, List.nil_append, List.cons_append, Int.reduceToNat, Int.reducePow, Int.reduceMul, Int.reduceSub, Int.reduceAdd, Int.reduceNeg, kt_NoneType_int, kt_NoneType_bool, kt_NoneType_str, kt_NoneType_list, kt_NoneType_tuple, kt_bool_int, kt_bool_bool, kt_bool_str, kt_bool_list, kt_bool_tuple, kt_int_int, kt_int_bool, kt_int_str, kt_int_list, kt_int_tuple, kt_str_int, kt_str_bool, kt_str_str, kt_str_list, kt_str_tuple, kt_list_int, kt_list_bool, kt_list_str, kt_list_list, kt_list_tuple, kt_tuple_int, kt_tuple_bool, kt_tuple_str, kt_tuple_list, kt_tuple_tuple, kt_dict_int, kt_dict_bool, kt_dict_str, kt_dict_list, kt_dict_tuple, e_ii_non, e_ii_bl, e_ii_int, e_ii_str, e_ii_lst, e_ii_scr, e_ii_tup, e_ii_dK, e_ii_dT, dShr, dNew, dNewL, dMeth, dProp, dCm, dFld, sFld, callK, lendK, noexP, Sl.io.injEq, Sl.sh.injEq, e_cnt, e_lkT, e_putT, e_isiC, e_isiC2, e_ii_ins, dCallL, e_argL, e_fl1, e_fl2, e_fl3, e_fl4, List.all_cons, List.all_nil, dDict, dDict0, e_keys0, e_keysS, e_keysI, e_cl_non, e_cl_bl, e_cl_int, e_cl_str, e_cl_lst, e_cl_scr, e_cl_tup, e_cl_dK, e_cl_dT, e_iq1, e_iq2, e_nn1, e_nn2, e_nn3, e_nn4, e_inp, e_ixd, Int.cast_ofNat_Int, Int.natCast_succ, decide_true, decide_false, Int.reduceEq, Int.reduceLT, Int.reduceLE, Int.reduceNe, Nat.reduceLT, Nat.reduceLeDiff, Bool.and_true, Bool.true_and, Bool.and_false, Bool.false_and, Bool.not_eq_true, Bool.or_true, Bool.or_false, Int.natCast_add, Int.natCast_one, Int.zero_add, Int.add_zero, sRaise, sTry, sGone, dHot, dIsE, sPick, e_spx1, e_spx2, e_spx3]
      exact ⟨by omega, hA⟩
    · simp only [sSeq, sSet, sPar, sIf, sRet, sRetN, sDrop, sNext, sDead, sBrk, sCnt, sAsg, sFor, dNm, dTm, dC, dOp1, dOp2, dOpN, dMt, dMut, dCall, dLst, dTup, dNil, dCons, dVn, dVc, dSl, dSl3, dNoP, dPrt, dIf, dAndV, dOrV, dNotV, dBv, dTru, dNotT, dAndT, dOrT, dChn, dEqQ, dRpQ, qOp, qNil, qCons, qLs, qTp, dSrc, dRng1, dRng2, dZip2, dEnum, dComp, dYes, gNm, gTp, gCn, gNi, gIt, e_var, e_var1, e_var2, e_var3, e_var4, e_mov, e_mov1, e_mov2, e_mov3, e_mov4, e_tr1, e_tr2, e_tr3, e_tr4, e_tr5, e_own1, e_own2, e_reo1, e_reo2, e_of1, e_of2, e_pin1, e_pin2, e_pin3, e_arg1, e_arg2, e_arg3, e_arg4, e_isarg1, e_isarg2, e_conv1, e_conv2, e_conv3, e_conv4, e_conv5, e_conv6, e_sown1, e_sown2, e_sown3, e_sown4, e_put1, e_put2, e_po1, e_po2, e_p1, e_p2, e_ao1, e_ao2, e_nd0, e_nd1, e_nd2, e_sl, e_get1, e_get2, e_is, e_all, e_gets0, e_gets1, e_gets2, e_tms0, e_tms1, e_qg1, e_qg2, e_qg3, e_qgs0, e_qgs1, e_its1, e_its2, e_its3, e_its4, e_jts1, e_jts2, e_jts4, e_mt1, e_mt2, e_ty1, e_add1, e_add2, e_add3, e_sub, e_mul1, e_mul2, e_mul3, e_fdiv, e_mod, e_pow, e_neg, e_len1, e_len2, e_len3, e_len4, e_int1, e_int2, e_abs, e_max, e_min, e_ix1, e_ix2, e_ix3, e_ix4, e_eq1, e_eq2, e_eq3, e_lt1, e_le1, e_gt1, e_ge1, e_lt2, e_in1, e_app, e_ext, e_rev, e_clr, e_set, e_sl1, e_sl2, e_sl3, e_sl4, e_count, e_f1, e_f2, e_osh, e_owh, e_one, e_tt1, e_tt2, e_ctg1, e_ctg2, e_cn0, e_cn1, e_wi0, e_wi1, e_re0, e_re1, e_ifb1, e_ifb2, e_nm0, e_nm1, e_nm2, e_fa0, e_fa1, e_sum, e_allb, e_anyb, e_sp1, e_sp2, e_sp3, e_at0, e_at1, e_at2, e_at3, e_at4, e_at5, e_ixn40, e_ixn41, e_ixn42, e_ixn43, e_cp1, e_cp2, e_cp3, e_cp4, e_cp5, forall_eq, List.getD_cons_zero, List.getD_cons_succ, List.getD_nil, List.set_cons_zero, List.set_cons_succ, List.map_cons, List.map_nil, Option.map_some, Option.map_none, Option.bind_some, Option.bind_none, Option.getD_some, Option.some.injEq, exists_eq_left', exists_eq_left, exists_eq', exists_eq, decide_eq_true_eq, List.length_map, exists_eq_right, exists_and_left, exists_and_right, Option.isSome_some, T.int.injEq, T.str.injEq, T.lst.injEq, T.tup.injEq, T.bl.injEq, List.cons.injEq, Prod.mk.injEq, Hn.tm.injEq, true_and, and_true, and_assoc, and_self, ne_eq, not_false_eq_true, not_true_eq_false, ite_true, ite_false, if_true, if_false, reduceIte, reduceCtorEq, Bool.false_eq_true, false_and, and_false, imp_self, forall_const, implies_true, List.length_cons, List.length_nil, Nat.reduceAdd, Nat.reduceEqDiff, Bool.false_bne, Bool.true_bne, Bool.not_false, Bool.not_true, List.nil_append, List.cons_append, Int.reduceToNat, Int.reducePow, Int.reduceMul, Int.reduceSub, Int.reduceAdd, Int.reduceNeg, kt_NoneType_int, kt_NoneType_bool, kt_NoneType_str, kt_NoneType_list, kt_NoneType_tuple, kt_bool_int, kt_bool_bool, kt_bool_str, kt_bool_list, kt_bool_tuple, kt_int_int, kt_int_bool, kt_int_str, kt_int_list, kt_int_tuple, kt_str_int, kt_str_bool, kt_str_str, kt_str_list, kt_str_tuple, kt_list_int, kt_list_bool, kt_list_str, kt_list_list, kt_list_tuple, kt_tuple_int, kt_tuple_bool, kt_tuple_str, kt_tuple_list, kt_tuple_tuple, kt_dict_int, kt_dict_bool, kt_dict_str, kt_dict_list, kt_dict_tuple, e_ii_non, e_ii_bl, e_ii_int, e_ii_str, e_ii_lst, e_ii_scr, e_ii_tup, e_ii_dK, e_ii_dT, dShr, dNew, dNewL, dMeth, dProp, dCm, dFld, sFld, callK, lendK, noexP, Sl.io.injEq, Sl.sh.injEq, e_cnt, e_lkT, e_putT, e_isiC, e_isiC2, e_ii_ins, dCallL, e_argL, e_fl1, e_fl2, e_fl3, e_fl4, List.all_cons, List.all_nil, dDict, dDict0, e_keys0, e_keysS, e_keysI, e_cl_non, e_cl_bl, e_cl_int, e_cl_str, e_cl_lst, e_cl_scr, e_cl_tup, e_cl_dK, e_cl_dT, e_iq1, e_iq2, e_nn1, e_nn2, e_nn3, e_nn4, e_inp, e_ixd, Int.cast_ofNat_Int, Int.natCast_succ, decide_true, decide_false, Int.reduceEq, Int.reduceLT, Int.reduceLE, Int.reduceNe, Nat.reduceLT, Nat.reduceLeDiff, Bool.and_true, Bool.true_and, Bool.and_false, Bool.false_and, Bool.not_eq_true, Bool.or_true, Bool.or_false, Int.natCast_add, Int.natCast_one, Int.zero_add, Int.add_zero, sRaise, sTry, sGone, dHot, dIsE, sPick, e_spx1, e_spx2, e_spx3]
      refine ⟨by omega, ?_⟩
      refine comp_allT (fun v => .tup [v, v, v]) (fun v m A B hA => ?_) (by omega) ?_
      · simp only [sSeq, sSet, sPar, sIf, sRet, sRetN, sDrop, sNext, sDead, sBrk, sCnt, sAsg, sFor, dNm, dTm, dC, dOp1, dOp2, dOpN, dMt, dMut, dCall, dLst, dTup, dNil, dCons, dVn, dVc, dSl, dSl3, dNoP, dPrt, dIf, dAndV, dOrV, dNotV, dBv, dTru, dNotT, dAndT, dOrT, dChn, dEqQ, dRpQ, qOp, qNil, qCons, qLs, qTp, dSrc, dRng1, dRng2, dZip2, dEnum, dComp, dYes, gNm, gTp, gCn, gNi, gIt, e_var, e_var1, e_var2, e_var3, e_var4, e_mov, e_mov1, e_mov2, e_mov3, e_mov4, e_tr1, e_tr2, e_tr3, e_tr4, e_tr5, e_own1, e_own2, e_reo1, e_reo2, e_of1, e_of2, e_pin1, e_pin2, e_pin3, e_arg1, e_arg2, e_arg3, e_arg4, e_isarg1, e_isarg2, e_conv1, e_conv2, e_conv3, e_conv4, e_conv5, e_conv6, e_sown1, e_sown2, e_sown3, e_sown4, e_put1, e_put2, e_po1, e_po2, e_p1, e_p2, e_ao1, e_ao2, e_nd0, e_nd1, e_nd2, e_sl, e_get1, e_get2, e_is, e_all, e_gets0, e_gets1, e_gets2, e_tms0, e_tms1, e_qg1, e_qg2, e_qg3, e_qgs0, e_qgs1, e_its1, e_its2, e_its3, e_its4, e_jts1, e_jts2, e_jts4, e_mt1, e_mt2, e_ty1, e_add1, e_add2, e_add3, e_sub, e_mul1, e_mul2, e_mul3, e_fdiv, e_mod, e_pow, e_neg, e_len1, e_len2, e_len3, e_len4, e_int1, e_int2, e_abs, e_max, e_min, e_ix1, e_ix2, e_ix3, e_ix4, e_eq1, e_eq2, e_eq3, e_lt1, e_le1, e_gt1, e_ge1, e_lt2, e_in1, e_app, e_ext, e_rev, e_clr, e_set, e_sl1, e_sl2, e_sl3, e_sl4, e_count, e_f1, e_f2, e_osh, e_owh, e_one, e_tt1, e_tt2, e_ctg1, e_ctg2, e_cn0, e_cn1, e_wi0, e_wi1, e_re0, e_re1, e_ifb1, e_ifb2, e_nm0, e_nm1, e_nm2, e_fa0, e_fa1, e_sum, e_allb, e_anyb, e_sp1, e_sp2, e_sp3, e_at0, e_at1, e_at2, e_at3, e_at4, e_at5, e_ixn40, e_ixn41, e_ixn42, e_ixn43, e_cp1, e_cp2, e_cp3, e_cp4, e_cp5, forall_eq, List.getD_cons_zero, List.getD_cons_succ, List.getD_nil, List.set_cons_zero, List.set_cons_succ, List.map_cons, List.map_nil, Option.map_some, Option.map_none, Option.bind_some, Option.bind_none, Option.getD_some, Option.some.injEq, exists_eq_left', exists_eq_left, exists_eq', exists_eq, decide_eq_true_eq, List.length_map, exists_eq_right, exists_and_left, exists_and_right, Option.isSome_some, T.int.injEq, T.str.injEq, T.lst.injEq, T.tup.injEq, T.bl.injEq, List.cons.injEq, Prod.mk.injEq, Hn.tm.injEq, true_and, and_true, and_assoc, and_self, ne_eq, not_false_eq_true, not_true_eq_false, ite_true, ite_false, if_true, if_false, reduceIte, reduceCtorEq, Bool.false_eq_true, false_and, and_false, imp_self, forall_const, implies_true, List.length_cons, List.length_nil, Nat.reduceAdd, Nat.reduceEqDiff, Bool.false_bne, Bool.true_bne, Bool.not_false, Bool.not_true, List.nil_append, List.cons_append, Int.reduceToNat, Int.reducePow, Int.reduceMul, Int.reduceSub, Int.reduceAdd, Int.reduceNeg, kt_NoneType_int, kt_NoneType_bool, kt_NoneType_str, kt_NoneType_list, kt_NoneType_tuple, kt_bool_int, kt_bool_bool, kt_bool_str, kt_bool_list, kt_bool_tuple, kt_int_int, kt_int_bool, kt_int_str, kt_int_list, kt_int_tuple, kt_str_int, kt_str_bool, kt_str_str, kt_str_list, kt_str_tuple, kt_list_int, kt_list_bool, kt_list_str, kt_list_list, kt_list_tuple, kt_tuple_int, kt_tuple_bool, kt_tuple_str, kt_tuple_list, kt_tuple_tuple, kt_dict_int, kt_dict_bool, kt_dict_str, kt_dict_list, kt_dict_tuple, e_ii_non, e_ii_bl, e_ii_int, e_ii_str, e_ii_lst, e_ii_scr, e_ii_tup, e_ii_dK, e_ii_dT, dShr, dNew, dNewL, dMeth, dProp, dCm, dFld, sFld, callK, lendK, noexP, Sl.io.injEq, Sl.sh.injEq, e_cnt, e_lkT, e_putT, e_isiC, e_isiC2, e_ii_ins, dCallL, e_argL, e_fl1, e_fl2, e_fl3, e_fl4, List.all_cons, List.all_nil, dDict, dDict0, e_keys0, e_keysS, e_keysI, e_cl_non, e_cl_bl, e_cl_int, e_cl_str, e_cl_lst, e_cl_scr, e_cl_tup, e_cl_dK, e_cl_dT, e_iq1, e_iq2, e_nn1, e_nn2, e_nn3, e_nn4, e_inp, e_ixd, Int.cast_ofNat_Int, Int.natCast_succ, decide_true, decide_false, Int.reduceEq, Int.reduceLT, Int.reduceLE, Int.reduceNe, Nat.reduceLT, Nat.reduceLeDiff, Bool.and_true, Bool.true_and, Bool.and_false, Bool.false_and, Bool.not_eq_true, Bool.or_true, Bool.or_false, Int.natCast_add, Int.natCast_one, Int.zero_add, Int.add_zero, sRaise, sTry, sGone, dHot, dIsE, sPick, e_spx1, e_spx2, e_spx3]
        exact ⟨by omega, hA⟩
      · simp only [sSeq, sSet, sPar, sIf, sRet, sRetN, sDrop, sNext, sDead, sBrk, sCnt, sAsg, sFor, dNm, dTm, dC, dOp1, dOp2, dOpN, dMt, dMut, dCall, dLst, dTup, dNil, dCons, dVn, dVc, dSl, dSl3, dNoP, dPrt, dIf, dAndV, dOrV, dNotV, dBv, dTru, dNotT, dAndT, dOrT, dChn, dEqQ, dRpQ, qOp, qNil, qCons, qLs, qTp, dSrc, dRng1, dRng2, dZip2, dEnum, dComp, dYes, gNm, gTp, gCn, gNi, gIt, e_var, e_var1, e_var2, e_var3, e_var4, e_mov, e_mov1, e_mov2, e_mov3, e_mov4, e_tr1, e_tr2, e_tr3, e_tr4, e_tr5, e_own1, e_own2, e_reo1, e_reo2, e_of1, e_of2, e_pin1, e_pin2, e_pin3, e_arg1, e_arg2, e_arg3, e_arg4, e_isarg1, e_isarg2, e_conv1, e_conv2, e_conv3, e_conv4, e_conv5, e_conv6, e_sown1, e_sown2, e_sown3, e_sown4, e_put1, e_put2, e_po1, e_po2, e_p1, e_p2, e_ao1, e_ao2, e_nd0, e_nd1, e_nd2, e_sl, e_get1, e_get2, e_is, e_all, e_gets0, e_gets1, e_gets2, e_tms0, e_tms1, e_qg1, e_qg2, e_qg3, e_qgs0, e_qgs1, e_its1, e_its2, e_its3, e_its4, e_jts1, e_jts2, e_jts4, e_mt1, e_mt2, e_ty1, e_add1, e_add2, e_add3, e_sub, e_mul1, e_mul2, e_mul3, e_fdiv, e_mod, e_pow, e_neg, e_len1, e_len2, e_len3, e_len4, e_int1, e_int2, e_abs, e_max, e_min, e_ix1, e_ix2, e_ix3, e_ix4, e_eq1, e_eq2, e_eq3, e_lt1, e_le1, e_gt1, e_ge1, e_lt2, e_in1, e_app, e_ext, e_rev, e_clr, e_set, e_sl1, e_sl2, e_sl3, e_sl4, e_count, e_f1, e_f2, e_osh, e_owh, e_one, e_tt1, e_tt2, e_ctg1, e_ctg2, e_cn0, e_cn1, e_wi0, e_wi1, e_re0, e_re1, e_ifb1, e_ifb2, e_nm0, e_nm1, e_nm2, e_fa0, e_fa1, e_sum, e_allb, e_anyb, e_sp1, e_sp2, e_sp3, e_at0, e_at1, e_at2, e_at3, e_at4, e_at5, e_ixn40, e_ixn41, e_ixn42, e_ixn43, e_cp1, e_cp2, e_cp3, e_cp4, e_cp5, forall_eq, List.getD_cons_zero, List.getD_cons_succ, List.getD_nil, List.set_cons_zero, List.set_cons_succ, List.map_cons, List.map_nil, Option.map_some, Option.map_none, Option.bind_some, Option.bind_none, Option.getD_some, Option.some.injEq, exists_eq_left', exists_eq_left, exists_eq', exists_eq, decide_eq_true_eq, List.length_map, exists_eq_right, exists_and_left, exists_and_right, Option.isSome_some, T.int.injEq, T.str.injEq, T.lst.injEq, T.tup.injEq, T.bl.injEq, List.cons.injEq, Prod.mk.injEq, Hn.tm.injEq, true_and, and_true, and_assoc, and_self, ne_eq, not_false_eq_true, not_true_eq_false, ite_true, ite_false, if_true, if_false, reduceIte, reduceCtorEq, Bool.false_eq_true, false_and, and_false, imp_self, forall_const, implies_true, List.length_cons, List.length_nil, Nat.reduceAdd, Nat.reduceEqDiff, Bool.false_bne, Bool.true_bne, Bool.not_false, Bool.not_true, List.nil_append, List.cons_append, Int.reduceToNat, Int.reducePow, Int.reduceMul, Int.reduceSub, Int.reduceAdd, Int.reduceNeg, kt_NoneType_int, kt_NoneType_bool, kt_NoneType_str, kt_NoneType_list, kt_NoneType_tuple, kt_bool_int, kt_bool_bool, kt_bool_str, kt_bool_list, kt_bool_tuple, kt_int_int, kt_int_bool, kt_int_str, kt_int_list, kt_int_tuple, kt_str_int, kt_str_bool, kt_str_str, kt_str_list, kt_str_tuple, kt_list_int, kt_list_bool, kt_list_str, kt_list_list, kt_list_tuple, kt_tuple_int, kt_tuple_bool, kt_tuple_str, kt_tuple_list, kt_tuple_tuple, kt_dict_int, kt_dict_bool, kt_dict_str, kt_dict_list, kt_dict_tuple, e_ii_non, e_ii_bl, e_ii_int, e_ii_str, e_ii_lst, e_ii_scr, e_ii_tup, e_ii_dK, e_ii_dT, dShr, dNew, dNewL, dMeth, dProp, dCm, dFld, sFld, callK, lendK, noexP, Sl.io.injEq, Sl.sh.injEq, e_cnt, e_lkT, e_putT, e_isiC, e_isiC2, e_ii_ins, dCallL, e_argL, e_fl1, e_fl2, e_fl3, e_fl4, List.all_cons, List.all_nil, dDict, dDict0, e_keys0, e_keysS, e_keysI, e_cl_non, e_cl_bl, e_cl_int, e_cl_str, e_cl_lst, e_cl_scr, e_cl_tup, e_cl_dK, e_cl_dT, e_iq1, e_iq2, e_nn1, e_nn2, e_nn3, e_nn4, e_inp, e_ixd, Int.cast_ofNat_Int, Int.natCast_succ, decide_true, decide_false, Int.reduceEq, Int.reduceLT, Int.reduceLE, Int.reduceNe, Nat.reduceLT, Nat.reduceLeDiff, Bool.and_true, Bool.true_and, Bool.and_false, Bool.false_and, Bool.not_eq_true, Bool.or_true, Bool.or_false, Int.natCast_add, Int.natCast_one, Int.zero_add, Int.add_zero, sRaise, sTry, sGone, dHot, dIsE, sPick, e_spx1, e_spx2, e_spx3]
        refine ⟨by simp only [List.length_append, List.length_map]; omega, hK _ ⟨_, rfl, by simp only [List.length_append, List.length_map]; omega, bd _ _ (fun v m => .mk (ok v m).sm (ok v m).sm (ok v m).sm (cnt3_bad (.inl (ok v m).no)) (ok v m).nt (ok v m).nt (ok v m).nt) (bd _ _ (fun v m => .mk sa sb (ok v m).sm (cnt3_bad (.inr (.inr (ok v m).no))) na nb (ok v m).nt) hb)⟩⟩
  subst e
  have ab0 := Int.mul_nonneg d.a0 d.b0
  have mb : (CMul a b ∨ CMulW a b) = True := mul_small (sa.2 _ rfl) (sb.2 _ rfl)
  refine seq_inv (fun ρ' => ρ' = [.io t, .sh (tri a b p), .sh (.int a), .sh (.int b), .sh (.int p), .sh (.lst od), .ow (.lst bad), .no, .sh (.int (a * b + 1)), .no, .no]) (fun K hK => ?_) (fun ρ' e => ?_)
  · simp only [sSeq, sSet, sPar, sIf, sRet, sRetN, sDrop, sNext, sDead, sBrk, sCnt, sAsg, sFor, dNm, dTm, dC, dOp1, dOp2, dOpN, dMt, dMut, dCall, dLst, dTup, dNil, dCons, dVn, dVc, dSl, dSl3, dNoP, dPrt, dIf, dAndV, dOrV, dNotV, dBv, dTru, dNotT, dAndT, dOrT, dChn, dEqQ, dRpQ, qOp, qNil, qCons, qLs, qTp, dSrc, dRng1, dRng2, dZip2, dEnum, dComp, dYes, gNm, gTp, gCn, gNi, gIt, e_var, e_var1, e_var2, e_var3, e_var4, e_mov, e_mov1, e_mov2, e_mov3, e_mov4, e_tr1, e_tr2, e_tr3, e_tr4, e_tr5, e_own1, e_own2, e_reo1, e_reo2, e_of1, e_of2, e_pin1, e_pin2, e_pin3, e_arg1, e_arg2, e_arg3, e_arg4, e_isarg1, e_isarg2, e_conv1, e_conv2, e_conv3, e_conv4, e_conv5, e_conv6, e_sown1, e_sown2, e_sown3, e_sown4, e_put1, e_put2, e_po1, e_po2, e_p1, e_p2, e_ao1, e_ao2, e_nd0, e_nd1, e_nd2, e_sl, e_get1, e_get2, e_is, e_all, e_gets0, e_gets1, e_gets2, e_tms0, e_tms1, e_qg1, e_qg2, e_qg3, e_qgs0, e_qgs1, e_its1, e_its2, e_its3, e_its4, e_jts1, e_jts2, e_jts4, e_mt1, e_mt2, e_ty1, e_add1, e_add2, e_add3, e_sub, e_mul1, e_mul2, e_mul3, e_fdiv, e_mod, e_pow, e_neg, e_len1, e_len2, e_len3, e_len4, e_int1, e_int2, e_abs, e_max, e_min, e_ix1, e_ix2, e_ix3, e_ix4, e_eq1, e_eq2, e_eq3, e_lt1, e_le1, e_gt1, e_ge1, e_lt2, e_in1, e_app, e_ext, e_rev, e_clr, e_set, e_sl1, e_sl2, e_sl3, e_sl4, e_count, e_f1, e_f2, e_osh, e_owh, e_one, e_tt1, e_tt2, e_ctg1, e_ctg2, e_cn0, e_cn1, e_wi0, e_wi1, e_re0, e_re1, e_ifb1, e_ifb2, e_nm0, e_nm1, e_nm2, e_fa0, e_fa1, e_sum, e_allb, e_anyb, e_sp1, e_sp2, e_sp3, e_at0, e_at1, e_at2, e_at3, e_at4, e_at5, e_ixn40, e_ixn41, e_ixn42, e_ixn43, e_cp1, e_cp2, e_cp3, e_cp4, e_cp5, forall_eq, List.getD_cons_zero, List.getD_cons_succ, List.getD_nil, List.set_cons_zero, List.set_cons_succ, List.map_cons, List.map_nil, Option.map_some, Option.map_none, Option.bind_some, Option.bind_none, Option.getD_some, Option.some.injEq, exists_eq_left', exists_eq_left, exists_eq', exists_eq, decide_eq_true_eq, List.length_map, exists_eq_right, exists_and_left, exists_and_right, Option.isSome_some, T.int.injEq, T.str.injEq, T.lst.injEq, T.tup.injEq, T.bl.injEq, List.cons.injEq, Prod.mk.injEq, Hn.tm.injEq, true_and, and_true, and_assoc, and_self, ne_eq, not_false_eq_true, not_true_eq_false, ite_true, ite_false, if_true, if_false, reduceIte, reduceCtorEq, Bool.false_eq_true, false_and, and_false, imp_self, forall_const, implies_true, List.length_cons, List.length_nil, Nat.reduceAdd, Nat.reduceEqDiff, Bool.false_bne, Bool.true_bne, Bool.not_false, Bool.not_true, List.nil_append, List.cons_append, Int.reduceToNat, Int.reducePow, Int.reduceMul, Int.reduceSub, Int.reduceAdd, Int.reduceNeg, kt_NoneType_int, kt_NoneType_bool, kt_NoneType_str, kt_NoneType_list, kt_NoneType_tuple, kt_bool_int, kt_bool_bool, kt_bool_str, kt_bool_list, kt_bool_tuple, kt_int_int, kt_int_bool, kt_int_str, kt_int_list, kt_int_tuple, kt_str_int, kt_str_bool, kt_str_str, kt_str_list, kt_str_tuple, kt_list_int, kt_list_bool, kt_list_str, kt_list_list, kt_list_tuple, kt_tuple_int, kt_tuple_bool, kt_tuple_str, kt_tuple_list, kt_tuple_tuple, kt_dict_int, kt_dict_bool, kt_dict_str, kt_dict_list, kt_dict_tuple, e_ii_non, e_ii_bl, e_ii_int, e_ii_str, e_ii_lst, e_ii_scr, e_ii_tup, e_ii_dK, e_ii_dT, dShr, dNew, dNewL, dMeth, dProp, dCm, dFld, sFld, callK, lendK, noexP, Sl.io.injEq, Sl.sh.injEq, e_cnt, e_lkT, e_putT, e_isiC, e_isiC2, e_ii_ins, dCallL, e_argL, e_fl1, e_fl2, e_fl3, e_fl4, List.all_cons, List.all_nil, dDict, dDict0, e_keys0, e_keysS, e_keysI, e_cl_non, e_cl_bl, e_cl_int, e_cl_str, e_cl_lst, e_cl_scr, e_cl_tup, e_cl_dK, e_cl_dT, e_iq1, e_iq2, e_nn1, e_nn2, e_nn3, e_nn4, e_inp, e_ixd, Int.cast_ofNat_Int, Int.natCast_succ, decide_true, decide_false, Int.reduceEq, Int.reduceLT, Int.reduceLE, Int.reduceNe, Nat.reduceLT, Nat.reduceLeDiff, Bool.and_true, Bool.true_and, Bool.and_false, Bool.false_and, Bool.not_eq_true, Bool.or_true, Bool.or_false, Int.natCast_add, Int.natCast_one, Int.zero_add, Int.add_zero, sRaise, sTry, sGone, dHot, dIsE, sPick, e_spx1, e_spx2, e_spx3, mb]
    exact hK _ rfl
  subst e
  have c9 : CPow 10 9 = True := eq_true ⟨by decide, by decide, by decide⟩
  have n62 : ∀ i : Int, 0 ≤ i → i ≤ 10 ^ 62 → smallV (.int i) ∧ Nt (.int i) 1 400 := fun i h0 h1 => by
    have u1 : (10 : Int) ^ 62 ≤ 10 ^ 65 := by decide +kernel
    exact ⟨small_nat h0 (Int.le_trans (Int.le_trans h1 u1) up.2.2), (Nt.int65 h0 (Int.le_trans h1 u1)).more (by decide) (by decide)⟩
  have u61 : (10 : Int) ^ 61 + 10 ^ 10 ≤ 10 ^ 62 := by decide +kernel
  have abL := d.abL
  have over := n62 (a * b + 1) (by omega) (by omega)
  have n0 := n62 0 (by decide) (by decide +kernel)
  have n1 := n62 1 (by decide) (by decide +kernel)
  refine seq_inv (fun ρ' => ∃ t bad, IsReel t ∧ ρ' = [.io t, .sh (tri a b p), .sh (.int a), .sh (.int b), .sh (.int p), .sh (.lst od), .ow (.lst bad), .no, .sh (.int (a * b + 1)), .no, .no] ∧ bad.length = 52 ∧ ∀ t ∈ bad, BadT t) (fun K hK => ?_) (fun ρ' ⟨t, bad, ir, e, bl, hb⟩ => ?_)
  · simp only [sSeq, sSet, sPar, sIf, sRet, sRetN, sDrop, sNext, sDead, sBrk, sCnt, sAsg, sFor, dNm, dTm, dC, dOp1, dOp2, dOpN, dMt, dMut, dCall, dLst, dTup, dNil, dCons, dVn, dVc, dSl, dSl3, dNoP, dPrt, dIf, dAndV, dOrV, dNotV, dBv, dTru, dNotT, dAndT, dOrT, dChn, dEqQ, dRpQ, qOp, qNil, qCons, qLs, qTp, dSrc, dRng1, dRng2, dZip2, dEnum, dComp, dYes, gNm, gTp, gCn, gNi, gIt, e_var, e_var1, e_var2, e_var3, e_var4, e_mov, e_mov1, e_mov2, e_mov3, e_mov4, e_tr1, e_tr2, e_tr3, e_tr4, e_tr5, e_own1, e_own2, e_reo1, e_reo2, e_of1, e_of2, e_pin1, e_pin2, e_pin3, e_arg1, e_arg2, e_arg3, e_arg4, e_isarg1, e_isarg2, e_conv1, e_conv2, e_conv3, e_conv4, e_conv5, e_conv6, e_sown1, e_sown2, e_sown3, e_sown4, e_put1, e_put2, e_po1, e_po2, e_p1, e_p2, e_ao1, e_ao2, e_nd0, e_nd1, e_nd2, e_sl, e_get1, e_get2, e_is, e_all, e_gets0, e_gets1, e_gets2, e_tms0, e_tms1, e_qg1, e_qg2, e_qg3, e_qgs0, e_qgs1, e_its1, e_its2, e_its3, e_its4, e_jts1, e_jts2, e_jts4, e_mt1, e_mt2, e_ty1, e_add1, e_add2, e_add3, e_sub, e_mul1, e_mul2, e_mul3, e_fdiv, e_mod, e_pow, e_neg, e_len1, e_len2, e_len3, e_len4, e_int1, e_int2, e_abs, e_max, e_min, e_ix1, e_ix2, e_ix3, e_ix4, e_eq1, e_eq2, e_eq3, e_lt1, e_le1, e_gt1, e_ge1, e_lt2, e_in1, e_app, e_ext, e_rev, e_clr, e_set, e_sl1, e_sl2, e_sl3, e_sl4, e_count, e_f1, e_f2, e_osh, e_owh, e_one, e_tt1, e_tt2, e_ctg1, e_ctg2, e_cn0, e_cn1, e_wi0, e_wi1, e_re0, e_re1, e_ifb1, e_ifb2, e_nm0, e_nm1, e_nm2, e_fa0, e_fa1, e_sum, e_allb, e_anyb, e_sp1, e_sp2, e_sp3, e_at0, e_at1, e_at2, e_at3, e_at4, e_at5, e_ixn40, e_ixn41, e_ixn42, e_ixn43, e_cp1, e_cp2, e_cp3, e_cp4, e_cp5, forall_eq, List.getD_cons_zero, List.getD_cons_succ, List.getD_nil, List.set_cons_zero, List.set_cons_succ, List.map_cons, List.map_nil, Option.map_some, Option.map_none, Option.bind_some, Option.bind_none, Option.getD_some, Option.some.injEq, exists_eq_left', exists_eq_left, exists_eq', exists_eq, decide_eq_true_eq, List.length_map, exists_eq_right, exists_and_left, exists_and_right, Option.isSome_some, T.int.injEq, T.str.injEq, T.lst.injEq, T.tup.injEq, T.bl.injEq, List.cons.injEq, Prod.mk.injEq, Hn.tm.injEq, true_and, and_true, and_assoc, and_self, ne_eq, not_false_eq_true, not_true_eq_false, ite_true, ite_false, if_true, if_false, reduceIte, reduceCtorEq, Bool.false_eq_true, false_and, and_false, imp_self, forall_const, implies_true, List.length_cons, List.length_nil, Nat.reduceAdd, Nat.reduceEqDiff, Bool.false_bne, Bool.true_bne, Bool.not_false, Bool.not_true, List.nil_append, List.cons_append, Int.reduceToNat, Int.reducePow, Int.reduceMul, Int.reduceSub, Int.reduceAdd, Int.reduceNeg, kt_NoneType_int, kt_NoneType_bool, kt_NoneType_str, kt_NoneType_list, kt_NoneType_tuple, kt_bool_int, kt_bool_bool, kt_bool_str, kt_bool_list, kt_bool_tuple, kt_int_int, kt_int_bool, kt_int_str, kt_int_list, kt_int_tuple, kt_str_int, kt_str_bool, kt_str_str, kt_str_list, kt_str_tuple, kt_list_int, kt_list_bool, kt_list_str, kt_list_list, kt_list_tuple, kt_tuple_int, kt_tuple_bool, kt_tuple_str, kt_tuple_list, kt_tuple_tuple, kt_dict_int, kt_dict_bool, kt_dict_str, kt_dict_list, kt_dict_tuple, e_ii_non, e_ii_bl, e_ii_int, e_ii_str, e_ii_lst, e_ii_scr, e_ii_tup, e_ii_dK, e_ii_dT, dShr, dNew, dNewL, dMeth, dProp, dCm, dFld, sFld, callK, lendK, noexP, Sl.io.injEq, Sl.sh.injEq, e_cnt, e_lkT, e_putT, e_isiC, e_isiC2, e_ii_ins, dCallL, e_argL, e_fl1, e_fl2, e_fl3, e_fl4, List.all_cons, List.all_nil, dDict, dDict0, e_keys0, e_keysS, e_keysI, e_cl_non, e_cl_bl, e_cl_int, e_cl_str, e_cl_lst, e_cl_scr, e_cl_tup, e_cl_dK, e_cl_dT, e_iq1, e_iq2, e_nn1, e_nn2, e_nn3, e_nn4, e_inp, e_ixd, Int.cast_ofNat_Int, Int.natCast_succ, decide_true, decide_false, Int.reduceEq, Int.reduceLT, Int.reduceLE, Int.reduceNe, Nat.reduceLT, Nat.reduceLeDiff, Bool.and_true, Bool.true_and, Bool.and_false, Bool.false_and, Bool.not_eq_true, Bool.or_true, Bool.or_false, Int.natCast_add, Int.natCast_one, Int.zero_add, Int.add_zero, sRaise, sTry, sGone, dHot, dIsE, sPick, e_spx1, e_spx2, e_spx3, c9, e_sdraw]
    refine ⟨by omega, ir, log_small (by decide) (by decide), fun t1 r i1 r0 r1 => ?_⟩
    have o2 := n62 (a * b + 1 + r) (by omega) (by omega)
    refine ⟨by omega, by omega, by omega, by omega, by omega, hK _ ⟨t1, _, i1, rfl, by rw [List.length_append, bl]; rfl, fun x m => ?_⟩⟩
    rcases List.mem_append.mp m with z | z
    · exact hb x z
    · simp only [List.mem_cons, List.not_mem_nil, or_false] at z
      rcases z with rfl | rfl | rfl | rfl
      · exact .mk sa sb over.1 (cnt3_over (by omega)) na nb over.2
      · exact .mk sa sb o2.1 (cnt3_over (by omega)) na nb o2.2
      · exact .mk n0.1 sb n1.1 (cnt3_over (by rw [Int.zero_mul]; decide)) n0.2 nb n1.2
      · exact .mk sa n0.1 n1.1 (cnt3_over (by rw [Int.mul_zero]; decide)) na n0.2 n1.2
  subst e
  have c61 : CPow 10 61 = True := eq_true ⟨by decide, by decide, by decide⟩
  have sm : ∀ i : Int, i.natAbs < 10 → smallV (.int i) ∧ Nt (.int i) 1 400 := fun i h => by
    have l : i.natAbs.log2 ≤ 900 := log_lt (Nat.lt_trans h (by decide +kernel))
    exact ⟨⟨rfl, fun j e => by cases e; omega⟩, (Nt.int (k := 1) (by decide) h (by omega)).more (by decide) (by decide)⟩
  have m1 := sm (-1) (by decide)
  have m2 := sm (-2) (by decide)
  have m6 := sm (-6) (by decide)
  have m3 := sm 3 (by decide)
  have b61 := n62 10000000000000000000000000000000000000000000000000000000000000 (by decide) (by decide +kernel)
  have e61 : (10000000000000000000000000000000000000000000000000000000000000 : Int) = 10 ^ 61 := by decide +kernel
  refine seq_inv (fun ρ' => ∃ t bad, IsReel t ∧ ρ' = [.io t, .sh (tri a b p), .sh (.int a), .sh (.int b), .sh (.int p), .sh (.lst od), .ow (.lst bad), .no, .sh (.int (a * b + 1)), .no, .no] ∧ bad.length = 57 ∧ ∀ t ∈ bad, BadT t) (fun K hK => ?_) (fun ρ' ⟨t, bad, ir, e, bl, hb⟩ => ?_)
  · simp only [sSeq, sSet, sPar, sIf, sRet, sRetN, sDrop, sNext, sDead, sBrk, sCnt, sAsg, sFor, dNm, dTm, dC, dOp1, dOp2, dOpN, dMt, dMut, dCall, dLst, dTup, dNil, dCons, dVn, dVc, dSl, dSl3, dNoP, dPrt, dIf, dAndV, dOrV, dNotV, dBv, dTru, dNotT, dAndT, dOrT, dChn, dEqQ, dRpQ, qOp, qNil, qCons, qLs, qTp, dSrc, dRng1, dRng2, dZip2, dEnum, dComp, dYes, gNm, gTp, gCn, gNi, gIt, e_var, e_var1, e_var2, e_var3, e_var4, e_mov, e_mov1, e_mov2, e_mov3, e_mov4, e_tr1, e_tr2, e_tr3, e_tr4, e_tr5, e_own1, e_own2, e_reo1, e_reo2, e_of1, e_of2, e_pin1, e_pin2, e_pin3, e_arg1, e_arg2, e_arg3, e_arg4, e_isarg1, e_isarg2, e_conv1, e_conv2, e_conv3, e_conv4, e_conv5, e_conv6, e_sown1, e_sown2, e_sown3, e_sown4, e_put1, e_put2, e_po1, e_po2, e_p1, e_p2, e_ao1, e_ao2, e_nd0, e_nd1, e_nd2, e_sl, e_get1, e_get2, e_is, e_all, e_gets0, e_gets1, e_gets2, e_tms0, e_tms1, e_qg1, e_qg2, e_qg3, e_qgs0, e_qgs1, e_its1, e_its2, e_its3, e_its4, e_jts1, e_jts2, e_jts4, e_mt1, e_mt2, e_ty1, e_add1, e_add2, e_add3, e_sub, e_mul1, e_mul2, e_mul3, e_fdiv, e_mod, e_pow, e_neg, e_len1, e_len2, e_len3, e_len4, e_int1, e_int2, e_abs, e_max, e_min, e_ix1, e_ix2, e_ix3, e_ix4, e_eq1, e_eq2, e_eq3, e_lt1, e_le1, e_gt1, e_ge1, e_lt2, e_in1, e_app, e_ext, e_rev, e_clr, e_set, e_sl1, e_sl2, e_sl3, e_sl4, e_count, e_f1, e_f2, e_osh, e_owh, e_one, e_tt1, e_tt2, e_ctg1, e_ctg2, e_cn0, e_cn1, e_wi0, e_wi1, e_re0, e_re1, e_ifb1, e_ifb2, e_nm0, e_nm1, e_nm2, e_fa0, e_fa1, e_sum, e_allb, e_anyb, e_sp1, e_sp2, e_sp3, e_at0, e_at1, e_at2, e_at3, e_at4, e_at5, e_ixn40, e_ixn41, e_ixn42, e_ixn43, e_cp1, e_cp2, e_cp3, e_cp4, e_cp5, forall_eq, List.getD_cons_zero, List.getD_cons_succ, List.getD_nil, List.set_cons_zero, List.set_cons_succ, List.map_cons, List.map_nil, Option.map_some, Option.map_none, Option.bind_some, Option.bind_none, Option.getD_some, Option.some.injEq, exists_eq_left', exists_eq_left, exists_eq', exists_eq, decide_eq_true_eq, List.length_map, exists_eq_right, exists_and_left, exists_and_right, Option.isSome_some, T.int.injEq, T.str.injEq, T.lst.injEq, T.tup.injEq, T.bl.injEq, List.cons.injEq, Prod.mk.injEq, Hn.tm.injEq, true_and, and_true, and_assoc, and_self, ne_eq, not_false_eq_true, not_true_eq_false, ite_true, ite_false, if_true, if_false, reduceIte, reduceCtorEq, Bool.false_eq_true, false_and, and_false, imp_self, forall_const, implies_true, List.length_cons, List.length_nil, Nat.reduceAdd, Nat.reduceEqDiff, Bool.false_bne, Bool.true_bne, Bool.not_false, Bool.not_true, List.nil_append, List.cons_append, Int.reduceToNat, Int.reducePow, Int.reduceMul, Int.reduceSub, Int.reduceAdd, Int.reduceNeg, kt_NoneType_int, kt_NoneType_bool, kt_NoneType_str, kt_NoneType_list, kt_NoneType_tuple, kt_bool_int, kt_bool_bool, kt_bool_str, kt_bool_list, kt_bool_tuple, kt_int_int, kt_int_bool, kt_int_str, kt_int_list, kt_int_tuple, kt_str_int, kt_str_bool, kt_str_str, kt_str_list, kt_str_tuple, kt_list_int, kt_list_bool, kt_list_str, kt_list_list, kt_list_tuple, kt_tuple_int, kt_tuple_bool, kt_tuple_str, kt_tuple_list, kt_tuple_tuple, kt_dict_int, kt_dict_bool, kt_dict_str, kt_dict_list, kt_dict_tuple, e_ii_non, e_ii_bl, e_ii_int, e_ii_str, e_ii_lst, e_ii_scr, e_ii_tup, e_ii_dK, e_ii_dT, dShr, dNew, dNewL, dMeth, dProp, dCm, dFld, sFld, callK, lendK, noexP, Sl.io.injEq, Sl.sh.injEq, e_cnt, e_lkT, e_putT, e_isiC, e_isiC2, e_ii_ins, dCallL, e_argL, e_fl1, e_fl2, e_fl3, e_fl4, List.all_cons, List.all_nil, dDict, dDict0, e_keys0, e_keysS, e_keysI, e_cl_non, e_cl_bl, e_cl_int, e_cl_str, e_cl_lst, e_cl_scr, e_cl_tup, e_cl_dK, e_cl_dT, e_iq1, e_iq2, e_nn1, e_nn2, e_nn3, e_nn4, e_inp, e_ixd, Int.cast_ofNat_Int, Int.natCast_succ, decide_true, decide_false, Int.reduceEq, Int.reduceLT, Int.reduceLE, Int.reduceNe, Nat.reduceLT, Nat.reduceLeDiff, Bool.and_true, Bool.true_and, Bool.and_false, Bool.false_and, Bool.not_eq_true, Bool.or_true, Bool.or_false, Int.natCast_add, Int.natCast_one, Int.zero_add, Int.add_zero, sRaise, sTry, sGone, dHot, dIsE, sPick, e_spx1, e_spx2, e_spx3, c61, e_sdraw]
    refine ⟨by omega, by omega, by omega, by omega, ir, log_small (by decide) (by decide), fun t1 r i1 r0 r1 => ?_⟩
    obtain ⟨y, ym, ey⟩ := atI_in (xs := od) r0 (by omega)
    simp only [sSeq, sSet, sPar, sIf, sRet, sRetN, sDrop, sNext, sDead, sBrk, sCnt, sAsg, sFor, dNm, dTm, dC, dOp1, dOp2, dOpN, dMt, dMut, dCall, dLst, dTup, dNil, dCons, dVn, dVc, dSl, dSl3, dNoP, dPrt, dIf, dAndV, dOrV, dNotV, dBv, dTru, dNotT, dAndT, dOrT, dChn, dEqQ, dRpQ, qOp, qNil, qCons, qLs, qTp, dSrc, dRng1, dRng2, dZip2, dEnum, dComp, dYes, gNm, gTp, gCn, gNi, gIt, e_var, e_var1, e_var2, e_var3, e_var4, e_mov, e_mov1, e_mov2, e_mov3, e_mov4, e_tr1, e_tr2, e_tr3, e_tr4, e_tr5, e_own1, e_own2, e_reo1, e_reo2, e_of1, e_of2, e_pin1, e_pin2, e_pin3, e_arg1, e_arg2, e_arg3, e_arg4, e_isarg1, e_isarg2, e_conv1, e_conv2, e_conv3, e_conv4, e_conv5, e_conv6, e_sown1, e_sown2, e_sown3, e_sown4, e_put1, e_put2, e_po1, e_po2, e_p1, e_p2, e_ao1, e_ao2, e_nd0, e_nd1, e_nd2, e_sl, e_get1, e_get2, e_is, e_all, e_gets0, e_gets1, e_gets2, e_tms0, e_tms1, e_qg1, e_qg2, e_qg3, e_qgs0, e_qgs1, e_its1, e_its2, e_its3, e_its4, e_jts1, e_jts2, e_jts4, e_mt1, e_mt2, e_ty1, e_add1, e_add2, e_add3, e_sub, e_mul1, e_mul2, e_mul3, e_fdiv, e_mod, e_pow, e_neg, e_len1, e_len2, e_len3, e_len4, e_int1, e_int2, e_abs, e_max, e_min, e_ix1, e_ix2, e_ix3, e_ix4, e_eq1, e_eq2, e_eq3, e_lt1, e_le1, e_gt1, e_ge1, e_lt2, e_in1, e_app, e_ext, e_rev, e_clr, e_set, e_sl1, e_sl2, e_sl3, e_sl4, e_count, e_f1, e_f2, e_osh, e_owh, e_one, e_tt1, e_tt2, e_ctg1, e_ctg2, e_cn0, e_cn1, e_wi0, e_wi1, e_re0, e_re1, e_ifb1, e_ifb2, e_nm0, e_nm1, e_nm2, e_fa0, e_fa1, e_sum, e_allb, e_anyb, e_sp1, e_sp2, e_sp3, e_at0, e_at1, e_at2, e_at3, e_at4, e_at5, e_ixn40, e_ixn41, e_ixn42, e_ixn43, e_cp1, e_cp2, e_cp3, e_cp4, e_cp5, forall_eq, List.getD_cons_zero, List.getD_cons_succ, List.getD_nil, List.set_cons_zero, List.set_cons_succ, List.map_cons, List.map_nil, Option.map_some, Option.map_none, Option.bind_some, Option.bind_none, Option.getD_some, Option.some.injEq, exists_eq_left', exists_eq_left, exists_eq', exists_eq, decide_eq_true_eq, List.length_map, exists_eq_right, exists_and_left, exists_and_right, Option.isSome_some, T.int.injEq, T.str.injEq, T.lst.injEq, T.tup.injEq, T.bl.injEq, List.cons.injEq, Prod.mk.injEq, Hn.tm.injEq, true_and, and_true, and_assoc, and_self, ne_eq, not_false_eq_true, not_true_eq_false, ite_true, ite_false, if_true, if_false, reduceIte, reduceCtorEq, Bool.false_eq_true, false_and, and_false, imp_self, forall_const, implies_true, List.length_cons, List.length_nil, Nat.reduceAdd, Nat.reduceEqDiff, Bool.false_bne, Bool.true_bne, Bool.not_false, Bool.not_true, List.nil_append, List.cons_append, Int.reduceToNat, Int.reducePow, Int.reduceMul, Int.reduceSub, Int.reduceAdd, Int.reduceNeg, kt_NoneType_int, kt_NoneType_bool, kt_NoneType_str, kt_NoneType_list, kt_NoneType_tuple, kt_bool_int, kt_bool_bool, kt_bool_str, kt_bool_list, kt_bool_tuple, kt_int_int, kt_int_bool, kt_int_str, kt_int_list, kt_int_tuple, kt_str_int, kt_str_bool, kt_str_str, kt_str_list, kt_str_tuple, kt_list_int, kt_list_bool, kt_list_str, kt_list_list, kt_list_tuple, kt_tuple_int, kt_tuple_bool, kt_tuple_str, kt_tuple_list, kt_tuple_tuple, kt_dict_int, kt_dict_bool, kt_dict_str, kt_dict_list, kt_dict_tuple, e_ii_non, e_ii_bl, e_ii_int, e_ii_str, e_ii_lst, e_ii_scr, e_ii_tup, e_ii_dK, e_ii_dT, dShr, dNew, dNewL, dMeth, dProp, dCm, dFld, sFld, callK, lendK, noexP, Sl.io.injEq, Sl.sh.injEq, e_cnt, e_lkT, e_putT, e_isiC, e_isiC2, e_ii_ins, dCallL, e_argL, e_fl1, e_fl2, e_fl3, e_fl4, List.all_cons, List.all_nil, dDict, dDict0, e_keys0, e_keysS, e_keysI, e_cl_non, e_cl_bl, e_cl_int, e_cl_str, e_cl_lst, e_cl_scr, e_cl_tup, e_cl_dK, e_cl_dT, e_iq1, e_iq2, e_nn1, e_nn2, e_nn3, e_nn4, e_inp, e_ixd, Int.cast_ofNat_Int, Int.natCast_succ, decide_true, decide_false, Int.reduceEq, Int.reduceLT, Int.reduceLE, Int.reduceNe, Nat.reduceLT, Nat.reduceLeDiff, Bool.and_true, Bool.true_and, Bool.and_false, Bool.false_and, Bool.not_eq_true, Bool.or_true, Bool.or_false, Int.natCast_add, Int.natCast_one, Int.zero_add, Int.add_zero, sRaise, sTry, sGone, dHot, dIsE, sPick, e_spx1, e_spx2, e_spx3, ey]
    have oy := ok y ym
    refine ⟨by omega, by omega, by omega, hK _ ⟨t1, _, i1, rfl, by rw [List.length_append, bl]; rfl, fun x m => ?_⟩⟩
    rcases List.mem_append.mp m with z | z
    · exact hb x z
    · simp only [List.mem_cons, List.not_mem_nil, or_false] at z
      rcases z with rfl | rfl | rfl | rfl | rfl
      · exact .mk m1.1 m1.1 n1.1 (cnt3_bad (.inl rfl)) m1.2 m1.2 n1.2
      · exact .mk m1.1 m1.1 n0.1 (cnt3_bad (.inl rfl)) m1.2 m1.2 n0.2
      · exact .mk m2.1 m3.1 m6.1 (cnt3_bad (.inl rfl)) m2.2 m3.2 m6.2
      · exact .mk sa sb b61.1 (cnt3_over (by rw [e61]; exact abL)) na nb b61.2
      · exact .mk oy.sm sb over.1 (cnt3_bad (.inl oy.no)) oy.nt nb over.2
  subst e
  obtain ⟨rx, hr⟩ := Nt.rep (a := 3) (m := 200000) ((Nt.lst (a := 2) (m := 2000) fun v m => by obtain ⟨_, _, _, _, _, _, _, _, n⟩ := hb v m; exact n).more (by decide) (by rw [bl]; decide)) rfl (by decide) (by omega)
  refine seq_inv (fun ρ' => ρ' = [.io t, .sh (tri a b p), .sh (.int a), .sh (.int b), .sh (.int p), .sh (.lst od), .ow (.lst bad), .no, .sh (.int (a * b + 1)), .sh (.str rx), .no]) (fun K hK => ?_) (fun ρ' e => ?_)
  · simp only [sSeq, sSet, sPar, sIf, sRet, sRetN, sDrop, sNext, sDead, sBrk, sCnt, sAsg, sFor, dNm, dTm, dC, dOp1, dOp2, dOpN, dMt, dMut, dCall, dLst, dTup, dNil, dCons, dVn, dVc, dSl, dSl3, dNoP, dPrt, dIf, dAndV, dOrV, dNotV, dBv, dTru, dNotT, dAndT, dOrT, dChn, dEqQ, dRpQ, qOp, qNil, qCons, qLs, qTp, dSrc, dRng1, dRng2, dZip2, dEnum, dComp, dYes, gNm, gTp, gCn, gNi, gIt, e_var, e_var1, e_var2, e_var3, e_var4, e_mov, e_mov1, e_mov2, e_mov3, e_mov4, e_tr1, e_tr2, e_tr3, e_tr4, e_tr5, e_own1, e_own2, e_reo1, e_reo2, e_of1, e_of2, e_pin1, e_pin2, e_pin3, e_arg1, e_arg2, e_arg3, e_arg4, e_isarg1, e_isarg2, e_conv1, e_conv2, e_conv3, e_conv4, e_conv5, e_conv6, e_sown1, e_sown2, e_sown3, e_sown4, e_put1, e_put2, e_po1, e_po2, e_p1, e_p2, e_ao1, e_ao2, e_nd0, e_nd1, e_nd2, e_sl, e_get1, e_get2, e_is, e_all, e_gets0, e_gets1, e_gets2, e_tms0, e_tms1, e_qg1, e_qg2, e_qg3, e_qgs0, e_qgs1, e_its1, e_its2, e_its3, e_its4, e_jts1, e_jts2, e_jts4, e_mt1, e_mt2, e_ty1, e_add1, e_add2, e_add3, e_sub, e_mul1, e_mul2, e_mul3, e_fdiv, e_mod, e_pow, e_neg, e_len1, e_len2, e_len3, e_len4, e_int1, e_int2, e_abs, e_max, e_min, e_ix1, e_ix2, e_ix3, e_ix4, e_eq1, e_eq2, e_eq3, e_lt1, e_le1, e_gt1, e_ge1, e_lt2, e_in1, e_app, e_ext, e_rev, e_clr, e_set, e_sl1, e_sl2, e_sl3, e_sl4, e_count, e_f1, e_f2, e_osh, e_owh, e_one, e_tt1, e_tt2, e_ctg1, e_ctg2, e_cn0, e_cn1, e_wi0, e_wi1, e_re0, e_re1, e_ifb1, e_ifb2, e_nm0, e_nm1, e_nm2, e_fa0, e_fa1, e_sum, e_allb, e_anyb, e_sp1, e_sp2, e_sp3, e_at0, e_at1, e_at2, e_at3, e_at4, e_at5, e_ixn40, e_ixn41, e_ixn42, e_ixn43, e_cp1, e_cp2, e_cp3, e_cp4, e_cp5, forall_eq, List.getD_cons_zero, List.getD_cons_succ, List.getD_nil, List.set_cons_zero, List.set_cons_succ, List.map_cons, List.map_nil, Option.map_some, Option.map_none, Option.bind_some, Option.bind_none, Option.getD_some, Option.some.injEq, exists_eq_left', exists_eq_left, exists_eq', exists_eq, decide_eq_true_eq, List.length_map, exists_eq_right, exists_and_left, exists_and_right, Option.isSome_some, T.int.injEq, T.str.injEq, T.lst.injEq, T.tup.injEq, T.bl.injEq, List.cons.injEq, Prod.mk.injEq, Hn.tm.injEq, true_and, and_true, and_assoc, and_self, ne_eq, not_false_eq_true, not_true_eq_false, ite_true, ite_false, if_true, if_false, reduceIte, reduceCtorEq, Bool.false_eq_true, false_and, and_false, imp_self, forall_const, implies_true, List.length_cons, List.length_nil, Nat.reduceAdd, Nat.reduceEqDiff, Bool.false_bne, Bool.true_bne, Bool.not_false, Bool.not_true, List.nil_append, List.cons_append, Int.reduceToNat, Int.reducePow, Int.reduceMul, Int.reduceSub, Int.reduceAdd, Int.reduceNeg, kt_NoneType_int, kt_NoneType_bool, kt_NoneType_str, kt_NoneType_list, kt_NoneType_tuple, kt_bool_int, kt_bool_bool, kt_bool_str, kt_bool_list, kt_bool_tuple, kt_int_int, kt_int_bool, kt_int_str, kt_int_list, kt_int_tuple, kt_str_int, kt_str_bool, kt_str_str, kt_str_list, kt_str_tuple, kt_list_int, kt_list_bool, kt_list_str, kt_list_list, kt_list_tuple, kt_tuple_int, kt_tuple_bool, kt_tuple_str, kt_tuple_list, kt_tuple_tuple, kt_dict_int, kt_dict_bool, kt_dict_str, kt_dict_list, kt_dict_tuple, e_ii_non, e_ii_bl, e_ii_int, e_ii_str, e_ii_lst, e_ii_scr, e_ii_tup, e_ii_dK, e_ii_dT, dShr, dNew, dNewL, dMeth, dProp, dCm, dFld, sFld, callK, lendK, noexP, Sl.io.injEq, Sl.sh.injEq, e_cnt, e_lkT, e_putT, e_isiC, e_isiC2, e_ii_ins, dCallL, e_argL, e_fl1, e_fl2, e_fl3, e_fl4, List.all_cons, List.all_nil, dDict, dDict0, e_keys0, e_keysS, e_keysI, e_cl_non, e_cl_bl, e_cl_int, e_cl_str, e_cl_lst, e_cl_scr, e_cl_tup, e_cl_dK, e_cl_dT, e_iq1, e_iq2, e_nn1, e_nn2, e_nn3, e_nn4, e_inp, e_ixd, Int.cast_ofNat_Int, Int.natCast_succ, decide_true, decide_false, Int.reduceEq, Int.reduceLT, Int.reduceLE, Int.reduceNe, Nat.reduceLT, Nat.reduceLeDiff, Bool.and_true, Bool.true_and, Bool.and_false, Bool.false_and, Bool.not_eq_true, Bool.or_true, Bool.or_false, Int.natCast_add, Int.natCast_one, Int.zero_add, Int.add_zero, sRaise, sTry, sGone, dHot, dIsE, sPick, e_spx1, e_spx2, e_spx3, dRpD, hr]
    exact hK _ rfl
  subst e
  refine seq_inv (fun ρ' => ρ' = [.io t, .sh (tri a b p), .sh (.int a), .sh (.int b), .sh (.int p), .sh (.lst od), .sh (.lst bad), .no, .sh (.int (a * b + 1)), .sh (.str rx), .no]) (fun K hK => ?_) (fun ρ' e => ?_)
  · simp only [sSeq, sSet, sPar, sIf, sRet, sRetN, sDrop, sNext, sDead, sBrk, sCnt, sAsg, sFor, dNm, dTm, dC, dOp1, dOp2, dOpN, dMt, dMut, dCall, dLst, dTup, dNil, dCons, dVn, dVc, dSl, dSl3, dNoP, dPrt, dIf, dAndV, dOrV, dNotV, dBv, dTru, dNotT, dAndT, dOrT, dChn, dEqQ, dRpQ, qOp, qNil, qCons, qLs, qTp, dSrc, dRng1, dRng2, dZip2, dEnum, dComp, dYes, gNm, gTp, gCn, gNi, gIt, e_var, e_var1, e_var2, e_var3, e_var4, e_mov, e_mov1, e_mov2, e_mov3, e_mov4, e_tr1, e_tr2, e_tr3, e_tr4, e_tr5, e_own1, e_own2, e_reo1, e_reo2, e_of1, e_of2, e_pin1, e_pin2, e_pin3, e_arg1, e_arg2, e_arg3, e_arg4, e_isarg1, e_isarg2, e_conv1, e_conv2, e_conv3, e_conv4, e_conv5, e_conv6, e_sown1, e_sown2, e_sown3, e_sown4, e_put1, e_put2, e_po1, e_po2, e_p1, e_p2, e_ao1, e_ao2, e_nd0, e_nd1, e_nd2, e_sl, e_get1, e_get2, e_is, e_all, e_gets0, e_gets1, e_gets2, e_tms0, e_tms1, e_qg1, e_qg2, e_qg3, e_qgs0, e_qgs1, e_its1, e_its2, e_its3, e_its4, e_jts1, e_jts2, e_jts4, e_mt1, e_mt2, e_ty1, e_add1, e_add2, e_add3, e_sub, e_mul1, e_mul2, e_mul3, e_fdiv, e_mod, e_pow, e_neg, e_len1, e_len2, e_len3, e_len4, e_int1, e_int2, e_abs, e_max, e_min, e_ix1, e_ix2, e_ix3, e_ix4, e_eq1, e_eq2, e_eq3, e_lt1, e_le1, e_gt1, e_ge1, e_lt2, e_in1, e_app, e_ext, e_rev, e_clr, e_set, e_sl1, e_sl2, e_sl3, e_sl4, e_count, e_f1, e_f2, e_osh, e_owh, e_one, e_tt1, e_tt2, e_ctg1, e_ctg2, e_cn0, e_cn1, e_wi0, e_wi1, e_re0, e_re1, e_ifb1, e_ifb2, e_nm0, e_nm1, e_nm2, e_fa0, e_fa1, e_sum, e_allb, e_anyb, e_sp1, e_sp2, e_sp3, e_at0, e_at1, e_at2, e_at3, e_at4, e_at5, e_ixn40, e_ixn41, e_ixn42, e_ixn43, e_cp1, e_cp2, e_cp3, e_cp4, e_cp5, forall_eq, List.getD_cons_zero, List.getD_cons_succ, List.getD_nil, List.set_cons_zero, List.set_cons_succ, List.map_cons, List.map_nil, Option.map_some, Option.map_none, Option.bind_some, Option.bind_none, Option.getD_some, Option.some.injEq, exists_eq_left', exists_eq_left, exists_eq', exists_eq, decide_eq_true_eq, List.length_map, exists_eq_right, exists_and_left, exists_and_right, Option.isSome_some, T.int.injEq, T.str.injEq, T.lst.injEq, T.tup.injEq, T.bl.injEq, List.cons.injEq, Prod.mk.injEq, Hn.tm.injEq, true_and, and_true, and_assoc, and_self, ne_eq, not_false_eq_true, not_true_eq_false, ite_true, ite_false, if_true, if_false, reduceIte, reduceCtorEq, Bool.false_eq_true, false_and, and_false, imp_self, forall_const, implies_true, List.length_cons, List.length_nil, Nat.reduceAdd, Nat.reduceEqDiff, Bool.false_bne, Bool.true_bne, Bool.not_false, Bool.not_true, List.nil_append, List.cons_append, Int.reduceToNat, Int.reducePow, Int.reduceMul, Int.reduceSub, Int.reduceAdd, Int.reduceNeg, kt_NoneType_int, kt_NoneType_bool, kt_NoneType_str, kt_NoneType_list, kt_NoneType_tuple, kt_bool_int, kt_bool_bool, kt_bool_str, kt_bool_list, kt_bool_tuple, kt_int_int, kt_int_bool, kt_int_str, kt_int_list, kt_int_tuple, kt_str_int, kt_str_bool, kt_str_str, kt_str_list, kt_str_tuple, kt_list_int, kt_list_bool, kt_list_str, kt_list_list, kt_list_tuple, kt_tuple_int, kt_tuple_bool, kt_tuple_str, kt_tuple_list, kt_tuple_tuple, kt_dict_int, kt_dict_bool, kt_dict_str, kt_dict_list, kt_dict_tuple, e_ii_non, e_ii_bl, e_ii_int, e_ii_str, e_ii_lst, e_ii_scr, e_ii_tup, e_ii_dK, e_ii_dT, dShr, dNew, dNewL, dMeth, dProp, dCm, dFld, sFld, callK, lendK, noexP, Sl.io.injEq, Sl.sh.injEq, e_cnt, e_lkT, e_putT, e_isiC, e_isiC2, e_ii_ins, dCallL, e_argL, e_fl1, e_fl2, e_fl3, e_fl4, List.all_cons, List.all_nil, dDict, dDict0, e_keys0, e_keysS, e_keysI, e_cl_non, e_cl_bl, e_cl_int, e_cl_str, e_cl_lst, e_cl_scr, e_cl_tup, e_cl_dK, e_cl_dT, e_iq1, e_iq2, e_nn1, e_nn2, e_nn3, e_nn4, e_inp, e_ixd, Int.cast_ofNat_Int, Int.natCast_succ, decide_true, decide_false, Int.reduceEq, Int.reduceLT, Int.reduceLE, Int.reduceNe, Nat.reduceLT, Nat.reduceLeDiff, Bool.and_true, Bool.true_and, Bool.and_false, Bool.false_and, Bool.not_eq_true, Bool.or_true, Bool.or_false, Int.natCast_add, Int.natCast_one, Int.zero_add, Int.add_zero, sRaise, sTry, sGone, dHot, dIsE, sPick, e_spx1, e_spx2, e_spx3]
    refine comp_noneT (fun v m A B hB => ?_) (by omega) ?_
    · obtain ⟨u, v, w, rfl, hu, hv, hw, c, _⟩ := hb v m
      simp only [sSeq, sSet, sPar, sIf, sRet, sRetN, sDrop, sNext, sDead, sBrk, sCnt, sAsg, sFor, dNm, dTm, dC, dOp1, dOp2, dOpN, dMt, dMut, dCall, dLst, dTup, dNil, dCons, dVn, dVc, dSl, dSl3, dNoP, dPrt, dIf, dAndV, dOrV, dNotV, dBv, dTru, dNotT, dAndT, dOrT, dChn, dEqQ, dRpQ, qOp, qNil, qCons, qLs, qTp, dSrc, dRng1, dRng2, dZip2, dEnum, dComp, dYes, gNm, gTp, gCn, gNi, gIt, e_var, e_var1, e_var2, e_var3, e_var4, e_mov, e_mov1, e_mov2, e_mov3, e_mov4, e_tr1, e_tr2, e_tr3, e_tr4, e_tr5, e_own1, e_own2, e_reo1, e_reo2, e_of1, e_of2, e_pin1, e_pin2, e_pin3, e_arg1, e_arg2, e_arg3, e_arg4, e_isarg1, e_isarg2, e_conv1, e_conv2, e_conv3, e_conv4, e_conv5, e_conv6, e_sown1, e_sown2, e_sown3, e_sown4, e_put1, e_put2, e_po1, e_po2, e_p1, e_p2, e_ao1, e_ao2, e_nd0, e_nd1, e_nd2, e_sl, e_get1, e_get2, e_is, e_all, e_gets0, e_gets1, e_gets2, e_tms0, e_tms1, e_qg1, e_qg2, e_qg3, e_qgs0, e_qgs1, e_its1, e_its2, e_its3, e_its4, e_jts1, e_jts2, e_jts4, e_mt1, e_mt2, e_ty1, e_add1, e_add2, e_add3, e_sub, e_mul1, e_mul2, e_mul3, e_fdiv, e_mod, e_pow, e_neg, e_len1, e_len2, e_len3, e_len4, e_int1, e_int2, e_abs, e_max, e_min, e_ix1, e_ix2, e_ix3, e_ix4, e_eq1, e_eq2, e_eq3, e_lt1, e_le1, e_gt1, e_ge1, e_lt2, e_in1, e_app, e_ext, e_rev, e_clr, e_set, e_sl1, e_sl2, e_sl3, e_sl4, e_count, e_f1, e_f2, e_osh, e_owh, e_one, e_tt1, e_tt2, e_ctg1, e_ctg2, e_cn0, e_cn1, e_wi0, e_wi1, e_re0, e_re1, e_ifb1, e_ifb2, e_nm0, e_nm1, e_nm2, e_fa0, e_fa1, e_sum, e_allb, e_anyb, e_sp1, e_sp2, e_sp3, e_at0, e_at1, e_at2, e_at3, e_at4, e_at5, e_ixn40, e_ixn41, e_ixn42, e_ixn43, e_cp1, e_cp2, e_cp3, e_cp4, e_cp5, forall_eq, List.getD_cons_zero, List.getD_cons_succ, List.getD_nil, List.set_cons_zero, List.set_cons_succ, List.map_cons, List.map_nil, Option.map_some, Option.map_none, Option.bind_some, Option.bind_none, Option.getD_some, Option.some.injEq, exists_eq_left', exists_eq_left, exists_eq', exists_eq, decide_eq_true_eq, List.length_map, exists_eq_right, exists_and_left, exists_and_right, Option.isSome_some, T.int.injEq, T.str.injEq, T.lst.injEq, T.tup.injEq, T.bl.injEq, List.cons.injEq, Prod.mk.injEq, Hn.tm.injEq, true_and, and_true, and_assoc, and_self, ne_eq, not_false_eq_true, not_true_eq_false, ite_true, ite_false, if_true, if_false, reduceIte, reduceCtorEq, Bool.false_eq_true, false_and, and_false, imp_self, forall_const, implies_true, List.length_cons, List.length_nil, Nat.reduceAdd, Nat.reduceEqDiff, Bool.false_bne, Bool.true_bne, Bool.not_false, Bool.not_true, List.nil_append, List.cons_append, Int.reduceToNat, Int.reducePow, Int.reduceMul, Int.reduceSub, Int.reduceAdd, Int.reduceNeg, kt_NoneType_int, kt_NoneType_bool, kt_NoneType_str, kt_NoneType_list, kt_NoneType_tuple, kt_bool_int, kt_bool_bool, kt_bool_str, kt_bool_list, kt_bool_tuple, kt_int_int, kt_int_bool, kt_int_str, kt_int_list, kt_int_tuple, kt_str_int, kt_str_bool, kt_str_str, kt_str_list, kt_str_tuple, kt_list_int, kt_list_bool, kt_list_str, kt_list_list, kt_list_tuple, kt_tuple_int, kt_tuple_bool, kt_tuple_str, kt_tuple_list, kt_tuple_tuple, kt_dict_int, kt_dict_bool, kt_dict_str, kt_dict_list, kt_dict_tuple, e_ii_non, e_ii_bl, e_ii_int, e_ii_str, e_ii_lst, e_ii_scr, e_ii_tup, e_ii_dK, e_ii_dT, dShr, dNew, dNewL, dMeth, dProp, dCm, dFld, sFld, callK, lendK, noexP, Sl.io.injEq, Sl.sh.injEq, e_cnt, e_lkT, e_putT, e_isiC, e_isiC2, e_ii_ins, dCallL, e_argL, e_fl1, e_fl2, e_fl3, e_fl4, List.all_cons, List.all_nil, dDict, dDict0, e_keys0, e_keysS, e_keysI, e_cl_non, e_cl_bl, e_cl_int, e_cl_str, e_cl_lst, e_cl_scr, e_cl_tup, e_cl_dK, e_cl_dT, e_iq1, e_iq2, e_nn1, e_nn2, e_nn3, e_nn4, e_inp, e_ixd, Int.cast_ofNat_Int, Int.natCast_succ, decide_true, decide_false, Int.reduceEq, Int.reduceLT, Int.reduceLE, Int.reduceNe, Nat.reduceLT, Nat.reduceLeDiff, Bool.and_true, Bool.true_and, Bool.and_false, Bool.false_and, Bool.not_eq_true, Bool.or_true, Bool.or_false, Int.natCast_add, Int.natCast_one, Int.zero_add, Int.add_zero, sRaise, sTry, sGone, dHot, dIsE, sPick, e_spx1, e_spx2, e_spx3, told06_0 hu hv hw, c, countsS]
      exact hB
    · simp only [sSeq, sSet, sPar, sIf, sRet, sRetN, sDrop, sNext, sDead, sBrk, sCnt, sAsg, sFor, dNm, dTm, dC, dOp1, dOp2, dOpN, dMt, dMut, dCall, dLst, dTup, dNil, dCons, dVn, dVc, dSl, dSl3, dNoP, dPrt, dIf, dAndV, dOrV, dNotV, dBv, dTru, dNotT, dAndT, dOrT, dChn, dEqQ, dRpQ, qOp, qNil, qCons, qLs, qTp, dSrc, dRng1, dRng2, dZip2, dEnum, dComp, dYes, gNm, gTp, gCn, gNi, gIt, e_var, e_var1, e_var2, e_var3, e_var4, e_mov, e_mov1, e_mov2, e_mov3, e_mov4, e_tr1, e_tr2, e_tr3, e_tr4, e_tr5, e_own1, e_own2, e_reo1, e_reo2, e_of1, e_of2, e_pin1, e_pin2, e_pin3, e_arg1, e_arg2, e_arg3, e_arg4, e_isarg1, e_isarg2, e_conv1, e_conv2, e_conv3, e_conv4, e_conv5, e_conv6, e_sown1, e_sown2, e_sown3, e_sown4, e_put1, e_put2, e_po1, e_po2, e_p1, e_p2, e_ao1, e_ao2, e_nd0, e_nd1, e_nd2, e_sl, e_get1, e_get2, e_is, e_all, e_gets0, e_gets1, e_gets2, e_tms0, e_tms1, e_qg1, e_qg2, e_qg3, e_qgs0, e_qgs1, e_its1, e_its2, e_its3, e_its4, e_jts1, e_jts2, e_jts4, e_mt1, e_mt2, e_ty1, e_add1, e_add2, e_add3, e_sub, e_mul1, e_mul2, e_mul3, e_fdiv, e_mod, e_pow, e_neg, e_len1, e_len2, e_len3, e_len4, e_int1, e_int2, e_abs, e_max, e_min, e_ix1, e_ix2, e_ix3, e_ix4, e_eq1, e_eq2, e_eq3, e_lt1, e_le1, e_gt1, e_ge1, e_lt2, e_in1, e_app, e_ext, e_rev, e_clr, e_set, e_sl1, e_sl2, e_sl3, e_sl4, e_count, e_f1, e_f2, e_osh, e_owh, e_one, e_tt1, e_tt2, e_ctg1, e_ctg2, e_cn0, e_cn1, e_wi0, e_wi1, e_re0, e_re1, e_ifb1, e_ifb2, e_nm0, e_nm1, e_nm2, e_fa0, e_fa1, e_sum, e_allb, e_anyb, e_sp1, e_sp2, e_sp3, e_at0, e_at1, e_at2, e_at3, e_at4, e_at5, e_ixn40, e_ixn41, e_ixn42, e_ixn43, e_cp1, e_cp2, e_cp3, e_cp4, e_cp5, forall_eq, List.getD_cons_zero, List.getD_cons_succ, List.getD_nil, List.set_cons_zero, List.set_cons_succ, List.map_cons, List.map_nil, Option.map_some, Option.map_none, Option.bind_some, Option.bind_none, Option.getD_some, Option.some.injEq, exists_eq_left', exists_eq_left, exists_eq', exists_eq, decide_eq_true_eq, List.length_map, exists_eq_right, exists_and_left, exists_and_right, Option.isSome_some, T.int.injEq, T.str.injEq, T.lst.injEq, T.tup.injEq, T.bl.injEq, List.cons.injEq, Prod.mk.injEq, Hn.tm.injEq, true_and, and_true, and_assoc, and_self, ne_eq, not_false_eq_true, not_true_eq_false, ite_true, ite_false, if_true, if_false, reduceIte, reduceCtorEq, Bool.false_eq_true, false_and, and_false, imp_self, forall_const, implies_true, List.length_cons, List.length_nil, Nat.reduceAdd, Nat.reduceEqDiff, Bool.false_bne, Bool.true_bne, Bool.not_false, Bool.not_true, List.nil_append, List.cons_append, Int.reduceToNat, Int.reducePow, Int.reduceMul, Int.reduceSub, Int.reduceAdd, Int.reduceNeg, kt_NoneType_int, kt_NoneType_bool, kt_NoneType_str, kt_NoneType_list, kt_NoneType_tuple, kt_bool_int, kt_bool_bool, kt_bool_str, kt_bool_list, kt_bool_tuple, kt_int_int, kt_int_bool, kt_int_str, kt_int_list, kt_int_tuple, kt_str_int, kt_str_bool, kt_str_str, kt_str_list, kt_str_tuple, kt_list_int, kt_list_bool, kt_list_str, kt_list_list, kt_list_tuple, kt_tuple_int, kt_tuple_bool, kt_tuple_str, kt_tuple_list, kt_tuple_tuple, kt_dict_int, kt_dict_bool, kt_dict_str, kt_dict_list, kt_dict_tuple, e_ii_non, e_ii_bl, e_ii_int, e_ii_str, e_ii_lst, e_ii_scr, e_ii_tup, e_ii_dK, e_ii_dT, dShr, dNew, dNewL, dMeth, dProp, dCm, dFld, sFld, callK, lendK, noexP, Sl.io.injEq, Sl.sh.injEq, e_cnt, e_lkT, e_putT, e_isiC, e_isiC2, e_ii_ins, dCallL, e_argL, e_fl1, e_fl2, e_fl3, e_fl4, List.all_cons, List.all_nil, dDict, dDict0, e_keys0, e_keysS, e_keysI, e_cl_non, e_cl_bl, e_cl_int, e_cl_str, e_cl_lst, e_cl_scr, e_cl_tup, e_cl_dK, e_cl_dT, e_iq1, e_iq2, e_nn1, e_nn2, e_nn3, e_nn4, e_inp, e_ixd, Int.cast_ofNat_Int, Int.natCast_succ, decide_true, decide_false, Int.reduceEq, Int.reduceLT, Int.reduceLE, Int.reduceNe, Nat.reduceLT, Nat.reduceLeDiff, Bool.and_true, Bool.true_and, Bool.and_false, Bool.false_and, Bool.not_eq_true, Bool.or_true, Bool.or_false, Int.natCast_add, Int.natCast_one, Int.zero_add, Int.add_zero, sRaise, sTry, sGone, dHot, dIsE, sPick, e_spx1, e_spx2, e_spx3, ok_nil, eq_nil]
      exact ⟨by omega, hK _ rfl⟩
  subst e
  have c0 : cnt3 (.int a) (.int b) (.int 0) = true := cnt3_of ⟨d.a0, d.b0, by decide, ab0, d.cnt.a1, d.cnt.b1⟩
  have c1 : cnt3 (.int a) (.int b) (.int (a * b)) = true := cnt3_of ⟨d.a0, d.b0, ab0, Int.le_refl _, d.cnt.a1, d.cnt.b1⟩
  have c2 : cnt3 (.int a) (.int b) (.int p) = true := cnt3_of d.cnt
  have sab := (n62 (a * b) ab0 (by omega)).1
  simp only [sSeq, sSet, sPar, sIf, sRet, sRetN, sDrop, sNext, sDead, sBrk, sCnt, sAsg, sFor, dNm, dTm, dC, dOp1, dOp2, dOpN, dMt, dMut, dCall, dLst, dTup, dNil, dCons, dVn, dVc, dSl, dSl3, dNoP, dPrt, dIf, dAndV, dOrV, dNotV, dBv, dTru, dNotT, dAndT, dOrT, dChn, dEqQ, dRpQ, qOp, qNil, qCons, qLs, qTp, dSrc, dRng1, dRng2, dZip2, dEnum, dComp, dYes, gNm, gTp, gCn, gNi, gIt, e_var, e_var1, e_var2, e_var3, e_var4, e_mov, e_mov1, e_mov2, e_mov3, e_mov4, e_tr1, e_tr2, e_tr3, e_tr4, e_tr5, e_own1, e_own2, e_reo1, e_reo2, e_of1, e_of2, e_pin1, e_pin2, e_pin3, e_arg1, e_arg2, e_arg3, e_arg4, e_isarg1, e_isarg2, e_conv1, e_conv2, e_conv3, e_conv4, e_conv5, e_conv6, e_sown1, e_sown2, e_sown3, e_sown4, e_put1, e_put2, e_po1, e_po2, e_p1, e_p2, e_ao1, e_ao2, e_nd0, e_nd1, e_nd2, e_sl, e_get1, e_get2, e_is, e_all, e_gets0, e_gets1, e_gets2, e_tms0, e_tms1, e_qg1, e_qg2, e_qg3, e_qgs0, e_qgs1, e_its1, e_its2, e_its3, e_its4, e_jts1, e_jts2, e_jts4, e_mt1, e_mt2, e_ty1, e_add1, e_add2, e_add3, e_sub, e_mul1, e_mul2, e_mul3, e_fdiv, e_mod, e_pow, e_neg, e_len1, e_len2, e_len3, e_len4, e_int1, e_int2, e_abs, e_max, e_min, e_ix1, e_ix2, e_ix3, e_ix4, e_eq1, e_eq2, e_eq3, e_lt1, e_le1, e_gt1, e_ge1, e_lt2, e_in1, e_app, e_ext, e_rev, e_clr, e_set, e_sl1, e_sl2, e_sl3, e_sl4, e_count, e_f1, e_f2, e_osh, e_owh, e_one, e_tt1, e_tt2, e_ctg1, e_ctg2, e_cn0, e_cn1, e_wi0, e_wi1, e_re0, e_re1, e_ifb1, e_ifb2, e_nm0, e_nm1, e_nm2, e_fa0, e_fa1, e_sum, e_allb, e_anyb, e_sp1, e_sp2, e_sp3, e_at0, e_at1, e_at2, e_at3, e_at4, e_at5, e_ixn40, e_ixn41, e_ixn42, e_ixn43, e_cp1, e_cp2, e_cp3, e_cp4, e_cp5, forall_eq, List.getD_cons_zero, List.getD_cons_succ, List.getD_nil, List.set_cons_zero, List.set_cons_succ, List.map_cons, List.map_nil, Option.map_some, Option.map_none, Option.bind_some, Option.bind_none, Option.getD_some, Option.some.injEq, exists_eq_left', exists_eq_left, exists_eq', exists_eq, decide_eq_true_eq, List.length_map, exists_eq_right, exists_and_left, exists_and_right, Option.isSome_some, T.int.injEq, T.str.injEq, T.lst.injEq, T.tup.injEq, T.bl.injEq, List.cons.injEq, Prod.mk.injEq, Hn.tm.injEq, true_and, and_true, and_assoc, and_self, ne_eq, not_false_eq_true, not_true_eq_false, ite_true, ite_false, if_true, if_false, reduceIte, reduceCtorEq, Bool.false_eq_true, false_and, and_false, imp_self, forall_const, implies_true, List.length_cons, List.length_nil, Nat.reduceAdd, Nat.reduceEqDiff, Bool.false_bne, Bool.true_bne, Bool.not_false, Bool.not_true, List.nil_append, List.cons_append, Int.reduceToNat, Int.reducePow, Int.reduceMul, Int.reduceSub, Int.reduceAdd, Int.reduceNeg, kt_NoneType_int, kt_NoneType_bool, kt_NoneType_str, kt_NoneType_list, kt_NoneType_tuple, kt_bool_int, kt_bool_bool, kt_bool_str, kt_bool_list, kt_bool_tuple, kt_int_int, kt_int_bool, kt_int_str, kt_int_list, kt_int_tuple, kt_str_int, kt_str_bool, kt_str_str, kt_str_list, kt_str_tuple, kt_list_int, kt_list_bool, kt_list_str, kt_list_list, kt_list_tuple, kt_tuple_int, kt_tuple_bool, kt_tuple_str, kt_tuple_list, kt_tuple_tuple, kt_dict_int, kt_dict_bool, kt_dict_str, kt_dict_list, kt_dict_tuple, e_ii_non, e_ii_bl, e_ii_int, e_ii_str, e_ii_lst, e_ii_scr, e_ii_tup, e_ii_dK, e_ii_dT, dShr, dNew, dNewL, dMeth, dProp, dCm, dFld, sFld, callK, lendK, noexP, Sl.io.injEq, Sl.sh.injEq, e_cnt, e_lkT, e_putT, e_isiC, e_isiC2, e_ii_ins, dCallL, e_argL, e_fl1, e_fl2, e_fl3, e_fl4, List.all_cons, List.all_nil, dDict, dDict0, e_keys0, e_keysS, e_keysI, e_cl_non, e_cl_bl, e_cl_int, e_cl_str, e_cl_lst, e_cl_scr, e_cl_tup, e_cl_dK, e_cl_dT, e_iq1, e_iq2, e_nn1, e_nn2, e_nn3, e_nn4, e_inp, e_ixd, Int.cast_ofNat_Int, Int.natCast_succ, decide_true, decide_false, Int.reduceEq, Int.reduceLT, Int.reduceLE, Int.reduceNe, Nat.reduceLT, Nat.reduceLeDiff, Bool.and_true, Bool.true_and, Bool.and_false, Bool.false_and, Bool.not_eq_true, Bool.or_true, Bool.or_false, Int.natCast_add, Int.natCast_one, Int.zero_add, Int.add_zero, sRaise, sTry, sGone, dHot, dIsE, sPick, e_spx1, e_spx2, e_spx3, mb]
  refine ⟨by omega, by omega, by omega, ?_⟩
  refine comp_noneT (fun v m A B hB => ?_) (by simp; omega) ?_
  · simp only [List.mem_cons, List.not_mem_nil, or_false] at m
    rcases m with rfl | rfl | rfl
    · simp only [sSeq, sSet, sPar, sIf, sRet, sRetN, sDrop, sNext, sDead, sBrk, sCnt, sAsg, sFor, dNm, dTm, dC, dOp1, dOp2, dOpN, dMt, dMut, dCall, dLst, dTup, dNil, dCons, dVn, dVc, dSl, dSl3, dNoP, dPrt, dIf, dAndV, dOrV, dNotV, dBv, dTru, dNotT, dAndT, dOrT, dChn, dEqQ, dRpQ, qOp, qNil, qCons, qLs, qTp, dSrc, dRng1, dRng2, dZip2, dEnum, dComp, dYes, gNm, gTp, gCn, gNi, gIt, e_var, e_var1, e_var2, e_var3, e_var4, e_mov, e_mov1, e_mov2, e_mov3, e_mov4, e_tr1, e_tr2, e_tr3, e_tr4, e_tr5, e_own1, e_own2, e_reo1, e_reo2, e_of1, e_of2, e_pin1, e_pin2, e_pin3, e_arg1, e_arg2, e_arg3, e_arg4, e_isarg1, e_isarg2, e_conv1, e_conv2, e_conv3, e_conv4, e_conv5, e_conv6, e_sown1, e_sown2, e_sown3, e_sown4, e_put1, e_put2, e_po1, e_po2, e_p1, e_p2, e_ao1, e_ao2, e_nd0, e_nd1, e_nd2, e_sl, e_get1, e_get2, e_is, e_all, e_gets0, e_gets1, e_gets2, e_tms0, e_tms1, e_qg1, e_qg2, e_qg3, e_qgs0, e_qgs1, e_its1, e_its2, e_its3, e_its4, e_jts1, e_jts2, e_jts4, e_mt1, e_mt2, e_ty1, e_add1, e_add2, e_add3, e_sub, e_mul1, e_mul2, e_mul3, e_fdiv, e_mod, e_pow, e_neg, e_len1, e_len2, e_len3, e_len4, e_int1, e_int2, e_abs, e_max, e_min, e_ix1, e_ix2, e_ix3, e_ix4, e_eq1, e_eq2, e_eq3, e_lt1, e_le1, e_gt1, e_ge1, e_lt2, e_in1, e_app, e_ext, e_rev, e_clr, e_set, e_sl1, e_sl2, e_sl3, e_sl4, e_count, e_f1, e_f2, e_osh, e_owh, e_one, e_tt1, e_tt2, e_ctg1, e_ctg2, e_cn0, e_cn1, e_wi0, e_wi1, e_re0, e_re1, e_ifb1, e_ifb2, e_nm0, e_nm1, e_nm2, e_fa0, e_fa1, e_sum, e_allb, e_anyb, e_sp1, e_sp2, e_sp3, e_at0, e_at1, e_at2, e_at3, e_at4, e_at5, e_ixn40, e_ixn41, e_ixn42, e_ixn43, e_cp1, e_cp2, e_cp3, e_cp4, e_cp5, forall_eq, List.getD_cons_zero, List.getD_cons_succ, List.getD_nil, List.set_cons_zero, List.set_cons_succ, List.map_cons, List.map_nil, Option.map_some, Option.map_none, Option.bind_some, Option.bind_none, Option.getD_some, Option.some.injEq, exists_eq_left', exists_eq_left, exists_eq', exists_eq, decide_eq_true_eq, List.length_map, exists_eq_right, exists_and_left, exists_and_right, Option.isSome_some, T.int.injEq, T.str.injEq, T.lst.injEq, T.tup.injEq, T.bl.injEq, List.cons.injEq, Prod.mk.injEq, Hn.tm.injEq, true_and, and_true, and_assoc, and_self, ne_eq, not_false_eq_true, not_true_eq_false, ite_true, ite_false, if_true, if_false, reduceIte, reduceCtorEq, Bool.false_eq_true, false_and, and_false, imp_self, forall_const, implies_true, List.length_cons, List.length_nil, Nat.reduceAdd, Nat.reduceEqDiff, Bool.false_bne, Bool.true_bne, Bool.not_false, Bool.not_true, List.nil_append, List.cons_append, Int.reduceToNat, Int.reducePow, Int.reduceMul, Int.reduceSub, Int.reduceAdd, Int.reduceNeg, kt_NoneType_int, kt_NoneType_bool, kt_NoneType_str, kt_NoneType_list, kt_NoneType_tuple, kt_bool_int, kt_bool_bool, kt_bool_str, kt_bool_list, kt_bool_tuple, kt_int_int, kt_int_bool, kt_int_str, kt_int_list, kt_int_tuple, kt_str_int, kt_str_bool, kt_str_str, kt_str_list, kt_str_tuple, kt_list_int, kt_list_bool, kt_list_str, kt_list_list, kt_list_tuple, kt_tuple_int, kt_tuple_bool, kt_tuple_str, kt_tuple_list, kt_tuple_tuple, kt_dict_int, kt_dict_bool, kt_dict_str, kt_dict_list, kt_dict_tuple, e_ii_non, e_ii_bl, e_ii_int, e_ii_str, e_ii_lst, e_ii_scr, e_ii_tup, e_ii_dK, e_ii_dT, dShr, dNew, dNewL, dMeth, dProp, dCm, dFld, sFld, callK, lendK, noexP, Sl.io.injEq, Sl.sh.injEq, e_cnt, e_lkT, e_putT, e_isiC, e_isiC2, e_ii_ins, dCallL, e_argL, e_fl1, e_fl2, e_fl3, e_fl4, List.all_cons, List.all_nil, dDict, dDict0, e_keys0, e_keysS, e_keysI, e_cl_non, e_cl_bl, e_cl_int, e_cl_str, e_cl_lst, e_cl_scr, e_cl_tup, e_cl_dK, e_cl_dT, e_iq1, e_iq2, e_nn1, e_nn2, e_nn3, e_nn4, e_inp, e_ixd, Int.cast_ofNat_Int, Int.natCast_succ, decide_true, decide_false, Int.reduceEq, Int.reduceLT, Int.reduceLE, Int.reduceNe, Nat.reduceLT, Nat.reduceLeDiff, Bool.and_true, Bool.true_and, Bool.and_false, Bool.false_and, Bool.not_eq_true, Bool.or_true, Bool.or_false, Int.natCast_add, Int.natCast_one, Int.zero_add, Int.add_zero, sRaise, sTry, sGone, dHot, dIsE, sPick, e_spx1, e_spx2, e_spx3, tri, told06_0 sa sb sp, c2, fineT]
      exact hB
    · simp only [sSeq, sSet, sPar, sIf, sRet, sRetN, sDrop, sNext, sDead, sBrk, sCnt, sAsg, sFor, dNm, dTm, dC, dOp1, dOp2, dOpN, dMt, dMut, dCall, dLst, dTup, dNil, dCons, dVn, dVc, dSl, dSl3, dNoP, dPrt, dIf, dAndV, dOrV, dNotV, dBv, dTru, dNotT, dAndT, dOrT, dChn, dEqQ, dRpQ, qOp, qNil, qCons, qLs, qTp, dSrc, dRng1, dRng2, dZip2, dEnum, dComp, dYes, gNm, gTp, gCn, gNi, gIt, e_var, e_var1, e_var2, e_var3, e_var4, e_mov, e_mov1, e_mov2, e_mov3, e_mov4, e_tr1, e_tr2, e_tr3, e_tr4, e_tr5, e_own1, e_own2, e_reo1, e_reo2, e_of1, e_of2, e_pin1, e_pin2, e_pin3, e_arg1, e_arg2, e_arg3, e_arg4, e_isarg1, e_isarg2, e_conv1, e_conv2, e_conv3, e_conv4, e_conv5, e_conv6, e_sown1, e_sown2, e_sown3, e_sown4, e_put1, e_put2, e_po1, e_po2, e_p1, e_p2, e_ao1, e_ao2, e_nd0, e_nd1, e_nd2, e_sl, e_get1, e_get2, e_is, e_all, e_gets0, e_gets1, e_gets2, e_tms0, e_tms1, e_qg1, e_qg2, e_qg3, e_qgs0, e_qgs1, e_its1, e_its2, e_its3, e_its4, e_jts1, e_jts2, e_jts4, e_mt1, e_mt2, e_ty1, e_add1, e_add2, e_add3, e_sub, e_mul1, e_mul2, e_mul3, e_fdiv, e_mod, e_pow, e_neg, e_len1, e_len2, e_len3, e_len4, e_int1, e_int2, e_abs, e_max, e_min, e_ix1, e_ix2, e_ix3, e_ix4, e_eq1, e_eq2, e_eq3, e_lt1, e_le1, e_gt1, e_ge1, e_lt2, e_in1, e_app, e_ext, e_rev, e_clr, e_set, e_sl1, e_sl2, e_sl3, e_sl4, e_count, e_f1, e_f2, e_osh, e_owh, e_one, e_tt1, e_tt2, e_ctg1, e_ctg2, e_cn0, e_cn1, e_wi0, e_wi1, e_re0, e_re1, e_ifb1, e_ifb2, e_nm0, e_nm1, e_nm2, e_fa0, e_fa1, e_sum, e_allb, e_anyb, e_sp1, e_sp2, e_sp3, e_at0, e_at1, e_at2, e_at3, e_at4, e_at5, e_ixn40, e_ixn41, e_ixn42, e_ixn43, e_cp1, e_cp2, e_cp3, e_cp4, e_cp5, forall_eq, List.getD_cons_zero, List.getD_cons_succ, List.getD_nil, List.set_cons_zero, List.set_cons_succ, List.map_cons, List.map_nil, Option.map_some, Option.map_none, Option.bind_some, Option.bind_none, Option.getD_some, Option.some.injEq, exists_eq_left', exists_eq_left, exists_eq', exists_eq, decide_eq_true_eq, List.length_map, exists_eq_right, exists_and_left, exists_and_right, Option.isSome_some, T.int.injEq, T.str.injEq, T.lst.injEq, T.tup.injEq, T.bl.injEq, List.cons.injEq, Prod.mk.injEq, Hn.tm.injEq, true_and, and_true, and_assoc, and_self, ne_eq, not_false_eq_true, not_true_eq_false, ite_true, ite_false, if_true, if_false, reduceIte, reduceCtorEq, Bool.false_eq_true, false_and, and_false, imp_self, forall_const, implies_true, List.length_cons, List.length_nil, Nat.reduceAdd, Nat.reduceEqDiff, Bool.false_bne, Bool.true_bne, Bool.not_false, Bool.not_true, List.nil_append, List.cons_append, Int.reduceToNat, Int.reducePow, Int.reduceMul, Int.reduceSub, Int.reduceAdd, Int.reduceNeg, kt_NoneType_int, kt_NoneType_bool, kt_NoneType_str, kt_NoneType_list, kt_NoneType_tuple, kt_bool_int, kt_bool_bool, kt_bool_str, kt_bool_list, kt_bool_tuple, kt_int_int, kt_int_bool, kt_int_str, kt_int_list, kt_int_tuple, kt_str_int, kt_str_bool, kt_str_str, kt_str_list, kt_str_tuple, kt_list_int, kt_list_bool, kt_list_str, kt_list_list, kt_list_tuple, kt_tuple_int, kt_tuple_bool, kt_tuple_str, kt_tuple_list, kt_tuple_tuple, kt_dict_int, kt_dict_bool, kt_dict_str, kt_dict_list, kt_dict_tuple, e_ii_non, e_ii_bl, e_ii_int, e_ii_str, e_ii_lst, e_ii_scr, e_ii_tup, e_ii_dK, e_ii_dT, dShr, dNew, dNewL, dMeth, dProp, dCm, dFld, sFld, callK, lendK, noexP, Sl.io.injEq, Sl.sh.injEq, e_cnt, e_lkT, e_putT, e_isiC, e_isiC2, e_ii_ins, dCallL, e_argL, e_fl1, e_fl2, e_fl3, e_fl4, List.all_cons, List.all_nil, dDict, dDict0, e_keys0, e_keysS, e_keysI, e_cl_non, e_cl_bl, e_cl_int, e_cl_str, e_cl_lst, e_cl_scr, e_cl_tup, e_cl_dK, e_cl_dT, e_iq1, e_iq2, e_nn1, e_nn2, e_nn3, e_nn4, e_inp, e_ixd, Int.cast_ofNat_Int, Int.natCast_succ, decide_true, decide_false, Int.reduceEq, Int.reduceLT, Int.reduceLE, Int.reduceNe, Nat.reduceLT, Nat.reduceLeDiff, Bool.and_true, Bool.true_and, Bool.and_false, Bool.false_and, Bool.not_eq_true, Bool.or_true, Bool.or_false, Int.natCast_add, Int.natCast_one, Int.zero_add, Int.add_zero, sRaise, sTry, sGone, dHot, dIsE, sPick, e_spx1, e_spx2, e_spx3, told06_0 sa sb n0.1, c0, fineT]
      exact hB
    · simp only [sSeq, sSet, sPar, sIf, sRet, sRetN, sDrop, sNext, sDead, sBrk, sCnt, sAsg, sFor, dNm, dTm, dC, dOp1, dOp2, dOpN, dMt, dMut, dCall, dLst, dTup, dNil, dCons, dVn, dVc, dSl, dSl3, dNoP, dPrt, dIf, dAndV, dOrV, dNotV, dBv, dTru, dNotT, dAndT, dOrT, dChn, dEqQ, dRpQ, qOp, qNil, qCons, qLs, qTp, dSrc, dRng1, dRng2, dZip2, dEnum, dComp, dYes, gNm, gTp, gCn, gNi, gIt, e_var, e_var1, e_var2, e_var3, e_var4, e_mov, e_mov1, e_mov2, e_mov3, e_mov4, e_tr1, e_tr2, e_tr3, e_tr4, e_tr5, e_own1, e_own2, e_reo1, e_reo2, e_of1, e_of2, e_pin1, e_pin2, e_pin3, e_arg1, e_arg2, e_arg3, e_arg4, e_isarg1, e_isarg2, e_conv1, e_conv2, e_conv3, e_conv4, e_conv5, e_conv6, e_sown1, e_sown2, e_sown3, e_sown4, e_put1, e_put2, e_po1, e_po2, e_p1, e_p2, e_ao1, e_ao2, e_nd0, e_nd1, e_nd2, e_sl, e_get1, e_get2, e_is, e_all, e_gets0, e_gets1, e_gets2, e_tms0, e_tms1, e_qg1, e_qg2, e_qg3, e_qgs0, e_qgs1, e_its1, e_its2, e_its3, e_its4, e_jts1, e_jts2, e_jts4, e_mt1, e_mt2, e_ty1, e_add1, e_add2, e_add3, e_sub, e_mul1, e_mul2, e_mul3, e_fdiv, e_mod, e_pow, e_neg, e_len1, e_len2, e_len3, e_len4, e_int1, e_int2, e_abs, e_max, e_min, e_ix1, e_ix2, e_ix3, e_ix4, e_eq1, e_eq2, e_eq3, e_lt1, e_le1, e_gt1, e_ge1, e_lt2, e_in1, e_app, e_ext, e_rev, e_clr, e_set, e_sl1, e_sl2, e_sl3, e_sl4, e_count, e_f1, e_f2, e_osh, e_owh, e_one, e_tt1, e_tt2, e_ctg1, e_ctg2, e_cn0, e_cn1, e_wi0, e_wi1, e_re0, e_re1, e_ifb1, e_ifb2, e_nm0, e_nm1, e_nm2, e_fa0, e_fa1, e_sum, e_allb, e_anyb, e_sp1, e_sp2, e_sp3, e_at0, e_at1, e_at2, e_at3, e_at4, e_at5, e_ixn40, e_ixn41, e_ixn42, e_ixn43, e_cp1, e_cp2, e_cp3, e_cp4, e_cp5, forall_eq, List.getD_cons_zero, List.getD_cons_succ, List.getD_nil, List.set_cons_zero, List.set_cons_succ, List.map_cons, List.map_nil, Option.map_some, Option.map_none, Option.bind_some, Option.bind_none, Option.getD_some, Option.some.injEq, exists_eq_left', exists_eq_left, exists_eq', exists_eq, decide_eq_true_eq, List.length_map, exists_eq_right, exists_and_left, exists_and_right, Option.isSome_some, T.int.injEq, T.str.injEq, T.lst.injEq, T.tup.injEq, T.bl.injEq, List.cons.injEq, Prod.mk.injEq, Hn.tm.injEq, true_and, and_true, and_assoc, and_self, ne_eq, not_false_eq_true, not_true_eq_false, ite_true, ite_false, if_true, if_false, reduceIte, reduceCtorEq, Bool.false_eq_true, false_and, and_false, imp_self, forall_const, implies_true, List.length_cons, List.length_nil, Nat.reduceAdd, Nat.reduceEqDiff, Bool.false_bne, Bool.true_bne, Bool.not_false, Bool.not_true, List.nil_append, List.cons_append, Int.reduceToNat, Int.reducePow, Int.reduceMul, Int.reduceSub, Int.reduceAdd, Int.reduceNeg, kt_NoneType_int, kt_NoneType_bool, kt_NoneType_str, kt_NoneType_list, kt_NoneType_tuple, kt_bool_int, kt_bool_bool, kt_bool_str, kt_bool_list, kt_bool_tuple, kt_int_int, kt_int_bool, kt_int_str, kt_int_list, kt_int_tuple, kt_str_int, kt_str_bool, kt_str_str, kt_str_list, kt_str_tuple, kt_list_int, kt_list_bool, kt_list_str, kt_list_list, kt_list_tuple, kt_tuple_int, kt_tuple_bool, kt_tuple_str, kt_tuple_list, kt_tuple_tuple, kt_dict_int, kt_dict_bool, kt_dict_str, kt_dict_list, kt_dict_tuple, e_ii_non, e_ii_bl, e_ii_int, e_ii_str, e_ii_lst, e_ii_scr, e_ii_tup, e_ii_dK, e_ii_dT, dShr, dNew, dNewL, dMeth, dProp, dCm, dFld, sFld, callK, lendK, noexP, Sl.io.injEq, Sl.sh.injEq, e_cnt, e_lkT, e_putT, e_isiC, e_isiC2, e_ii_ins, dCallL, e_argL, e_fl1, e_fl2, e_fl3, e_fl4, List.all_cons, List.all_nil, dDict, dDict0, e_keys0, e_keysS, e_keysI, e_cl_non, e_cl_bl, e_cl_int, e_cl_str, e_cl_lst, e_cl_scr, e_cl_tup, e_cl_dK, e_cl_dT, e_iq1, e_iq2, e_nn1, e_nn2, e_nn3, e_nn4, e_inp, e_ixd, Int.cast_ofNat_Int, Int.natCast_succ, decide_true, decide_false, Int.reduceEq, Int.reduceLT, Int.reduceLE, Int.reduceNe, Nat.reduceLT, Nat.reduceLeDiff, Bool.and_true, Bool.true_and, Bool.and_false, Bool.false_and, Bool.not_eq_true, Bool.or_true, Bool.or_false, Int.natCast_add, Int.natCast_one, Int.zero_add, Int.add_zero, sRaise, sTry, sGone, dHot, dIsE, sPick, e_spx1, e_spx2, e_spx3, told06_0 sa sb sab, c1, fineT]
      exact hB
  · simp only [sSeq, sSet, sPar, sIf, sRet, sRetN, sDrop, sNext, sDead, sBrk, sCnt, sAsg, sFor, dNm, dTm, dC, dOp1, dOp2, dOpN, dMt, dMut, dCall, dLst, dTup, dNil, dCons, dVn, dVc, dSl, dSl3, dNoP, dPrt, dIf, dAndV, dOrV, dNotV, dBv, dTru, dNotT, dAndT, dOrT, dChn, dEqQ, dRpQ, qOp, qNil, qCons, qLs, qTp, dSrc, dRng1, dRng2, dZip2, dEnum, dComp, dYes, gNm, gTp, gCn, gNi, gIt, e_var, e_var1, e_var2, e_var3, e_var4, e_mov, e_mov1, e_mov2, e_mov3, e_mov4, e_tr1, e_tr2, e_tr3, e_tr4, e_tr5, e_own1, e_own2, e_reo1, e_reo2, e_of1, e_of2, e_pin1, e_pin2, e_pin3, e_arg1, e_arg2, e_arg3, e_arg4, e_isarg1, e_isarg2, e_conv1, e_conv2, e_conv3, e_conv4, e_conv5, e_conv6, e_sown1, e_sown2, e_sown3, e_sown4, e_put1, e_put2, e_po1, e_po2, e_p1, e_p2, e_ao1, e_ao2, e_nd0, e_nd1, e_nd2, e_sl, e_get1, e_get2, e_is, e_all, e_gets0, e_gets1, e_gets2, e_tms0, e_tms1, e_qg1, e_qg2, e_qg3, e_qgs0, e_qgs1, e_its1, e_its2, e_its3, e_its4, e_jts1, e_jts2, e_jts4, e_mt1, e_mt2, e_ty1, e_add1, e_add2, e_add3, e_sub, e_mul1, e_mul2, e_mul3, e_fdiv, e_mod, e_pow, e_neg, e_len1, e_len2, e_len3, e_len4, e_int1, e_int2, e_abs, e_max, e_min, e_ix1, e_ix2, e_ix3, e_ix4, e_eq1, e_eq2, e_eq3, e_lt1, e_le1, e_gt1, e_ge1, e_lt2, e_in1, e_app, e_ext, e_rev, e_clr, e_set, e_sl1, e_sl2, e_sl3, e_sl4, e_count, e_f1, e_f2, e_osh, e_owh, e_one, e_tt1, e_tt2, e_ctg1, e_ctg2, e_cn0, e_cn1, e_wi0, e_wi1, e_re0, e_re1, e_ifb1, e_ifb2, e_nm0, e_nm1, e_nm2, e_fa0, e_fa1, e_sum, e_allb, e_anyb, e_sp1, e_sp2, e_sp3, e_at0, e_at1, e_at2, e_at3, e_at4, e_at5, e_ixn40, e_ixn41, e_ixn42, e_ixn43, e_cp1, e_cp2, e_cp3, e_cp4, e_cp5, forall_eq, List.getD_cons_zero, List.getD_cons_succ, List.getD_nil, List.set_cons_zero, List.set_cons_succ, List.map_cons, List.map_nil, Option.map_some, Option.map_none, Option.bind_some, Option.bind_none, Option.getD_some, Option.some.injEq, exists_eq_left', exists_eq_left, exists_eq', exists_eq, decide_eq_true_eq, List.length_map, exists_eq_right, exists_and_left, exists_and_right, Option.isSome_some, T.int.injEq, T.str.injEq, T.lst.injEq, T.tup.injEq, T.bl.injEq, List.cons.injEq, Prod.mk.injEq, Hn.tm.injEq, true_and, and_true, and_assoc, and_self, ne_eq, not_false_eq_true, not_true_eq_false, ite_true, ite_false, if_true, if_false, reduceIte, reduceCtorEq, Bool.false_eq_true, false_and, and_false, imp_self, forall_const, implies_true, List.length_cons, List.length_nil, Nat.reduceAdd, Nat.reduceEqDiff, Bool.false_bne, Bool.true_bne, Bool.not_false, Bool.not_true, List.nil_append, List.cons_append, Int.reduceToNat, Int.reducePow, Int.reduceMul, Int.reduceSub, Int.reduceAdd, Int.reduceNeg, kt_NoneType_int, kt_NoneType_bool, kt_NoneType_str, kt_NoneType_list, kt_NoneType_tuple, kt_bool_int, kt_bool_bool, kt_bool_str, kt_bool_list, kt_bool_tuple, kt_int_int, kt_int_bool, kt_int_str, kt_int_list, kt_int_tuple, kt_str_int, kt_str_bool, kt_str_str, kt_str_list, kt_str_tuple, kt_list_int, kt_list_bool, kt_list_str, kt_list_list, kt_list_tuple, kt_tuple_int, kt_tuple_bool, kt_tuple_str, kt_tuple_list, kt_tuple_tuple, kt_dict_int, kt_dict_bool, kt_dict_str, kt_dict_list, kt_dict_tuple, e_ii_non, e_ii_bl, e_ii_int, e_ii_str, e_ii_lst, e_ii_scr, e_ii_tup, e_ii_dK, e_ii_dT, dShr, dNew, dNewL, dMeth, dProp, dCm, dFld, sFld, callK, lendK, noexP, Sl.io.injEq, Sl.sh.injEq, e_cnt, e_lkT, e_putT, e_isiC, e_isiC2, e_ii_ins, dCallL, e_argL, e_fl1, e_fl2, e_fl3, e_fl4, List.all_cons, List.all_nil, dDict, dDict0, e_keys0, e_keysS, e_keysI, e_cl_non, e_cl_bl, e_cl_int, e_cl_str, e_cl_lst, e_cl_scr, e_cl_tup, e_cl_dK, e_cl_dT, e_iq1, e_iq2, e_nn1, e_nn2, e_nn3, e_nn4, e_inp, e_ixd, Int.cast_ofNat_Int, Int.natCast_succ, decide_true, decide_false, Int.reduceEq, Int.reduceLT, Int.reduceLE, Int.reduceNe, Nat.reduceLT, Nat.reduceLeDiff, Bool.and_true, Bool.true_and, Bool.and_false, Bool.false_and, Bool.not_eq_true, Bool.or_true, Bool.or_false, Int.natCast_add, Int.natCast_one, Int.zero_add, Int.add_zero, sRaise, sTry, sGone, dHot, dIsE, sPick, e_spx1, e_spx2, e_spx3, ok_nil, eq_nil, dRpD, hr]
    exact ⟨by omega, q t ir⟩
theorem loop_law_06 (Q : PoS) (s0 : Sl) : ∀ (xs : List Int) (t : T) (s2 s3 s4 : Sl), s2.pin = false → s3.pin = false → s4 = .no → IsReel t → (∀ x ∈ xs, 0 ≤ x) →
    (∀ t' s2 s3, Q.nx [s0, .ow t', s2, s3, .no]) → forD (gNm 2) (B_law_6_1 SWord SRight06 (SP fTold06) SNo) Q (xs.map T.int) [s0, .ow t, s2, s3, s4]
  | [], t, s2, s3, s4, h2, h3, h4, it, hx, q => by subst h4; exact q t s2 s3
  | x :: xs, t, s2, s3, s4, h2, h3, h4, it, hx, q => by
    have hs := sizeLine_eq
    subst h4
    refine forD_step fun K hK => ?_
    have m0 := Int.emod_nonneg x (show (2 : Int) ≠ 0 by decide)
    have m1 := Int.emod_lt_of_pos x (show (0 : Int) < 2 by decide)
    obtain ⟨y, ym, ey⟩ := pick_int (ns := [200, 7]) m0 m1
    simp only [List.map_cons, List.map_nil] at ey
    have hy : y = 200 ∨ y = 7 := by simpa using ym
    simp only [sSeq, sSet, sPar, sIf, sRet, sRetN, sDrop, sNext, sDead, sBrk, sCnt, sAsg, sFor, dNm, dTm, dC, dOp1, dOp2, dOpN, dMt, dMut, dCall, dLst, dTup, dNil, dCons, dVn, dVc, dSl, dSl3, dNoP, dPrt, dIf, dAndV, dOrV, dNotV, dBv, dTru, dNotT, dAndT, dOrT, dChn, dEqQ, dRpQ, qOp, qNil, qCons, qLs, qTp, dSrc, dRng1, dRng2, dZip2, dEnum, dComp, dYes, gNm, gTp, gCn, gNi, gIt, e_var, e_var1, e_var2, e_var3, e_var4, e_mov, e_mov1, e_mov2, e_mov3, e_mov4, e_tr1, e_tr2, e_tr3, e_tr4, e_tr5, e_own1, e_own2, e_reo1, e_reo2, e_of1, e_of2, e_pin1, e_pin2, e_pin3, e_arg1, e_arg2, e_arg3, e_arg4, e_isarg1, e_isarg2, e_conv1, e_conv2, e_conv3, e_conv4, e_conv5, e_conv6, e_sown1, e_sown2, e_sown3, e_sown4, e_put1, e_put2, e_po1, e_po2, e_p1, e_p2, e_ao1, e_ao2, e_nd0, e_nd1, e_nd2, e_sl, e_get1, e_get2, e_is, e_all, e_gets0, e_gets1, e_gets2, e_tms0, e_tms1, e_qg1, e_qg2, e_qg3, e_qgs0, e_qgs1, e_its1, e_its2, e_its3, e_its4, e_jts1, e_jts2, e_jts4, e_mt1, e_mt2, e_ty1, e_add1, e_add2, e_add3, e_sub, e_mul1, e_mul2, e_mul3, e_fdiv, e_mod, e_pow, e_neg, e_len1, e_len2, e_len3, e_len4, e_int1, e_int2, e_abs, e_max, e_min, e_ix1, e_ix2, e_ix3, e_ix4, e_eq1, e_eq2, e_eq3, e_lt1, e_le1, e_gt1, e_ge1, e_lt2, e_in1, e_app, e_ext, e_rev, e_clr, e_set, e_sl1, e_sl2, e_sl3, e_sl4, e_count, e_f1, e_f2, e_osh, e_owh, e_one, e_tt1, e_tt2, e_ctg1, e_ctg2, e_cn0, e_cn1, e_wi0, e_wi1, e_re0, e_re1, e_ifb1, e_ifb2, e_nm0, e_nm1, e_nm2, e_fa0, e_fa1, e_sum, e_allb, e_anyb, e_sp1, e_sp2, e_sp3, e_at0, e_at1, e_at2, e_at3, e_at4, e_at5, e_ixn40, e_ixn41, e_ixn42, e_ixn43, e_cp1, e_cp2, e_cp3, e_cp4, e_cp5, forall_eq, List.getD_cons_zero, List.getD_cons_succ, List.getD_nil, List.set_cons_zero, List.set_cons_succ, List.map_cons, List.map_nil, Option.map_some, Option.map_none, Option.bind_some, Option.bind_none, Option.getD_some, Option.some.injEq, exists_eq_left', exists_eq_left, exists_eq', exists_eq, decide_eq_true_eq, List.length_map, exists_eq_right, exists_and_left, exists_and_right, Option.isSome_some, T.int.injEq, T.str.injEq, T.lst.injEq, T.tup.injEq, T.bl.injEq, List.cons.injEq, Prod.mk.injEq, Hn.tm.injEq, true_and, and_true, and_assoc, and_self, ne_eq, not_false_eq_true, not_true_eq_false, ite_true, ite_false, if_true, if_false, reduceIte, reduceCtorEq, Bool.false_eq_true, false_and, and_false, imp_self, forall_const, implies_true, List.length_cons, List.length_nil, Nat.reduceAdd, Nat.reduceEqDiff, Bool.false_bne, Bool.true_bne, Bool.not_false, Bool.not_true, List.nil_append, List.cons_append, Int.reduceToNat, Int.reducePow, Int.reduceMul, Int.reduceSub, Int.reduceAdd, Int.reduceNeg, kt_NoneType_int, kt_NoneType_bool, kt_NoneType_str, kt_NoneType_list, kt_NoneType_tuple, kt_bool_int, kt_bool_bool, kt_bool_str, kt_bool_list, kt_bool_tuple, kt_int_int, kt_int_bool, kt_int_str, kt_int_list, kt_int_tuple, kt_str_int, kt_str_bool, kt_str_str, kt_str_list, kt_str_tuple, kt_list_int, kt_list_bool, kt_list_str, kt_list_list, kt_list_tuple, kt_tuple_int, kt_tuple_bool, kt_tuple_str, kt_tuple_list, kt_tuple_tuple, kt_dict_int, kt_dict_bool, kt_dict_str, kt_dict_list, kt_dict_tuple, e_ii_non, e_ii_bl, e_ii_int, e_ii_str, e_ii_lst, e_ii_scr, e_ii_tup, e_ii_dK, e_ii_dT, dShr, dNew, dNewL, dMeth, dProp, dCm, dFld, sFld, callK, lendK, noexP, Sl.io.injEq, Sl.sh.injEq, e_cnt, e_lkT, e_putT, e_isiC, e_isiC2, e_ii_ins, dCallL, e_argL, e_fl1, e_fl2, e_fl3, e_fl4, List.all_cons, List.all_nil, dDict, dDict0, e_keys0, e_keysS, e_keysI, e_cl_non, e_cl_bl, e_cl_int, e_cl_str, e_cl_lst, e_cl_scr, e_cl_tup, e_cl_dK, e_cl_dT, e_iq1, e_iq2, e_nn1, e_nn2, e_nn3, e_nn4, e_inp, e_ixd, Int.cast_ofNat_Int, Int.natCast_succ, decide_true, decide_false, Int.reduceEq, Int.reduceLT, Int.reduceLE, Int.reduceNe, Nat.reduceLT, Nat.reduceLeDiff, Bool.and_true, Bool.true_and, Bool.and_false, Bool.false_and, Bool.not_eq_true, Bool.or_true, Bool.or_false, Int.natCast_add, Int.natCast_one, Int.zero_add, Int.add_zero, sRaise, sTry, sGone, dHot, dIsE, sPick, e_spx1, e_spx2, e_spx3, h2, B_law_6_1, ey, e_sword, h3]
    refine ⟨by omega, it, by omega, by omega, fun t2 l i2 ab l0 l1 => ?_⟩
    have r := rowB_of ab (by omega)
    have k1 := told06_1 (t := .str l) (show l.length ≤ sizeLine by omega)
    rw [if_pos (show isRowB (.str l) = true from r)] at k1
    simp only [sSeq, sSet, sPar, sIf, sRet, sRetN, sDrop, sNext, sDead, sBrk, sCnt, sAsg, sFor, dNm, dTm, dC, dOp1, dOp2, dOpN, dMt, dMut, dCall, dLst, dTup, dNil, dCons, dVn, dVc, dSl, dSl3, dNoP, dPrt, dIf, dAndV, dOrV, dNotV, dBv, dTru, dNotT, dAndT, dOrT, dChn, dEqQ, dRpQ, qOp, qNil, qCons, qLs, qTp, dSrc, dRng1, dRng2, dZip2, dEnum, dComp, dYes, gNm, gTp, gCn, gNi, gIt, e_var, e_var1, e_var2, e_var3, e_var4, e_mov, e_mov1, e_mov2, e_mov3, e_mov4, e_tr1, e_tr2, e_tr3, e_tr4, e_tr5, e_own1, e_own2, e_reo1, e_reo2, e_of1, e_of2, e_pin1, e_pin2, e_pin3, e_arg1, e_arg2, e_arg3, e_arg4, e_isarg1, e_isarg2, e_conv1, e_conv2, e_conv3, e_conv4, e_conv5, e_conv6, e_sown1, e_sown2, e_sown3, e_sown4, e_put1, e_put2, e_po1, e_po2, e_p1, e_p2, e_ao1, e_ao2, e_nd0, e_nd1, e_nd2, e_sl, e_get1, e_get2, e_is, e_all, e_gets0, e_gets1, e_gets2, e_tms0, e_tms1, e_qg1, e_qg2, e_qg3, e_qgs0, e_qgs1, e_its1, e_its2, e_its3, e_its4, e_jts1, e_jts2, e_jts4, e_mt1, e_mt2, e_ty1, e_add1, e_add2, e_add3, e_sub, e_mul1, e_mul2, e_mul3, e_fdiv, e_mod, e_pow, e_neg, e_len1, e_len2, e_len3, e_len4, e_int1, e_int2, e_abs, e_max, e_min, e_ix1, e_ix2, e_ix3, e_ix4, e_eq1, e_eq2, e_eq3, e_lt1, e_le1, e_gt1, e_ge1, e_lt2, e_in1, e_app, e_ext, e_rev, e_clr, e_set, e_sl1, e_sl2, e_sl3, e_sl4, e_count, e_f1, e_f2, e_osh, e_owh, e_one, e_tt1, e_tt2, e_ctg1, e_ctg2, e_cn0, e_cn1, e_wi0, e_wi1, e_re0, e_re1, e_ifb1, e_ifb2, e_nm0, e_nm1, e_nm2, e_fa0, e_fa1, e_sum, e_allb, e_anyb, e_sp1, e_sp2, e_sp3, e_at0, e_at1, e_at2, e_at3, e_at4, e_at5, e_ixn40, e_ixn41, e_ixn42, e_ixn43, e_cp1, e_cp2, e_cp3, e_cp4, e_cp5, forall_eq, List.getD_cons_zero, List.getD_cons_succ, List.getD_nil, List.set_cons_zero, List.set_cons_succ, List.map_cons, List.map_nil, Option.map_some, Option.map_none, Option.bind_some, Option.bind_none, Option.getD_some, Option.some.injEq, exists_eq_left', exists_eq_left, exists_eq', exists_eq, decide_eq_true_eq, List.length_map, exists_eq_right, exists_and_left, exists_and_right, Option.isSome_some, T.int.injEq, T.str.injEq, T.lst.injEq, T.tup.injEq, T.bl.injEq, List.cons.injEq, Prod.mk.injEq, Hn.tm.injEq, true_and, and_true, and_assoc, and_self, ne_eq, not_false_eq_true, not_true_eq_false, ite_true, ite_false, if_true, if_false, reduceIte, reduceCtorEq, Bool.false_eq_true, false_and, and_false, imp_self, forall_const, implies_true, List.length_cons, List.length_nil, Nat.reduceAdd, Nat.reduceEqDiff, Bool.false_bne, Bool.true_bne, Bool.not_false, Bool.not_true, List.nil_append, List.cons_append, Int.reduceToNat, Int.reducePow, Int.reduceMul, Int.reduceSub, Int.reduceAdd, Int.reduceNeg, kt_NoneType_int, kt_NoneType_bool, kt_NoneType_str, kt_NoneType_list, kt_NoneType_tuple, kt_bool_int, kt_bool_bool, kt_bool_str, kt_bool_list, kt_bool_tuple, kt_int_int, kt_int_bool, kt_int_str, kt_int_list, kt_int_tuple, kt_str_int, kt_str_bool, kt_str_str, kt_str_list, kt_str_tuple, kt_list_int, kt_list_bool, kt_list_str, kt_list_list, kt_list_tuple, kt_tuple_int, kt_tuple_bool, kt_tuple_str, kt_tuple_list, kt_tuple_tuple, kt_dict_int, kt_dict_bool, kt_dict_str, kt_dict_list, kt_dict_tuple, e_ii_non, e_ii_bl, e_ii_int, e_ii_str, e_ii_lst, e_ii_scr, e_ii_tup, e_ii_dK, e_ii_dT, dShr, dNew, dNewL, dMeth, dProp, dCm, dFld, sFld, callK, lendK, noexP, Sl.io.injEq, Sl.sh.injEq, e_cnt, e_lkT, e_putT, e_isiC, e_isiC2, e_ii_ins, dCallL, e_argL, e_fl1, e_fl2, e_fl3, e_fl4, List.all_cons, List.all_nil, dDict, dDict0, e_keys0, e_keysS, e_keysI, e_cl_non, e_cl_bl, e_cl_int, e_cl_str, e_cl_lst, e_cl_scr, e_cl_tup, e_cl_dK, e_cl_dT, e_iq1, e_iq2, e_nn1, e_nn2, e_nn3, e_nn4, e_inp, e_ixd, Int.cast_ofNat_Int, Int.natCast_succ, decide_true, decide_false, Int.reduceEq, Int.reduceLT, Int.reduceLE, Int.reduceNe, Nat.reduceLT, Nat.reduceLeDiff, Bool.and_true, Bool.true_and, Bool.and_false, Bool.false_and, Bool.not_eq_true, Bool.or_true, Bool.or_false, Int.natCast_add, Int.natCast_one, Int.zero_add, Int.add_zero, sRaise, sTry, sGone, dHot, dIsE, sPick, e_spx1, e_spx2, e_spx3, e_sright06, k1, fineT, e_sno]
    refine ⟨i2, fun t3 i3 => ⟨i3, ab, by omega, fun t4 vs i4 vl hv => ?_⟩⟩
    refine comp_noneT (fun v m A B hB => ?_) (by omega) ?_
    · obtain ⟨⟨pre, val⟩, _⟩ := hv v m
      have nb : isRowB v = false := by
        rw [isRow_val pre] at val
        exact T.bl.inj (Prod.mk.inj val).2
      have k2 := told06_1 pre
      rw [nb, if_neg Bool.false_ne_true] at k2
      simp only [sSeq, sSet, sPar, sIf, sRet, sRetN, sDrop, sNext, sDead, sBrk, sCnt, sAsg, sFor, dNm, dTm, dC, dOp1, dOp2, dOpN, dMt, dMut, dCall, dLst, dTup, dNil, dCons, dVn, dVc, dSl, dSl3, dNoP, dPrt, dIf, dAndV, dOrV, dNotV, dBv, dTru, dNotT, dAndT, dOrT, dChn, dEqQ, dRpQ, qOp, qNil, qCons, qLs, qTp, dSrc, dRng1, dRng2, dZip2, dEnum, dComp, dYes, gNm, gTp, gCn, gNi, gIt, e_var, e_var1, e_var2, e_var3, e_var4, e_mov, e_mov1, e_mov2, e_mov3, e_mov4, e_tr1, e_tr2, e_tr3, e_tr4, e_tr5, e_own1, e_own2, e_reo1, e_reo2, e_of1, e_of2, e_pin1, e_pin2, e_pin3, e_arg1, e_arg2, e_arg3, e_arg4, e_isarg1, e_isarg2, e_conv1, e_conv2, e_conv3, e_conv4, e_conv5, e_conv6, e_sown1, e_sown2, e_sown3, e_sown4, e_put1, e_put2, e_po1, e_po2, e_p1, e_p2, e_ao1, e_ao2, e_nd0, e_nd1, e_nd2, e_sl, e_get1, e_get2, e_is, e_all, e_gets0, e_gets1, e_gets2, e_tms0, e_tms1, e_qg1, e_qg2, e_qg3, e_qgs0, e_qgs1, e_its1, e_its2, e_its3, e_its4, e_jts1, e_jts2, e_jts4, e_mt1, e_mt2, e_ty1, e_add1, e_add2, e_add3, e_sub, e_mul1, e_mul2, e_mul3, e_fdiv, e_mod, e_pow, e_neg, e_len1, e_len2, e_len3, e_len4, e_int1, e_int2, e_abs, e_max, e_min, e_ix1, e_ix2, e_ix3, e_ix4, e_eq1, e_eq2, e_eq3, e_lt1, e_le1, e_gt1, e_ge1, e_lt2, e_in1, e_app, e_ext, e_rev, e_clr, e_set, e_sl1, e_sl2, e_sl3, e_sl4, e_count, e_f1, e_f2, e_osh, e_owh, e_one, e_tt1, e_tt2, e_ctg1, e_ctg2, e_cn0, e_cn1, e_wi0, e_wi1, e_re0, e_re1, e_ifb1, e_ifb2, e_nm0, e_nm1, e_nm2, e_fa0, e_fa1, e_sum, e_allb, e_anyb, e_sp1, e_sp2, e_sp3, e_at0, e_at1, e_at2, e_at3, e_at4, e_at5, e_ixn40, e_ixn41, e_ixn42, e_ixn43, e_cp1, e_cp2, e_cp3, e_cp4, e_cp5, forall_eq, List.getD_cons_zero, List.getD_cons_succ, List.getD_nil, List.set_cons_zero, List.set_cons_succ, List.map_cons, List.map_nil, Option.map_some, Option.map_none, Option.bind_some, Option.bind_none, Option.getD_some, Option.some.injEq, exists_eq_left', exists_eq_left, exists_eq', exists_eq, decide_eq_true_eq, List.length_map, exists_eq_right, exists_and_left, exists_and_right, Option.isSome_some, T.int.injEq, T.str.injEq, T.lst.injEq, T.tup.injEq, T.bl.injEq, List.cons.injEq, Prod.mk.injEq, Hn.tm.injEq, true_and, and_true, and_assoc, and_self, ne_eq, not_false_eq_true, not_true_eq_false, ite_true, ite_false, if_true, if_false, reduceIte, reduceCtorEq, Bool.false_eq_true, false_and, and_false, imp_self, forall_const, implies_true, List.length_cons, List.length_nil, Nat.reduceAdd, Nat.reduceEqDiff, Bool.false_bne, Bool.true_bne, Bool.not_false, Bool.not_true, List.nil_append, List.cons_append, Int.reduceToNat, Int.reducePow, Int.reduceMul, Int.reduceSub, Int.reduceAdd, Int.reduceNeg, kt_NoneType_int, kt_NoneType_bool, kt_NoneType_str, kt_NoneType_list, kt_NoneType_tuple, kt_bool_int, kt_bool_bool, kt_bool_str, kt_bool_list, kt_bool_tuple, kt_int_int, kt_int_bool, kt_int_str, kt_int_list, kt_int_tuple, kt_str_int, kt_str_bool, kt_str_str, kt_str_list, kt_str_tuple, kt_list_int, kt_list_bool, kt_list_str, kt_list_list, kt_list_tuple, kt_tuple_int, kt_tuple_bool, kt_tuple_str, kt_tuple_list, kt_tuple_tuple, kt_dict_int, kt_dict_bool, kt_dict_str, kt_dict_list, kt_dict_tuple, e_ii_non, e_ii_bl, e_ii_int, e_ii_str, e_ii_lst, e_ii_scr, e_ii_tup, e_ii_dK, e_ii_dT, dShr, dNew, dNewL, dMeth, dProp, dCm, dFld, sFld, callK, lendK, noexP, Sl.io.injEq, Sl.sh.injEq, e_cnt, e_lkT, e_putT, e_isiC, e_isiC2, e_ii_ins, dCallL, e_argL, e_fl1, e_fl2, e_fl3, e_fl4, List.all_cons, List.all_nil, dDict, dDict0, e_keys0, e_keysS, e_keysI, e_cl_non, e_cl_bl, e_cl_int, e_cl_str, e_cl_lst, e_cl_scr, e_cl_tup, e_cl_dK, e_cl_dT, e_iq1, e_iq2, e_nn1, e_nn2, e_nn3, e_nn4, e_inp, e_ixd, Int.cast_ofNat_Int, Int.natCast_succ, decide_true, decide_false, Int.reduceEq, Int.reduceLT, Int.reduceLE, Int.reduceNe, Nat.reduceLT, Nat.reduceLeDiff, Bool.and_true, Bool.true_and, Bool.and_false, Bool.false_and, Bool.not_eq_true, Bool.or_true, Bool.or_false, Int.natCast_add, Int.natCast_one, Int.zero_add, Int.add_zero, sRaise, sTry, sGone, dHot, dIsE, sPick, e_spx1, e_spx2, e_spx3, k2, rowS]
      exact hB
    · simp only [sSeq, sSet, sPar, sIf, sRet, sRetN, sDrop, sNext, sDead, sBrk, sCnt, sAsg, sFor, dNm, dTm, dC, dOp1, dOp2, dOpN, dMt, dMut, dCall, dLst, dTup, dNil, dCons, dVn, dVc, dSl, dSl3, dNoP, dPrt, dIf, dAndV, dOrV, dNotV, dBv, dTru, dNotT, dAndT, dOrT, dChn, dEqQ, dRpQ, qOp, qNil, qCons, qLs, qTp, dSrc, dRng1, dRng2, dZip2, dEnum, dComp, dYes, gNm, gTp, gCn, gNi, gIt, e_var, e_var1, e_var2, e_var3, e_var4, e_mov, e_mov1, e_mov2, e_mov3, e_mov4, e_tr1, e_tr2, e_tr3, e_tr4, e_tr5, e_own1, e_own2, e_reo1, e_reo2, e_of1, e_of2, e_pin1, e_pin2, e_pin3, e_arg1, e_arg2, e_arg3, e_arg4, e_isarg1, e_isarg2, e_conv1, e_conv2, e_conv3, e_conv4, e_conv5, e_conv6, e_sown1, e_sown2, e_sown3, e_sown4, e_put1, e_put2, e_po1, e_po2, e_p1, e_p2, e_ao1, e_ao2, e_nd0, e_nd1, e_nd2, e_sl, e_get1, e_get2, e_is, e_all, e_gets0, e_gets1, e_gets2, e_tms0, e_tms1, e_qg1, e_qg2, e_qg3, e_qgs0, e_qgs1, e_its1, e_its2, e_its3, e_its4, e_jts1, e_jts2, e_jts4, e_mt1, e_mt2, e_ty1, e_add1, e_add2, e_add3, e_sub, e_mul1, e_mul2, e_mul3, e_fdiv, e_mod, e_pow, e_neg, e_len1, e_len2, e_len3, e_len4, e_int1, e_int2, e_abs, e_max, e_min, e_ix1, e_ix2, e_ix3, e_ix4, e_eq1, e_eq2, e_eq3, e_lt1, e_le1, e_gt1, e_ge1, e_lt2, e_in1, e_app, e_ext, e_rev, e_clr, e_set, e_sl1, e_sl2, e_sl3, e_sl4, e_count, e_f1, e_f2, e_osh, e_owh, e_one, e_tt1, e_tt2, e_ctg1, e_ctg2, e_cn0, e_cn1, e_wi0, e_wi1, e_re0, e_re1, e_ifb1, e_ifb2, e_nm0, e_nm1, e_nm2, e_fa0, e_fa1, e_sum, e_allb, e_anyb, e_sp1, e_sp2, e_sp3, e_at0, e_at1, e_at2, e_at3, e_at4, e_at5, e_ixn40, e_ixn41, e_ixn42, e_ixn43, e_cp1, e_cp2, e_cp3, e_cp4, e_cp5, forall_eq, List.getD_cons_zero, List.getD_cons_succ, List.getD_nil, List.set_cons_zero, List.set_cons_succ, List.map_cons, List.map_nil, Option.map_some, Option.map_none, Option.bind_some, Option.bind_none, Option.getD_some, Option.some.injEq, exists_eq_left', exists_eq_left, exists_eq', exists_eq, decide_eq_true_eq, List.length_map, exists_eq_right, exists_and_left, exists_and_right, Option.isSome_some, T.int.injEq, T.str.injEq, T.lst.injEq, T.tup.injEq, T.bl.injEq, List.cons.injEq, Prod.mk.injEq, Hn.tm.injEq, true_and, and_true, and_assoc, and_self, ne_eq, not_false_eq_true, not_true_eq_false, ite_true, ite_false, if_true, if_false, reduceIte, reduceCtorEq, Bool.false_eq_true, false_and, and_false, imp_self, forall_const, implies_true, List.length_cons, List.length_nil, Nat.reduceAdd, Nat.reduceEqDiff, Bool.false_bne, Bool.true_bne, Bool.not_false, Bool.not_true, List.nil_append, List.cons_append, Int.reduceToNat, Int.reducePow, Int.reduceMul, Int.reduceSub, Int.reduceAdd, Int.reduceNeg, kt_NoneType_int, kt_NoneType_bool, kt_NoneType_str, kt_NoneType_list, kt_NoneType_tuple, kt_bool_int, kt_bool_bool, kt_bool_str, kt_bool_list, kt_bool_tuple, kt_int_int, kt_int_bool, kt_int_str, kt_int_list, kt_int_tuple, kt_str_int, kt_str_bool, kt_str_str, kt_str_list, kt_str_tuple, kt_list_int, kt_list_bool, kt_list_str, kt_list_list, kt_list_tuple, kt_tuple_int, kt_tuple_bool, kt_tuple_str, kt_tuple_list, kt_tuple_tuple, kt_dict_int, kt_dict_bool, kt_dict_str, kt_dict_list, kt_dict_tuple, e_ii_non, e_ii_bl, e_ii_int, e_ii_str, e_ii_lst, e_ii_scr, e_ii_tup, e_ii_dK, e_ii_dT, dShr, dNew, dNewL, dMeth, dProp, dCm, dFld, sFld, callK, lendK, noexP, Sl.io.injEq, Sl.sh.injEq, e_cnt, e_lkT, e_putT, e_isiC, e_isiC2, e_ii_ins, dCallL, e_argL, e_fl1, e_fl2, e_fl3, e_fl4, List.all_cons, List.all_nil, dDict, dDict0, e_keys0, e_keysS, e_keysI, e_cl_non, e_cl_bl, e_cl_int, e_cl_str, e_cl_lst, e_cl_scr, e_cl_tup, e_cl_dK, e_cl_dT, e_iq1, e_iq2, e_nn1, e_nn2, e_nn3, e_nn4, e_inp, e_ixd, Int.cast_ofNat_Int, Int.natCast_succ, decide_true, decide_false, Int.reduceEq, Int.reduceLT, Int.reduceLE, Int.reduceNe, Nat.reduceLT, Nat.reduceLeDiff, Bool.and_true, Bool.true_and, Bool.and_false, Bool.false_and, Bool.not_eq_true, Bool.or_true, Bool.or_false, Int.natCast_add, Int.natCast_one, Int.zero_add, Int.add_zero, sRaise, sTry, sGone, dHot, dIsE, sPick, e_spx1, e_spx2, e_spx3, ok_nil, eq_nil]
      exact ⟨by omega, hK _ (loop_law_06 Q s0 xs t4 _ _ _ rfl rfl rfl i4 (fun z m => hx z (List.mem_cons_of_mem _ m)) q)⟩
def SLaw06 : Sx := fun ars Q => ∃ ns : List Int, ars = [.sh (.scr (ns.map T.int))] ∧ ns.length ≤ 63 ∧ Q.ok (false, .bl true) [.no]
theorem en_SLaw06 (ns : List Int) (hl : ns.length ≤ 63) (_ : ∀ z ∈ ns, Builtin.Int.intBits z ≤ 1048576) : SLaw06 [.sh (.scr (ns.map T.int))] ⟨fun r _ => r = (false, .bl true), fun _ _ _ => False⟩ := ⟨ns, rfl, hl, rfl⟩
theorem mn_SLaw06 : Mn SLaw06 := fun ρ Q Q' ⟨ns, a, b, q⟩ k _ => ⟨ns, a, b, k _ _ q⟩
theorem h_law_6 (ars : Rho) (Q : Po Rv) (h : SLaw06 ars Q) : D_law_6 SReel SWord SRight06 (SP fTold06) SNo (ars ++ List.replicate 4 .no) (fwish ars Q) := by
  obtain ⟨ns, rfl, hl, q⟩ := h
  have hs := sizeLine_eq
  show D_law_6 SReel SWord SRight06 (SP fTold06) SNo [.sh (.scr (ns.map T.int)), .no, .no, .no, .no] _
  simp only [sSeq, sSet, sPar, sIf, sRet, sRetN, sDrop, sNext, sDead, sBrk, sCnt, sAsg, sFor, dNm, dTm, dC, dOp1, dOp2, dOpN, dMt, dMut, dCall, dLst, dTup, dNil, dCons, dVn, dVc, dSl, dSl3, dNoP, dPrt, dIf, dAndV, dOrV, dNotV, dBv, dTru, dNotT, dAndT, dOrT, dChn, dEqQ, dRpQ, qOp, qNil, qCons, qLs, qTp, dSrc, dRng1, dRng2, dZip2, dEnum, dComp, dYes, gNm, gTp, gCn, gNi, gIt, e_var, e_var1, e_var2, e_var3, e_var4, e_mov, e_mov1, e_mov2, e_mov3, e_mov4, e_tr1, e_tr2, e_tr3, e_tr4, e_tr5, e_own1, e_own2, e_reo1, e_reo2, e_of1, e_of2, e_pin1, e_pin2, e_pin3, e_arg1, e_arg2, e_arg3, e_arg4, e_isarg1, e_isarg2, e_conv1, e_conv2, e_conv3, e_conv4, e_conv5, e_conv6, e_sown1, e_sown2, e_sown3, e_sown4, e_put1, e_put2, e_po1, e_po2, e_p1, e_p2, e_ao1, e_ao2, e_nd0, e_nd1, e_nd2, e_sl, e_get1, e_get2, e_is, e_all, e_gets0, e_gets1, e_gets2, e_tms0, e_tms1, e_qg1, e_qg2, e_qg3, e_qgs0, e_qgs1, e_its1, e_its2, e_its3, e_its4, e_jts1, e_jts2, e_jts4, e_mt1, e_mt2, e_ty1, e_add1, e_add2, e_add3, e_sub, e_mul1, e_mul2, e_mul3, e_fdiv, e_mod, e_pow, e_neg, e_len1, e_len2, e_len3, e_len4, e_int1, e_int2, e_abs, e_max, e_min, e_ix1, e_ix2, e_ix3, e_ix4, e_eq1, e_eq2, e_eq3, e_lt1, e_le1, e_gt1, e_ge1, e_lt2, e_in1, e_app, e_ext, e_rev, e_clr, e_set, e_sl1, e_sl2, e_sl3, e_sl4, e_count, e_f1, e_f2, e_osh, e_owh, e_one, e_tt1, e_tt2, e_ctg1, e_ctg2, e_cn0, e_cn1, e_wi0, e_wi1, e_re0, e_re1, e_ifb1, e_ifb2, e_nm0, e_nm1, e_nm2, e_fa0, e_fa1, e_sum, e_allb, e_anyb, e_sp1, e_sp2, e_sp3, e_at0, e_at1, e_at2, e_at3, e_at4, e_at5, e_ixn40, e_ixn41, e_ixn42, e_ixn43, e_cp1, e_cp2, e_cp3, e_cp4, e_cp5, forall_eq, List.getD_cons_zero, List.getD_cons_succ, List.getD_nil, List.set_cons_zero, List.set_cons_succ, List.map_cons, List.map_nil, Option.map_some, Option.map_none, Option.bind_some, Option.bind_none, Option.getD_some, Option.some.injEq, exists_eq_left', exists_eq_left, exists_eq', exists_eq, decide_eq_true_eq, List.length_map, exists_eq_right, exists_and_left, exists_and_right, Option.isSome_some, T.int.injEq, T.str.injEq, T.lst.injEq, T.tup.injEq, T.bl.injEq, List.cons.injEq, Prod.mk.injEq, Hn.tm.injEq, true_and, and_true, and_assoc, and_self, ne_eq, not_false_eq_true, not_true_eq_false, ite_true, ite_false, if_true, if_false, reduceIte, reduceCtorEq, Bool.false_eq_true, false_and, and_false, imp_self, forall_const, implies_true, List.length_cons, List.length_nil, Nat.reduceAdd, Nat.reduceEqDiff, Bool.false_bne, Bool.true_bne, Bool.not_false, Bool.not_true, List.nil_append, List.cons_append, Int.reduceToNat, Int.reducePow, Int.reduceMul, Int.reduceSub, Int.reduceAdd, Int.reduceNeg, kt_NoneType_int, kt_NoneType_bool, kt_NoneType_str, kt_NoneType_list, kt_NoneType_tuple, kt_bool_int, kt_bool_bool, kt_bool_str, kt_bool_list, kt_bool_tuple, kt_int_int, kt_int_bool, kt_int_str, kt_int_list, kt_int_tuple, kt_str_int, kt_str_bool, kt_str_str, kt_str_list, kt_str_tuple, kt_list_int, kt_list_bool, kt_list_str, kt_list_list, kt_list_tuple, kt_tuple_int, kt_tuple_bool, kt_tuple_str, kt_tuple_list, kt_tuple_tuple, kt_dict_int, kt_dict_bool, kt_dict_str, kt_dict_list, kt_dict_tuple, e_ii_non, e_ii_bl, e_ii_int, e_ii_str, e_ii_lst, e_ii_scr, e_ii_tup, e_ii_dK, e_ii_dT, dShr, dNew, dNewL, dMeth, dProp, dCm, dFld, sFld, callK, lendK, noexP, Sl.io.injEq, Sl.sh.injEq, e_cnt, e_lkT, e_putT, e_isiC, e_isiC2, e_ii_ins, dCallL, e_argL, e_fl1, e_fl2, e_fl3, e_fl4, List.all_cons, List.all_nil, dDict, dDict0, e_keys0, e_keysS, e_keysI, e_cl_non, e_cl_bl, e_cl_int, e_cl_str, e_cl_lst, e_cl_scr, e_cl_tup, e_cl_dK, e_cl_dT, e_iq1, e_iq2, e_nn1, e_nn2, e_nn3, e_nn4, e_inp, e_ixd, Int.cast_ofNat_Int, Int.natCast_succ, decide_true, decide_false, Int.reduceEq, Int.reduceLT, Int.reduceLE, Int.reduceNe, Nat.reduceLT, Nat.reduceLeDiff, Bool.and_true, Bool.true_and, Bool.and_false, Bool.false_and, Bool.not_eq_true, Bool.or_true, Bool.or_false, Int.natCast_add, Int.natCast_one, Int.zero_add, Int.add_zero, sRaise, sTry, sGone, dHot, dIsE, sPick, e_spx1, e_spx2, e_spx3, D_law_6]
  refine e_sreel hl fun t ir => ?_
  simp only [sSeq, sSet, sPar, sIf, sRet, sRetN, sDrop, sNext, sDead, sBrk, sCnt, sAsg, sFor, dNm, dTm, dC, dOp1, dOp2, dOpN, dMt, dMut, dCall, dLst, dTup, dNil, dCons, dVn, dVc, dSl, dSl3, dNoP, dPrt, dIf, dAndV, dOrV, dNotV, dBv, dTru, dNotT, dAndT, dOrT, dChn, dEqQ, dRpQ, qOp, qNil, qCons, qLs, qTp, dSrc, dRng1, dRng2, dZip2, dEnum, dComp, dYes, gNm, gTp, gCn, gNi, gIt, e_var, e_var1, e_var2, e_var3, e_var4, e_mov, e_mov1, e_mov2, e_mov3, e_mov4, e_tr1, e_tr2, e_tr3, e_tr4, e_tr5, e_own1, e_own2, e_reo1, e_reo2, e_of1, e_of2, e_pin1, e_pin2, e_pin3, e_arg1, e_arg2, e_arg3, e_arg4, e_isarg1, e_isarg2, e_conv1, e_conv2, e_conv3, e_conv4, e_conv5, e_conv6, e_sown1, e_sown2, e_sown3, e_sown4, e_put1, e_put2, e_po1, e_po2, e_p1, e_p2, e_ao1, e_ao2, e_nd0, e_nd1, e_nd2, e_sl, e_get1, e_get2, e_is, e_all, e_gets0, e_gets1, e_gets2, e_tms0, e_tms1, e_qg1, e_qg2, e_qg3, e_qgs0, e_qgs1, e_its1, e_its2, e_its3, e_its4, e_jts1, e_jts2, e_jts4, e_mt1, e_mt2, e_ty1, e_add1, e_add2, e_add3, e_sub, e_mul1, e_mul2, e_mul3, e_fdiv, e_mod, e_pow, e_neg, e_len1, e_len2, e_len3, e_len4, e_int1, e_int2, e_abs, e_max, e_min, e_ix1, e_ix2, e_ix3, e_ix4, e_eq1, e_eq2, e_eq3, e_lt1, e_le1, e_gt1, e_ge1, e_lt2, e_in1, e_app, e_ext, e_rev, e_clr, e_set, e_sl1, e_sl2, e_sl3, e_sl4, e_count, e_f1, e_f2, e_osh, e_owh, e_one, e_tt1, e_tt2, e_ctg1, e_ctg2, e_cn0, e_cn1, e_wi0, e_wi1, e_re0, e_re1, e_ifb1, e_ifb2, e_nm0, e_nm1, e_nm2, e_fa0, e_fa1, e_sum, e_allb, e_anyb, e_sp1, e_sp2, e_sp3, e_at0, e_at1, e_at2, e_at3, e_at4, e_at5, e_ixn40, e_ixn41, e_ixn42, e_ixn43, e_cp1, e_cp2, e_cp3, e_cp4, e_cp5, forall_eq, List.getD_cons_zero, List.getD_cons_succ, List.getD_nil, List.set_cons_zero, List.set_cons_succ, List.map_cons, List.map_nil, Option.map_some, Option.map_none, Option.bind_some, Option.bind_none, Option.getD_some, Option.some.injEq, exists_eq_left', exists_eq_left, exists_eq', exists_eq, decide_eq_true_eq, List.length_map, exists_eq_right, exists_and_left, exists_and_right, Option.isSome_some, T.int.injEq, T.str.injEq, T.lst.injEq, T.tup.injEq, T.bl.injEq, List.cons.injEq, Prod.mk.injEq, Hn.tm.injEq, true_and, and_true, and_assoc, and_self, ne_eq, not_false_eq_true, not_true_eq_false, ite_true, ite_false, if_true, if_false, reduceIte, reduceCtorEq, Bool.false_eq_true, false_and, and_false, imp_self, forall_const, implies_true, List.length_cons, List.length_nil, Nat.reduceAdd, Nat.reduceEqDiff, Bool.false_bne, Bool.true_bne, Bool.not_false, Bool.not_true, List.nil_append, List.cons_append, Int.reduceToNat, Int.reducePow, Int.reduceMul, Int.reduceSub, Int.reduceAdd, Int.reduceNeg, kt_NoneType_int, kt_NoneType_bool, kt_NoneType_str, kt_NoneType_list, kt_NoneType_tuple, kt_bool_int, kt_bool_bool, kt_bool_str, kt_bool_list, kt_bool_tuple, kt_int_int, kt_int_bool, kt_int_str, kt_int_list, kt_int_tuple, kt_str_int, kt_str_bool, kt_str_str, kt_str_list, kt_str_tuple, kt_list_int, kt_list_bool, kt_list_str, kt_list_list, kt_list_tuple, kt_tuple_int, kt_tuple_bool, kt_tuple_str, kt_tuple_list, kt_tuple_tuple, kt_dict_int, kt_dict_bool, kt_dict_str, kt_dict_list, kt_dict_tuple, e_ii_non, e_ii_bl, e_ii_int, e_ii_str, e_ii_lst, e_ii_scr, e_ii_tup, e_ii_dK, e_ii_dT, dShr, dNew, dNewL, dMeth, dProp, dCm, dFld, sFld, callK, lendK, noexP, Sl.io.injEq, Sl.sh.injEq, e_cnt, e_lkT, e_putT, e_isiC, e_isiC2, e_ii_ins, dCallL, e_argL, e_fl1, e_fl2, e_fl3, e_fl4, List.all_cons, List.all_nil, dDict, dDict0, e_keys0, e_keysS, e_keysI, e_cl_non, e_cl_bl, e_cl_int, e_cl_str, e_cl_lst, e_cl_scr, e_cl_tup, e_cl_dK, e_cl_dT, e_iq1, e_iq2, e_nn1, e_nn2, e_nn3, e_nn4, e_inp, e_ixd, Int.cast_ofNat_Int, Int.natCast_succ, decide_true, decide_false, Int.reduceEq, Int.reduceLT, Int.reduceLE, Int.reduceNe, Nat.reduceLT, Nat.reduceLeDiff, Bool.and_true, Bool.true_and, Bool.and_false, Bool.false_and, Bool.not_eq_true, Bool.or_true, Bool.or_false, Int.natCast_add, Int.natCast_one, Int.zero_add, Int.add_zero, sRaise, sTry, sGone, dHot, dIsE, sPick, e_spx1, e_spx2, e_spx3]
  have hm : (2 : Int) + (if (6 : Int) < (ns.length : Int) then 6 else (ns.length : Int)) ≤ 8 ∧ 2 ≤ (2 : Int) + (if (6 : Int) < (ns.length : Int) then 6 else (ns.length : Int)) := by split <;> omega
  refine ⟨⟨by omega, by omega⟩, ?_⟩
  rw [rangeT_eq]
  refine loop_law_06 _ _ _ t .no .no .no rfl rfl rfl ir (fun x m => ?_) fun t' s2 s3 => ?_
  · obtain ⟨i, _, rfl⟩ := List.mem_map.mp m
    omega
  · have z : ∀ i : Int, i.natAbs < 10 → smallV (.int i) := fun i h => ⟨rfl, fun j e => by
      cases e
      have l : i.natAbs.log2 ≤ 900 := log_lt (Nat.lt_trans h (by decide +kernel))
      omega⟩
    have k1 := told06_0 (z 0 (by decide)) (z 0 (by decide)) (z 0 (by decide))
    have k2 := told06_0 (z 2 (by decide)) (z 2 (by decide)) (z 5 (by decide))
    rw [show cnt3 (.int 0) (.int 0) (.int 0) = true from rfl, if_pos rfl] at k1
    rw [show cnt3 (.int 2) (.int 2) (.int 5) = false from rfl, if_neg Bool.false_ne_true] at k2
    simp only [sSeq, sSet, sPar, sIf, sRet, sRetN, sDrop, sNext, sDead, sBrk, sCnt, sAsg, sFor, dNm, dTm, dC, dOp1, dOp2, dOpN, dMt, dMut, dCall, dLst, dTup, dNil, dCons, dVn, dVc, dSl, dSl3, dNoP, dPrt, dIf, dAndV, dOrV, dNotV, dBv, dTru, dNotT, dAndT, dOrT, dChn, dEqQ, dRpQ, qOp, qNil, qCons, qLs, qTp, dSrc, dRng1, dRng2, dZip2, dEnum, dComp, dYes, gNm, gTp, gCn, gNi, gIt, e_var, e_var1, e_var2, e_var3, e_var4, e_mov, e_mov1, e_mov2, e_mov3, e_mov4, e_tr1, e_tr2, e_tr3, e_tr4, e_tr5, e_own1, e_own2, e_reo1, e_reo2, e_of1, e_of2, e_pin1, e_pin2, e_pin3, e_arg1, e_arg2, e_arg3, e_arg4, e_isarg1, e_isarg2, e_conv1, e_conv2, e_conv3, e_conv4, e_conv5, e_conv6, e_sown1, e_sown2, e_sown3, e_sown4, e_put1, e_put2, e_po1, e_po2, e_p1, e_p2, e_ao1, e_ao2, e_nd0, e_nd1, e_nd2, e_sl, e_get1, e_get2, e_is, e_all, e_gets0, e_gets1, e_gets2, e_tms0, e_tms1, e_qg1, e_qg2, e_qg3, e_qgs0, e_qgs1, e_its1, e_its2, e_its3, e_its4, e_jts1, e_jts2, e_jts4, e_mt1, e_mt2, e_ty1, e_add1, e_add2, e_add3, e_sub, e_mul1, e_mul2, e_mul3, e_fdiv, e_mod, e_pow, e_neg, e_len1, e_len2, e_len3, e_len4, e_int1, e_int2, e_abs, e_max, e_min, e_ix1, e_ix2, e_ix3, e_ix4, e_eq1, e_eq2, e_eq3, e_lt1, e_le1, e_gt1, e_ge1, e_lt2, e_in1, e_app, e_ext, e_rev, e_clr, e_set, e_sl1, e_sl2, e_sl3, e_sl4, e_count, e_f1, e_f2, e_osh, e_owh, e_one, e_tt1, e_tt2, e_ctg1, e_ctg2, e_cn0, e_cn1, e_wi0, e_wi1, e_re0, e_re1, e_ifb1, e_ifb2, e_nm0, e_nm1, e_nm2, e_fa0, e_fa1, e_sum, e_allb, e_anyb, e_sp1, e_sp2, e_sp3, e_at0, e_at1, e_at2, e_at3, e_at4, e_at5, e_ixn40, e_ixn41, e_ixn42, e_ixn43, e_cp1, e_cp2, e_cp3, e_cp4, e_cp5, forall_eq, List.getD_cons_zero, List.getD_cons_succ, List.getD_nil, List.set_cons_zero, List.set_cons_succ, List.map_cons, List.map_nil, Option.map_some, Option.map_none, Option.bind_some, Option.bind_none, Option.getD_some, Option.some.injEq, exists_eq_left', exists_eq_left, exists_eq', exists_eq, decide_eq_true_eq, List.length_map, exists_eq_right, exists_and_left, exists_and_right, Option.isSome_some, T.int.injEq, T.str.injEq, T.lst.injEq, T.tup.injEq, T.bl.injEq, List.cons.injEq, Prod.mk.injEq, Hn.tm.injEq, true_and, and_true, and_assoc, and_self, ne_eq, not_false_eq_true, not_true_eq_false, ite_true, ite_false, if_true, if_false, reduceIte, reduceCtorEq, Bool.false_eq_true, false_and, and_false, imp_self, forall_const, implies_true, List.length_cons, List.length_nil, Nat.reduceAdd, Nat.reduceEqDiff, Bool.false_bne, Bool.true_bne, Bool.not_false, Bool.not_true, List.nil_append, List.cons_append, Int.reduceToNat, Int.reducePow, Int.reduceMul, Int.reduceSub, Int.reduceAdd, Int.reduceNeg, kt_NoneType_int, kt_NoneType_bool, kt_NoneType_str, kt_NoneType_list, kt_NoneType_tuple, kt_bool_int, kt_bool_bool, kt_bool_str, kt_bool_list, kt_bool_tuple, kt_int_int, kt_int_bool, kt_int_str, kt_int_list, kt_int_tuple, kt_str_int, kt_str_bool, kt_str_str, kt_str_list, kt_str_tuple, kt_list_int, kt_list_bool, kt_list_str, kt_list_list, kt_list_tuple, kt_tuple_int, kt_tuple_bool, kt_tuple_str, kt_tuple_list, kt_tuple_tuple, kt_dict_int, kt_dict_bool, kt_dict_str, kt_dict_list, kt_dict_tuple, e_ii_non, e_ii_bl, e_ii_int, e_ii_str, e_ii_lst, e_ii_scr, e_ii_tup, e_ii_dK, e_ii_dT, dShr, dNew, dNewL, dMeth, dProp, dCm, dFld, sFld, callK, lendK, noexP, Sl.io.injEq, Sl.sh.injEq, e_cnt, e_lkT, e_putT, e_isiC, e_isiC2, e_ii_ins, dCallL, e_argL, e_fl1, e_fl2, e_fl3, e_fl4, List.all_cons, List.all_nil, dDict, dDict0, e_keys0, e_keysS, e_keysI, e_cl_non, e_cl_bl, e_cl_int, e_cl_str, e_cl_lst, e_cl_scr, e_cl_tup, e_cl_dK, e_cl_dT, e_iq1, e_iq2, e_nn1, e_nn2, e_nn3, e_nn4, e_inp, e_ixd, Int.cast_ofNat_Int, Int.natCast_succ, decide_true, decide_false, Int.reduceEq, Int.reduceLT, Int.reduceLE, Int.reduceNe, Nat.reduceLT, Nat.reduceLeDiff, Bool.and_true, Bool.true_and, Bool.and_false, Bool.false_and, Bool.not_eq_true, Bool.or_true, Bool.or_false, Int.natCast_add, Int.natCast_one, Int.zero_add, Int.add_zero, sRaise, sTry, sGone, dHot, dIsE, sPick, e_spx1, e_spx2, e_spx3, k1, k2, fineT, countsS]
    exact ⟨by omega, by omega, q⟩
end O
namespace K06
open PySem PySem.Spec PyProof.Rows L2 O
def top (i : Nat) : Stmt := PySem.Challenge.pw_paircounts_k06_errors_of_counts.main.body.getD i (.Pass ⟨0, 0, 0, 0⟩)
abbrev s_is_integer : Stmt := top 17
abbrev N_is_integer : List Str := ["value", "low", "high"]
theorem sc_is_integer : FnScope N_is_integer ["value", "low", "high"] (defScope s_is_integer) := ⟨rfl, rfl, rfl, by decide +kernel, rfl, by decide +kernel, by decide +kernel⟩
theorem x_is_integer {P : Program} {w : World} {K : PySem.W.Frag} {mg : Str → Option Value} {base : Heap} {f : Addr} {cdv : Value} {A : Around} {outer : List Env} {s : Shared} {H : Hp} {E : XK}  (n_isinstance : mg "isinstance" = none) (n_int : mg "int" = none) (n_bool : mg "bool" = none)
    (hr : RoomG 0 (A.deeper (envOfC "is_integer" (defScope s_is_integer) s.heap.objs.size f cdv))) : XSs (cxOf (L2N.CX P w) P w K mg base N_is_integer "is_integer" (defScope s_is_integer) f cdv A outer s H E) (fun cls d _ H => E cls d H) (defBody s_is_integer) (D_is_integer ) := by
  have tk : L2N.Takes (cxOf (L2N.CX P w) P w K mg base N_is_integer "is_integer" (defScope s_is_integer) f cdv A outer s H E) (fun cls d _ H => E cls d H) := L2N.takes_of rfl rfl rfl rfl
  have hp : PassesOwn (model P w) (cxOf (L2N.CX P w) P w K mg base N_is_integer "is_integer" (defScope s_is_integer) f cdv A outer s H E).A (cxOf (L2N.CX P w) P w K mg base N_is_integer "is_integer" (defScope s_is_integer) f cdv A outer s H E).env (cxOf (L2N.CX P w) P w K mg base N_is_integer "is_integer" (defScope s_is_integer) f cdv A outer s H E).xe := passes_of rfl
  have nd : (N_is_integer).Nodup := sc_is_integer.nd
  have hu4 := hr.u64; have hu1 := Nat.lt_of_le_of_lt (Nat.add_le_add_left (show 1 ≤ 64 by decide) _) hu4; have hu5 := hr.u65; have hu6 := hr.u66
  exact (xs_cons (xs_if (XW.t (xw_or (xt_not (xt_val (xe_callB call_isi p_isi rfl n_isinstance boot_isinstance (xa_cons (xo_name 0) (xa_cons (xo_val (xe_ty "int" n_int boot_int)) xa_nil))))) (xw_or1 (xt_val (xe_callB call_isi p_isi rfl n_isinstance boot_isinstance (xa_cons (xo_name 0) (xa_cons (xo_val (xe_ty "bool" n_bool boot_bool)) xa_nil))))))) (xs_one (xs_ret xe_bl)) xs_nil)
    (xs_one (xs_ret (xe_and (xe_cmp op_leA p_le (xo_name 1) (xo_name 0)) (xe_one (xe_or (xe_cmp op_isA p_is (xo_name 2) (xo_val xe_non)) (xe_one (xe_cmp op_leA p_le (xo_name 0) (xo_name 2)))))))))
abbrev s_is_row : Stmt := top 18
abbrev N_is_row : List Str := ["value", "letter"]
theorem sc_is_row : FnScope N_is_row ["value"] (defScope s_is_row) := ⟨rfl, rfl, rfl, by decide +kernel, rfl, by decide +kernel, by decide +kernel⟩
theorem x_is_row {P : Program} {w : World} {K : PySem.W.Frag} {mg : Str → Option Value} {base : Heap} {f : Addr} {cdv : Value} {A : Around} {outer : List Env} {s : Shared} {H : Hp} {E : XK}  (n_isinstance : mg "isinstance" = none) (n_str : mg "str" = none) (n_len : mg "len" = none) (n_all : mg "all" = none) (g_MOST_LETTERS : ∃ t, mg "MOST_LETTERS" = some (.int 200 t))
    (hr : RoomG 0 (A.deeper (envOfC "is_row" (defScope s_is_row) s.heap.objs.size f cdv))) : XSs (cxOf (L2N.CX P w) P w K mg base N_is_row "is_row" (defScope s_is_row) f cdv A outer s H E) (fun cls d _ H => E cls d H) (defBody s_is_row) (D_is_row ) := by
  have tk : L2N.Takes (cxOf (L2N.CX P w) P w K mg base N_is_row "is_row" (defScope s_is_row) f cdv A outer s H E) (fun cls d _ H => E cls d H) := L2N.takes_of rfl rfl rfl rfl
  have hp : PassesOwn (model P w) (cxOf (L2N.CX P w) P w K mg base N_is_row "is_row" (defScope s_is_row) f cdv A outer s H E).A (cxOf (L2N.CX P w) P w K mg base N_is_row "is_row" (defScope s_is_row) f cdv A outer s H E).env (cxOf (L2N.CX P w) P w K mg base N_is_row "is_row" (defScope s_is_row) f cdv A outer s H E).xe := passes_of rfl
  have nd : (N_is_row).Nodup := sc_is_row.nd
  have hu4 := hr.u64; have hu1 := Nat.lt_of_le_of_lt (Nat.add_le_add_left (show 1 ≤ 64 by decide) _) hu4; have hu5 := hr.u65; have hu6 := hr.u66
  exact (xs_one (xs_ret (xe_and (xe_callB call_isi p_isi rfl n_isinstance boot_isinstance (xa_cons (xo_name 0) (xa_cons (xo_val (xe_ty "str" n_str boot_str)) xa_nil))) (xe_and (xe_cmp op_leA p_le (xo_val (xe_callB call_lenA p_len rfl n_len boot_len (xa_cons (xo_name 0) xa_nil))) (xo_val (xe_gint g_MOST_LETTERS))) (xe_one (xe_callB (cr_all rfl) p_all rfl n_all boot_all (xa_cons (xo_val (xe_lc rfl nd (xi_src (xe_name 0)) (own := [("letter", 1)]) (blkOk_by (by kernel_rfl)) (by decide) (fun _ _ _ _ _ => (pc_name 1 nd)) (fun _ _ _ _ _ => xts_nil) (fun _ _ _ _ _ => (xe_cmp (op_inA hu5) p_in (xo_name 1) (xo_val (xe_str [97, 98])))))) xa_nil)))))))
abbrev s_check_row : Stmt := top 19
abbrev N_check_row : List Str := ["value"]
theorem sc_check_row : FnScope N_check_row ["value"] (defScope s_check_row) := ⟨rfl, rfl, rfl, by decide +kernel, rfl, by decide +kernel, by decide +kernel⟩
theorem x_check_row {P : Program} {w : World} {K : PySem.W.Frag} {mg : Str → Option Value} {base : Heap} {f : Addr} {cdv : Value} {A : Around} {outer : List Env} {s : Shared} {H : Hp} {E : XK} {S_is_row : Sx} {C_InvalidRow : Addr} (F_is_row : FnX P w K mg base 1 "is_row" S_is_row) (m_InvalidRow : mg "InvalidRow" = some (.ref C_InvalidRow)) (k_InvalidRow : ErrK K C_InvalidRow)
    (hr : RoomG 1 (A.deeper (envOfC "check_row" (defScope s_check_row) s.heap.objs.size f cdv))) : XSs (cxOf (L2N.CX P w) P w K mg base N_check_row "check_row" (defScope s_check_row) f cdv A outer s H E) (fun cls d _ H => E cls d H) (defBody s_check_row) (D_check_row_x S_is_row C_InvalidRow) := by
  have tk : L2N.Takes (cxOf (L2N.CX P w) P w K mg base N_check_row "check_row" (defScope s_check_row) f cdv A outer s H E) (fun cls d _ H => E cls d H) := L2N.takes_of rfl rfl rfl rfl
  have hp : PassesOwn (model P w) (cxOf (L2N.CX P w) P w K mg base N_check_row "check_row" (defScope s_check_row) f cdv A outer s H E).A (cxOf (L2N.CX P w) P w K mg base N_check_row "check_row" (defScope s_check_row) f cdv A outer s H E).env (cxOf (L2N.CX P w) P w K mg base N_check_row "check_row" (defScope s_check_row) f cdv A outer s H E).xe := passes_of rfl
  have nd : (N_check_row).Nodup := sc_check_row.nd
  have hu4 := hr.u64; have hu1 := Nat.lt_of_le_of_lt (Nat.add_le_add_left (show 1 ≤ 64 by decide) _) hu4; have hu5 := hr.u65; have hu6 := hr.u66
  exact (xs_one (xs_if (xt_not (xt_val (xe_call F_is_row hr (by decide) tk (xa_cons (xo_val (xe_name 0)) xa_nil)))) (xs_one (xs_raise k_InvalidRow m_InvalidRow tk)) xs_nil))
abbrev s_prefixes_in : Stmt := top 20
abbrev N_prefixes_in : List Str := ["row", "found", "letter"]
theorem sc_prefixes_in : FnScope N_prefixes_in ["row"] (defScope s_prefixes_in) := ⟨rfl, rfl, rfl, by decide +kernel, rfl, by decide +kernel, by decide +kernel⟩
theorem x_prefixes_in {P : Program} {w : World} {K : PySem.W.Frag} {mg : Str → Option Value} {base : Heap} {f : Addr} {cdv : Value} {A : Around} {outer : List Env} {s : Shared} {H : Hp} {E : XK}  (n_int : mg "int" = none)
    (hr : RoomG 0 (A.deeper (envOfC "prefixes_in" (defScope s_prefixes_in) s.heap.objs.size f cdv))) : XSs (cxOf (L2N.CX P w) P w K mg base N_prefixes_in "prefixes_in" (defScope s_prefixes_in) f cdv A outer s H E) (fun cls d _ H => E cls d H) (defBody s_prefixes_in) (D_prefixes_in ) := by
  have tk : L2N.Takes (cxOf (L2N.CX P w) P w K mg base N_prefixes_in "prefixes_in" (defScope s_prefixes_in) f cdv A outer s H E) (fun cls d _ H => E cls d H) := L2N.takes_of rfl rfl rfl rfl
  have hp : PassesOwn (model P w) (cxOf (L2N.CX P w) P w K mg base N_prefixes_in "prefixes_in" (defScope s_prefixes_in) f cdv A outer s H E).A (cxOf (L2N.CX P w) P w K mg base N_prefixes_in "prefixes_in" (defScope s_prefixes_in) f cdv A outer s H E).env (cxOf (L2N.CX P w) P w K mg base N_prefixes_in "prefixes_in" (defScope s_prefixes_in) f cdv A outer s H E).xe := passes_of rfl
  have nd : (N_prefixes_in).Nodup := sc_prefixes_in.nd
  have hu4 := hr.u64; have hu1 := Nat.lt_of_le_of_lt (Nat.add_le_add_left (show 1 ≤ 64 by decide) _) hu4; have hu5 := hr.u65; have hu6 := hr.u66
  exact (xs_cons (xs_set 1 (xe_lst (xa_cons (xo_val xe_int) xa_nil)) nd)
    (xs_cons (xs_for hp rfl (xi_src (xe_name 0)) (xg_name 2 nd) (xs_one (xs_expr (xe_mut 1 m_app PySem.F.plainAttrs_list PySem.F.slot_list_append PySem.F.type_list_append mt_append (xa_cons (xo_val (xe_op op_addA p_add (xo_val (xe_ix ix_seq p_ix (xo_name 1) (xo_val (xe_un un_neg p_neg (xo_val xe_int))))) (xo_val (xe_callTy call_int1 p_int1 rfl n_int boot_int (xa_cons (xo_val (xe_cmp (op_eqA hu4) p_eq (xo_name 2) (xo_val (xe_str [97])))) xa_nil))))) xa_nil)))))
    (xs_one (xs_ret (xe_move 1)))))
abbrev s_pairs_of : Stmt := top 21
abbrev N_pairs_of : List Str := ["row", "many", "letter"]
theorem sc_pairs_of : FnScope N_pairs_of ["row"] (defScope s_pairs_of) := ⟨rfl, rfl, rfl, by decide +kernel, rfl, by decide +kernel, by decide +kernel⟩
theorem x_pairs_of {P : Program} {w : World} {K : PySem.W.Frag} {mg : Str → Option Value} {base : Heap} {f : Addr} {cdv : Value} {A : Around} {outer : List Env} {s : Shared} {H : Hp} {E : XK} {S_prefixes_in : Sx} (F_prefixes_in : FnX P w K mg base 1 "prefixes_in" S_prefixes_in) (n_sum : mg "sum" = none) (n_zip : mg "zip" = none)
    (hr : RoomG 1 (A.deeper (envOfC "pairs_of" (defScope s_pairs_of) s.heap.objs.size f cdv))) : XSs (cxOf (L2N.CX P w) P w K mg base N_pairs_of "pairs_of" (defScope s_pairs_of) f cdv A outer s H E) (fun cls d _ H => E cls d H) (defBody s_pairs_of) (D_pairs_of S_prefixes_in) := by
  have tk : L2N.Takes (cxOf (L2N.CX P w) P w K mg base N_pairs_of "pairs_of" (defScope s_pairs_of) f cdv A outer s H E) (fun cls d _ H => E cls d H) := L2N.takes_of rfl rfl rfl rfl
  have hp : PassesOwn (model P w) (cxOf (L2N.CX P w) P w K mg base N_pairs_of "pairs_of" (defScope s_pairs_of) f cdv A outer s H E).A (cxOf (L2N.CX P w) P w K mg base N_pairs_of "pairs_of" (defScope s_pairs_of) f cdv A outer s H E).env (cxOf (L2N.CX P w) P w K mg base N_pairs_of "pairs_of" (defScope s_pairs_of) f cdv A outer s H E).xe := passes_of rfl
  have nd : (N_pairs_of).Nodup := sc_pairs_of.nd
  have hu4 := hr.u64; have hu1 := Nat.lt_of_le_of_lt (Nat.add_le_add_left (show 1 ≤ 64 by decide) _) hu4; have hu5 := hr.u65; have hu6 := hr.u66
  exact (xs_one (xs_ret (xe_callB (cr_sum rfl) p_sum rfl n_sum boot_sum (xa_cons (xo_val (xe_lc rfl nd (xi_zip2 rfl n_zip (xa_cons (xo_val (xe_call F_prefixes_in hr (by decide) tk (xa_cons (xo_val (xe_name 0)) xa_nil))) (xa_cons (xo_val (xe_name 0)) xa_nil))) (own := [("many", 1), ("letter", 2)]) (blkOk_by (by kernel_rfl)) (by decide) (fun _ _ _ _ _ => (pc_tup rfl (pc_cons 1 nd (pc_cons 2 nd pc_nil)))) (fun _ _ _ _ _ => (xts_one (xt_cmp (op_eqA hu4) p_eq (xo_name 2) (xo_val (xe_str [98]))))) (fun _ _ _ _ _ => (xe_name 1)))) xa_nil))))
abbrev s_triple_of : Stmt := top 24
abbrev N_triple_of : List Str := ["row"]
theorem sc_triple_of : FnScope N_triple_of ["row"] (defScope s_triple_of) := ⟨rfl, rfl, rfl, by decide +kernel, rfl, by decide +kernel, by decide +kernel⟩
theorem x_triple_of {P : Program} {w : World} {K : PySem.W.Frag} {mg : Str → Option Value} {base : Heap} {f : Addr} {cdv : Value} {A : Around} {outer : List Env} {s : Shared} {H : Hp} {E : XK} {S_pairs_of : Sx} (F_pairs_of : FnX P w K mg base 2 "pairs_of" S_pairs_of)
    (hr : RoomG 2 (A.deeper (envOfC "triple_of" (defScope s_triple_of) s.heap.objs.size f cdv))) : XSs (cxOf (L2N.CX P w) P w K mg base N_triple_of "triple_of" (defScope s_triple_of) f cdv A outer s H E) (fun cls d _ H => E cls d H) (defBody s_triple_of) (D_triple_of S_pairs_of) := by
  have tk : L2N.Takes (cxOf (L2N.CX P w) P w K mg base N_triple_of "triple_of" (defScope s_triple_of) f cdv A outer s H E) (fun cls d _ H => E cls d H) := L2N.takes_of rfl rfl rfl rfl
  have hp : PassesOwn (model P w) (cxOf (L2N.CX P w) P w K mg base N_triple_of "triple_of" (defScope s_triple_of) f cdv A outer s H E).A (cxOf (L2N.CX P w) P w K mg base N_triple_of "triple_of" (defScope s_triple_of) f cdv A outer s H E).env (cxOf (L2N.CX P w) P w K mg base N_triple_of "triple_of" (defScope s_triple_of) f cdv A outer s H E).xe := passes_of rfl
  have nd : (N_triple_of).Nodup := sc_triple_of.nd
  have hu4 := hr.u64; have hu1 := Nat.lt_of_le_of_lt (Nat.add_le_add_left (show 1 ≤ 64 by decide) _) hu4; have hu5 := hr.u65; have hu6 := hr.u66
  exact (xs_one (xs_ret (xe_tup (xa_cons (xo_val (xe_bm p_count PySem.F.plainAttrs_str PySem.F.slot_str_count PySem.F.type_str_count mt_count (xo_name 0) (xa_cons (xo_val (xe_str [97])) xa_nil))) (xa_cons (xo_val (xe_bm p_count PySem.F.plainAttrs_str PySem.F.slot_str_count PySem.F.type_str_count mt_count (xo_name 0) (xa_cons (xo_val (xe_str [98])) xa_nil))) (xa_cons (xo_val (xe_call F_pairs_of hr (by decide) tk (xa_cons (xo_val (xe_name 0)) xa_nil))) xa_nil))))))
abbrev s__law_reel : Stmt := top 28
abbrev N__law_reel : List Str := ["script", "stir", "cell", "great"]
theorem sc__law_reel : FnScope N__law_reel ["script"] (defScope s__law_reel) := ⟨rfl, rfl, rfl, by decide +kernel, rfl, by decide +kernel, by decide +kernel⟩
theorem x__law_reel {P : Program} {w : World} {K : PySem.W.Frag} {mg : Str → Option Value} {base : Heap} {f : Addr} {cdv : Value} {A : Around} {outer : List Env} {s : Shared} {H : Hp} {E : XK} 
    (hr : RoomG 0 (A.deeper (envOfC "_law_reel" (defScope s__law_reel) s.heap.objs.size f cdv))) : XSs (cxOf (L2N.CX P w) P w K mg base N__law_reel "_law_reel" (defScope s__law_reel) f cdv A outer s H E) (fun cls d _ H => E cls d H) (defBody s__law_reel) (D__law_reel ) := by
  have tk : L2N.Takes (cxOf (L2N.CX P w) P w K mg base N__law_reel "_law_reel" (defScope s__law_reel) f cdv A outer s H E) (fun cls d _ H => E cls d H) := L2N.takes_of rfl rfl rfl rfl
  have hp : PassesOwn (model P w) (cxOf (L2N.CX P w) P w K mg base N__law_reel "_law_reel" (defScope s__law_reel) f cdv A outer s H E).A (cxOf (L2N.CX P w) P w K mg base N__law_reel "_law_reel" (defScope s__law_reel) f cdv A outer s H E).env (cxOf (L2N.CX P w) P w K mg base N__law_reel "_law_reel" (defScope s__law_reel) f cdv A outer s H E).xe := passes_of rfl
  have nd : (N__law_reel).Nodup := sc__law_reel.nd
  have hu4 := hr.u64; have hu1 := Nat.lt_of_le_of_lt (Nat.add_le_add_left (show 1 ≤ 64 by decide) _) hu4; have hu5 := hr.u65; have hu6 := hr.u66
  exact (xs_cons (xs_set 1 (xe_op op_pow p_pow (xo_val xe_int) (xo_val xe_int)) nd)
    (xs_cons (xs_for hp rfl (xi_src (xe_sl (xo_name 0) xp_none (xp_some xe_int))) (xg_name 2 nd) (xs_one (xs_set 1 (xe_op op_mod p_mod (xo_val (xe_op op_addA p_add (xo_val (xe_op op_addA p_add (xo_val (xe_op op_mulA p_mul (xo_name 1) (xo_name 1))) (xo_val (xe_op op_mod p_mod (xo_name 2) (xo_val xe_int))))) (xo_val xe_int))) (xo_val (xe_op op_sub p_sub (xo_val (xe_op op_mulA p_mul (xo_val (xe_op op_pow p_pow (xo_val xe_int) (xo_val xe_int))) (xo_val (xe_op op_pow p_pow (xo_val xe_int) (xo_val xe_int))))) (xo_val xe_int)))) nd)))
    (xs_cons (xs_setLc 3 rfl nd (xi_src (xe_sl (xo_name 0) xp_none (xp_some xe_int))) (own := [("cell", 2)]) (blkOk_by (by kernel_rfl)) (by decide) (fun _ _ _ _ _ => (pc_name 2 nd)) (fun _ _ _ _ _ => (xts_one (xt_cmp op_geA p_ge (xo_name 2) (xo_val (xe_op op_pow p_pow (xo_val xe_int) (xo_val xe_int)))))) (fun _ _ _ _ _ => (xe_op op_sub p_sub (xo_name 2) (xo_val (xe_op op_pow p_pow (xo_val xe_int) (xo_val xe_int))))) (sw_true rfl rfl rfl rfl) rfl)
    (xs_one (xs_ret (xe_lst (xa_cons (xo_val (xe_name 3)) (xa_cons (xo_val (xe_op op_addA p_add (xo_val (xe_lc rfl nd (xi_src (xe_sl (xo_name 0) xp_none (xp_some xe_int))) (own := [("cell", 2)]) (blkOk_by (by kernel_rfl)) (by decide) (fun _ _ _ _ _ => (pc_name 2 nd)) (fun _ _ _ _ _ => xts_nil) (fun _ _ _ _ _ => (xe_op op_mod p_mod (xo_name 2) (xo_val xe_int))))) (xo_val (xe_lst (xa_cons (xo_val xe_int) xa_nil))))) (xa_cons (xo_val xe_int) (xa_cons (xo_val (xe_name 1)) xa_nil))))))))))
abbrev s__law_draw : Stmt := top 29
abbrev N__law_draw : List Str := ["reel", "many", "rest", "extra", "stir"]
theorem sc__law_draw : FnScope N__law_draw ["reel", "many"] (defScope s__law_draw) := ⟨rfl, rfl, rfl, by decide +kernel, rfl, by decide +kernel, by decide +kernel⟩
theorem x__law_draw {P : Program} {w : World} {K : PySem.W.Frag} {mg : Str → Option Value} {base : Heap} {f : Addr} {cdv : Value} {A : Around} {outer : List Env} {s : Shared} {H : Hp} {E : XK}  (n_int : mg "int" = none) (n_len : mg "len" = none)
    (hr : RoomG 0 (A.deeper (envOfC "_law_draw" (defScope s__law_draw) s.heap.objs.size f cdv))) : XSs (cxOf (L2N.CX P w) P w K mg base N__law_draw "_law_draw" (defScope s__law_draw) f cdv A outer s H E) (fun cls d _ H => E cls d H) (defBody s__law_draw) (D__law_draw ) := by
  have tk : L2N.Takes (cxOf (L2N.CX P w) P w K mg base N__law_draw "_law_draw" (defScope s__law_draw) f cdv A outer s H E) (fun cls d _ H => E cls d H) := L2N.takes_of rfl rfl rfl rfl
  have hp : PassesOwn (model P w) (cxOf (L2N.CX P w) P w K mg base N__law_draw "_law_draw" (defScope s__law_draw) f cdv A outer s H E).A (cxOf (L2N.CX P w) P w K mg base N__law_draw "_law_draw" (defScope s__law_draw) f cdv A outer s H E).env (cxOf (L2N.CX P w) P w K mg base N__law_draw "_law_draw" (defScope s__law_draw) f cdv A outer s H E).xe := passes_of rfl
  have nd : (N__law_draw).Nodup := sc__law_draw.nd
  have hu4 := hr.u64; have hu1 := Nat.lt_of_le_of_lt (Nat.add_le_add_left (show 1 ≤ 64 by decide) _) hu4; have hu5 := hr.u65; have hu6 := hr.u66
  exact (xs_cons (xs_if (xt_neQ hu4 (xq_op (xo_val (xe_ix ix_seq p_ix (xo_name 0) (xo_val xe_int)))) (xq_ls xq_nil)) (xs_cons (xs_set 2 (xe_ix ix_seq p_ix (xo_val (xe_ix ix_seq p_ix (xo_name 0) (xo_val xe_int))) (xo_val xe_int)) nd)
    (xs_cons (xs_asg (xe_op op_addA p_add (xo_val (xe_op op_mulA p_mul (xo_val (xe_lst (xa_cons (xo_val (xe_op op_fdivW p_fdiv (xo_name 2) (xo_name 1))) xa_nil))) (xo_val (xe_callTy call_int1 p_int1 rfl n_int boot_int (xa_cons (xo_val (xe_cmp op_geA p_ge (xo_name 2) (xo_name 1))) xa_nil))))) (xo_val (xe_sl (xo_val (xe_ix ix_seq p_ix (xo_name 0) (xo_val xe_int))) (xp_some xe_int) xp_none))) (xg_item 0 s_list set_list (xo_val xe_int)))
    (xs_one (xs_ret (xe_op op_mod p_mod (xo_name 2) (xo_name 1)))))) xs_nil)
    (xs_cons (xs_asg (xe_op op_addA p_add (xo_val (xe_ix ix_seq p_ix (xo_name 0) (xo_val xe_int))) (xo_val xe_int)) (xg_item 0 s_list set_list (xo_val xe_int)))
    (xs_cons (xs_set 3 (xe_ix ix_seq p_ix (xo_val (xe_ix ix_seq p_ix (xo_name 0) (xo_val xe_int))) (xo_val (xe_op op_mod p_mod (xo_val (xe_ix ix_seq p_ix (xo_name 0) (xo_val xe_int))) (xo_val (xe_callB call_lenA p_len rfl n_len boot_len (xa_cons (xo_val (xe_ix ix_seq p_ix (xo_name 0) (xo_val xe_int))) xa_nil)))))) nd)
    (xs_cons (xs_set 4 (xe_op op_addA p_add (xo_val (xe_op op_addA p_add (xo_val (xe_op op_mulA p_mul (xo_val (xe_ix ix_seq p_ix (xo_name 0) (xo_val xe_int))) (xo_val (xe_ix ix_seq p_ix (xo_name 0) (xo_val xe_int))))) (xo_val (xe_op op_mulA p_mul (xo_val (xe_op op_addA p_add (xo_name 3) (xo_val xe_int))) (xo_val xe_int))))) (xo_val (xe_op op_mulA p_mul (xo_val (xe_ix ix_seq p_ix (xo_name 0) (xo_val xe_int))) (xo_val xe_int)))) nd)
    (xs_cons (xs_asg (xe_op op_mod p_mod (xo_name 4) (xo_val (xe_op op_sub p_sub (xo_val (xe_op op_mulA p_mul (xo_val (xe_op op_pow p_pow (xo_val xe_int) (xo_val xe_int))) (xo_val (xe_op op_pow p_pow (xo_val xe_int) (xo_val xe_int))))) (xo_val xe_int)))) (xg_item 0 s_list set_list (xo_val xe_int)))
    (xs_one (xs_ret (xe_op op_mod p_mod (xo_val (xe_op op_fdivW p_fdiv (xo_val (xe_ix ix_seq p_ix (xo_name 0) (xo_val xe_int))) (xo_val (xe_op op_pow p_pow (xo_val xe_int) (xo_val xe_int))))) (xo_name 1)))))))))
abbrev s__law_word : Stmt := top 30
abbrev N__law_word : List Str := ["reel", "low", "high", "size", "way", "found", "part", "turn", "letter", "at"]
theorem sc__law_word : FnScope N__law_word ["reel", "low", "high"] (defScope s__law_word) := ⟨rfl, rfl, rfl, by decide +kernel, rfl, by decide +kernel, by decide +kernel⟩
theorem x__law_word {P : Program} {w : World} {K : PySem.W.Frag} {mg : Str → Option Value} {base : Heap} {f : Addr} {cdv : Value} {A : Around} {outer : List Env} {s : Shared} {H : Hp} {E : XK} {S__law_draw : Sx} (F__law_draw : FnX P w K mg base 1 "_law_draw" S__law_draw) (n_range : mg "range" = none) (n_len : mg "len" = none)
    (hr : RoomG 1 (A.deeper (envOfC "_law_word" (defScope s__law_word) s.heap.objs.size f cdv))) : XSs (cxOf (L2N.CX P w) P w K mg base N__law_word "_law_word" (defScope s__law_word) f cdv A outer s H E) (fun cls d _ H => E cls d H) (defBody s__law_word) (D__law_word S__law_draw) := by
  have tk : L2N.Takes (cxOf (L2N.CX P w) P w K mg base N__law_word "_law_word" (defScope s__law_word) f cdv A outer s H E) (fun cls d _ H => E cls d H) := L2N.takes_of rfl rfl rfl rfl
  have hp : PassesOwn (model P w) (cxOf (L2N.CX P w) P w K mg base N__law_word "_law_word" (defScope s__law_word) f cdv A outer s H E).A (cxOf (L2N.CX P w) P w K mg base N__law_word "_law_word" (defScope s__law_word) f cdv A outer s H E).env (cxOf (L2N.CX P w) P w K mg base N__law_word "_law_word" (defScope s__law_word) f cdv A outer s H E).xe := passes_of rfl
  have nd : (N__law_word).Nodup := sc__law_word.nd
  have hu4 := hr.u64; have hu1 := Nat.lt_of_le_of_lt (Nat.add_le_add_left (show 1 ≤ 64 by decide) _) hu4; have hu5 := hr.u65; have hu6 := hr.u66
  exact (xs_cons (xs_par3 (i := 3) (j := 4) (l := 5) rfl nd (xv_cons (xe_op op_addA p_add (xo_name 1) (xo_val (xe_call F__law_draw hr (by decide) tk (xa_cons (xo_name 0) (xa_cons (xo_val (xe_op op_addA p_add (xo_val (xe_op op_sub p_sub (xo_name 2) (xo_name 1))) (xo_val xe_int))) xa_nil))))) (xv_cons (xe_call F__law_draw hr (by decide) tk (xa_cons (xo_name 0) (xa_cons (xo_val xe_int) xa_nil))) (xv_cons (xe_str []) xv_nil))))
    (xs_cons (xs_if (xt_cmp (op_eqA hu4) p_eq (xo_name 4) (xo_val xe_int)) (xs_cons (xs_set 6 (xe_bm p_join PySem.F.plainAttrs_str PySem.F.slot_str_join PySem.F.type_str_join mt_join (xo_val (xe_str [])) (xa_cons (xo_val (xe_lc rfl nd (xi_range1 rfl n_range (xa_cons (xo_val (xe_op op_addA p_add (xo_val xe_int) (xo_val (xe_call F__law_draw hr (by decide) tk (xa_cons (xo_name 0) (xa_cons (xo_val xe_int) xa_nil)))))) xa_nil)) (own := [("turn", 7)]) (blkOk_by (by kernel_rfl)) (by decide) (fun _ _ _ _ _ => (pc_name 7 nd)) (fun _ _ _ _ _ => xts_nil) (fun _ _ _ _ _ => (xe_ix ix_seq p_ix (xo_val (xe_str [97, 98])) (xo_val (xe_call F__law_draw hr (by decide) takes_blk (xa_cons (xo_name 0) (xa_cons (xo_val xe_int) xa_nil)))))))) xa_nil)) nd)
    (xs_one (xs_ret (xe_sl (xo_val (xe_op op_mulA p_mul (xo_name 6) (xo_name 3))) xp_none (xp_some (xe_name 3)))))) xs_nil)
    (xs_cons (xs_while hp (xt_cmp op_ltA p_lt (xo_val (xe_callB call_lenA p_len rfl n_len boot_len (xa_cons (xo_name 5) xa_nil))) (xo_name 3)) (xs_cons (xs_set 8 (xe_ix ix_seq p_ix (xo_val (xe_lst (xa_cons (xo_val (xe_str [97, 98])) (xa_cons (xo_val (xe_str [97, 97, 97, 97, 98])) (xa_cons (xo_val (xe_str [97, 98])) (xa_cons (xo_val (xe_str [98, 98, 98, 97])) (xa_cons (xo_val (xe_str [])) (xa_cons (xo_val (xe_str [98])) xa_nil)))))))) (xo_name 4)) nd)
    (xs_cons (xs_set 8 (xe_ix ix_seq p_ix (xo_name 8) (xo_val (xe_call F__law_draw hr (by decide) tk (xa_cons (xo_name 0) (xa_cons (xo_val (xe_callB call_lenA p_len rfl n_len boot_len (xa_cons (xo_name 8) xa_nil))) xa_nil))))) nd)
    (xs_one (xs_set 5 (xe_op op_addA p_add (xo_name 5) (xo_val (xe_op op_mulA p_mul (xo_name 8) (xo_val (xe_ix ix_seq p_ix (xo_val (xe_lst (xa_cons (xo_val xe_int) (xa_cons (xo_val xe_int) (xa_cons (xo_val (xe_op op_addA p_add (xo_val xe_int) (xo_val (xe_call F__law_draw hr (by decide) tk (xa_cons (xo_name 0) (xa_cons (xo_val xe_int) xa_nil)))))) (xa_cons (xo_val xe_int) (xa_cons (xo_val xe_int) (xa_cons (xo_val xe_int) xa_nil)))))))) (xo_name 4)))))) nd)))))
    (xs_cons (xs_set 9 (xe_call F__law_draw hr (by decide) tk (xa_cons (xo_name 0) (xa_cons (xo_val (xe_op op_addA p_add (xo_name 3) (xo_val xe_int))) xa_nil))) nd)
    (xs_one (xs_ret (xe_if (xt_cmp (op_eqA hu4) p_eq (xo_name 4) (xo_val xe_int)) (xe_sl (xo_val (xe_op op_addA p_add (xo_val (xe_op op_addA p_add (xo_val (xe_sl (xo_name 5) xp_none (xp_some (xe_name 9)))) (xo_val (xe_str [97])))) (xo_val (xe_sl (xo_name 5) (xp_some (xe_op op_addA p_add (xo_name 9) (xo_val xe_int))) xp_none)))) xp_none (xp_some (xe_name 3))) (xe_sl (xo_name 5) xp_none (xp_some (xe_name 3))))))))))
abbrev s__law_no_rows : Stmt := top 31
abbrev N__law_no_rows : List Str := ["reel", "text", "at", "found", "sign"]
theorem sc__law_no_rows : FnScope N__law_no_rows ["reel", "text"] (defScope s__law_no_rows) := ⟨rfl, rfl, rfl, by decide +kernel, rfl, by decide +kernel, by decide +kernel⟩
theorem x__law_no_rows {P : Program} {w : World} {K : PySem.W.Frag} {mg : Str → Option Value} {base : Heap} {f : Addr} {cdv : Value} {A : Around} {outer : List Env} {s : Shared} {H : Hp} {E : XK} {S__law_draw : Sx} (F__law_draw : FnX P w K mg base 1 "_law_draw" S__law_draw) (n_len : mg "len" = none) (n_list : mg "list" = none) (n_tuple : mg "tuple" = none)
    (hr : RoomG 1 (A.deeper (envOfC "_law_no_rows" (defScope s__law_no_rows) s.heap.objs.size f cdv))) : XSs (cxOf (L2N.CX P w) P w K mg base N__law_no_rows "_law_no_rows" (defScope s__law_no_rows) f cdv A outer s H E) (fun cls d _ H => E cls d H) (defBody s__law_no_rows) (D__law_no_rows S__law_draw) := by
  have tk : L2N.Takes (cxOf (L2N.CX P w) P w K mg base N__law_no_rows "_law_no_rows" (defScope s__law_no_rows) f cdv A outer s H E) (fun cls d _ H => E cls d H) := L2N.takes_of rfl rfl rfl rfl
  have hp : PassesOwn (model P w) (cxOf (L2N.CX P w) P w K mg base N__law_no_rows "_law_no_rows" (defScope s__law_no_rows) f cdv A outer s H E).A (cxOf (L2N.CX P w) P w K mg base N__law_no_rows "_law_no_rows" (defScope s__law_no_rows) f cdv A outer s H E).env (cxOf (L2N.CX P w) P w K mg base N__law_no_rows "_law_no_rows" (defScope s__law_no_rows) f cdv A outer s H E).xe := passes_of rfl
  have nd : (N__law_no_rows).Nodup := sc__law_no_rows.nd
  have hu4 := hr.u64; have hu1 := Nat.lt_of_le_of_lt (Nat.add_le_add_left (show 1 ≤ 64 by decide) _) hu4; have hu5 := hr.u65; have hu6 := hr.u66
  exact (xs_cons (xs_set 2 (xe_call F__law_draw hr (by decide) tk (xa_cons (xo_name 0) (xa_cons (xo_val (xe_op op_addA p_add (xo_val (xe_callB call_lenA p_len rfl n_len boot_len (xa_cons (xo_name 1) xa_nil))) (xo_val xe_int))) xa_nil))) nd)
    (xs_cons (xs_setLc 3 rfl nd (xi_src (xe_lst (xa_cons (xo_val (xe_str [65])) (xa_cons (xo_val (xe_str [66])) (xa_cons (xo_val (xe_str [99])) (xa_cons (xo_val (xe_str [48])) (xa_cons (xo_val (xe_str [45])) (xa_cons (xo_val (xe_str [32])) (xa_cons (xo_val (xe_str [10])) (xa_cons (xo_val (xe_str [96])) (xa_cons (xo_val (xe_str [63])) xa_nil))))))))))) (own := [("sign", 4)]) (blkOk_by (by kernel_rfl)) (by decide) (fun _ _ _ _ _ => (pc_name 4 nd)) (fun _ _ _ _ _ => xts_nil) (fun _ _ _ _ _ => (xe_op op_addA p_add (xo_val (xe_op op_addA p_add (xo_val (xe_sl (xo_name 1) xp_none (xp_some (xe_name 2)))) (xo_name 4))) (xo_val (xe_sl (xo_name 1) (xp_some (xe_op op_addA p_add (xo_name 2) (xo_val xe_int))) xp_none)))) (sw_true rfl rfl rfl rfl) rfl)
    (xs_cons (xs_set 3 (xe_op op_addA p_add (xo_name 3) (xo_val (xe_lst (xa_cons (xo_val (xe_op op_addA p_add (xo_name 1) (xo_val (xe_op op_mulA p_mul (xo_val (xe_str [97])) (xo_val (xe_op op_sub p_sub (xo_val xe_int) (xo_val (xe_callB call_lenA p_len rfl n_len boot_len (xa_cons (xo_name 1) xa_nil))))))))) (xa_cons (xo_val (xe_op op_mulA p_mul (xo_val (xe_str [98])) (xo_val xe_int))) (xa_cons (xo_val (xe_op op_addA p_add (xo_name 1) (xo_val (xe_str [32])))) (xa_cons (xo_val (xe_op op_addA p_add (xo_val (xe_str [10])) (xo_name 1))) (xa_cons (xo_val (xe_lst (xa_cons (xo_val (xe_name 1)) xa_nil))) (xa_cons (xo_val (xe_tup (xa_cons (xo_val (xe_name 1)) xa_nil))) (xa_cons (xo_val (xe_callTy (call_listA rfl) p_list rfl n_list boot_list (xa_cons (xo_name 1) xa_nil))) xa_nil)))))))))) nd)
    (xs_one (xs_ret (xe_op op_addA p_add (xo_name 3) (xo_val (xe_lst (xa_cons (xo_val xe_non) (xa_cons (xo_val xe_int) (xa_cons (xo_val xe_int) (xa_cons (xo_val xe_bl) (xa_cons (xo_val (xe_lst xa_nil)) (xa_cons (xo_val (xe_tup xa_nil)) (xa_cons (xo_val xe_dict0) (xa_cons (xo_val (xe_dict (xps_cons (xo_val (xe_name 1)) (xo_val xe_int) xps_nil) rfl rfl (by decide) (by decide))) (xa_cons (xo_val (xe_callTy (call_tupleA rfl) p_tuple rfl n_tuple boot_tuple (xa_cons (xo_name 1) xa_nil))) (xa_cons (xo_val (xe_op op_pow p_pow (xo_val xe_int) (xo_val xe_int))) (xa_cons (xo_val (xe_lst (xa_cons (xo_val (xe_str [97])) xa_nil))) (xa_cons (xo_val (xe_str [97, 98, 44])) xa_nil))))))))))))))))))))
abbrev s__law_kind : Stmt := top 32
abbrev N__law_kind : List Str := ["e", "names", "found", "name", "is_one"]
theorem sc__law_kind : FnScope N__law_kind ["e"] (defScope s__law_kind) := ⟨rfl, rfl, rfl, by decide +kernel, rfl, by decide +kernel, by decide +kernel⟩
theorem x__law_kind {P : Program} {w : World} {K : PySem.W.Frag} {mg : Str → Option Value} {base : Heap} {f : Addr} {cdv : Value} {A : Around} {outer : List Env} {s : Shared} {H : Hp} {E : XK} {p : Addr × Obj} {C : Addr} {d : Option Addr} {fs : List (Str × T)} {n : Str}  (n_isinstance : mg "isinstance" = none) (n_len : mg "len" = none) (n_ValueError : mg "ValueError" = none) (ge_InvalidCounts : mg "InvalidCounts" = some (.ref (He.ga K "InvalidCounts"))) (ge_InvalidRow : mg "InvalidRow" = some (.ref (He.ga K "InvalidRow"))) (ge_InvalidSwap : mg "InvalidSwap" = some (.ref (He.ga K "InvalidSwap"))) (ge_InvalidRuns : mg "InvalidRuns" = some (.ref (He.ga K "InvalidRuns"))) (ge_InvalidNumber : mg "InvalidNumber" = some (.ref (He.ga K "InvalidNumber"))) (ge_InvalidPattern : mg "InvalidPattern" = some (.ref (He.ga K "InvalidPattern"))) (ge_InvalidCommand : mg "InvalidCommand" = some (.ref (He.ga K "InvalidCommand"))) (ge_InvalidStrands : mg "InvalidStrands" = some (.ref (He.ga K "InvalidStrands"))) (ge_NothingToUndo : mg "NothingToUndo" = some (.ref (He.ga K "NothingToUndo"))) (ge_Different : mg "Different" = some (.ref (He.ga K "Different"))) (ge_InvalidText : mg "InvalidText" = some (.ref (He.ga K "InvalidText"))) (ge_TooLarge : mg "TooLarge" = some (.ref (He.ga K "TooLarge")))
    (hot : L2H.Hot1 A p) (hr : L2H.RoomH 0 (A.deeper (envOfC "_law_kind" (defScope s__law_kind) s.heap.objs.size f cdv))) (er : ErrAt C p d) (en : ErrN K C n) : XSs (L2H.cxH (L2N.CX P w) P w K mg base N__law_kind "_law_kind" (defScope s__law_kind) f cdv A outer s H E p) (fun _ _ _ _ => False) (defBody s__law_kind) (D__law_kind (.exc p.1 C d fs) (takesE n)) := by
  have nd : (N__law_kind).Nodup := sc__law_kind.nd
  have hot : L2H.Hot1 (L2H.cxH (L2N.CX P w) P w K mg base N__law_kind "_law_kind" (defScope s__law_kind) f cdv A outer s H E p).A p := hot
  have hp : p ∈ (L2H.cxH (L2N.CX P w) P w K mg base N__law_kind "_law_kind" (defScope s__law_kind) f cdv A outer s H E p).pn := List.mem_singleton.mpr rfl
  have hu : (A.deeper (envOfC "_law_kind" (defScope s__law_kind) s.heap.objs.size f cdv)).units + 200 < cLine := by have := hr.un; omega
  have hu4 := Nat.lt_of_le_of_lt (Nat.add_le_add_left (show 64 ≤ 200 by decide) _) hu; have hu1 := Nat.lt_of_le_of_lt (Nat.add_le_add_left (show 1 ≤ 200 by decide) _) hu; have hu5 := Nat.lt_of_le_of_lt (Nat.add_le_add_left (show 65 ≤ 200 by decide) _) hu; have hu6 := Nat.lt_of_le_of_lt (Nat.add_le_add_left (show 66 ≤ 200 by decide) _) hu
  exact (xs_cons (xs_set 1 (xe_lst (xa_cons (xo_val (xe_tup (xa_cons (xo_val (xe_str [114, 111, 119])) (xa_cons (xo_val (xe_isE 0 er hp en (by decide) ge_InvalidRow n_isinstance)) xa_nil)))) (xa_cons (xo_val (xe_tup (xa_cons (xo_val (xe_str [99, 111, 117, 110, 116, 115])) (xa_cons (xo_val (xe_isE 0 er hp en (by decide) ge_InvalidCounts n_isinstance)) xa_nil)))) xa_nil))) nd)
    (xs_cons (xs_set 1 (xe_op op_addA p_add (xo_name 1) (xo_val (xe_lst (xa_cons (xo_val (xe_tup (xa_cons (xo_val (xe_str [114, 117, 110, 115])) (xa_cons (xo_val (xe_isE 0 er hp en (by decide) ge_InvalidRuns n_isinstance)) xa_nil)))) (xa_cons (xo_val (xe_tup (xa_cons (xo_val (xe_str [115, 119, 97, 112])) (xa_cons (xo_val (xe_isE 0 er hp en (by decide) ge_InvalidSwap n_isinstance)) xa_nil)))) xa_nil))))) nd)
    (xs_cons (xs_set 1 (xe_op op_addA p_add (xo_name 1) (xo_val (xe_lst (xa_cons (xo_val (xe_tup (xa_cons (xo_val (xe_str [112, 97, 116, 116, 101, 114, 110])) (xa_cons (xo_val (xe_isE 0 er hp en (by decide) ge_InvalidPattern n_isinstance)) xa_nil)))) (xa_cons (xo_val (xe_tup (xa_cons (xo_val (xe_str [110, 117, 109, 98, 101, 114])) (xa_cons (xo_val (xe_isE 0 er hp en (by decide) ge_InvalidNumber n_isinstance)) xa_nil)))) xa_nil))))) nd)
    (xs_cons (xs_set 1 (xe_op op_addA p_add (xo_name 1) (xo_val (xe_lst (xa_cons (xo_val (xe_tup (xa_cons (xo_val (xe_str [115, 116, 114, 97, 110, 100, 115])) (xa_cons (xo_val (xe_isE 0 er hp en (by decide) ge_InvalidStrands n_isinstance)) xa_nil)))) (xa_cons (xo_val (xe_tup (xa_cons (xo_val (xe_str [99, 111, 109, 109, 97, 110, 100])) (xa_cons (xo_val (xe_isE 0 er hp en (by decide) ge_InvalidCommand n_isinstance)) xa_nil)))) xa_nil))))) nd)
    (xs_cons (xs_set 1 (xe_op op_addA p_add (xo_name 1) (xo_val (xe_lst (xa_cons (xo_val (xe_tup (xa_cons (xo_val (xe_str [100, 105, 102, 102, 101, 114, 101, 110, 116])) (xa_cons (xo_val (xe_isE 0 er hp en (by decide) ge_Different n_isinstance)) xa_nil)))) (xa_cons (xo_val (xe_tup (xa_cons (xo_val (xe_str [117, 110, 100, 111])) (xa_cons (xo_val (xe_isE 0 er hp en (by decide) ge_NothingToUndo n_isinstance)) xa_nil)))) xa_nil))))) nd)
    (xs_cons (xs_set 1 (xe_op op_addA p_add (xo_name 1) (xo_val (xe_lst (xa_cons (xo_val (xe_tup (xa_cons (xo_val (xe_str [108, 97, 114, 103, 101])) (xa_cons (xo_val (xe_isE 0 er hp en (by decide) ge_TooLarge n_isinstance)) xa_nil)))) (xa_cons (xo_val (xe_tup (xa_cons (xo_val (xe_str [116, 101, 120, 116])) (xa_cons (xo_val (xe_isE 0 er hp en (by decide) ge_InvalidText n_isinstance)) xa_nil)))) xa_nil))))) nd)
    (xs_cons (xs_pick 2 1 3 4 hot hp nd (blkOk_by (own := [("name", 3), ("is_one", 4)]) (by kernel_rfl)) (by decide) (show 3 < N__law_kind.length by decide) (show 4 < N__law_kind.length by decide) (fun _ _ _ _ _ => pgs_cons (pg_name nd (i := 3) rfl (.inl rfl)) (pgs_cons (pg_name nd (i := 4) rfl (.inl rfl)) pgs_nil)) (fun _ _ _ _ _ => pts_one (pt_val (pv 4) (by intro _; rfl))) (fun _ _ _ _ _ => pv 3) (sw_true rfl rfl rfl rfl) rfl)
    (xs_one (xs_ret (xe_if (XW.t (xw_and (xt_cmp (op_eqA hu4) p_eq (xo_val (xe_callB call_lenA p_len rfl n_len boot_len (xa_cons (xo_name 2) xa_nil))) (xo_val xe_int)) (xw_and1 (xt_val (xe_isV 0 er hp en n_ValueError n_isinstance))))) (xe_ix ix_seq p_ix (xo_name 2) (xo_val xe_int)) (xe_str [111, 100, 100])))))))))))
abbrev s__law_many : Stmt := top 33
abbrev N__law_many : List Str := ["reel"]
theorem sc__law_many : FnScope N__law_many ["reel"] (defScope s__law_many) := ⟨rfl, rfl, rfl, by decide +kernel, rfl, by decide +kernel, by decide +kernel⟩
theorem x__law_many {P : Program} {w : World} {K : PySem.W.Frag} {mg : Str → Option Value} {base : Heap} {f : Addr} {cdv : Value} {A : Around} {outer : List Env} {s : Shared} {H : Hp} {E : XK} {S__law_draw : Sx} (F__law_draw : FnX P w K mg base 1 "_law_draw" S__law_draw)
    (hr : RoomG 1 (A.deeper (envOfC "_law_many" (defScope s__law_many) s.heap.objs.size f cdv))) : XSs (cxOf (L2N.CX P w) P w K mg base N__law_many "_law_many" (defScope s__law_many) f cdv A outer s H E) (fun cls d _ H => E cls d H) (defBody s__law_many) (D__law_many S__law_draw) := by
  have tk : L2N.Takes (cxOf (L2N.CX P w) P w K mg base N__law_many "_law_many" (defScope s__law_many) f cdv A outer s H E) (fun cls d _ H => E cls d H) := L2N.takes_of rfl rfl rfl rfl
  have hp : PassesOwn (model P w) (cxOf (L2N.CX P w) P w K mg base N__law_many "_law_many" (defScope s__law_many) f cdv A outer s H E).A (cxOf (L2N.CX P w) P w K mg base N__law_many "_law_many" (defScope s__law_many) f cdv A outer s H E).env (cxOf (L2N.CX P w) P w K mg base N__law_many "_law_many" (defScope s__law_many) f cdv A outer s H E).xe := passes_of rfl
  have nd : (N__law_many).Nodup := sc__law_many.nd
  have hu4 := hr.u64; have hu1 := Nat.lt_of_le_of_lt (Nat.add_le_add_left (show 1 ≤ 64 by decide) _) hu4; have hu5 := hr.u65; have hu6 := hr.u66
  exact (xs_one (xs_ret (xe_ix ix_seq p_ix (xo_val (xe_lst (xa_cons (xo_val xe_int) (xa_cons (xo_val xe_int) (xa_cons (xo_val (xe_call F__law_draw hr (by decide) tk (xa_cons (xo_name 0) (xa_cons (xo_val xe_int) xa_nil)))) (xa_cons (xo_val (xe_call F__law_draw hr (by decide) tk (xa_cons (xo_name 0) (xa_cons (xo_val xe_int) xa_nil)))) (xa_cons (xo_val (xe_call F__law_draw hr (by decide) tk (xa_cons (xo_name 0) (xa_cons (xo_val (xe_op op_pow p_pow (xo_val xe_int) (xo_val xe_int))) xa_nil)))) xa_nil))))))) (xo_val (xe_call F__law_draw hr (by decide) tk (xa_cons (xo_name 0) (xa_cons (xo_val xe_int) xa_nil)))))))
abbrev s__law_any : Stmt := top 34
abbrev N__law_any : List Str := ["reel", "one", "two", "most", "some"]
theorem sc__law_any : FnScope N__law_any ["reel"] (defScope s__law_any) := ⟨rfl, rfl, rfl, by decide +kernel, rfl, by decide +kernel, by decide +kernel⟩
theorem x__law_any {P : Program} {w : World} {K : PySem.W.Frag} {mg : Str → Option Value} {base : Heap} {f : Addr} {cdv : Value} {A : Around} {outer : List Env} {s : Shared} {H : Hp} {E : XK} {S__law_many S__law_draw : Sx} (F__law_many : FnX P w K mg base 2 "_law_many" S__law_many) (F__law_draw : FnX P w K mg base 1 "_law_draw" S__law_draw) (n_max : mg "max" = none) (n_min : mg "min" = none)
    (hr : RoomG 2 (A.deeper (envOfC "_law_any" (defScope s__law_any) s.heap.objs.size f cdv))) : XSs (cxOf (L2N.CX P w) P w K mg base N__law_any "_law_any" (defScope s__law_any) f cdv A outer s H E) (fun cls d _ H => E cls d H) (defBody s__law_any) (D__law_any S__law_many S__law_draw) := by
  have tk : L2N.Takes (cxOf (L2N.CX P w) P w K mg base N__law_any "_law_any" (defScope s__law_any) f cdv A outer s H E) (fun cls d _ H => E cls d H) := L2N.takes_of rfl rfl rfl rfl
  have hp : PassesOwn (model P w) (cxOf (L2N.CX P w) P w K mg base N__law_any "_law_any" (defScope s__law_any) f cdv A outer s H E).A (cxOf (L2N.CX P w) P w K mg base N__law_any "_law_any" (defScope s__law_any) f cdv A outer s H E).env (cxOf (L2N.CX P w) P w K mg base N__law_any "_law_any" (defScope s__law_any) f cdv A outer s H E).xe := passes_of rfl
  have nd : (N__law_any).Nodup := sc__law_any.nd
  have hu4 := hr.u64; have hu1 := Nat.lt_of_le_of_lt (Nat.add_le_add_left (show 1 ≤ 64 by decide) _) hu4; have hu5 := hr.u65; have hu6 := hr.u66
  exact (xs_cons (xs_par (i := 1) (j := 2) rfl nd (xv_cons (xe_call F__law_many hr (by decide) tk (xa_cons (xo_name 0) xa_nil)) (xv_cons (xe_call F__law_many hr (by decide) tk (xa_cons (xo_name 0) xa_nil)) xv_nil)))
    (xs_cons (xs_if (xt_cmp (op_eqA hu4) p_eq (xo_val (xe_call F__law_draw hr (by decide) tk (xa_cons (xo_name 0) (xa_cons (xo_val xe_int) xa_nil)))) (xo_val xe_int)) (xs_cons (xs_par (i := 1) (j := 2) rfl nd (xv_cons (xe_call F__law_draw hr (by decide) tk (xa_cons (xo_name 0) (xa_cons (xo_val (xe_op op_pow p_pow (xo_val xe_int) (xo_val xe_int))) xa_nil))) (xv_cons (xe_call F__law_draw hr (by decide) tk (xa_cons (xo_name 0) (xa_cons (xo_val xe_int) xa_nil))) xv_nil)))
    (xs_one (xs_if (xt_cmp (op_eqA hu4) p_eq (xo_val (xe_call F__law_draw hr (by decide) tk (xa_cons (xo_name 0) (xa_cons (xo_val xe_int) xa_nil)))) (xo_val xe_int)) (xs_one (xs_par (i := 1) (j := 2) rfl nd (xv_cons (xe_name 2) (xv_cons (xe_name 1) xv_nil)))) xs_nil))) xs_nil)
    (xs_cons (xs_set 3 (xe_op op_mulA p_mul (xo_name 1) (xo_name 2)) nd)
    (xs_cons (xs_set 4 (xe_lst (xa_cons (xo_val xe_int) (xa_cons (xo_val (xe_name 3)) (xa_cons (xo_val (xe_callB (call_min2 rfl) p_min2 rfl n_min boot_min (xa_cons (xo_val xe_int) (xa_cons (xo_name 3) xa_nil)))) (xa_cons (xo_val (xe_callB (call_max2 rfl) p_max2 rfl n_max boot_max (xa_cons (xo_val xe_int) (xa_cons (xo_val (xe_op op_sub p_sub (xo_name 3) (xo_val xe_int))) xa_nil)))) (xa_cons (xo_val (xe_op op_fdivW p_fdiv (xo_name 3) (xo_val xe_int))) (xa_cons (xo_val (xe_call F__law_draw hr (by decide) tk (xa_cons (xo_name 0) (xa_cons (xo_val (xe_op op_addA p_add (xo_name 3) (xo_val xe_int))) xa_nil)))) xa_nil))))))) nd)
    (xs_one (xs_ret (xe_tup (xa_cons (xo_val (xe_name 1)) (xa_cons (xo_val (xe_name 2)) (xa_cons (xo_val (xe_ix ix_seq p_ix (xo_name 4) (xo_val (xe_call F__law_draw hr (by decide) tk (xa_cons (xo_name 0) (xa_cons (xo_val xe_int) xa_nil)))))) xa_nil))))))))))
abbrev s__law_told : Stmt := top 35
abbrev N__law_told : List Str := ["door", "three", "found", "e"]
theorem sc__law_told : FnScope N__law_told ["door", "three"] (defScope s__law_told) := ⟨rfl, rfl, rfl, by decide +kernel, rfl, by decide +kernel, by decide +kernel⟩
theorem x__law_told {P : Program} {w : World} {K : PySem.W.Frag} {mg : Str → Option Value} {base : Heap} {f : Addr} {cdv : Value} {A : Around} {outer : List Env} {s : Shared} {H : Hp} {E : XK} {S_Counts_init S_Counts_of : Sx} {C_Counts : Addr} {R : Er} (F_Counts_init : FnI P w K mg base 2 C_Counts S_Counts_init) (F_Counts_of : FnC P w K mg base 4 C_Counts "of" S_Counts_of) (F__law_kind : FnHot P w K mg base 1 "_law_kind" kd__law_kind) (m_Counts : mg "Counts" = some (.ref C_Counts)) (ge_PairError : mg "PairError" = some (.ref (He.ga K "PairError"))) (hR : ErOk K R)
    (hr : RoomG 4 (A.deeper (envOfC "_law_told" (defScope s__law_told) s.heap.objs.size f cdv))) : XSs (cxOf (L2N.CX P w) P w K mg base N__law_told "_law_told" (defScope s__law_told) f cdv A outer s H E) (fun cls d _ H => E cls d H) (defBody s__law_told) (D__law_told_2 S_Counts_init S_Counts_of C_Counts R) := by
  have tk : L2N.Takes (cxOf (L2N.CX P w) P w K mg base N__law_told "_law_told" (defScope s__law_told) f cdv A outer s H E) (fun cls d _ H => E cls d H) := L2N.takes_of rfl rfl rfl rfl
  have hp : PassesOwn (model P w) (cxOf (L2N.CX P w) P w K mg base N__law_told "_law_told" (defScope s__law_told) f cdv A outer s H E).A (cxOf (L2N.CX P w) P w K mg base N__law_told "_law_told" (defScope s__law_told) f cdv A outer s H E).env (cxOf (L2N.CX P w) P w K mg base N__law_told "_law_told" (defScope s__law_told) f cdv A outer s H E).xe := passes_of rfl
  have nd : (N__law_told).Nodup := sc__law_told.nd
  have hu4 := hr.u64; have hu1 := Nat.lt_of_le_of_lt (Nat.add_le_add_left (show 1 ≤ 64 by decide) _) hu4; have hu5 := hr.u65; have hu6 := hr.u66
  exact (xs_cons (xs_set 2 (xe_str [102, 105, 110, 101]) nd)
    (xs_cons (xs_try 3 hR ge_PairError (by decide) tk hp (fun W pn xe tk hp => (xs_one (xs_if (xt_cmp (op_eqA hu4) p_eq (xo_name 0) (xo_val xe_int)) (xs_one (xs_expr (xe_shr (xe_new F_Counts_init m_Counts hr (by decide) tk (xa_cons (xo_val (xe_ix ix_seq p_ix (xo_name 1) (xo_val xe_int))) (xa_cons (xo_val (xe_ix ix_seq p_ix (xo_name 1) (xo_val xe_int))) (xa_cons (xo_val (xe_ix ix_seq p_ix (xo_name 1) (xo_val xe_int))) xa_nil))))))) (xs_one (xs_expr (xe_cm hand_call F_Counts_of m_Counts hr (by decide) tk (xa_cons (xo_val (xe_name 1)) xa_nil))))))) (fun a C oe d fs pn zn fl => (xs_one (xs_set 2 (xe_hot 3 F__law_kind hr (by decide) hR zn fl) nd))))
    (xs_one (xs_ret (xe_move 2)))))
abbrev s__law_right : Stmt := top 36
abbrev N__law_right : List Str := ["reel", "three", "one", "two", "pairs", "odd", "bad", "value", "over", "kept", "good"]
theorem sc__law_right : FnScope N__law_right ["reel"] (defScope s__law_right) := ⟨rfl, rfl, rfl, by decide +kernel, rfl, by decide +kernel, by decide +kernel⟩
theorem x__law_right {P : Program} {w : World} {K : PySem.W.Frag} {mg : Str → Option Value} {base : Heap} {f : Addr} {cdv : Value} {A : Around} {outer : List Env} {s : Shared} {H : Hp} {E : XK} {S__law_any S__law_draw S__law_told : Sx} (sy : Sys K) (F__law_any : FnX P w K mg base 3 "_law_any" S__law_any) (F__law_draw : FnX P w K mg base 1 "_law_draw" S__law_draw) (F__law_told : FnX P w K mg base 5 "_law_told" S__law_told) (n_repr : mg "repr" = none)
    (hr : RoomG 5 (A.deeper (envOfC "_law_right" (defScope s__law_right) s.heap.objs.size f cdv))) : XSs (cxOf (L2N.CX P w) P w K mg base N__law_right "_law_right" (defScope s__law_right) f cdv A outer s H E) (fun cls d _ H => E cls d H) (defBody s__law_right) (D__law_right_3 S__law_any S__law_draw S__law_told) := by
  have tk : L2N.Takes (cxOf (L2N.CX P w) P w K mg base N__law_right "_law_right" (defScope s__law_right) f cdv A outer s H E) (fun cls d _ H => E cls d H) := L2N.takes_of rfl rfl rfl rfl
  have hp : PassesOwn (model P w) (cxOf (L2N.CX P w) P w K mg base N__law_right "_law_right" (defScope s__law_right) f cdv A outer s H E).A (cxOf (L2N.CX P w) P w K mg base N__law_right "_law_right" (defScope s__law_right) f cdv A outer s H E).env (cxOf (L2N.CX P w) P w K mg base N__law_right "_law_right" (defScope s__law_right) f cdv A outer s H E).xe := passes_of rfl
  have nd : (N__law_right).Nodup := sc__law_right.nd
  have hu4 := hr.u64; have hu1 := Nat.lt_of_le_of_lt (Nat.add_le_add_left (show 1 ≤ 64 by decide) _) hu4; have hu5 := hr.u65; have hu6 := hr.u66
  exact (xs_cons (xs_set 1 (xe_call F__law_any hr (by decide) tk (xa_cons (xo_name 0) xa_nil)) nd)
    (xs_cons (xs_asg (xe_name 1) (xg_tup rfl (xgs_cons (xg_name 2 nd) (xgs_cons (xg_name 3 nd) (xgs_cons (xg_name 4 nd) xgs_nil)))))
    (xs_cons (xs_set 5 (xe_lst (xa_cons (xo_val (xe_un un_neg p_neg (xo_val xe_int))) (xa_cons (xo_val (xe_un un_neg p_neg (xo_val xe_int))) (xa_cons (xo_val (xe_op op_sub p_sub (xo_val xe_int) (xo_val (xe_op op_pow p_pow (xo_val xe_int) (xo_val xe_int))))) (xa_cons (xo_val xe_non) (xa_cons (xo_val xe_bl) (xa_cons (xo_val xe_bl) (xa_cons (xo_val (xe_str [49])) (xa_cons (xo_val (xe_str [])) (xa_cons (xo_val (xe_lst (xa_cons (xo_val xe_int) xa_nil))) (xa_cons (xo_val (xe_tup (xa_cons (xo_val xe_int) xa_nil))) (xa_cons (xo_val xe_dict0) (xa_cons (xo_val (xe_name 1)) xa_nil))))))))))))) nd)
    (xs_cons (xs_set 6 (xe_op op_addA p_add (xo_val (xe_lc rfl nd (xi_src (xe_name 5)) (own := [("value", 7)]) (blkOk_by (by kernel_rfl)) (by decide) (fun _ _ _ _ _ => (pc_name 7 nd)) (fun _ _ _ _ _ => xts_nil) (fun _ _ _ _ _ => (xe_tup (xa_cons (xo_val (xe_name 7)) (xa_cons (xo_val (xe_name 3)) (xa_cons (xo_val (xe_name 4)) xa_nil))))))) (xo_val (xe_lc rfl nd (xi_src (xe_name 5)) (own := [("value", 7)]) (blkOk_by (by kernel_rfl)) (by decide) (fun _ _ _ _ _ => (pc_name 7 nd)) (fun _ _ _ _ _ => xts_nil) (fun _ _ _ _ _ => (xe_tup (xa_cons (xo_val (xe_name 2)) (xa_cons (xo_val (xe_name 7)) (xa_cons (xo_val (xe_name 4)) xa_nil)))))))) nd)
    (xs_cons (xs_set 6 (xe_op op_addA p_add (xo_val (xe_op op_addA p_add (xo_name 6) (xo_val (xe_lc rfl nd (xi_src (xe_name 5)) (own := [("value", 7)]) (blkOk_by (by kernel_rfl)) (by decide) (fun _ _ _ _ _ => (pc_name 7 nd)) (fun _ _ _ _ _ => xts_nil) (fun _ _ _ _ _ => (xe_tup (xa_cons (xo_val (xe_name 2)) (xa_cons (xo_val (xe_name 3)) (xa_cons (xo_val (xe_name 7)) xa_nil))))))))) (xo_val (xe_lc rfl nd (xi_src (xe_name 5)) (own := [("value", 7)]) (blkOk_by (by kernel_rfl)) (by decide) (fun _ _ _ _ _ => (pc_name 7 nd)) (fun _ _ _ _ _ => xts_nil) (fun _ _ _ _ _ => (xe_tup (xa_cons (xo_val (xe_name 7)) (xa_cons (xo_val (xe_name 7)) (xa_cons (xo_val (xe_name 7)) xa_nil)))))))) nd)
    (xs_cons (xs_set 8 (xe_op op_addA p_add (xo_val (xe_op op_mulA p_mul (xo_name 2) (xo_name 3))) (xo_val xe_int)) nd)
    (xs_cons (xs_set 6 (xe_op op_addA p_add (xo_name 6) (xo_val (xe_lst (xa_cons (xo_val (xe_tup (xa_cons (xo_val (xe_name 2)) (xa_cons (xo_val (xe_name 3)) (xa_cons (xo_val (xe_name 8)) xa_nil))))) (xa_cons (xo_val (xe_tup (xa_cons (xo_val (xe_name 2)) (xa_cons (xo_val (xe_name 3)) (xa_cons (xo_val (xe_op op_addA p_add (xo_name 8) (xo_val (xe_call F__law_draw hr (by decide) tk (xa_cons (xo_name 0) (xa_cons (xo_val (xe_op op_pow p_pow (xo_val xe_int) (xo_val xe_int))) xa_nil)))))) xa_nil))))) (xa_cons (xo_val (xe_tup (xa_cons (xo_val xe_int) (xa_cons (xo_val (xe_name 3)) (xa_cons (xo_val xe_int) xa_nil))))) (xa_cons (xo_val (xe_tup (xa_cons (xo_val (xe_name 2)) (xa_cons (xo_val xe_int) (xa_cons (xo_val xe_int) xa_nil))))) xa_nil))))))) nd)
    (xs_cons (xs_set 6 (xe_op op_addA p_add (xo_name 6) (xo_val (xe_lst (xa_cons (xo_val (xe_tup (xa_cons (xo_val (xe_un un_neg p_neg (xo_val xe_int))) (xa_cons (xo_val (xe_un un_neg p_neg (xo_val xe_int))) (xa_cons (xo_val xe_int) xa_nil))))) (xa_cons (xo_val (xe_tup (xa_cons (xo_val (xe_un un_neg p_neg (xo_val xe_int))) (xa_cons (xo_val (xe_un un_neg p_neg (xo_val xe_int))) (xa_cons (xo_val xe_int) xa_nil))))) (xa_cons (xo_val (xe_tup (xa_cons (xo_val (xe_un un_neg p_neg (xo_val xe_int))) (xa_cons (xo_val xe_int) (xa_cons (xo_val (xe_un un_neg p_neg (xo_val xe_int))) xa_nil))))) (xa_cons (xo_val (xe_tup (xa_cons (xo_val (xe_name 2)) (xa_cons (xo_val (xe_name 3)) (xa_cons (xo_val (xe_op op_pow p_pow (xo_val xe_int) (xo_val xe_int))) xa_nil))))) (xa_cons (xo_val (xe_tup (xa_cons (xo_val (xe_ix ix_seq p_ix (xo_name 5) (xo_val (xe_call F__law_draw hr (by decide) tk (xa_cons (xo_name 0) (xa_cons (xo_val xe_int) xa_nil)))))) (xa_cons (xo_val (xe_name 3)) (xa_cons (xo_val (xe_name 8)) xa_nil))))) xa_nil)))))))) nd)
    (xs_cons (xs_set 9 (xe_rpD sy hr.none hu6 rfl n_repr (xq_op (xo_name 6))) nd)
    (xs_cons (xs_if (xt_neQ hu4 (xq_op (xo_val (xe_lc rfl nd (xi_src (xe_name 6)) (own := [("value", 7)]) (blkOk_by (by kernel_rfl)) (by decide) (fun _ _ _ _ _ => (pc_name 7 nd)) (fun _ _ _ _ _ => (xts_one (xt_cmp (op_neA hu4) p_ne (xo_val (xe_call F__law_told hr (by decide) takes_blk (xa_cons (xo_val xe_int) (xa_cons (xo_val (xe_name 7)) xa_nil)))) (xo_val (xe_str [99, 111, 117, 110, 116, 115]))))) (fun _ _ _ _ _ => (xe_name 7))))) (xq_ls xq_nil)) (xs_one (xs_ret xe_bl)) xs_nil)
    (xs_cons (xs_set 10 (xe_lst (xa_cons (xo_val (xe_name 1)) (xa_cons (xo_val (xe_tup (xa_cons (xo_val (xe_name 2)) (xa_cons (xo_val (xe_name 3)) (xa_cons (xo_val xe_int) xa_nil))))) (xa_cons (xo_val (xe_tup (xa_cons (xo_val (xe_name 2)) (xa_cons (xo_val (xe_name 3)) (xa_cons (xo_val (xe_op op_mulA p_mul (xo_name 2) (xo_name 3))) xa_nil))))) xa_nil)))) nd)
    (xs_one (xs_ret (xe_and (xe_eqQ hu4 (xq_op (xo_val (xe_lc rfl nd (xi_src (xe_name 10)) (own := [("value", 7)]) (blkOk_by (by kernel_rfl)) (by decide) (fun _ _ _ _ _ => (pc_name 7 nd)) (fun _ _ _ _ _ => (xts_one (xt_cmp (op_neA hu4) p_ne (xo_val (xe_call F__law_told hr (by decide) takes_blk (xa_cons (xo_val xe_int) (xa_cons (xo_val (xe_name 7)) xa_nil)))) (xo_val (xe_str [102, 105, 110, 101]))))) (fun _ _ _ _ _ => (xe_name 7))))) (xq_ls xq_nil)) (xe_one (xe_cmp (op_eqA hu4) p_eq (xo_val (xe_rpD sy hr.none hu6 rfl n_repr (xq_op (xo_name 6)))) (xo_name 9)))))))))))))))))
abbrev s_law : Stmt := top 37
abbrev N_law : List Str := ["script", "reel", "k", "text", "value"]
theorem sc_law : FnScope N_law ["script"] (defScope s_law) := ⟨rfl, rfl, rfl, by decide +kernel, rfl, by decide +kernel, by decide +kernel⟩
theorem x_law {P : Program} {w : World} {K : PySem.W.Frag} {mg : Str → Option Value} {base : Heap} {f : Addr} {cdv : Value} {A : Around} {outer : List Env} {s : Shared} {H : Hp} {E : XK} {S__law_reel S__law_word S__law_right S__law_told S__law_no_rows : Sx} (F__law_reel : FnX P w K mg base 1 "_law_reel" S__law_reel) (F__law_word : FnX P w K mg base 2 "_law_word" S__law_word) (F__law_right : FnX P w K mg base 6 "_law_right" S__law_right) (F__law_told : FnX P w K mg base 5 "_law_told" S__law_told) (F__law_no_rows : FnX P w K mg base 2 "_law_no_rows" S__law_no_rows) (n_min : mg "min" = none) (n_len : mg "len" = none) (n_range : mg "range" = none)
    (hr : RoomG 6 (A.deeper (envOfC "law" (defScope s_law) s.heap.objs.size f cdv))) : XSs (cxOf (L2N.CX P w) P w K mg base N_law "law" (defScope s_law) f cdv A outer s H E) (fun cls d _ H => E cls d H) (defBody s_law) (D_law_6 S__law_reel S__law_word S__law_right S__law_told S__law_no_rows) := by
  have tk : L2N.Takes (cxOf (L2N.CX P w) P w K mg base N_law "law" (defScope s_law) f cdv A outer s H E) (fun cls d _ H => E cls d H) := L2N.takes_of rfl rfl rfl rfl
  have hp : PassesOwn (model P w) (cxOf (L2N.CX P w) P w K mg base N_law "law" (defScope s_law) f cdv A outer s H E).A (cxOf (L2N.CX P w) P w K mg base N_law "law" (defScope s_law) f cdv A outer s H E).env (cxOf (L2N.CX P w) P w K mg base N_law "law" (defScope s_law) f cdv A outer s H E).xe := passes_of rfl
  have nd : (N_law).Nodup := sc_law.nd
  have hu4 := hr.u64; have hu1 := Nat.lt_of_le_of_lt (Nat.add_le_add_left (show 1 ≤ 64 by decide) _) hu4; have hu5 := hr.u65; have hu6 := hr.u66
  exact (xs_cons (xs_set 1 (xe_call F__law_reel hr (by decide) tk (xa_cons (xo_val (xe_name 0)) xa_nil)) nd)
    (xs_cons (xs_for hp rfl (xi_range1 rfl n_range (xa_cons (xo_val (xe_op op_addA p_add (xo_val xe_int) (xo_val (xe_callB (call_min2 rfl) p_min2 rfl n_min boot_min (xa_cons (xo_val (xe_callB call_lenA p_len rfl n_len boot_len (xa_cons (xo_name 0) xa_nil))) (xa_cons (xo_val xe_int) xa_nil)))))) xa_nil)) (xg_name 2 nd) (xs_cons (xs_set 3 (xe_call F__law_word hr (by decide) tk (xa_cons (xo_name 1) (xa_cons (xo_val xe_int) (xa_cons (xo_val (xe_ix ix_seq p_ix (xo_val (xe_lst (xa_cons (xo_val xe_int) (xa_cons (xo_val xe_int) xa_nil)))) (xo_val (xe_op op_mod p_mod (xo_name 2) (xo_val xe_int))))) xa_nil)))) nd)
    (xs_cons (xs_if (XW.t (xw_or (xt_not (xt_val (xe_call F__law_right hr (by decide) tk (xa_cons (xo_name 1) xa_nil)))) (xw_or1 (xt_cmp (op_neA hu4) p_ne (xo_val (xe_call F__law_told hr (by decide) tk (xa_cons (xo_val xe_int) (xa_cons (xo_val (xe_name 3)) xa_nil)))) (xo_val (xe_str [102, 105, 110, 101])))))) (xs_one (xs_ret xe_bl)) xs_nil)
    (xs_one (xs_if (xt_neQ hu4 (xq_op (xo_val (xe_lc rfl nd (xi_src (xe_call F__law_no_rows hr (by decide) tk (xa_cons (xo_name 1) (xa_cons (xo_val (xe_name 3)) xa_nil)))) (own := [("value", 4)]) (blkOk_by (by kernel_rfl)) (by decide) (fun _ _ _ _ _ => (pc_name 4 nd)) (fun _ _ _ _ _ => (xts_one (xt_cmp (op_neA hu4) p_ne (xo_val (xe_call F__law_told hr (by decide) takes_blk (xa_cons (xo_val xe_int) (xa_cons (xo_val (xe_name 4)) xa_nil)))) (xo_val (xe_str [114, 111, 119]))))) (fun _ _ _ _ _ => (xe_name 4))))) (xq_ls xq_nil)) (xs_one (xs_ret xe_bl)) xs_nil)))))
    (xs_one (xs_ret (xe_and (xe_cmp (op_eqA hu4) p_eq (xo_val (xe_call F__law_told hr (by decide) tk (xa_cons (xo_val xe_int) (xa_cons (xo_val (xe_tup (xa_cons (xo_val xe_int) (xa_cons (xo_val xe_int) (xa_cons (xo_val xe_int) xa_nil))))) xa_nil)))) (xo_val (xe_str [102, 105, 110, 101]))) (xe_one (xe_cmp (op_eqA hu4) p_eq (xo_val (xe_call F__law_told hr (by decide) tk (xa_cons (xo_val xe_int) (xa_cons (xo_val (xe_tup (xa_cons (xo_val xe_int) (xa_cons (xo_val xe_int) (xa_cons (xo_val xe_int) xa_nil))))) xa_nil)))) (xo_val (xe_str [99, 111, 117, 110, 116, 115])))))))))
abbrev s_Counts_init : Stmt := clsSt (top 26) 0
abbrev N_Counts_init : List Str := ["self", "many_a", "many_b", "pairs"]
theorem sc_Counts_init : FnScope N_Counts_init ["self", "many_a", "many_b", "pairs"] (defScope s_Counts_init) := ⟨rfl, rfl, rfl, by decide +kernel, rfl, by decide +kernel, by decide +kernel⟩
theorem x_Counts_init {P : Program} {w : World} {K : PySem.W.Frag} {mg : Str → Option Value} {base : Heap} {f : Addr} {cdv : Value} {A : Around} {outer : List Env} {s : Shared} {H : Hp} {E : XK} {S_is_integer : Sx} {C_InvalidCounts C_Counts : Addr} (F_is_integer : FnX P w K mg base 1 "is_integer" S_is_integer) (ic_Counts : InsK K C_Counts) (m_InvalidCounts : mg "InvalidCounts" = some (.ref C_InvalidCounts)) (na_Counts_triple : NoAttr K C_Counts "triple") (k_InvalidCounts : ErrK K C_InvalidCounts)
    (hr : RoomG 1 (A.deeper (envOfC "Counts.__init__" (defScope s_Counts_init) s.heap.objs.size f cdv))) : XSs (cxOf (L2N.CX P w) P w K mg base N_Counts_init "Counts.__init__" (defScope s_Counts_init) f cdv A outer s H E) (fun cls d _ H => E cls d H) (defBody s_Counts_init) (D_Counts_init_x S_is_integer C_InvalidCounts C_Counts) := by
  have tk : L2N.Takes (cxOf (L2N.CX P w) P w K mg base N_Counts_init "Counts.__init__" (defScope s_Counts_init) f cdv A outer s H E) (fun cls d _ H => E cls d H) := L2N.takes_of rfl rfl rfl rfl
  have hp : PassesOwn (model P w) (cxOf (L2N.CX P w) P w K mg base N_Counts_init "Counts.__init__" (defScope s_Counts_init) f cdv A outer s H E).A (cxOf (L2N.CX P w) P w K mg base N_Counts_init "Counts.__init__" (defScope s_Counts_init) f cdv A outer s H E).env (cxOf (L2N.CX P w) P w K mg base N_Counts_init "Counts.__init__" (defScope s_Counts_init) f cdv A outer s H E).xe := passes_of rfl
  have nd : (N_Counts_init).Nodup := sc_Counts_init.nd
  have hu4 := hr.u64; have hu1 := Nat.lt_of_le_of_lt (Nat.add_le_add_left (show 1 ≤ 64 by decide) _) hu4; have hu5 := hr.u65; have hu6 := hr.u66
  exact (xs_cons (xs_if (XW.t (xw_or (xt_not (xt_val (xe_call F_is_integer hr (by decide) tk (xa_cons (xo_val (xe_name 1)) (xa_cons (xo_val xe_int) (xa_cons (xo_val xe_non) xa_nil)))))) (xw_or1 (xt_not (xt_val (xe_call F_is_integer hr (by decide) tk (xa_cons (xo_val (xe_name 2)) (xa_cons (xo_val xe_int) (xa_cons (xo_val xe_non) xa_nil))))))))) (xs_one (xs_raise k_InvalidCounts m_InvalidCounts tk)) xs_nil)
    (xs_cons (xs_if (xt_not (xt_val (xe_call F_is_integer hr (by decide) tk (xa_cons (xo_val (xe_name 3)) (xa_cons (xo_val xe_int) (xa_cons (xo_val (xe_op op_mulA p_mul (xo_name 1) (xo_name 2))) xa_nil)))))) (xs_one (xs_raise k_InvalidCounts m_InvalidCounts tk)) xs_nil)
    (xs_one (xs_fld 0 ic_Counts.cl na_Counts_triple (xe_tup (xa_cons (xo_val (xe_name 1)) (xa_cons (xo_val (xe_name 2)) (xa_cons (xo_val (xe_name 3)) xa_nil))))))))
abbrev s_Counts_of : Stmt := clsSt (top 26) 1
abbrev N_Counts_of : List Str := ["cls", "row", "found"]
theorem sc_Counts_of : FnScope N_Counts_of ["cls", "row"] (defScope s_Counts_of) := ⟨rfl, rfl, rfl, by decide +kernel, rfl, by decide +kernel, by decide +kernel⟩
theorem x_Counts_of {P : Program} {w : World} {K : PySem.W.Frag} {mg : Str → Option Value} {base : Heap} {f : Addr} {cdv : Value} {A : Around} {outer : List Env} {s : Shared} {H : Hp} {E : XK} {S_check_row S_triple_of S_Counts_init : Sx} {C_Counts : Addr} (F_check_row : FnX P w K mg base 2 "check_row" S_check_row) (F_triple_of : FnX P w K mg base 3 "triple_of" S_triple_of) (F_Counts_init : FnI P w K mg base 2 C_Counts S_Counts_init)
    (hr : RoomG 3 (A.deeper (envOfC "Counts.of" (defScope s_Counts_of) s.heap.objs.size f cdv))) : XSs (cxOf (L2N.CX P w) P w K mg base N_Counts_of "Counts.of" (defScope s_Counts_of) f cdv A outer s H E) (fun cls d _ H => E cls d H) (defBody s_Counts_of) (D_Counts_of S_check_row S_triple_of S_Counts_init C_Counts) := by
  have tk : L2N.Takes (cxOf (L2N.CX P w) P w K mg base N_Counts_of "Counts.of" (defScope s_Counts_of) f cdv A outer s H E) (fun cls d _ H => E cls d H) := L2N.takes_of rfl rfl rfl rfl
  have hp : PassesOwn (model P w) (cxOf (L2N.CX P w) P w K mg base N_Counts_of "Counts.of" (defScope s_Counts_of) f cdv A outer s H E).A (cxOf (L2N.CX P w) P w K mg base N_Counts_of "Counts.of" (defScope s_Counts_of) f cdv A outer s H E).env (cxOf (L2N.CX P w) P w K mg base N_Counts_of "Counts.of" (defScope s_Counts_of) f cdv A outer s H E).xe := passes_of rfl
  have nd : (N_Counts_of).Nodup := sc_Counts_of.nd
  have hu4 := hr.u64; have hu1 := Nat.lt_of_le_of_lt (Nat.add_le_add_left (show 1 ≤ 64 by decide) _) hu4; have hu5 := hr.u65; have hu6 := hr.u66
  exact (xs_cons (xs_expr (xe_call F_check_row hr (by decide) tk (xa_cons (xo_val (xe_name 1)) xa_nil)))
    (xs_cons (xs_set 2 (xe_call F_triple_of hr (by decide) tk (xa_cons (xo_val (xe_name 1)) xa_nil)) nd)
    (xs_one (xs_ret (xe_shr (xe_newL 0 F_Counts_init hr (by decide) tk (xa_cons (xo_val (xe_ix ix_seq p_ix (xo_name 2) (xo_val xe_int))) (xa_cons (xo_val (xe_ix ix_seq p_ix (xo_name 2) (xo_val xe_int))) (xa_cons (xo_val (xe_ix ix_seq p_ix (xo_name 2) (xo_val xe_int))) xa_nil)))))))))
end K06
namespace K06
open PySem PySem.Spec PyProof.Rows L2 O
def d_is_integer : He5.DefA := ⟨fun K => He.ga K "is_integer", "is_integer", "is_integer", defArgs s_is_integer, defBody s_is_integer, defScope s_is_integer, [], []⟩
def d_is_row : He5.DefA := ⟨fun K => He.ga K "is_row", "is_row", "is_row", defArgs s_is_row, defBody s_is_row, defScope s_is_row, [], []⟩
def d_check_row : He5.DefA := ⟨fun K => He.ga K "check_row", "check_row", "check_row", defArgs s_check_row, defBody s_check_row, defScope s_check_row, [], []⟩
def d_prefixes_in : He5.DefA := ⟨fun K => He.ga K "prefixes_in", "prefixes_in", "prefixes_in", defArgs s_prefixes_in, defBody s_prefixes_in, defScope s_prefixes_in, [], []⟩
def d_pairs_of : He5.DefA := ⟨fun K => He.ga K "pairs_of", "pairs_of", "pairs_of", defArgs s_pairs_of, defBody s_pairs_of, defScope s_pairs_of, [], []⟩
def d_triple_of : He5.DefA := ⟨fun K => He.ga K "triple_of", "triple_of", "triple_of", defArgs s_triple_of, defBody s_triple_of, defScope s_triple_of, [], []⟩
def d__law_reel : He5.DefA := ⟨fun K => He.ga K "_law_reel", "_law_reel", "_law_reel", defArgs s__law_reel, defBody s__law_reel, defScope s__law_reel, [], []⟩
def d__law_draw : He5.DefA := ⟨fun K => He.ga K "_law_draw", "_law_draw", "_law_draw", defArgs s__law_draw, defBody s__law_draw, defScope s__law_draw, [], []⟩
def d__law_word : He5.DefA := ⟨fun K => He.ga K "_law_word", "_law_word", "_law_word", defArgs s__law_word, defBody s__law_word, defScope s__law_word, [], []⟩
def d__law_no_rows : He5.DefA := ⟨fun K => He.ga K "_law_no_rows", "_law_no_rows", "_law_no_rows", defArgs s__law_no_rows, defBody s__law_no_rows, defScope s__law_no_rows, [], []⟩
def d__law_kind : He5.DefA := ⟨fun K => He.ga K "_law_kind", "_law_kind", "_law_kind", defArgs s__law_kind, defBody s__law_kind, defScope s__law_kind, [], []⟩
def d__law_many : He5.DefA := ⟨fun K => He.ga K "_law_many", "_law_many", "_law_many", defArgs s__law_many, defBody s__law_many, defScope s__law_many, [], []⟩
def d__law_any : He5.DefA := ⟨fun K => He.ga K "_law_any", "_law_any", "_law_any", defArgs s__law_any, defBody s__law_any, defScope s__law_any, [], []⟩
def d__law_told : He5.DefA := ⟨fun K => He.ga K "_law_told", "_law_told", "_law_told", defArgs s__law_told, defBody s__law_told, defScope s__law_told, [], []⟩
def d__law_right : He5.DefA := ⟨fun K => He.ga K "_law_right", "_law_right", "_law_right", defArgs s__law_right, defBody s__law_right, defScope s__law_right, [], []⟩
def d_law : He5.DefA := ⟨fun K => He.ga K "law", "law", "law", defArgs s_law, defBody s_law, defScope s_law, [], []⟩
def d_Counts_init : He5.DefA := ⟨fun K => He.ma K (He.ga K "Counts") "__init__", "__init__", "Counts.__init__", defArgs s_Counts_init, defBody s_Counts_init, defScope s_Counts_init, [], []⟩
def d_Counts_of : He5.DefA := ⟨gaC "Counts" "of", "of", "Counts.of", defArgs s_Counts_of, defBody s_Counts_of, defScope s_Counts_of, [], []⟩
def fn : List He5.DefA := [d_is_integer, d_is_row, d_check_row, d_prefixes_in, d_pairs_of, d_triple_of, d__law_reel, d__law_draw, d__law_word, d__law_no_rows, d__law_kind, d__law_many, d__law_any, d__law_told, d__law_right, d_law, d_Counts_init, d_Counts_of]
def fa : List He.Fa := [.glo "is_integer", .glo "is_row", .glo "check_row", .glo "prefixes_in", .glo "pairs_of", .glo "triple_of", .glo "_law_reel", .glo "_law_draw", .glo "_law_word", .glo "_law_no_rows", .glo "_law_kind", .glo "_law_many", .glo "_law_any", .glo "_law_told", .glo "_law_right", .glo "law", .free "isinstance", .free "int", .free "bool", .free "str", .free "len", .free "all", .int "MOST_LETTERS" 200, .glo "InvalidRow", .free "sum", .free "zip", .free "range", .free "list", .free "tuple", .free "ValueError", .glo "InvalidCounts", .glo "InvalidSwap", .glo "InvalidRuns", .glo "InvalidNumber", .glo "InvalidPattern", .glo "InvalidCommand", .glo "InvalidStrands", .glo "NothingToUndo", .glo "Different", .glo "InvalidText", .glo "TooLarge", .free "max", .free "min", .glo "Counts", .glo "PairError", .free "repr", .noat "Counts" "triple", .mkr "Counts"]
def ex : List (PySem.W.Frag → Bool) := [errRB "InvalidRow", errNB "InvalidRow", insB "Counts", errRB "InvalidCounts", errNB "InvalidCounts", cmB "Counts" "of"]
abbrev R : PySem.W.OpenRow := PySem.W.OpenLaw.row PySem.Challenge.rw_paircounts_k06_errors_of_counts
abbrev hk : PySem.W.Hook := hookC 5 fa fn ex
def ob (s : PySem.W.SharedT) : He.AlD := obsC 5 fa fn ex (HandSHeadRun.getT s)
theorem ob_eq (s : PySem.W.SharedT) : ob s = hk.obs s.abs := obsC_eq (HandSHeadRun.getT_eq s)
abbrev lo : List Str := (["_wall", "PairError", "TooLarge", "InvalidText", "InvalidRow", "InvalidCounts", "InvalidRuns", "InvalidSwap", "InvalidPattern", "InvalidNumber", "InvalidStrands", "InvalidCommand", "Different", "NothingToUndo", "MOST_LETTERS", "is_integer", "is_row", "check_row", "prefixes_in", "pairs_of", "MOST_ROWS", "triple_of", "check_counts", "Counts", "_law_reel", "_law_draw", "_law_word", "_law_no_rows", "_law_kind", "_law_many"] : List Str) ++ (["_law_any", "_law_told", "_law_right"] : List Str)
theorem run (w : World) : HandSHeadRun.RunEq R (PySem.W.view R.prog [37]) hk ob 8000 K06.lo w := by
  intro os
  kernel_rfl
theorem facts {P : Program} {w : World} {K : PySem.W.Frag} {h base : Heap} {mg : Str → Option Value} (X : K.In h) (G : h.Ns mainGlobals mg) (c : SaysC fa fn ex K) : FnX P w K mg base 7 "law" SLaw06 := by
  have sy : Sys K := c.sys
  have m_is_integer := He.glo_ok X G (c.fact 0 (f := .glo "is_integer") rfl)
  have m_is_row := He.glo_ok X G (c.fact 1 (f := .glo "is_row") rfl)
  have m_check_row := He.glo_ok X G (c.fact 2 (f := .glo "check_row") rfl)
  have m_prefixes_in := He.glo_ok X G (c.fact 3 (f := .glo "prefixes_in") rfl)
  have m_pairs_of := He.glo_ok X G (c.fact 4 (f := .glo "pairs_of") rfl)
  have m_triple_of := He.glo_ok X G (c.fact 5 (f := .glo "triple_of") rfl)
  have m__law_reel := He.glo_ok X G (c.fact 6 (f := .glo "_law_reel") rfl)
  have m__law_draw := He.glo_ok X G (c.fact 7 (f := .glo "_law_draw") rfl)
  have m__law_word := He.glo_ok X G (c.fact 8 (f := .glo "_law_word") rfl)
  have m__law_no_rows := He.glo_ok X G (c.fact 9 (f := .glo "_law_no_rows") rfl)
  have m__law_kind := He.glo_ok X G (c.fact 10 (f := .glo "_law_kind") rfl)
  have m__law_many := He.glo_ok X G (c.fact 11 (f := .glo "_law_many") rfl)
  have m__law_any := He.glo_ok X G (c.fact 12 (f := .glo "_law_any") rfl)
  have m__law_told := He.glo_ok X G (c.fact 13 (f := .glo "_law_told") rfl)
  have m__law_right := He.glo_ok X G (c.fact 14 (f := .glo "_law_right") rfl)
  have m_law := He.glo_ok X G (c.fact 15 (f := .glo "law") rfl)
  have n_isinstance := He.free_ok X G (c.fact 16 (f := .free "isinstance") rfl)
  have n_int := He.free_ok X G (c.fact 17 (f := .free "int") rfl)
  have n_bool := He.free_ok X G (c.fact 18 (f := .free "bool") rfl)
  have n_str := He.free_ok X G (c.fact 19 (f := .free "str") rfl)
  have n_len := He.free_ok X G (c.fact 20 (f := .free "len") rfl)
  have n_all := He.free_ok X G (c.fact 21 (f := .free "all") rfl)
  have g_MOST_LETTERS := He.int_ok X G (c.fact 22 (f := .int "MOST_LETTERS" 200) rfl)
  have m_InvalidRow := He.glo_ok X G (c.fact 23 (f := .glo "InvalidRow") rfl)
  have n_sum := He.free_ok X G (c.fact 24 (f := .free "sum") rfl)
  have n_zip := He.free_ok X G (c.fact 25 (f := .free "zip") rfl)
  have n_range := He.free_ok X G (c.fact 26 (f := .free "range") rfl)
  have n_list := He.free_ok X G (c.fact 27 (f := .free "list") rfl)
  have n_tuple := He.free_ok X G (c.fact 28 (f := .free "tuple") rfl)
  have n_ValueError := He.free_ok X G (c.fact 29 (f := .free "ValueError") rfl)
  have m_InvalidCounts := He.glo_ok X G (c.fact 30 (f := .glo "InvalidCounts") rfl)
  have m_InvalidSwap := He.glo_ok X G (c.fact 31 (f := .glo "InvalidSwap") rfl)
  have m_InvalidRuns := He.glo_ok X G (c.fact 32 (f := .glo "InvalidRuns") rfl)
  have m_InvalidNumber := He.glo_ok X G (c.fact 33 (f := .glo "InvalidNumber") rfl)
  have m_InvalidPattern := He.glo_ok X G (c.fact 34 (f := .glo "InvalidPattern") rfl)
  have m_InvalidCommand := He.glo_ok X G (c.fact 35 (f := .glo "InvalidCommand") rfl)
  have m_InvalidStrands := He.glo_ok X G (c.fact 36 (f := .glo "InvalidStrands") rfl)
  have m_NothingToUndo := He.glo_ok X G (c.fact 37 (f := .glo "NothingToUndo") rfl)
  have m_Different := He.glo_ok X G (c.fact 38 (f := .glo "Different") rfl)
  have m_InvalidText := He.glo_ok X G (c.fact 39 (f := .glo "InvalidText") rfl)
  have m_TooLarge := He.glo_ok X G (c.fact 40 (f := .glo "TooLarge") rfl)
  have n_max := He.free_ok X G (c.fact 41 (f := .free "max") rfl)
  have n_min := He.free_ok X G (c.fact 42 (f := .free "min") rfl)
  have m_Counts := He.glo_ok X G (c.fact 43 (f := .glo "Counts") rfl)
  have m_PairError := He.glo_ok X G (c.fact 44 (f := .glo "PairError") rfl)
  have n_repr := He.free_ok X G (c.fact 45 (f := .free "repr") rfl)
  have na_Counts_triple := He.noat_ok (c.fact 46 (f := .noat "Counts" "triple") rfl)
  have mk_Counts := He.mkr_ok (c.fact 47 (f := .mkr "Counts") rfl)
  have k_InvalidRow := errRB_ok (c.more 0 (b := errRB "InvalidRow") rfl)
  have r_InvalidRow := errNB_ok (c.more 1 (b := errNB "InvalidRow") rfl)
  have ic_Counts := insB_ok (c.more 2 (b := insB "Counts") rfl)
  have k_InvalidCounts := errRB_ok (c.more 3 (b := errRB "InvalidCounts") rfl)
  have r_InvalidCounts := errNB_ok (c.more 4 (b := errNB "InvalidCounts") rfl)
  have cm_Counts_of := cmB_ok (c.more 5 (b := cmB "Counts" "of") rfl)
  obtain ⟨f_is_integer, Y_is_integer⟩ := c.def_ 0 (d := d_is_integer) rfl
  have Z_is_integer : FunD K "is_integer" "is_integer" (defArgs s_is_integer) (defBody s_is_integer) (defScope s_is_integer) [] [] (d_is_integer.at_ K) f_is_integer := Y_is_integer
  obtain ⟨f_is_row, Y_is_row⟩ := c.def_ 1 (d := d_is_row) rfl
  have Z_is_row : FunD K "is_row" "is_row" (defArgs s_is_row) (defBody s_is_row) (defScope s_is_row) [] [] (d_is_row.at_ K) f_is_row := Y_is_row
  obtain ⟨f_check_row, Y_check_row⟩ := c.def_ 2 (d := d_check_row) rfl
  have Z_check_row : FunD K "check_row" "check_row" (defArgs s_check_row) (defBody s_check_row) (defScope s_check_row) [] [] (d_check_row.at_ K) f_check_row := Y_check_row
  obtain ⟨f_prefixes_in, Y_prefixes_in⟩ := c.def_ 3 (d := d_prefixes_in) rfl
  have Z_prefixes_in : FunD K "prefixes_in" "prefixes_in" (defArgs s_prefixes_in) (defBody s_prefixes_in) (defScope s_prefixes_in) [] [] (d_prefixes_in.at_ K) f_prefixes_in := Y_prefixes_in
  obtain ⟨f_pairs_of, Y_pairs_of⟩ := c.def_ 4 (d := d_pairs_of) rfl
  have Z_pairs_of : FunD K "pairs_of" "pairs_of" (defArgs s_pairs_of) (defBody s_pairs_of) (defScope s_pairs_of) [] [] (d_pairs_of.at_ K) f_pairs_of := Y_pairs_of
  obtain ⟨f_triple_of, Y_triple_of⟩ := c.def_ 5 (d := d_triple_of) rfl
  have Z_triple_of : FunD K "triple_of" "triple_of" (defArgs s_triple_of) (defBody s_triple_of) (defScope s_triple_of) [] [] (d_triple_of.at_ K) f_triple_of := Y_triple_of
  obtain ⟨f__law_reel, Y__law_reel⟩ := c.def_ 6 (d := d__law_reel) rfl
  have Z__law_reel : FunD K "_law_reel" "_law_reel" (defArgs s__law_reel) (defBody s__law_reel) (defScope s__law_reel) [] [] (d__law_reel.at_ K) f__law_reel := Y__law_reel
  obtain ⟨f__law_draw, Y__law_draw⟩ := c.def_ 7 (d := d__law_draw) rfl
  have Z__law_draw : FunD K "_law_draw" "_law_draw" (defArgs s__law_draw) (defBody s__law_draw) (defScope s__law_draw) [] [] (d__law_draw.at_ K) f__law_draw := Y__law_draw
  obtain ⟨f__law_word, Y__law_word⟩ := c.def_ 8 (d := d__law_word) rfl
  have Z__law_word : FunD K "_law_word" "_law_word" (defArgs s__law_word) (defBody s__law_word) (defScope s__law_word) [] [] (d__law_word.at_ K) f__law_word := Y__law_word
  obtain ⟨f__law_no_rows, Y__law_no_rows⟩ := c.def_ 9 (d := d__law_no_rows) rfl
  have Z__law_no_rows : FunD K "_law_no_rows" "_law_no_rows" (defArgs s__law_no_rows) (defBody s__law_no_rows) (defScope s__law_no_rows) [] [] (d__law_no_rows.at_ K) f__law_no_rows := Y__law_no_rows
  obtain ⟨f__law_kind, Y__law_kind⟩ := c.def_ 10 (d := d__law_kind) rfl
  have Z__law_kind : FunD K "_law_kind" "_law_kind" (defArgs s__law_kind) (defBody s__law_kind) (defScope s__law_kind) [] [] (d__law_kind.at_ K) f__law_kind := Y__law_kind
  obtain ⟨f__law_many, Y__law_many⟩ := c.def_ 11 (d := d__law_many) rfl
  have Z__law_many : FunD K "_law_many" "_law_many" (defArgs s__law_many) (defBody s__law_many) (defScope s__law_many) [] [] (d__law_many.at_ K) f__law_many := Y__law_many
  obtain ⟨f__law_any, Y__law_any⟩ := c.def_ 12 (d := d__law_any) rfl
  have Z__law_any : FunD K "_law_any" "_law_any" (defArgs s__law_any) (defBody s__law_any) (defScope s__law_any) [] [] (d__law_any.at_ K) f__law_any := Y__law_any
  obtain ⟨f__law_told, Y__law_told⟩ := c.def_ 13 (d := d__law_told) rfl
  have Z__law_told : FunD K "_law_told" "_law_told" (defArgs s__law_told) (defBody s__law_told) (defScope s__law_told) [] [] (d__law_told.at_ K) f__law_told := Y__law_told
  obtain ⟨f__law_right, Y__law_right⟩ := c.def_ 14 (d := d__law_right) rfl
  have Z__law_right : FunD K "_law_right" "_law_right" (defArgs s__law_right) (defBody s__law_right) (defScope s__law_right) [] [] (d__law_right.at_ K) f__law_right := Y__law_right
  obtain ⟨f_law, Y_law⟩ := c.def_ 15 (d := d_law) rfl
  have Z_law : FunD K "law" "law" (defArgs s_law) (defBody s_law) (defScope s_law) [] [] (d_law.at_ K) f_law := Y_law
  obtain ⟨f_Counts_init, Y_Counts_init⟩ := c.def_ 16 (d := d_Counts_init) rfl
  have Z_Counts_init : FunD K "__init__" "Counts.__init__" (defArgs s_Counts_init) (defBody s_Counts_init) (defScope s_Counts_init) [] [] (d_Counts_init.at_ K) f_Counts_init := Y_Counts_init
  obtain ⟨f_Counts_of, Y_Counts_of⟩ := c.def_ 17 (d := d_Counts_of) rfl
  have Z_Counts_of : FunD K "of" "Counts.of" (defArgs s_Counts_of) (defBody s_Counts_of) (defScope s_Counts_of) [] [] (d_Counts_of.at_ K) f_Counts_of := Y_Counts_of
  have F_is_integer : FnX P w K mg base 1 "is_integer" (SP fIsInt) := FnX.of (D_is_integer) Z_is_integer  m_is_integer sc_is_integer (fun _ _ _ _ _ _ us hl => match us, hl with | [_, _, _], _ => rfl) (mn_SP _) (len_SP fun ts p => by unfold fIsInt at p; split at p <;> first | rfl | exact False.elim p) (fun cdv A outer s H E hr => x_is_integer n_isinstance n_int n_bool hr) h_is_integer
  have F_is_row : FnX P w K mg base 1 "is_row" (SP fIsRow) := FnX.of (D_is_row) Z_is_row  m_is_row sc_is_row (fun _ _ _ _ _ _ us hl => match us, hl with | [_], _ => rfl) (mn_SP _) (len_SP fun ts p => by unfold fIsRow at p; split at p <;> first | rfl | exact False.elim p) (fun cdv A outer s H E hr => x_is_row n_isinstance n_str n_len n_all g_MOST_LETTERS hr) h_is_row
  have F_prefixes_in : FnX P w K mg base 1 "prefixes_in" (SP fPref) := FnX.of (D_prefixes_in) Z_prefixes_in  m_prefixes_in sc_prefixes_in (fun _ _ _ _ _ _ us hl => match us, hl with | [_], _ => rfl) (mn_SP _) (len_SP fun ts p => by unfold fPref at p; split at p <;> first | rfl | exact False.elim p) (fun cdv A outer s H E hr => x_prefixes_in n_int hr) h_prefixes_in
  have F__law_reel : FnX P w K mg base 1 "_law_reel" SReel := FnX.of (D__law_reel) Z__law_reel  m__law_reel sc__law_reel (fun _ _ _ _ _ _ us hl => match us, hl with | [_], _ => rfl) mn_SReel (fun _ _ ⟨_, e, _⟩ => by rw [e]; rfl) (fun cdv A outer s H E hr => x__law_reel  hr) h__law_reel
  have F__law_draw : FnX P w K mg base 1 "_law_draw" SDraw := FnX.of (D__law_draw) Z__law_draw  m__law_draw sc__law_draw (fun _ _ _ _ _ _ us hl => match us, hl with | [_, _], _ => rfl) mn_SDraw (fun _ _ ⟨_, _, e, _⟩ => by rw [e]; rfl) (fun cdv A outer s H E hr => x__law_draw n_int n_len hr) h__law_draw
  have F__law_kind : FnHot P w K mg base 1 "_law_kind" kd__law_kind := FnHot.of D__law_kind Z__law_kind m__law_kind sc__law_kind (fun _ _ _ _ _ _ us hl => match us, hl with | [_], _ => rfl) (fun cdv A outer s H E p C d fs n hot hr er en => x__law_kind n_isinstance n_len n_ValueError m_InvalidCounts m_InvalidRow m_InvalidSwap m_InvalidRuns m_InvalidNumber m_InvalidPattern m_InvalidCommand m_InvalidStrands m_NothingToUndo m_Different m_InvalidText m_TooLarge hot hr er en) hk__law_kind
  have F_check_row : FnX P w K mg base 2 "check_row" (SPX (fChkX (He.ga K "InvalidRow"))) := FnX.of (D_check_row_x (SP fIsRow) (He.ga K "InvalidRow")) Z_check_row  m_check_row sc_check_row (fun _ _ _ _ _ _ us hl => match us, hl with | [_], _ => rfl) (mn_SPX _) (len_SPX fun ts p => by unfold fChkX at p; split at p <;> first | rfl | exact False.elim p) (fun cdv A outer s H E hr => x_check_row F_is_row m_InvalidRow k_InvalidRow hr) (h_check_row_x (He.ga K "InvalidRow"))
  have F_pairs_of : FnX P w K mg base 2 "pairs_of" (SP fPairs) := FnX.of (D_pairs_of (SP fPref)) Z_pairs_of  m_pairs_of sc_pairs_of (fun _ _ _ _ _ _ us hl => match us, hl with | [_], _ => rfl) (mn_SP _) (len_SP fun ts p => by unfold fPairs at p; split at p <;> first | rfl | exact False.elim p) (fun cdv A outer s H E hr => x_pairs_of F_prefixes_in n_sum n_zip hr) h_pairs_of
  have F__law_word : FnX P w K mg base 2 "_law_word" SWord := FnX.of (D__law_word SDraw) Z__law_word  m__law_word sc__law_word (fun _ _ _ _ _ _ us hl => match us, hl with | [_, _, _], _ => rfl) mn_SWord (fun _ _ ⟨_, _, _, e, _⟩ => by rw [e]; rfl) (fun cdv A outer s H E hr => x__law_word F__law_draw n_range n_len hr) h__law_word
  have F__law_no_rows : FnX P w K mg base 2 "_law_no_rows" SNo := FnX.of (D__law_no_rows SDraw) Z__law_no_rows  m__law_no_rows sc__law_no_rows (fun _ _ _ _ _ _ us hl => match us, hl with | [_, _], _ => rfl) mn_SNo (fun _ _ ⟨_, _, e, _⟩ => by rw [e]; rfl) (fun cdv A outer s H E hr => x__law_no_rows F__law_draw n_len n_list n_tuple hr) h__law_no_rows
  have F__law_many : FnX P w K mg base 2 "_law_many" SMany := FnX.of (D__law_many SDraw) Z__law_many  m__law_many sc__law_many (fun _ _ _ _ _ _ us hl => match us, hl with | [_], _ => rfl) mn_SMany (fun _ _ ⟨_, e, _⟩ => by rw [e]; rfl) (fun cdv A outer s H E hr => x__law_many F__law_draw hr) h__law_many
  have T_Counts_init : FnAt P w K mg base 2 (d_Counts_init.at_ K) (SInitX (He.ga K "InvalidCounts") (He.ga K "Counts")) := FnAt.of (D_Counts_init_x (SP fIsInt) (He.ga K "InvalidCounts") (He.ga K "Counts")) Z_Counts_init  sc_Counts_init (fun _ _ _ _ _ _ us hl => match us, hl with | [_, _, _, _], _ => rfl) mn_SInitX (fun _ _ ⟨_, _, _, e, _⟩ => by rw [e]; rfl) (fun cdv A outer s H E hr => x_Counts_init F_is_integer ic_Counts m_InvalidCounts na_Counts_triple k_InvalidCounts hr) (h_Counts_init_x (He.ga K "InvalidCounts") (He.ga K "Counts"))
  have F_Counts_init : FnI P w K mg base 2 (He.ga K "Counts") (SInitX (He.ga K "InvalidCounts") (He.ga K "Counts")) := ⟨⟨_, mk_Counts, ic_Counts, T_Counts_init⟩⟩
  have F_triple_of : FnX P w K mg base 3 "triple_of" (SP fTriple) := FnX.of (D_triple_of (SP fPairs)) Z_triple_of  m_triple_of sc_triple_of (fun _ _ _ _ _ _ us hl => match us, hl with | [_], _ => rfl) (mn_SP _) (len_SP fun ts p => by unfold fTriple at p; split at p <;> first | rfl | exact False.elim p) (fun cdv A outer s H E hr => x_triple_of F_pairs_of hr) h_triple_of
  have F__law_any : FnX P w K mg base 3 "_law_any" SAny := FnX.of (D__law_any SMany SDraw) Z__law_any  m__law_any sc__law_any (fun _ _ _ _ _ _ us hl => match us, hl with | [_], _ => rfl) mn_SAny (fun _ _ ⟨_, e, _⟩ => by rw [e]; rfl) (fun cdv A outer s H E hr => x__law_any F__law_many F__law_draw n_max n_min hr) h__law_any
  have T_Counts_of : FnAt P w K mg base 4 (d_Counts_of.at_ K) (SOfX (He.ga K "InvalidRow") (He.ga K "Counts")) := FnAt.of (D_Counts_of (SPX (fChkX (He.ga K "InvalidRow"))) (SP fTriple) (SInitX (He.ga K "InvalidCounts") (He.ga K "Counts")) (He.ga K "Counts")) Z_Counts_of  sc_Counts_of (fun _ _ _ _ _ _ us hl => match us, hl with | [_, _], _ => rfl) mn_SOfX (fun _ _ ⟨_, e, _⟩ => by rw [e]; rfl) (fun cdv A outer s H E hr => x_Counts_of F_check_row F_triple_of F_Counts_init hr) (h_Counts_of_x (He.ga K "InvalidRow") (He.ga K "InvalidCounts") (He.ga K "Counts"))
  have F_Counts_of : FnC P w K mg base 4 (He.ga K "Counts") "of" (SOfX (He.ga K "InvalidRow") (He.ga K "Counts")) := ⟨⟨_, _, _, cm_Counts_of.1, cm_Counts_of.2, T_Counts_of⟩⟩
  have F__law_told : FnX P w K mg base 5 "_law_told" (SP fTold06) := FnX.of (D__law_told_2 (SInitX (He.ga K "InvalidCounts") (He.ga K "Counts")) (SOfX (He.ga K "InvalidRow") (He.ga K "Counts")) (He.ga K "Counts") (erR K)) Z__law_told  m__law_told sc__law_told (fun _ _ _ _ _ _ us hl => match us, hl with | [_, _], _ => rfl) (mn_SP _) (len_SP fun ts p => by unfold fTold06 at p; split at p <;> first | rfl | exact False.elim p) (fun cdv A outer s H E hr => x__law_told F_Counts_init F_Counts_of F__law_kind m_Counts m_PairError (erR_ok K) hr) (h__law_told_2 (erR K) (He.ga K "InvalidCounts") (He.ga K "InvalidRow") (He.ga K "Counts") r_InvalidCounts r_InvalidRow)
  have F__law_right : FnX P w K mg base 6 "_law_right" SRight06 := FnX.of (D__law_right_3 SAny SDraw (SP fTold06)) Z__law_right  m__law_right sc__law_right (fun _ _ _ _ _ _ us hl => match us, hl with | [_], _ => rfl) mn_SRight06 (fun _ _ ⟨_, e, _⟩ => by rw [e]; rfl) (fun cdv A outer s H E hr => x__law_right sy F__law_any F__law_draw F__law_told n_repr hr) h__law_right_3
  have F_law : FnX P w K mg base 7 "law" SLaw06 := FnX.of (D_law_6 SReel SWord SRight06 (SP fTold06) SNo) Z_law  m_law sc_law (fun _ _ _ _ _ _ us hl => match us, hl with | [_], _ => rfl) mn_SLaw06 (fun _ _ ⟨_, e, _⟩ => by rw [e]; rfl) (fun cdv A outer s H E hr => x_law F__law_reel F__law_word F__law_right F__law_told F__law_no_rows n_min n_len n_range hr) h_law_6
  exact F_law
end K06
open PySem PySem.W PySem.Calls PyProof.Rows
theorem PySem.Challenge.cw_paircounts_k06_errors_of_counts_holds : PySem.Challenge.rw_paircounts_k06_errors_of_counts.Holds := by
  w_on; o_law
  refine HandSHeadRun.head_any (r := OpenLaw.row PySem.Challenge.rw_paircounts_k06_errors_of_counts) (q := view (OpenLaw.row PySem.Challenge.rw_paircounts_k06_errors_of_counts).prog [37]) (H := K06.hk) (ob := K06.ob) (M := 8000) (loose := K06.lo) (d := HandSHeadRun.topDef (OpenLaw.row PySem.Challenge.rw_paircounts_k06_errors_of_counts).prog 37) (kwd := []) K06.ob_eq
    (by kernel_rfl) (fun s => by kernel_rfl) K06.run (by kernel_rfl) (by kernel_rfl) (by kernel_rfl) (by rfl) (by first | assumption | decide +kernel) (by decide +kernel) ⟨rfl, rfl, rfl, rfl, rfl, by decide +kernel⟩ ?hw ?hc
  case hw => w_witness2
  case hc =>
    refine O.walk_G (l := PySem.Challenge.rw_paircounts_k06_errors_of_counts) (n := 63) (k := 7) (S := O.SLaw06) rfl (by decide) (by kernel_rfl) ⟨⟨rfl, by decide, by decide⟩, rfl⟩ ?F ?hS
    · intro w mg fa h Y G hmg
      obtain ⟨K, KX, c⟩ := Y
      refine ⟨K, KX, fun base _ _ => ?_⟩
      have e : (HandSHeadRun.topDef (OpenLaw.row PySem.Challenge.rw_paircounts_k06_errors_of_counts).prog 37).name = ("law" : PySem.Str) := by kernel_rfl
      rw [e]
      exact K06.facts KX G c
    · exact fun ns hl hb => O.en_SLaw06 ns hl hb
