import PyProof.Rows.All
import HandS.ForMost
import HandS.Wide
import HandS.Exc
import HandS.IsInst
import HandS.Text
import HandS.StrMore
import HandS.ExcOwn
import HandS.ExcCtx
import HandS.Defaults
import HandS.Comp
import HandS.Iter
import KE.GoesZip
import KE.GoesMore
import KE.GoesEnum
import HandS.Deep
import HandS.Style
import HandS.TupAny
import HandS.Sort
import HandS.WordsDict
import PyProof.Rows.ListStrD
import PyProof.Rows.TupleMadeD
import PyProof.CollectStr
import KE.SortData
import PyProof.Rows.StrStep
import PyProof.SliceStr2
import KE.KRevSl
import PyProof.ReprRoads
import HandS.HeadEnd
import HandS.EndBits
import HandS.Dict
import HandS.HeadHook1
import HandS.HeadHook2
import HandS.Property
import HandS.ClsMeth
import HandS.CallLocal
import HandS.HeadNt
import PyProof.Rules2
import PyProof.CallFns
import KE.KOpsOwn
import HandS.TryOnly
import HandS.ExcInit
import HandS.ExcField
import HandS.HotCalls
import HandS.ExcIs
import PyProof.TupleIter
import KE.KExcIs
import HandS.ExcBuiltin
import HandS.FStr
import HandS.Codes
import HandS.RaiseMore
import PyProof.Rows.StrIntSpec
import PyProof.FString3
import KE.DatumOrd
import HandS.More
import KE.KDictZip
import KE.KItemsList
import HandS.ListItems
import HandS.Zip
import PyProof.ReprLen
import PySem.Challenge.RW_paircounts_k14_rows_after_double_swaps
import KE.KStateDown
import Wide.All
import OpenK.AllK
import Wide.FinOn
import Lean
import HandS.WordsExc
import HandS.Head0
import HandS.Head1
import HandS.Head2
set_option Elab.async false
set_option linter.all false
set_option maxRecDepth 100000
set_option maxHeartbeats 4000000
namespace O
open PySem PySem.Spec PyProof.Rows L2
/-- data without addresses -/
inductive T where
  | non | bl (b : Bool) | int (i : Int) | str (s : List Nat) | ty (n : String) | fn (a : Addr)
  | lst (xs : List T) | tup (xs : List T) | scr (xs : List T)
  | dK (kvs : List (Key × T)) | dT (kvs : List (List Key × T))
  | ins (C : Addr) (fs : List (Str × T))
  | exc (a C : Addr) (d : Option Addr) (fs : List (Str × T))
abbrev Ad := Addr → Prop
/-- the text of these code points -/
def S (l : List Nat) : Str := ⟨l.toArray⟩
theorem S_len (l : List Nat) : (S l).length = l.length := by show l.toArray.size = l.length; exact List.size_toArray
theorem S_inj {a b : List Nat} (h : S a = S b) : a = b := by have := congrArg (fun x : Str => x.cps.toList) h; simpa [S] using this
theorem S_append (a b : List Nat) : S a ++ S b = S (a ++ b) := by show (⟨a.toArray ++ b.toArray⟩ : Str) = ⟨(a ++ b).toArray⟩; rw [List.append_toArray]
/-- a list, a tuple of the written part -/
def KL (K : PySem.W.Frag) (a : Addr) (xs : List V) : Prop :=
  ∃ (o : Obj) (its : Array Value) (n : Nat), K.lookup a = some o ∧ o.cls = .type "list" ∧ o.dict = none ∧ o.data = .seq its n ∧ its.size ≤ sizeLine ∧ Vals xs its.toList
def KT (K : PySem.W.Frag) (a : Addr) (xs : List V) : Prop :=
  ∃ (o : Obj) (its : Array Value) (n : Nat), K.lookup a = some o ∧ o.cls = .type "tuple" ∧ o.data = .seq its n ∧ its.size ≤ sizeLine ∧ Vals xs its.toList
/-- what is known of an own class -/
structure InsK (K : PySem.W.Frag) (C : Addr) : Prop where
  cl : Cls K C
  ha : PySem.W.findIn K (.ref C) "__class__" = some (some (.builtin "object.__class__"))
  hn : PySem.W.specialIn K (.builtin "object.__class__") "__get__" = some (some (.builtin "getset_descriptor.__get__"))
  ht : PySem.W.takesIn K (.builtin "object.__class__") = some true
  hm : PySem.W.mroIn K C (.type "object") = some true
  ty : ∀ n ∈ ["int", "bool", "str", "list", "tuple", "dict"], PySem.W.kitOne K (.ref C) (.type n) = some false
  up : ∀ n ∈ ["NoneType", "int", "bool", "str", "list", "tuple", "dict"], PySem.W.kitOne K (.type n) (.ref C) = some false
mutual
/-- v stands for the tree t; no object of it is in W (those that some name owns alone) -/
inductive Is (K : PySem.W.Frag) (W : Ad) (H : Hp) : V → T → Prop
  | non : Is K W H .non .non
  | bl (b : Bool) : Is K W H (.bl b) (.bl b)
  | int (i : Int) : Is K W H (.int i) (.int i)
  | str (s : List Nat) : Is K W H (.str (S s)) (.str s)
  | ty (n : String) : Is K W H (.ty n) (.ty n)
  | fn (a : Addr) : Is K W H (.ref a) (.fn a)
  | lst {p : Addr} {xs : List V} {ts : List T} : H p = some (.lst xs) → ¬ W p → IsL K W H xs ts → Is K W H (.ref p) (.lst ts)
  | scr {p : Addr} {o : Obj} {xs : List V} {ts : List T} : H p = some (.frz o (.lst xs)) → ¬ W p → IsL K W H xs ts → Is K W H (.ref p) (.scr ts)
  | scrK {p : Addr} {xs : List V} {ts : List T} : KL K p xs → IsL K W H xs ts → Is K W H (.ref p) (.scr ts)
  | tup {p : Addr} {xs : List V} {ts : List T} : H p = some (.tup xs) → ¬ W p → IsL K W H xs ts → Is K W H (.ref p) (.tup ts)
  | tupK {p : Addr} {xs : List V} {ts : List T} : KT K p xs → IsL K W H xs ts → Is K W H (.ref p) (.tup ts)
  | dK {p : Addr} {xs : List (Key × V)} {ts : List (Key × T)} : H p = some (.dK xs) → ¬ W p → IsP K W H Key xs ts → Is K W H (.ref p) (.dK ts)
  | dT {p : Addr} {xs : List (List Key × V)} {ts : List (List Key × T)} : H p = some (.dT xs) → ¬ W p → IsP K W H (List Key) xs ts → Is K W H (.ref p) (.dT ts)
  | ins {p C dx : Addr} {xs : List (Str × V)} {ts : List (Str × T)} : InsK K C → H p = some (.ins C dx xs) → ¬ W p → IsP K W H Str xs ts → Is K W H (.ref p) (.ins C ts)
  | exc0 (a C : Addr) : Is K W H (.ref a) (.exc a C none [])
  | exc1 {a C dd : Addr} {xs : List (Str × V)} {ts : List (Str × T)} : H dd = some (.xd xs) → ¬ W dd → IsP K W H Str xs ts → Is K W H (.ref a) (.exc a C (some dd) ts)
inductive IsL (K : PySem.W.Frag) (W : Ad) (H : Hp) : List V → List T → Prop
  | nil : IsL K W H [] []
  | cons {v : V} {t : T} {vs : List V} {ts : List T} : Is K W H v t → IsL K W H vs ts → IsL K W H (v :: vs) (t :: ts)
inductive IsP (K : PySem.W.Frag) (W : Ad) (H : Hp) : (κ : Type) → List (κ × V) → List (κ × T) → Prop
  | nil {κ : Type} : IsP K W H κ [] []
  | cons {κ : Type} {k : κ} {v : V} {t : T} {vs : List (κ × V)} {ts : List (κ × T)} : Is K W H v t → IsP K W H κ vs ts → IsP K W H κ ((k, v) :: vs) ((k, t) :: ts)
end
section
variable {K : PySem.W.Frag} {W W' P : Ad} {H H' : Hp}
mutual
theorem Is.keep (hA : ∀ q o, H q = some o → ¬ P q → H' q = some o) (hP : ∀ q, P q → W q) (hW : ∀ q, W' q → W q ∨ H q = none) : ∀ {v : V} {t : T}, Is K W H v t → Is K W' H' v t
  | _, _, .non => .non
  | _, _, .bl b => .bl b
  | _, _, .int i => .int i
  | _, _, .str s => .str s
  | _, _, .ty n => .ty n
  | _, _, .fn a => .fn a
  | _, _, .lst r n l => .lst (hA _ _ r (fun z => n (hP _ z))) (fun z => (hW _ z).elim n (fun e => by rw [e] at r; cases r)) (IsL.keep hA hP hW l)
  | _, _, .scr r n l => .scr (hA _ _ r (fun z => n (hP _ z))) (fun z => (hW _ z).elim n (fun e => by rw [e] at r; cases r)) (IsL.keep hA hP hW l)
  | _, _, .tup r n l => .tup (hA _ _ r (fun z => n (hP _ z))) (fun z => (hW _ z).elim n (fun e => by rw [e] at r; cases r)) (IsL.keep hA hP hW l)
  | _, _, .tupK r l => .tupK r (IsL.keep hA hP hW l)
  | _, _, .scrK r l => .scrK r (IsL.keep hA hP hW l)
  | _, _, .dK r n l => .dK (hA _ _ r (fun z => n (hP _ z))) (fun z => (hW _ z).elim n (fun e => by rw [e] at r; cases r)) (IsP.keep hA hP hW l)
  | _, _, .dT r n l => .dT (hA _ _ r (fun z => n (hP _ z))) (fun z => (hW _ z).elim n (fun e => by rw [e] at r; cases r)) (IsP.keep hA hP hW l)
  | _, _, .ins kc r n l => .ins kc (hA _ _ r (fun z => n (hP _ z))) (fun z => (hW _ z).elim n (fun e => by rw [e] at r; cases r)) (IsP.keep hA hP hW l)
  | _, _, .exc0 a C => .exc0 a C
  | _, _, .exc1 r n l => .exc1 (hA _ _ r (fun z => n (hP _ z))) (fun z => (hW _ z).elim n (fun e => by rw [e] at r; cases r)) (IsP.keep hA hP hW l)
theorem IsL.keep (hA : ∀ q o, H q = some o → ¬ P q → H' q = some o) (hP : ∀ q, P q → W q) (hW : ∀ q, W' q → W q ∨ H q = none) : ∀ {v : List V} {t : List T}, IsL K W H v t → IsL K W' H' v t
  | _, _, .nil => .nil
  | _, _, .cons a b => .cons (Is.keep hA hP hW a) (IsL.keep hA hP hW b)
theorem IsP.keep {κ : Type} (hA : ∀ q o, H q = some o → ¬ P q → H' q = some o) (hP : ∀ q, P q → W q) (hW : ∀ q, W' q → W q ∨ H q = none) : ∀ {v : List (κ × V)} {t : List (κ × T)}, IsP K W H κ v t → IsP K W' H' κ v t
  | _, _, .nil => .nil
  | _, _, .cons a b => .cons (Is.keep hA hP hW a) (IsP.keep hA hP hW b)
end
theorem IsL.length : ∀ {xs : List V} {ts : List T}, IsL K W H xs ts → xs.length = ts.length
  | _, _, .nil => rfl
  | _, _, .cons _ b => by rw [List.length_cons, List.length_cons, b.length]
theorem IsL.get : ∀ {xs : List V} {ts : List T} {i : Nat} {t : T}, IsL K W H xs ts → ts[i]? = some t → ∃ v, xs[i]? = some v ∧ Is K W H v t
  | _, _, _, _, .nil, e => by simp at e
  | _, _, 0, _, .cons a _, e => by simp at e; subst e; exact ⟨_, rfl, a⟩
  | _, _, i + 1, _, .cons _ b, e => by obtain ⟨v, h1, h2⟩ := IsL.get (i := i) b (by simpa using e); exact ⟨v, by simpa using h1, h2⟩
theorem IsL.append : ∀ {xs ys : List V} {ts us : List T}, IsL K W H xs ts → IsL K W H ys us → IsL K W H (xs ++ ys) (ts ++ us)
  | _, _, _, _, .nil, s => s
  | _, _, _, _, .cons a b, s => .cons a (IsL.append b s)
theorem IsL.set {v : V} {t : T} (r : Is K W H v t) : ∀ {xs : List V} {ts : List T} (i : Nat), IsL K W H xs ts → IsL K W H (xs.set i v) (ts.set i t)
  | _, _, _, .nil => .nil
  | _, _, 0, .cons _ b => .cons r b
  | _, _, i + 1, .cons a b => .cons a (IsL.set r i b)
theorem IsL.take : ∀ {xs : List V} {ts : List T} (n : Nat), IsL K W H xs ts → IsL K W H (xs.take n) (ts.take n)
  | _, _, 0, _ => .nil
  | _, _, _ + 1, .nil => .nil
  | _, _, n + 1, .cons a b => .cons a (IsL.take n b)
theorem IsL.drop : ∀ {xs : List V} {ts : List T} (n : Nat), IsL K W H xs ts → IsL K W H (xs.drop n) (ts.drop n)
  | _, _, 0, r => r
  | _, _, _ + 1, .nil => .nil
  | _, _, n + 1, .cons _ b => IsL.drop n b
theorem IsL.reverse {xs : List V} {ts : List T} (h : IsL K W H xs ts) : IsL K W H xs.reverse ts.reverse := by
  induction xs generalizing ts with
  | nil => cases h; exact .nil
  | cons x xs ih => cases h with | cons a b => rw [List.reverse_cons, List.reverse_cons]; exact (ih b).append (.cons a .nil)
theorem IsL.rep {xs : List V} {ts : List T} (h : IsL K W H xs ts) : ∀ k : Nat, IsL K W H (List.replicate k xs).flatten (List.replicate k ts).flatten
  | 0 => .nil
  | k + 1 => by
    rw [List.replicate_succ, List.replicate_succ, List.flatten_cons, List.flatten_cons]
    exact h.append (IsL.rep h k)
end
/-- the object at p and its tree; p is owned: what is within is shared -/
def OwnAt (K : PySem.W.Frag) (W : Ad) (H : Hp) (p : Addr) : T → Prop
  | .lst ts => ∃ xs, H p = some (.lst xs) ∧ IsL K W H xs ts
  | .dK ts => ∃ xs, H p = some (.dK xs) ∧ IsP K W H Key xs ts
  | .dT ts => ∃ xs, H p = some (.dT xs) ∧ IsP K W H (List Key) xs ts
  | .ins C ts => InsK K C ∧ ∃ dx xs, H p = some (.ins C dx xs) ∧ IsP K W H Str xs ts
  | _ => False
theorem OwnAt.some {K : PySem.W.Frag} {W : Ad} {H : Hp} {p : Addr} {t : T} (h : OwnAt K W H p t) : ∃ o, H p = some o := by
  cases t with
  | lst ts => obtain ⟨xs, e, _⟩ := h; exact ⟨_, e⟩
  | dK ts => obtain ⟨xs, e, _⟩ := h; exact ⟨_, e⟩
  | dT ts => obtain ⟨xs, e, _⟩ := h; exact ⟨_, e⟩
  | ins C ts => obtain ⟨_, dx, xs, e, _⟩ := h; exact ⟨_, e⟩
  | _ => exact h.elim
/-- the object itself stays, what is within is kept -/
theorem OwnAt.keep {K : PySem.W.Frag} {W W' P : Ad} {H H' : Hp} {p : Addr} {t : T} (hA : ∀ q o, H q = Option.some o → ¬ P q → H' q = Option.some o) (hP : ∀ q, P q → W q) (hW : ∀ q, W' q → W q ∨ H q = none)
    (hp : ∀ o, H p = Option.some o → H' p = Option.some o) (h : OwnAt K W H p t) : OwnAt K W' H' p t := by
  cases t with
  | lst ts => obtain ⟨xs, e, l⟩ := h; exact ⟨xs, hp _ e, l.keep hA hP hW⟩
  | dK ts => obtain ⟨xs, e, l⟩ := h; exact ⟨xs, hp _ e, l.keep hA hP hW⟩
  | dT ts => obtain ⟨xs, e, l⟩ := h; exact ⟨xs, hp _ e, l.keep hA hP hW⟩
  | ins C ts => obtain ⟨kc, dx, xs, e, l⟩ := h; exact ⟨kc, dx, xs, hp _ e, l.keep hA hP hW⟩
  | _ => exact h.elim
/-- W without p -/
def less (W : Ad) (p : Addr) : Ad := fun q => W q ∧ q ≠ p
theorem less_sub {W : Ad} {H : Hp} {p : Addr} : ∀ q, less W p q → W q ∨ H q = none := fun _ h => .inl h.1
theorem OwnAt.is {K : PySem.W.Frag} {W : Ad} {H : Hp} {p : Addr} {t : T} (h : OwnAt K W H p t) : Is K (less W p) H (.ref p) t := by
  have k : ∀ q o, H q = Option.some o → ¬ (fun _ : Addr => False) q → H q = Option.some o := fun _ _ e _ => e
  have k2 : ∀ q, (fun _ : Addr => False) q → W q := fun _ e => e.elim
  have n : ¬ less W p p := fun z => z.2 rfl
  cases t with
  | lst ts => obtain ⟨xs, e, l⟩ := h; exact .lst e n (l.keep k k2 less_sub)
  | dK ts => obtain ⟨xs, e, l⟩ := h; exact .dK e n (l.keep k k2 less_sub)
  | dT ts => obtain ⟨xs, e, l⟩ := h; exact .dT e n (l.keep k k2 less_sub)
  | ins C ts => obtain ⟨kc, dx, xs, e, l⟩ := h; exact .ins kc e n (l.keep k k2 less_sub)
  | _ => exact h.elim
theorem Is.weak {K : PySem.W.Frag} {W W' : Ad} {H : Hp} {v : V} {t : T} (h : Is K W H v t) (s : ∀ q, W' q → W q) : Is K W' H v t :=
  h.keep (P := fun _ => False) (fun _ _ e _ => e) (fun _ e => e.elim) fun q z => .inl (s q z)
theorem OwnAt.weak {K : PySem.W.Frag} {W W' : Ad} {H : Hp} {p : Addr} {t : T} (h : OwnAt K W H p t) (s : ∀ q, W' q → W q) : OwnAt K W' H p t :=
  h.keep (P := fun _ => False) (fun _ _ e _ => e) (fun _ e => e.elim) (fun q z => .inl (s q z)) fun _ e => e
inductive Sl where
  | no | sh (t : T) | ow (t : T) | io (t : T) | sd (t : T)
abbrev Rho := List Sl
def Sl.own : Sl → Prop
  | .ow _ => True
  | .io _ => True
  | _ => False
/-- a parameter that the caller owns: never stored anew -/
def Sl.pin : Sl → Bool
  | .io _ => true
  | .sd _ => true
  | _ => false
def RepS (K : PySem.W.Frag) (W : Ad) (H : Hp) : Option V → Sl → Prop
  | _, .no => True
  | o, .sh t => ∃ v, o = some v ∧ Is K W H v t
  | o, .sd t => ∃ p, o = some (.ref p) ∧ (¬ W p ∧ ∃ ob, H p = some ob) ∧ Is K W H (.ref p) t
  | o, .ow t => ∃ p, o = some (.ref p) ∧ W p ∧ OwnAt K W H p t
  | o, .io t => ∃ p, o = some (.ref p) ∧ W p ∧ OwnAt K W H p t
abbrev at_ (σ : L2.St) (i : Nat) : Option V := σ.getD i none
abbrev sl_ (ρ : Rho) (i : Nat) : Sl := ρ.getD i .no
structure Rep (K : PySem.W.Frag) (W : Ad) (H : Hp) (σ : L2.St) (ρ : Rho) : Prop where
  len : ρ.length = σ.length
  sl : ∀ i, RepS K W H (at_ σ i) (sl_ ρ i)
  inj : ∀ i j p, (sl_ ρ i).own → (sl_ ρ j).own → at_ σ i = some (.ref p) → at_ σ j = some (.ref p) → i = j
  wd : ∀ p, W p → ∃ o, H p = some o
/-- the roots that the frame owns -/
def Rt (σ : L2.St) (ρ : Rho) : Ad := fun p => ∃ i, (sl_ ρ i).own ∧ at_ σ i = some (.ref p)
theorem RepS.own {K : PySem.W.Frag} {W : Ad} {H : Hp} {o : Option V} {s : Sl} (h : RepS K W H o s) (w : s.own) {p : Addr} (e : o = some (.ref p)) : W p := by
  cases s with
  | ow t => obtain ⟨q, e', hw, _⟩ := h; rw [e'] at e; cases e; exact hw
  | io t => obtain ⟨q, e', hw, _⟩ := h; rw [e'] at e; cases e; exact hw
  | _ => exact w.elim
theorem Rep.rt {K : PySem.W.Frag} {W : Ad} {H : Hp} {σ : L2.St} {ρ : Rho} (h : Rep K W H σ ρ) : ∀ p, Rt σ ρ p → W p := fun p ⟨i, w, e⟩ => (h.sl i).own w e
/-- from (P, W, H) to (P', W', H'): only P's objects and new ones may have changed -/
structure Step (P W : Ad) (H : Hp) (P' W' : Ad) (H' : Hp) : Prop where
  keep : ∀ p o, H p = some o → ¬ P p → H' p = some o
  dom : ∀ p o, H p = some o → ∃ o', H' p = some o'
  stay : ∀ p, W p → ¬ P p → W' p
  new : ∀ p, W' p → W p ∨ H p = none
  newP : ∀ p, P' p → P p ∨ H p = none
theorem Step.refl (P W : Ad) (H : Hp) : Step P W H P W H := ⟨fun _ _ e _ => e, fun _ o e => ⟨o, e⟩, fun _ h _ => h, fun _ h => .inl h, fun _ h => .inl h⟩
theorem Step.trans {P W P1 W1 P2 W2 : Ad} {H H1 H2 : Hp} (wd : ∀ p, W p → ∃ o, H p = some o) (a : Step P W H P1 W1 H1) (b : Step P1 W1 H1 P2 W2 H2) : Step P W H P2 W2 H2 where
  keep := fun p o e n => b.keep p o (a.keep p o e n) fun z => (a.newP p z).elim n fun q => by rw [e] at q; cases q
  dom := fun p o e => by obtain ⟨o1, e1⟩ := a.dom p o e; exact b.dom p o1 e1
  stay := fun p h n => b.stay p (a.stay p h n) fun z => (a.newP p z).elim n fun q => by obtain ⟨o, e⟩ := wd p h; rw [e] at q; cases q
  new := fun p h => (b.new p h).elim (a.new p) fun q => .inr (by
    cases e : H p with
    | none => rfl
    | some o => obtain ⟨o1, e1⟩ := a.dom p o e; rw [q] at e1; cases e1)
  newP := fun p h => (b.newP p h).elim (a.newP p) fun q => .inr (by
    cases e : H p with
    | none => rfl
    | some o => obtain ⟨o1, e1⟩ := a.dom p o e; rw [q] at e1; cases e1)
theorem Step.subP {P W P' W' P'' : Ad} {H H' : Hp} (a : Step P W H P' W' H') (h : ∀ p, P'' p → P' p) : Step P W H P'' W' H' := ⟨a.keep, a.dom, a.stay, a.new, fun p z => a.newP p (h p z)⟩
theorem Step.none_of {P W P' W' : Ad} {H H' : Hp} (a : Step P W H P' W' H') {p : Addr} (e : H' p = none) : H p = none := by
  cases q : H p with
  | none => rfl
  | some o => obtain ⟨o1, e1⟩ := a.dom p o q; rw [e] at e1; cases e1
theorem Is.step {K : PySem.W.Frag} {P W P' W' : Ad} {H H' : Hp} {v : V} {t : T} (h : Is K W H v t) (s : Step P W H P' W' H') (hP : ∀ q, P q → W q) : Is K W' H' v t := h.keep s.keep hP s.new
theorem IsL.step {K : PySem.W.Frag} {P W P' W' : Ad} {H H' : Hp} {v : List V} {t : List T} (h : IsL K W H v t) (s : Step P W H P' W' H') (hP : ∀ q, P q → W q) : IsL K W' H' v t := h.keep s.keep hP s.new
end O
namespace O
open PySem PySem.Spec PyProof.Rows L2
/-- what is wanted: of a value, of an exception (its class, its fields) -/
structure Po (α : Type) where
  ok : α → Rho → Prop
  ex : Addr → List (Str × T) → Rho → Prop
abbrev Dn (α : Type) := Rho → Po α → Prop
def Mn {α : Type} (d : Dn α) : Prop := ∀ ρ Q Q', d ρ Q → (∀ x ρ', Q.ok x ρ' → Q'.ok x ρ') → (∀ c f ρ', Q.ex c f ρ' → Q'.ex c f ρ') → d ρ Q'
/-- the value of an expression: a new object that nobody else has, or a shared value -/
abbrev Rv := Bool × T
/-- an operand: a value, or the object of a name -/
inductive Hn where
  | tm (t : T) | sl (i : Nat)
def Sl.tr : Sl → Option T
  | .no => none
  | .sh t => some t
  | .ow t => some t
  | .io t => some t
  | .sd t => some t
/-- the operand's tree, as it is now -/
def Hn.get (ρ : Rho) : Hn → Option T
  | .tm t => some t
  | .sl i => (sl_ ρ i).tr
def Hn.is (ρ : Rho) (h : Hn) (t : T) : Prop := h.get ρ = some t
/-- the exception's own dict holds the fields -/
def ExD (K : PySem.W.Frag) (W : Ad) (H : Hp) : Option Addr → List (Str × T) → Prop
  | none, fs => fs = []
  | some d, fs => fs ≠ [] ∧ ∃ xs, H d = some (.xd xs) ∧ ¬ W d ∧ IsP K W H Str xs fs
section
variable (K : PySem.W.Frag)
/-- extra roots of a value -/
def xr (v : V) (r : Rv) : Ad := fun p => r.1 = true ∧ v = .ref p
def relE (σ : L2.St) (ρ' : Rho) (W' : Ad) (H' : Hp) (v : V) (r : Rv) : Prop :=
  if r.1 = true then ∃ p, v = .ref p ∧ W' p ∧ OwnAt K W' H' p r.2 ∧ ¬ Rt σ ρ' p else Is K W' H' v r.2
def relO (σ : L2.St) (ρ' : Rho) (W' : Ad) (H' : Hp) (v : V) : Hn → Prop
  | .tm t => Is K W' H' v t
  | .sl i => at_ σ i = some v
def relB (_ : L2.St) (_ : Rho) (_ : Ad) (_ : Hp) (b : Bool) (c : Bool) : Prop := b = c
def relOs (σ : L2.St) (ρ' : Rho) (W' : Ad) (H' : Hp) (vs : List V) (hs : List Hn) : Prop := Paired (relO K σ ρ' W' H') vs hs
def nox {α β : Type} (_ : β) (_ : α) : Ad := fun _ => False
def rooted (a b : Ad) : Ad := fun p => a p ∨ b p
/-- the parameters that the caller owns stay such -/
def Pn (ρ ρ' : Rho) : Prop := ∀ i, (sl_ ρ i).pin = true → (sl_ ρ' i).pin = true
theorem Pn.refl (ρ : Rho) : Pn ρ ρ := fun _ h => h
theorem Pn.trans {a b c : Rho} (x : Pn a b) (y : Pn b c) : Pn a c := fun i h => y i (x i h)
/-- the wish over the heap -/
def cpost {α β : Type} (rel : L2.St → Rho → Ad → Hp → β → α → Prop) (ext : β → α → Ad) (X : WX) (σ : L2.St) (ρ : Rho) (W : Ad) (H : Hp) (Q : β → Hp → Prop) : Po α where
  ok := fun a ρ' => ∀ b W' H', rel σ ρ' W' H' b a → Rep K W' H' σ ρ' → Step (Rt σ ρ) W H (rooted (Rt σ ρ') (ext b a)) W' H' → Pn ρ ρ' → Q b H'
  ex := fun C fs ρ' => ∀ d W' H', ExD K W' H' d fs → Rep K W' H' σ ρ' → Step (Rt σ ρ) W H (Rt σ ρ') W' H' → Pn ρ ρ' → X (.ref C) d σ H'
def RD {α β : Type} (rel : L2.St → Rho → Ad → Hp → β → α → Prop) (ext : β → α → Ad) (X : WX) (d : Dn α) : L2.St → Hp → (β → Hp → Prop) → Prop :=
  fun σ H Q => ∃ W ρ, Rep K W H σ ρ ∧ d ρ (cpost K rel ext X σ ρ W H Q)
end
/-- an expression, an operand, a test, an argument list -/
structure XE (X : Cx) (Wx : WX) (e : Expr) (d : Dn Rv) : Prop where
  pe : PE X e (RD X.K (relE X.K) xr Wx d)
  mn : Mn d
structure XO (X : Cx) (Wx : WX) (e : Expr) (d : Dn Hn) : Prop where
  pe : PE X e (RD X.K (relO X.K) nox Wx d)
  mn : Mn d
structure XT (X : Cx) (Wx : WX) (e : Expr) (d : Dn Bool) : Prop where
  pt : PT X e (RD X.K relB nox Wx d)
  mn : Mn d
structure XA (X : Cx) (Wx : WX) (es : List Expr) (d : Dn (List Hn)) : Prop where
  pa : PA X es (RD X.K (relOs X.K) nox Wx d)
  mn : Mn d
theorem PE.imp {X : Cx} {e : Expr} {t t' : TE} (h : PE X e t) (i : ∀ σ H Q, t' σ H Q → t σ H Q) : PE X e t' := ⟨fun pins s σ H Q I q => h.run pins s σ H Q I (i σ H Q q)⟩
theorem PT.imp {X : Cx} {e : Expr} {t t' : TT} (h : PT X e t) (i : ∀ σ H Q, t' σ H Q → t σ H Q) : PT X e t' := ⟨fun pins s σ H Q I q => h.run pins s σ H Q I (i σ H Q q)⟩
theorem PW.imp {X : Cx} {e : Expr} {t t' : TT} (h : PW X e t) (i : ∀ σ H Q, t' σ H Q → t σ H Q) : PW X e t' := ⟨fun wh pins s σ H Q I q => h.run wh pins s σ H Q I (i σ H Q q)⟩
theorem PA.imp {X : Cx} {e : List Expr} {t t' : TA} (h : PA X e t) (i : ∀ σ H Q, t' σ H Q → t σ H Q) : PA X e t' := ⟨fun pos pins s σ H Q I q => h.run pos pins s σ H Q I (i σ H Q q)⟩
section
variable {K : PySem.W.Frag} {Wx : WX} {σ : L2.St} {ρ ρ1 : Rho} {W W1 : Ad} {H H1 : Hp}
theorem rooted_nox {α β : Type} {a : Ad} {x : β} {y : α} : rooted a (nox x y) = a := by
  funext p; exact propext ⟨fun h => h.elim id fun z => z.elim, .inl⟩
/-- a further part runs behind the step st: the wish k is taken up by Q1 -/
theorem rd_next {α β γ δ : Type} {rel : L2.St → Rho → Ad → Hp → β → α → Prop} {ext : β → α → Ad} {rel1 : L2.St → Rho → Ad → Hp → δ → γ → Prop} {ext1 : δ → γ → Ad} {Q : β → Hp → Prop} {Q1 : δ → Hp → Prop} {b : Dn γ} {k : γ → Rho → Prop}
    (mb : Mn b) (rep : Rep K W H σ ρ) (st : Step (Rt σ ρ) W H (Rt σ ρ1) W1 H1) (pn : Pn ρ ρ1) (rep1 : Rep K W1 H1 σ ρ1) (h : b ρ1 ⟨k, (cpost K rel ext Wx σ ρ W H Q).ex⟩)
    (hk : ∀ y ρ2, k y ρ2 → ∀ v W2 H2, rel1 σ ρ2 W2 H2 v y → Rep K W2 H2 σ ρ2 → Step (Rt σ ρ1) W1 H1 (rooted (Rt σ ρ2) (ext1 v y)) W2 H2 → Step (Rt σ ρ) W H (rooted (Rt σ ρ2) (ext1 v y)) W2 H2 → Pn ρ ρ2 → Q1 v H2) :
    RD K rel1 ext1 Wx b σ H1 Q1 :=
  ⟨W1, ρ1, rep1, mb ρ1 _ _ h (fun y ρ2 z v W2 H2 r rp s p2 => hk y ρ2 z v W2 H2 r rp s (st.trans rep.wd s) (pn.trans p2)) fun C fs ρ' z d W' H' e rp s p2 => z d W' H' e rp (st.trans rep.wd s) (pn.trans p2)⟩
/-- the first part -/
theorem rd_first {α β γ δ : Type} {rel : L2.St → Rho → Ad → Hp → β → α → Prop} {ext : β → α → Ad} {rel1 : L2.St → Rho → Ad → Hp → δ → γ → Prop} {ext1 : δ → γ → Ad} {Q : β → Hp → Prop} {Q1 : δ → Hp → Prop} {b : Dn γ} {k : γ → Rho → Prop}
    (mb : Mn b) (rep : Rep K W H σ ρ) (h : b ρ ⟨k, (cpost K rel ext Wx σ ρ W H Q).ex⟩)
    (hk : ∀ y ρ2, k y ρ2 → ∀ v W2 H2, rel1 σ ρ2 W2 H2 v y → Rep K W2 H2 σ ρ2 → Step (Rt σ ρ) W H (rooted (Rt σ ρ2) (ext1 v y)) W2 H2 → Pn ρ ρ2 → Q1 v H2) :
    RD K rel1 ext1 Wx b σ H Q1 := rd_next mb rep (Step.refl _ _ _) (Pn.refl _) rep h fun y ρ2 z v W2 H2 r rp _ s => hk y ρ2 z v W2 H2 r rp s
/-- a value is shared from here on -/
theorem demote {P0 W0 : Ad} {H0 : Hp} {v : V} {rv : Rv} (wd0 : ∀ p, W0 p → ∃ o, H0 p = some o) (r : relE K σ ρ1 W1 H1 v rv) (rep : Rep K W1 H1 σ ρ1) (st : Step P0 W0 H0 (rooted (Rt σ ρ1) (xr v rv)) W1 H1) :
    ∃ W2, (∀ q, W2 q → W1 q) ∧ Is K W2 H1 v rv.2 ∧ Rep K W2 H1 σ ρ1 ∧ Step P0 W0 H0 (Rt σ ρ1) W2 H1 := by
  unfold relE at r
  by_cases c : rv.1 = true
  · rw [if_pos c] at r
    obtain ⟨p, e, hw, ho, hn⟩ := r
    refine ⟨less W1 p, fun q z => z.1, by rw [e]; exact ho.is, ⟨rep.len, fun i => ?_, rep.inj, fun q z => rep.wd q z.1⟩, ⟨st.keep, st.dom, fun q z n => ⟨st.stay q z n, fun eq => ?_⟩, fun q z => st.new q z.1, fun q z => st.newP q (.inl z)⟩⟩
    · have h := rep.sl i
      cases q : sl_ ρ1 i with
      | no => trivial
      | sh t => rw [q] at h; obtain ⟨u, e1, e2⟩ := h; exact ⟨u, e1, e2.weak fun _ z => z.1⟩
      | sd t => rw [q] at h; obtain ⟨u, e1, e2, e3⟩ := h; exact ⟨u, e1, ⟨fun z => e2.1 z.1, e2.2⟩, e3.weak fun _ z => z.1⟩
      | ow t => rw [q] at h; obtain ⟨u, e1, e2, e3⟩ := h; exact ⟨u, e1, ⟨e2, fun z => hn ⟨i, by rw [q]; trivial, by rw [← z]; exact e1⟩⟩, e3.weak fun _ z => z.1⟩
      | io t => rw [q] at h; obtain ⟨u, e1, e2, e3⟩ := h; exact ⟨u, e1, ⟨e2, fun z => hn ⟨i, by rw [q]; trivial, by rw [← z]; exact e1⟩⟩, e3.weak fun _ z => z.1⟩
    · rcases st.newP q (.inr ⟨c, by rw [eq]; exact e⟩) with z1 | z1
      · exact n z1
      · obtain ⟨o, z2⟩ := wd0 q z; rw [z1] at z2; cases z2
  · rw [if_neg c] at r
    exact ⟨W1, fun _ z => z, r, rep, st.subP fun p z => .inl z⟩
theorem Step.noxx {α β : Type} {P0 W0 : Ad} {H0 : Hp} {P : Ad} {x : β} {y : α} (st : Step P0 W0 H0 (rooted P (nox x y)) W1 H1) : Step P0 W0 H0 P W1 H1 := st.subP fun p z => .inl z
theorem Step.toNox {α β : Type} {P0 W0 : Ad} {H0 : Hp} {P : Ad} {x : β} {y : α} (st : Step P0 W0 H0 P W1 H1) : Step P0 W0 H0 (rooted P (nox x y)) W1 H1 := by rw [rooted_nox]; exact st
theorem relE_sh {v : V} {t : T} (h : Is K W H v t) : relE K σ ρ W H v (false, t) := by unfold relE; rw [if_neg (fun z : false = true => Bool.noConfusion z)]; exact h
theorem xr_sh {v : V} {t : T} {P : Ad} : rooted P (xr v (false, t)) = P := by
  funext p
  exact propext ⟨fun h => h.elim id fun z => Bool.noConfusion z.1, fun h => Or.inl h⟩
end
def dVar (i : Nat) : Dn Rv := fun ρ Q => match sl_ ρ i with
  | .no => False
  | .sh t => Q.ok (false, t) ρ
  | .sd t => Q.ok (false, t) ρ
  | .ow t => Q.ok (false, t) (ρ.set i (.sh t))
  | .io t => Q.ok (false, t) (ρ.set i (.sd t))
def dNm (i : Nat) : Dn Hn := fun ρ Q => (sl_ ρ i).tr.isSome = true ∧ Q.ok (.sl i) ρ
theorem mn_var (i : Nat) : Mn (dVar i) := fun ρ Q Q' h k _ => by
  unfold dVar at h ⊢
  cases q : sl_ ρ i <;> rw [q] at h <;> first | exact h.elim | exact k _ _ h
theorem mn_nm (i : Nat) : Mn (dNm i) := fun ρ Q Q' h k _ => ⟨h.1, k _ _ h.2⟩
theorem at_get {σ : L2.St} {i : Nat} {v : V} : at_ σ i = some v ↔ σ[i]? = some (some v) := by
  unfold at_
  rw [List.getD_eq_getElem?_getD]
  cases σ[i]? with
  | none => simp
  | some o => simp
theorem sl_set {ρ : Rho} {i j : Nat} {s : Sl} : sl_ (ρ.set i s) j = if i = j ∧ i < ρ.length then s else sl_ ρ j := by
  unfold sl_
  rw [List.getD_eq_getElem?_getD, List.getD_eq_getElem?_getD, List.getElem?_set]
  by_cases h : i = j
  · subst h
    by_cases l : i < ρ.length
    · simp [l]
    · simp [l]
  · simp [h]
theorem pn_set {ρ : Rho} {i : Nat} {s : Sl} (h : (sl_ ρ i).pin = true → s.pin = true) : Pn ρ (ρ.set i s) := fun j p => by
  rw [sl_set]
  by_cases c : i = j ∧ i < ρ.length
  · rw [if_pos c]; exact h (by rw [c.1]; exact p)
  · rw [if_neg c]; exact p
theorem at_set {σ : L2.St} {i j : Nat} {s : Option V} : at_ (σ.set i s) j = if i = j ∧ i < σ.length then s else at_ σ j := by
  unfold at_
  rw [List.getD_eq_getElem?_getD, List.getD_eq_getElem?_getD, List.getElem?_set]
  by_cases h : i = j
  · subst h
    by_cases l : i < σ.length
    · simp [l]
    · simp [l]
  · simp [h]
section
variable {K : PySem.W.Frag} {σ : L2.St} {ρ : Rho} {W : Ad} {H : Hp}
theorem RepS.less {o : Option V} {s : Sl} {p : Addr} (h : RepS K W H o s) (n : s.own → o ≠ some (.ref p)) : RepS K (less W p) H o s := by
  cases s with
  | no => trivial
  | sh t => obtain ⟨u, e1, e2⟩ := h; exact ⟨u, e1, e2.weak fun _ z => z.1⟩
  | sd t => obtain ⟨u, e1, e2, e3⟩ := h; exact ⟨u, e1, ⟨fun z => e2.1 z.1, e2.2⟩, e3.weak fun _ z => z.1⟩
  | ow t => obtain ⟨u, e1, e2, e3⟩ := h; exact ⟨u, e1, ⟨e2, fun z => n trivial (by rw [← z]; exact e1)⟩, e3.weak fun _ z => z.1⟩
  | io t => obtain ⟨u, e1, e2, e3⟩ := h; exact ⟨u, e1, ⟨e2, fun z => n trivial (by rw [← z]; exact e1)⟩, e3.weak fun _ z => z.1⟩
/-- an owned name's object is shared from here on -/
theorem Rep.share {i : Nat} {s' : Sl} {p : Addr} (r : Rep K W H σ ρ) (hi : (sl_ ρ i).own) (hp : at_ σ i = some (.ref p)) (hs : ¬ s'.own) (h' : RepS K (O.less W p) H (at_ σ i) s') :
    Rep K (O.less W p) H σ (ρ.set i s') ∧ Step (Rt σ ρ) W H (Rt σ (ρ.set i s')) (O.less W p) H := by
  have own' : ∀ j, (sl_ (ρ.set i s') j).own → j ≠ i ∧ (sl_ ρ j).own := fun j w => by
    rw [sl_set] at w
    by_cases c : i = j ∧ i < ρ.length
    · rw [if_pos c] at w; exact (hs w).elim
    · rw [if_neg c] at w
      refine ⟨fun e => ?_, w⟩
      subst e
      have l : ¬ j < ρ.length := fun z => c ⟨rfl, z⟩
      have : sl_ ρ j = .no := by unfold sl_; rw [List.getD_eq_getElem?_getD, List.getElem?_eq_none (by omega)]; rfl
      rw [this] at w; exact w
  refine ⟨⟨by rw [List.length_set]; exact r.len, fun j => ?_, fun a b q wa wb ea eb => r.inj a b q (own' a wa).2 (own' b wb).2 ea eb, fun q z => r.wd q z.1⟩, ⟨fun _ _ e _ => e, fun _ o e => ⟨o, e⟩, fun q z n => ⟨z, fun e => n ⟨i, hi, by rw [e]; exact hp⟩⟩, fun q z => .inl z.1, fun q ⟨j, w, e⟩ => .inl ⟨j, (own' j w).2, e⟩⟩⟩
  rw [sl_set]
  by_cases c : i = j ∧ i < ρ.length
  · rw [if_pos c, ← c.1]; exact h'
  · rw [if_neg c]
    refine (r.sl j).less fun w e => ?_
    have := r.inj i j p hi w hp e
    subst this
    have l : ¬ i < ρ.length := fun z => c ⟨rfl, z⟩
    have : sl_ ρ i = .no := by unfold sl_; rw [List.getD_eq_getElem?_getD, List.getElem?_eq_none (by omega)]; rfl
    rw [this] at w; exact w
theorem Rep.shared {i : Nat} {t : T} (r : Rep K W H σ ρ) (h : sl_ ρ i = .ow t ∨ sl_ ρ i = .io t) :
    ∃ v s' W', at_ σ i = some v ∧ s' = (if (sl_ ρ i).pin = true then Sl.sd t else Sl.sh t) ∧ Is K W' H v t ∧ Rep K W' H σ (ρ.set i s') ∧ Step (Rt σ ρ) W H (Rt σ (ρ.set i s')) W' H := by
  have hr := r.sl i
  rcases h with h | h
  · rw [h] at hr
    obtain ⟨p, e1, e2, e3⟩ := hr
    have w : (sl_ ρ i).own := by rw [h]; trivial
    obtain ⟨a, b⟩ := r.share (s' := .sh t) w e1 (fun z => z) ⟨_, e1, e3.is⟩
    exact ⟨_, .sh t, _, e1, by rw [h]; rfl, e3.is, a, b⟩
  · rw [h] at hr
    obtain ⟨p, e1, e2, e3⟩ := hr
    have w : (sl_ ρ i).own := by rw [h]; trivial
    obtain ⟨a, b⟩ := r.share (s' := .sd t) w e1 (fun z => z) ⟨_, e1, ⟨fun z => z.2 rfl, e3.some⟩, e3.is⟩
    exact ⟨_, .sd t, _, e1, by rw [h]; rfl, e3.is, a, b⟩
end
section
variable {X : Cx} {Wx : WX}
theorem xe_name (i : Nat) {x : Str} {pos : Pos} (hN : X.N[i]? = some x := by rfl) (hv : Vis X.env.scope x := by first | exact Or.inl rfl | exact Or.inr (Or.inl rfl) | exact Or.inr (Or.inr rfl)) (hd : (x == ("__debug__" : Str)) = false := by decide)
    (hcd : (x == ("__classdict__" : Str)) = false := by decide) : XE X Wx (.Name x pos) (dVar i) := by
  refine ⟨PE.imp (pv i hN hv hd hcd) fun σ H Q ⟨W, ρ, rep, h⟩ => ?_, mn_var i⟩
  have hs := rep.sl i
  unfold dVar at h
  cases q : sl_ ρ i with
  | no => rw [q] at h; exact h.elim
  | sh t =>
    rw [q] at h hs
    obtain ⟨v, e, hi⟩ := hs
    exact ⟨v, at_get.mp e, h v W H (relE_sh hi) rep (by rw [xr_sh]; exact Step.refl _ _ _) (Pn.refl _)⟩
  | sd t =>
    rw [q] at h hs
    obtain ⟨p, e, n, hi⟩ := hs
    exact ⟨.ref p, at_get.mp e, h _ W H (relE_sh hi) rep (by rw [xr_sh]; exact Step.refl _ _ _) (Pn.refl _)⟩
  | ow t =>
    obtain ⟨v, s', W', e, e2, hi, rp, st⟩ := rep.shared (.inl q)
    rw [q] at h e2
    have e2 : s' = .sh t := e2
    subst e2
    exact ⟨v, at_get.mp e, h v W' H (relE_sh hi) rp (by rw [xr_sh]; exact st) (pn_set fun z => by rw [q] at z; cases z)⟩
  | io t =>
    obtain ⟨v, s', W', e, e2, hi, rp, st⟩ := rep.shared (.inr q)
    rw [q] at h e2
    have e2 : s' = .sd t := e2
    subst e2
    exact ⟨v, at_get.mp e, h v W' H (relE_sh hi) rp (by rw [xr_sh]; exact st) (pn_set fun _ => rfl)⟩
theorem xo_name (i : Nat) {x : Str} {pos : Pos} (hN : X.N[i]? = some x := by rfl) (hv : Vis X.env.scope x := by first | exact Or.inl rfl | exact Or.inr (Or.inl rfl) | exact Or.inr (Or.inr rfl)) (hd : (x == ("__debug__" : Str)) = false := by decide)
    (hcd : (x == ("__classdict__" : Str)) = false := by decide) : XO X Wx (.Name x pos) (dNm i) := by
  refine ⟨PE.imp (pv i hN hv hd hcd) fun σ H Q ⟨W, ρ, rep, h1, h⟩ => ?_, mn_nm i⟩
  have hs := rep.sl i
  have : ∃ v, at_ σ i = some v := by
    cases q : sl_ ρ i with
    | no => rw [q] at h1; cases h1
    | sh t => rw [q] at hs; obtain ⟨v, e, _⟩ := hs; exact ⟨_, e⟩
    | sd t => rw [q] at hs; obtain ⟨v, e, _⟩ := hs; exact ⟨_, e⟩
    | ow t => rw [q] at hs; obtain ⟨v, e, _⟩ := hs; exact ⟨_, e⟩
    | io t => rw [q] at hs; obtain ⟨v, e, _⟩ := hs; exact ⟨_, e⟩
  obtain ⟨v, e⟩ := this
  exact ⟨v, at_get.mp e, h v W H e rep (by rw [rooted_nox]; exact Step.refl _ _ _) (Pn.refl _)⟩
/-- a value as an operand -/
def dTm (d : Dn Rv) : Dn Hn := fun ρ Q => d ρ ⟨fun r ρ' => Q.ok (.tm r.2) ρ', Q.ex⟩
theorem mn_tm {d : Dn Rv} (m : Mn d) : Mn (dTm d) := fun ρ Q Q' h k e => m ρ _ _ h (fun r ρ' => k _ _) e
theorem xo_val {e : Expr} {d : Dn Rv} (h : XE X Wx e d) : XO X Wx e (dTm d) := by
  refine ⟨PE.imp h.pe fun σ H Q ⟨W, ρ, rep, q⟩ => ?_, mn_tm h.mn⟩
  refine rd_first h.mn rep q fun r ρ2 k v W2 H2 rl rp st pn => ?_
  obtain ⟨W3, s, i, rp3, st3⟩ := demote rep.wd rl rp st
  exact k v W3 H2 i rp3 st3.toNox pn
def dC (t : T) : Dn Rv := fun ρ Q => Q.ok (false, t) ρ
theorem mn_c (t : T) : Mn (dC t) := fun ρ Q Q' h k _ => k _ _ h
theorem xe_c {e : Expr} {v : V} {t : T} (h : PE X e (tC v)) (hi : ∀ W H, Is X.K W H v t) : XE X Wx e (dC t) :=
  ⟨PE.imp h fun σ H Q ⟨W, ρ, rep, q⟩ => q v W H (relE_sh (hi W H)) rep (by rw [xr_sh]; exact Step.refl _ _ _) (Pn.refl _), mn_c t⟩
theorem xe_int {i : Int} {j : Nat} {pos : Pos} : XE X Wx (.Constant (.int i) j pos) (dC (.int i)) := xe_c pe_int fun _ _ => .int i
theorem xe_bl {b : Bool} {j : Nat} {pos : Pos} : XE X Wx (.Constant (.bool b) j pos) (dC (.bl b)) := xe_c pe_bl fun _ _ => .bl b
theorem xe_non {j : Nat} {pos : Pos} : XE X Wx (.Constant .none j pos) (dC .non) := xe_c pe_non fun _ _ => .non
theorem xe_str (l : List Nat) {x : Str} {j : Nat} {pos : Pos} (h : x = S l := by rfl) : XE X Wx (.Constant (.str x) j pos) (dC (.str l)) := xe_c pe_str fun _ _ => by rw [h]; exact .str l
theorem xe_glob {x : Str} {v : V} {t : T} {u : Value} {pos : Pos} (hg : Gl X x) (hm : X.mg x = some u) (r : RelV v u) (hi : ∀ W H, Is X.K W H v t) (hd : (x == ("__debug__" : Str)) = false := by decide) : XE X Wx (.Name x pos) (dC t) := xe_c (pe_glob hg hm r hd) hi
theorem xe_bltn {x : Str} {v : V} {t : T} {u : Value} {pos : Pos} (hg : Gl X x) (hm : X.mg x = none) (hv : bootBuiltins x = some u) (r : RelV v u) (hi : ∀ W H, Is X.K W H v t) (hn : x ≠ "__name__" := by decide) (hd : (x == ("__debug__" : Str)) = false := by decide) : XE X Wx (.Name x pos) (dC t) :=
  xe_c (pe_bltn hg hm hv r hn hd) hi
end
end O
namespace O
open PySem PySem.Spec PyProof.Rows L2
/-- what may be read: a shared value, or the owned object itself -/
def IsR (K : PySem.W.Frag) (W : Ad) (H : Hp) (v : V) (t : T) : Prop := Is K W H v t ∨ ∃ p, v = .ref p ∧ OwnAt K W H p t
def plus (W : Ad) (p : Addr) : Ad := fun q => W q ∨ q = p
/-- the value of a pure operation: shared, or a new object -/
structure Res (K : PySem.W.Frag) (W : Ad) (H : Hp) (rv : Rv) (v : V) (H' : Hp) : Prop where
  same : ∀ p o, H p = some o → H' p = some o
  val : if rv.1 = true then ∃ p, v = .ref p ∧ H p = none ∧ OwnAt K (plus W p) H' p rv.2 else Is K W H' v rv.2
section
variable {K : PySem.W.Frag} {Wx : WX} {σ : L2.St} {ρ ρ1 : Rho} {W W1 : Ad} {H H1 : Hp} {v : V} {rv : Rv}
theorem isR_of {h : Hn} {t : T} (rep : Rep K W H σ ρ) (r : relO K σ ρ W H v h) (e : h.is ρ t) : IsR K W H v t := by
  cases h with
  | tm u => have e' : some u = some t := e; cases e'; exact .inl r
  | sl i =>
    have r' : at_ σ i = some v := r
    have e' : (sl_ ρ i).tr = some t := e
    have hs := rep.sl i
    rw [r'] at hs
    cases q : sl_ ρ i with
    | no => rw [q] at e'; cases e'
    | sh u => rw [q] at e' hs; cases e'; obtain ⟨w, e1, e2⟩ := hs; cases e1; exact .inl e2
    | sd u => rw [q] at e' hs; cases e'; obtain ⟨w, e1, _, e2⟩ := hs; cases e1; exact .inl e2
    | ow u => rw [q] at e' hs; cases e'; obtain ⟨w, e1, _, e2⟩ := hs; cases e1; exact .inr ⟨_, rfl, e2⟩
    | io u => rw [q] at e' hs; cases e'; obtain ⟨w, e1, _, e2⟩ := hs; cases e1; exact .inr ⟨_, rfl, e2⟩
theorem relO_step {h : Hn} {P1 W2 : Ad} {H2 : Hp} {ρ2 : Rho} (r : relO K σ ρ1 W1 H1 v h) (rep : Rep K W1 H1 σ ρ1) (st : Step (Rt σ ρ1) W1 H1 P1 W2 H2) : relO K σ ρ2 W2 H2 v h := by
  cases h with
  | tm u => exact Is.step r st rep.rt
  | sl i => exact r
theorem Rep.grow {p : Addr} (rep : Rep K W H σ ρ) (same : ∀ q o, H q = some o → H1 q = some o) (hn : H p = none) (h1 : ∃ o, H1 p = some o) : Rep K (plus W p) H1 σ ρ := by
  have k : ∀ q o, H q = some o → ¬ (fun _ : Addr => False) q → H1 q = some o := fun q o e _ => same q o e
  have kw : ∀ q, plus W p q → W q ∨ H q = none := fun q z => z.elim .inl fun e => .inr (by rw [e]; exact hn)
  refine ⟨rep.len, fun i => ?_, rep.inj, fun q z => z.elim (fun z => by obtain ⟨o, e⟩ := rep.wd q z; exact ⟨o, same _ _ e⟩) fun e => by rw [e]; exact h1⟩
  have h := rep.sl i
  cases q : sl_ ρ i with
  | no => trivial
  | sh t => rw [q] at h; obtain ⟨u, e1, e2⟩ := h; exact ⟨u, e1, e2.keep k (fun _ z => z.elim) kw⟩
  | sd t =>
    rw [q] at h; obtain ⟨u, e1, ⟨e2, ob, eo⟩, e3⟩ := h
    refine ⟨u, e1, ⟨fun z => z.elim e2 fun e => ?_, ⟨ob, same _ _ eo⟩⟩, e3.keep k (fun _ z => z.elim) kw⟩
    rw [e, hn] at eo
    cases eo
  | ow t => rw [q] at h; obtain ⟨u, e1, e2, e3⟩ := h; exact ⟨u, e1, .inl e2, e3.keep k (fun _ z => z.elim) kw fun o e => same _ _ e⟩
  | io t => rw [q] at h; obtain ⟨u, e1, e2, e3⟩ := h; exact ⟨u, e1, .inl e2, e3.keep k (fun _ z => z.elim) kw fun o e => same _ _ e⟩
theorem Rep.same (rep : Rep K W H σ ρ) (same : ∀ q o, H q = some o → H1 q = some o) : Rep K W H1 σ ρ := by
  have k : ∀ q o, H q = some o → ¬ (fun _ : Addr => False) q → H1 q = some o := fun q o e _ => same q o e
  refine ⟨rep.len, fun i => ?_, rep.inj, fun q z => by obtain ⟨o, e⟩ := rep.wd q z; exact ⟨o, same _ _ e⟩⟩
  have h := rep.sl i
  cases q : sl_ ρ i with
  | no => trivial
  | sh t => rw [q] at h; obtain ⟨u, e1, e2⟩ := h; exact ⟨u, e1, e2.keep k (fun _ z => z.elim) fun _ z => .inl z⟩
  | sd t => rw [q] at h; obtain ⟨u, e1, ⟨e2, ob, eo⟩, e3⟩ := h; exact ⟨u, e1, ⟨e2, ob, same _ _ eo⟩, e3.keep k (fun _ z => z.elim) fun _ z => .inl z⟩
  | ow t => rw [q] at h; obtain ⟨u, e1, e2, e3⟩ := h; exact ⟨u, e1, e2, e3.keep k (fun _ z => z.elim) (fun _ z => .inl z) fun o e => same _ _ e⟩
  | io t => rw [q] at h; obtain ⟨u, e1, e2, e3⟩ := h; exact ⟨u, e1, e2, e3.keep k (fun _ z => z.elim) (fun _ z => .inl z) fun o e => same _ _ e⟩
theorem Step.same {P : Ad} (same : ∀ q o, H q = some o → H1 q = some o) : Step P W H P W H1 := ⟨fun p o e _ => same p o e, fun p o e => ⟨o, same p o e⟩, fun p z _ => z, fun p z => .inl z, fun p z => .inl z⟩
/-- behind a pure operation -/
theorem Res.post (rep : Rep K W H σ ρ) (r : Res K W H rv v H1) : ∃ W', relE K σ ρ W' H1 v rv ∧ Rep K W' H1 σ ρ ∧ Step (Rt σ ρ) W H (rooted (Rt σ ρ) (xr v rv)) W' H1 := by
  have hv := r.val
  by_cases c : rv.1 = true
  · rw [if_pos c] at hv
    obtain ⟨p, e, hn, ho⟩ := hv
    have hnr : ¬ Rt σ ρ p := fun z => by obtain ⟨o, e⟩ := rep.wd p (rep.rt p z); rw [hn] at e; cases e
    refine ⟨plus W p, ?_, rep.grow r.same hn ho.some, ⟨fun q o z _ => r.same q o z, fun q o z => ⟨o, r.same q o z⟩, fun q z _ => .inl z, fun q z => z.elim .inl fun z => .inr (by rw [z]; exact hn), fun q z => z.elim .inl fun z => .inr ?_⟩⟩
    · unfold relE; rw [if_pos c]; exact ⟨p, e, .inr rfl, ho, hnr⟩
    · have : v = .ref q := z.2
      rw [e] at this; cases this; exact hn
  · rw [if_neg c] at hv
    refine ⟨W, ?_, rep.same r.same, (Step.same (P := Rt σ ρ) r.same).subP fun p z => z.elim id fun z => absurd z.1 c⟩
    unfold relE; rw [if_neg c]; exact hv
theorem Res.sh {t : T} (h : Is K W H v t) : Res K W H (false, t) v H := ⟨fun _ _ e => e, by rw [if_neg (fun z : false = true => Bool.noConfusion z)]; exact h⟩
theorem Res.newO {t : T} {p : Addr} {o : HO} (hn : H p = none) (h : OwnAt K (plus W p) (upd H p o) p t) : Res K W H (true, t) (.ref p) (upd H p o) :=
  ⟨fun q u e => by rw [upd_ne (ne_of_none e hn)]; exact e, by rw [if_pos rfl]; exact ⟨p, rfl, hn, h⟩⟩
theorem kept_upd {p : Addr} {o : HO} (hn : H p = none) : ∀ q u, H q = some u → upd H p o q = some u := fun q u e => by rw [upd_ne (ne_of_none e hn)]; exact e
theorem Res.newL {xs : List V} {ts : List T} {p : Addr} (hn : H p = none) (h : IsL K W H xs ts) : Res K W H (true, .lst ts) (.ref p) (upd H p (.lst xs)) :=
  .newO hn ⟨xs, upd_same, h.keep (P := fun _ => False) (fun q u e _ => kept_upd hn q u e) (fun _ z => z.elim) fun q z => z.elim .inl fun e => .inr (by rw [e]; exact hn)⟩
theorem Res.newT {xs : List V} {ts : List T} {p : Addr} (wd : ∀ q, W q → ∃ o, H q = some o) (hn : H p = none) (h : IsL K W H xs ts) : Res K W H (false, .tup ts) (.ref p) (upd H p (.tup xs)) :=
  ⟨kept_upd hn, by
    rw [if_neg (fun z : false = true => Bool.noConfusion z)]
    exact .tup upd_same (fun z => by obtain ⟨o, e⟩ := wd p z; rw [hn] at e; cases e) (h.keep (P := fun _ => False) (fun q u e _ => kept_upd hn q u e) (fun _ z => z.elim) fun q z => .inl z)⟩
/-- a new object that is shared from the start -/
theorem IsL.fresh {xs : List V} {ts : List T} {p : Addr} {o : HO} (hn : H p = none) (h : IsL K W H xs ts) : IsL K W (upd H p o) xs ts := h.keep (P := fun _ => False) (fun q u e _ => kept_upd hn q u e) (fun _ z => z.elim) fun q z => .inl z
end
/-- what an operation asks of the trees, and its value -/
structure Ot where
  pre : Prop
  val : Rv
def Ot.no : Ot := ⟨False, (false, .non)⟩
def Ot.sh (t : T) : Ot := ⟨True, (false, t)⟩
def Ot.when (p : Prop) (t : T) : Ot := ⟨p, (false, t)⟩
def Ot.new (p : Prop) (t : T) : Ot := ⟨p, (true, t)⟩
def Wd (W : Ad) (H : Hp) : Prop := ∀ q, W q → ∃ o, H q = some o
/-- the reading r does what f says of the trees -/
def Pure2 (K : PySem.W.Frag) (r : R2) (f : T → T → Ot) : Prop := ∀ W H v u a b (Q : VK), Wd W H → IsR K W H v a → IsR K W H u b → (f a b).pre → (∀ v' H', Res K W H (f a b).val v' H' → Q v' H') → r v u H Q
def Pure1 (K : PySem.W.Frag) (r : V → Hp → VK → Prop) (f : T → Ot) : Prop := ∀ W H v a (Q : VK), Wd W H → IsR K W H v a → (f a).pre → (∀ v' H', Res K W H (f a).val v' H' → Q v' H') → r v H Q
def PureN (K : PySem.W.Frag) (r : List V → Hp → VK → Prop) (f : List T → Ot) : Prop := ∀ W H vs as (Q : VK), Wd W H → Paired (IsR K W H) vs as → (f as).pre → (∀ v' H', Res K W H (f as).val v' H' → Q v' H') → r vs H Q
/-- a receiver and arguments -/
def PureM (K : PySem.W.Frag) (r : V → List V → Hp → VK → Prop) (f : T → List T → Ot) : Prop := ∀ W H v vs a as (Q : VK), Wd W H → IsR K W H v a → Paired (IsR K W H) vs as → (f a as).pre → (∀ v' H', Res K W H (f a as).val v' H' → Q v' H') → r v vs H Q
def dOp2 (f : T → T → Ot) (a b : Dn Hn) : Dn Rv := fun ρ Q => a ρ ⟨fun h1 ρ1 => b ρ1 ⟨fun h2 ρ2 => ∃ t, h1.is ρ2 t ∧ ∃ u, h2.is ρ2 u ∧ (f t u).pre ∧ Q.ok (f t u).val ρ2, Q.ex⟩, Q.ex⟩
def dOp1 (f : T → Ot) (a : Dn Hn) : Dn Rv := fun ρ Q => a ρ ⟨fun h ρ1 => ∃ t, h.is ρ1 t ∧ (f t).pre ∧ Q.ok (f t).val ρ1, Q.ex⟩
def Hn.gets (ρ : Rho) : List Hn → Option (List T)
  | [] => some []
  | h :: hs => match h.get ρ, Hn.gets ρ hs with
    | some t, some ts => some (t :: ts)
    | _, _ => none
def Hn.all (ρ : Rho) (hs : List Hn) (ts : List T) : Prop := Hn.gets ρ hs = some ts
theorem Hn.all_cons {ρ : Rho} {h : Hn} {hs : List Hn} {ts : List T} (e : Hn.all ρ (h :: hs) ts) : ∃ t us, ts = t :: us ∧ h.is ρ t ∧ Hn.all ρ hs us := by
  unfold Hn.all at e
  unfold Hn.gets at e
  cases q : h.get ρ with
  | none => rw [q] at e; cases e
  | some t =>
    rw [q] at e
    cases q2 : Hn.gets ρ hs with
    | none => rw [q2] at e; cases e
    | some us => rw [q2] at e; cases e; exact ⟨t, us, rfl, q, q2⟩
/-- all of them values -/
def tms : List Hn → Option (List T)
  | [] => some []
  | .tm t :: hs => match tms hs with
    | some ts => some (t :: ts)
    | none => none
  | .sl _ :: _ => none
theorem tms_map : ∀ {hs : List Hn} {ts : List T}, tms hs = some ts → hs = ts.map Hn.tm
  | [], _, e => by cases e; rfl
  | .tm t :: hs, ts, e => by
    unfold tms at e
    cases q : tms hs with
    | none => rw [q] at e; cases e
    | some us => rw [q] at e; cases e; rw [tms_map q]; rfl
  | .sl _ :: _, _, e => by cases e
def dOpN (f : List T → Ot) (a : Dn (List Hn)) : Dn Rv := fun ρ Q => a ρ ⟨fun hs ρ1 => ∃ ts, Hn.all ρ1 hs ts ∧ (f ts).pre ∧ Q.ok (f ts).val ρ1, Q.ex⟩
theorem mn_op2 {f : T → T → Ot} {a b : Dn Hn} (ma : Mn a) (mb : Mn b) : Mn (dOp2 f a b) := fun ρ Q Q' h k e =>
  ma _ _ _ h (fun h1 ρ1 h => mb _ _ _ h (fun h2 ρ2 ⟨t, i, u, j, p, q⟩ => ⟨t, i, u, j, p, k _ _ q⟩) e) e
theorem mn_op1 {f : T → Ot} {a : Dn Hn} (ma : Mn a) : Mn (dOp1 f a) := fun ρ Q Q' h k e => ma _ _ _ h (fun h1 ρ1 ⟨t, i, p, q⟩ => ⟨t, i, p, k _ _ q⟩) e
theorem mn_opN {f : List T → Ot} {a : Dn (List Hn)} (ma : Mn a) : Mn (dOpN f a) := fun ρ Q Q' h k e => ma _ _ _ h (fun h1 ρ1 ⟨t, i, p, q⟩ => ⟨t, i, p, k _ _ q⟩) e
section
variable {X : Cx} {Wx : WX} {e a b : Expr} {es : List Expr} {d da db : Dn Hn} {ds : Dn (List Hn)} {pos : Pos}
theorem all_isR {K : PySem.W.Frag} {σ : L2.St} {ρ : Rho} {W : Ad} {H : Hp} (rep : Rep K W H σ ρ) : ∀ {vs : List V} {hs : List Hn} {ts : List T}, relOs K σ ρ W H vs hs → Hn.all ρ hs ts → Paired (IsR K W H) vs ts
  | _, _, _, .nil, e => by cases e; exact .nil
  | _, _, _, .cons r rs, e => by
    obtain ⟨t, us, e1, e2, e3⟩ := Hn.all_cons e
    subst e1
    exact .cons (isR_of rep r e2) (all_isR rep rs e3)
/-- two operands, then a pure operation -/
theorem op2_run {r : R2} {f : T → T → Ot} (hp : Pure2 X.K r f) (ma : Mn da) (mb : Mn db) (σ : L2.St) (H : Hp) (Q : VK) (h : RD X.K (relE X.K) xr Wx (dOp2 f da db) σ H Q) :
    tOp r (RD X.K (relO X.K) nox Wx da) (RD X.K (relO X.K) nox Wx db) σ H Q := by
  obtain ⟨W, ρ, rep, h⟩ := h
  refine rd_first ma rep h fun h1 ρ1 k1 v W1 H1 r1 rep1 st1 pn1 => ?_
  refine rd_next mb rep st1.noxx pn1 rep1 k1 fun h2 ρ2 ⟨t, i, u, j, p, q⟩ w W2 H2 r2 rep2 st12 st2 pn2 => ?_
  have r1' := relO_step (ρ2 := ρ2) r1 rep1 st12
  refine hp W2 H2 v w t u Q rep2.wd (isR_of rep2 r1' i) (isR_of rep2 r2 j) p fun v' H' rs => ?_
  obtain ⟨W', rl, rep', st'⟩ := rs.post rep2
  exact q v' W' H' rl rep' (st2.noxx.trans rep.wd st') pn2
theorem xe_op {op : Operator} {r : R2} {f : T → T → Ot} (ho : OpR X (binaryOp op) r) (hp : Pure2 X.K r f) (ha : XO X Wx a da) (hb : XO X Wx b db) : XE X Wx (.BinOp a op b pos) (dOp2 f da db) :=
  ⟨PE.imp (pe_op ho ha.pe hb.pe) fun σ H Q h => op2_run hp ha.mn hb.mn σ H Q h, mn_op2 ha.mn hb.mn⟩
theorem xe_cmp {op : CmpOp} {r : R2} {f : T → T → Ot} (ho : OpR X (compareOp op) r) (hp : Pure2 X.K r f) (ha : XO X Wx a da) (hb : XO X Wx b db) (hm : behindInMarks op b = false := by first | exact nomark _ | rfl) : XE X Wx (.Compare a [op] [b] pos) (dOp2 f da db) :=
  ⟨PE.imp (pe_cmpR ho ha.pe hb.pe hm) fun σ H Q h => op2_run hp ha.mn hb.mn σ H Q h, mn_op2 ha.mn hb.mn⟩
theorem xe_ix {r : R2} {f : T → T → Ot} (ho : IxR X r) (hp : Pure2 X.K r f) (ha : XO X Wx a da) (hb : XO X Wx b db) (hs : PlainIx b := by exact fun _ _ => rfl) : XE X Wx (.Subscript a b pos) (dOp2 f da db) :=
  ⟨PE.imp (pe_ix ho ha.pe hb.pe hs) fun σ H Q h => op2_run hp ha.mn hb.mn σ H Q h, mn_op2 ha.mn hb.mn⟩
theorem xe_un {op : UnaryOp} {r : V → Hp → VK → Prop} {f : T → Ot} (ho : UnR X (unaryOp op) r) (hp : Pure1 X.K r f) (ha : XO X Wx a da) : XE X Wx (.UnaryOp op a pos) (dOp1 f da) := by
  refine ⟨PE.imp (pe_un ho ha.pe) fun σ H Q ⟨W, ρ, rep, h⟩ => ?_, mn_op1 ha.mn⟩
  refine rd_first ha.mn rep h fun h1 ρ1 ⟨t, i, p, q⟩ v W1 H1 r1 rep1 st1 pn1 => ?_
  refine hp W1 H1 v t Q rep1.wd (isR_of rep1 r1 i) p fun v' H' rs => ?_
  obtain ⟨W', rl, rep', st'⟩ := rs.post rep1
  exact q v' W' H' rl rep' (st1.noxx.trans rep.wd st') pn1
def dNil : Dn (List Hn) := fun ρ Q => Q.ok [] ρ
def dCons (a : Dn Hn) (b : Dn (List Hn)) : Dn (List Hn) := fun ρ Q => a ρ ⟨fun h ρ1 => b ρ1 ⟨fun hs ρ2 => Q.ok (h :: hs) ρ2, Q.ex⟩, Q.ex⟩
theorem mn_cons {a : Dn Hn} {b : Dn (List Hn)} (ma : Mn a) (mb : Mn b) : Mn (dCons a b) := fun ρ Q Q' h k e => ma _ _ _ h (fun h1 ρ1 h => mb _ _ _ h (fun h2 ρ2 q => k _ _ q) e) e
theorem xa_nil : XA X Wx [] dNil := ⟨PA.imp pa_nil fun σ H Q ⟨W, ρ, rep, h⟩ => h [] W H .nil rep (Step.refl _ _ _).toNox (Pn.refl _), fun ρ Q Q' h k _ => k _ _ h⟩
theorem xa_cons (ha : XO X Wx e d) (hr : XA X Wx es ds) (hs : starEach (e :: es) X.env = (false, eval e X.env) :: starEach es X.env := by rfl) : XA X Wx (e :: es) (dCons d ds) := by
  refine ⟨PA.imp (pa_cons ha.pe hr.pa hs) fun σ H Q ⟨W, ρ, rep, h⟩ => ?_, mn_cons ha.mn hr.mn⟩
  refine rd_first ha.mn rep h fun h1 ρ1 k1 v W1 H1 r1 rep1 st1 pn1 => ?_
  refine rd_next hr.mn rep st1.noxx pn1 rep1 k1 fun h2 ρ2 q w W2 H2 r2 rep2 st12 st2 pn2 => ?_
  exact q (v :: w) W2 H2 (.cons (relO_step r1 rep1 st12) r2) rep2 (st2.noxx.toNox) pn2
theorem opN_run {r : List V → Hp → VK → Prop} {f : List T → Ot} (hp : PureN X.K r f) (ma : Mn ds) (σ : L2.St) (H : Hp) (Q : VK) (h : RD X.K (relE X.K) xr Wx (dOpN f ds) σ H Q) : RD X.K (relOs X.K) nox Wx ds σ H fun vs H1 => r vs H1 Q := by
  obtain ⟨W, ρ, rep, h⟩ := h
  refine rd_first ma rep h fun h1 ρ1 ⟨t, i, p, q⟩ v W1 H1 r1 rep1 st1 pn1 => ?_
  refine hp W1 H1 v t Q rep1.wd (all_isR rep1 r1 i) p fun v' H' rs => ?_
  obtain ⟨W', rl, rep', st'⟩ := rs.post rep1
  exact q v' W' H' rl rep' (st1.noxx.trans rep.wd st') pn1
variable {x : Str} {p : Pos} {id Ty : String}
theorem xe_callB {r : List V → Hp → VK → Prop} {f : List T → Ot} (hc : CallR X (.builtin id) r) (hp : PureN X.K r f) (hg : Gl X x) (hm : X.mg x = none) (hv : bootBuiltins x = some (.builtin id)) (ha : XA X Wx (e :: es) ds) (hn : x ≠ "__name__" := by decide) (hd : (x == ("__debug__" : Str)) = false := by decide)
    (hst : starEach (e :: es) X.env = (false, eval e X.env) :: starEach es X.env := by rfl) (hno : (backTo pos (starEach es X.env)).any (·.1) = false := by rfl) : XE X Wx (.Call (.Name x p) (e :: es) [] pos) (dOpN f ds) :=
  ⟨PE.imp (pe_callB hc hg hm hv ha.pa hn hd hst hno) fun σ H Q h => opN_run hp ha.mn σ H Q h, mn_opN ha.mn⟩
theorem xe_callTy {r : List V → Hp → VK → Prop} {f : List T → Ot} (hc : CallR X (.type Ty) r) (hp : PureN X.K r f) (hg : Gl X x) (hm : X.mg x = none) (hv : bootBuiltins x = some (.type Ty)) (ha : XA X Wx (e :: es) ds) (hn : x ≠ "__name__" := by decide) (hd : (x == ("__debug__" : Str)) = false := by decide)
    (hst : starEach (e :: es) X.env = (false, eval e X.env) :: starEach es X.env := by rfl) (hno : (backTo pos (starEach es X.env)).any (·.1) = false := by rfl) : XE X Wx (.Call (.Name x p) (e :: es) [] pos) (dOpN f ds) :=
  ⟨PE.imp (pe_callTy hc hg hm hv ha.pa hn hd hst hno) fun σ H Q h => opN_run hp ha.mn σ H Q h, mn_opN ha.mn⟩
end
end O
namespace O
open PySem PySem.Spec PyProof.Rows L2
/-- by the answer -/
def ifB (c : Bool) (A B : Prop) : Prop := (c = true → A) ∧ (c = false → B)
theorem ifB_t {A B : Prop} : ifB true A B ↔ A := ⟨fun h => h.1 rfl, fun h => ⟨fun _ => h, fun z => Bool.noConfusion z⟩⟩
theorem ifB_f {A B : Prop} : ifB false A B ↔ B := ⟨fun h => h.2 rfl, fun h => ⟨fun z => Bool.noConfusion z, fun _ => h⟩⟩
theorem ifB_mono {c : Bool} {A B A' B' : Prop} (h : ifB c A B) (a : A → A') (b : B → B') : ifB c A' B' := ⟨fun z => a (h.1 z), fun z => b (h.2 z)⟩
def dBv (d : Dn Rv) : Dn Bool := fun ρ Q => d ρ ⟨fun r ρ' => ∃ b, r = (false, .bl b) ∧ Q.ok b ρ', Q.ex⟩
theorem mn_bv {d : Dn Rv} (m : Mn d) : Mn (dBv d) := fun ρ Q Q' h k e => m ρ _ _ h (fun r ρ' ⟨b, i, q⟩ => ⟨b, i, k _ _ q⟩) e
def dAndT (a b : Dn Bool) : Dn Bool := fun ρ Q => a ρ ⟨fun c ρ1 => ifB c (b ρ1 Q) (Q.ok false ρ1), Q.ex⟩
def dOrT (a b : Dn Bool) : Dn Bool := fun ρ Q => a ρ ⟨fun c ρ1 => ifB c (Q.ok true ρ1) (b ρ1 Q), Q.ex⟩
def dNotT (a : Dn Bool) : Dn Bool := fun ρ Q => a ρ ⟨fun c ρ1 => Q.ok (!c) ρ1, Q.ex⟩
theorem mn_andT {a b : Dn Bool} (ma : Mn a) (mb : Mn b) : Mn (dAndT a b) := fun ρ Q Q' h k e => ma _ _ _ h (fun c ρ1 q => ifB_mono q (fun z => mb _ _ _ z k e) (k _ _)) e
theorem mn_orT {a b : Dn Bool} (ma : Mn a) (mb : Mn b) : Mn (dOrT a b) := fun ρ Q Q' h k e => ma _ _ _ h (fun c ρ1 q => ifB_mono q (k _ _) fun z => mb _ _ _ z k e) e
theorem mn_notT {a : Dn Bool} (ma : Mn a) : Mn (dNotT a) := fun ρ Q Q' h k e => ma _ _ _ h (fun c ρ1 q => k _ _ q) e
/-- values -/
def dAndV (a b : Dn Rv) : Dn Rv := fun ρ Q => a ρ ⟨fun r ρ1 => ∃ c, r = (false, .bl c) ∧ ifB c (b ρ1 Q) (Q.ok (false, .bl false) ρ1), Q.ex⟩
def dOrV (a b : Dn Rv) : Dn Rv := fun ρ Q => a ρ ⟨fun r ρ1 => ∃ c, r = (false, .bl c) ∧ ifB c (Q.ok (false, .bl true) ρ1) (b ρ1 Q), Q.ex⟩
def dNotV (a : Dn Rv) : Dn Rv := fun ρ Q => a ρ ⟨fun r ρ1 => ∃ c, r = (false, .bl c) ∧ Q.ok (false, .bl (!c)) ρ1, Q.ex⟩
theorem mn_andV {a b : Dn Rv} (ma : Mn a) (mb : Mn b) : Mn (dAndV a b) := fun ρ Q Q' h k e => ma _ _ _ h (fun c ρ1 ⟨d, i, q⟩ => ⟨d, i, ifB_mono q (fun z => mb _ _ _ z k e) (k _ _)⟩) e
theorem mn_orV {a b : Dn Rv} (ma : Mn a) (mb : Mn b) : Mn (dOrV a b) := fun ρ Q Q' h k e => ma _ _ _ h (fun c ρ1 ⟨d, i, q⟩ => ⟨d, i, ifB_mono q (k _ _) fun z => mb _ _ _ z k e⟩) e
def dIf {α : Type} (t : Dn Bool) (a b : Dn α) : Dn α := fun ρ Q => t ρ ⟨fun c ρ1 => ifB c (a ρ1 Q) (b ρ1 Q), Q.ex⟩
/-- a value of any kind, as a test -/
def T.truth : T → Bool → Prop
  | .non, k => k = false
  | .bl b, k => k = b
  | .int i, k => k = (i != 0)
  | .str l, k => l.length ≤ sizeLine ∧ k = !l.isEmpty
  | .lst ts, k => k = !ts.isEmpty
  | .tup ts, k => k = !ts.isEmpty
  | .dK ts, k => k = !ts.isEmpty
  | _, _ => False
def dTru (a : Dn Hn) : Dn Bool := fun ρ Q => a ρ ⟨fun h ρ1 => ∃ t, h.is ρ1 t ∧ ∃ k, t.truth k ∧ Q.ok k ρ1, Q.ex⟩
/-- and, or within a test -/
structure XW (X : Cx) (Wx : WX) (e : Expr) (d : Dn Bool) : Prop where
  pw : PW X e (RD X.K relB nox Wx d)
  mn : Mn d
section
variable {X : Cx} {Wx : WX} {e a b c : Expr} {rest : List Expr} {d da db : Dn Rv} {ta tb : Dn Bool} {pos : Pos}
theorem tB_run {K : PySem.W.Frag} (m : Mn d) (σ : L2.St) (H : Hp) (Q : Bool → Hp → Prop) (h : RD K relB nox Wx (dBv d) σ H Q) : tB (RD K (relE K) xr Wx d) σ H Q := by
  obtain ⟨W, ρ, rep, h⟩ := h
  refine rd_first m rep h fun r ρ1 ⟨b, i, q⟩ v W1 H1 rl rep1 st pn => ?_
  subst i
  rw [xr_sh] at st
  unfold relE at rl
  rw [if_neg (fun z : false = true => Bool.noConfusion z)] at rl
  cases rl
  exact ⟨b, rfl, q b W1 H1 rfl rep1 st.toNox pn⟩
theorem xt_val (h : XE X Wx e d) (he : ∀ whole, isTrue e X.env whole = (do let v ← whole; standAt e.pos; holding [v] (truthy v)) := by intro _; rfl) : XT X Wx e (dBv d) :=
  ⟨PT.imp (pt_val h.pe he) fun σ H Q q => tB_run h.mn σ H Q q, mn_bv h.mn⟩
theorem xt_cmp {oa ob : Dn Hn} {op : CmpOp} {r : R2} {f : T → T → Ot} (ho : OpR X (compareOp op) r) (hp : Pure2 X.K r f) (ha : XO X Wx a oa) (hb : XO X Wx b ob) (hm : behindInMarks op b = false := by first | exact nomark _ | rfl) : XT X Wx (.Compare a [op] [b] pos) (dBv (dOp2 f oa ob)) :=
  have z := xe_cmp (pos := pos) ho hp ha hb hm
  ⟨PT.imp (pt_cmpR ho ha.pe hb.pe hm) fun σ H Q q => by
    have q2 := tB_run z.mn σ H Q q
    exact op2_run hp ha.mn hb.mn σ H _ q2, mn_bv z.mn⟩
theorem xt_not (h : XT X Wx e ta) : XT X Wx (.UnaryOp .Not e pos) (dNotT ta) := by
  refine ⟨PT.imp (pt_not h.pt) fun σ H Q ⟨W, ρ, rep, q⟩ => ?_, mn_notT h.mn⟩
  refine rd_first h.mn rep q fun c ρ1 q v W1 H1 rl rep1 st pn => ?_
  have rl : v = c := rl
  subst rl
  exact q (!v) W1 H1 rfl rep1 st.noxx.toNox pn
theorem XW.t (h : XW X Wx e ta) : XT X Wx e ta := ⟨h.pw.pt, h.mn⟩
theorem xw_and1 (h : XT X Wx a ta) : XW X Wx (.BoolOp .And [a] pos) ta := ⟨pw_and1 h.pt, h.mn⟩
theorem xw_or1 (h : XT X Wx a ta) : XW X Wx (.BoolOp .Or [a] pos) ta := ⟨pw_or1 h.pt, h.mn⟩
theorem xw_and (h : XT X Wx a ta) (h2 : XW X Wx (.BoolOp .And (b :: rest) pos) tb) : XW X Wx (.BoolOp .And (a :: b :: rest) pos) (dAndT ta tb) := by
  refine ⟨PW.imp (pw_and h.pt h2.pw) fun σ H Q ⟨W, ρ, rep, q⟩ => ?_, mn_andT h.mn h2.mn⟩
  refine rd_first h.mn rep q fun c ρ1 q v W1 H1 rl rep1 st pn => ?_
  have rl : v = c := rl
  subst rl
  by_cases k : v = true
  · rw [if_pos k]
    exact rd_next (rel := relB) (ext := nox) (Q := Q) h2.mn rep st.noxx pn rep1 (q.1 k) fun c ρ2 q w W2 H2 r2 rep2 st12 st2 pn2 => q w W2 H2 r2 rep2 st2.noxx.toNox pn2
  · rw [if_neg k]
    exact q.2 (by cases v <;> first | rfl | exact absurd rfl k) false W1 H1 rfl rep1 st.noxx.toNox pn
theorem xw_or (h : XT X Wx a ta) (h2 : XW X Wx (.BoolOp .Or (b :: rest) pos) tb) : XW X Wx (.BoolOp .Or (a :: b :: rest) pos) (dOrT ta tb) := by
  refine ⟨PW.imp (pw_or h.pt h2.pw) fun σ H Q ⟨W, ρ, rep, q⟩ => ?_, mn_orT h.mn h2.mn⟩
  refine rd_first h.mn rep q fun c ρ1 q v W1 H1 rl rep1 st pn => ?_
  have rl : v = c := rl
  subst rl
  by_cases k : v = true
  · rw [if_pos k]
    exact q.1 k true W1 H1 rfl rep1 st.noxx.toNox pn
  · rw [if_neg k]
    exact rd_next (rel := relB) (ext := nox) (Q := Q) h2.mn rep st.noxx pn rep1 (q.2 (by cases v <;> first | rfl | exact absurd rfl k)) fun c ρ2 q w W2 H2 r2 rep2 st12 st2 pn2 => q w W2 H2 r2 rep2 st2.noxx.toNox pn2
theorem relE_bl {K : PySem.W.Frag} {σ : L2.St} {ρ : Rho} {W : Ad} {H : Hp} {v : V} {c : Bool} (h : relE K σ ρ W H v (false, .bl c)) : v = .bl c := by
  unfold relE at h
  rw [if_neg (fun z : false = true => Bool.noConfusion z)] at h
  cases h
  rfl
theorem xe_one {op : BoolOp} (h : XE X Wx a d) : XE X Wx (.BoolOp op [a] pos) d := ⟨pe_one h.pe, h.mn⟩
theorem xe_and (h : XE X Wx a da) (h2 : XE X Wx (.BoolOp .And (b :: rest) pos) db) : XE X Wx (.BoolOp .And (a :: b :: rest) pos) (dAndV da db) := by
  refine ⟨PE.imp (pe_and h.pe h2.pe) fun σ H Q ⟨W, ρ, rep, q⟩ => ?_, mn_andV h.mn h2.mn⟩
  refine rd_first h.mn rep q fun r ρ1 ⟨c, i, q⟩ v W1 H1 rl rep1 st pn => ?_
  subst i
  rw [xr_sh] at st
  refine ⟨c, relE_bl rl, ?_⟩
  by_cases k : c = true
  · rw [if_pos k]
    exact rd_next (rel := relE X.K) (ext := xr) (Q := Q) h2.mn rep st pn rep1 (q.1 k) fun c ρ2 q w W2 H2 r2 rep2 st12 st2 pn2 => q w W2 H2 r2 rep2 st2 pn2
  · rw [if_neg k]
    exact q.2 (by cases c <;> first | rfl | exact absurd rfl k) (.bl false) W1 H1 (relE_sh (.bl false)) rep1 (by rw [xr_sh]; exact st) pn
theorem xe_or (h : XE X Wx a da) (h2 : XE X Wx (.BoolOp .Or (b :: rest) pos) db) : XE X Wx (.BoolOp .Or (a :: b :: rest) pos) (dOrV da db) := by
  refine ⟨PE.imp (pe_or h.pe h2.pe) fun σ H Q ⟨W, ρ, rep, q⟩ => ?_, mn_orV h.mn h2.mn⟩
  refine rd_first h.mn rep q fun r ρ1 ⟨c, i, q⟩ v W1 H1 rl rep1 st pn => ?_
  subst i
  rw [xr_sh] at st
  refine ⟨c, relE_bl rl, ?_⟩
  by_cases k : c = true
  · rw [if_pos k]
    exact q.1 k (.bl true) W1 H1 (relE_sh (.bl true)) rep1 (by rw [xr_sh]; exact st) pn
  · rw [if_neg k]
    exact rd_next (rel := relE X.K) (ext := xr) (Q := Q) h2.mn rep st pn rep1 (q.2 (by cases c <;> first | rfl | exact absurd rfl k)) fun c ρ2 q w W2 H2 r2 rep2 st12 st2 pn2 => q w W2 H2 r2 rep2 st2 pn2
end
structure PoS where
  nx : Rho → Prop
  rt : Rv → Rho → Prop
  bk : Rho → Prop
  ct : Rho → Prop
  ex : Addr → List (Str × T) → Rho → Prop
abbrev Ds := Rho → PoS → Prop
def MnS (d : Ds) : Prop := ∀ ρ Q Q', d ρ Q → (∀ ρ', Q.nx ρ' → Q'.nx ρ') → (∀ r ρ', Q.rt r ρ' → Q'.rt r ρ') → (∀ ρ', Q.bk ρ' → Q'.bk ρ') → (∀ ρ', Q.ct ρ' → Q'.ct ρ') → (∀ c f ρ', Q.ex c f ρ' → Q'.ex c f ρ') → d ρ Q'
/-- the caller's parameters: pinned, and their slots as they were -/
def IoK (σ : L2.St) (ρ : Rho) (σ' : L2.St) (ρ' : Rho) : Prop := ∀ i, (sl_ ρ i).pin = true → (sl_ ρ' i).pin = true ∧ at_ σ' i = at_ σ i
theorem IoK.refl (σ : L2.St) (ρ : Rho) : IoK σ ρ σ ρ := fun _ h => ⟨h, rfl⟩
theorem IoK.of {σ : L2.St} {ρ ρ' : Rho} (h : Pn ρ ρ') : IoK σ ρ σ ρ' := fun i z => ⟨h i z, rfl⟩
theorem IoK.trans {σ σ1 σ2 : L2.St} {ρ ρ1 ρ2 : Rho} (a : IoK σ ρ σ1 ρ1) (b : IoK σ1 ρ1 σ2 ρ2) : IoK σ ρ σ2 ρ2 := fun i h => ⟨(b i (a i h).1).1, (b i (a i h).1).2.trans (a i h).2⟩
def spost (K : PySem.W.Frag) (X : WX) (σ : L2.St) (ρ : Rho) (W : Ad) (H : Hp) (D : Ends) : PoS where
  nx := fun ρ' => ∀ σ' W' H', Rep K W' H' σ' ρ' → Step (Rt σ ρ) W H (Rt σ' ρ') W' H' → IoK σ ρ σ' ρ' → D.nx σ' H'
  rt := fun r ρ' => ∀ v σ' W' H', relE K σ' ρ' W' H' v r → Rep K W' H' σ' ρ' → Step (Rt σ ρ) W H (rooted (Rt σ' ρ') (xr v r)) W' H' → IoK σ ρ σ' ρ' → D.rt v H'
  bk := fun ρ' => ∀ σ' W' H', Rep K W' H' σ' ρ' → Step (Rt σ ρ) W H (Rt σ' ρ') W' H' → IoK σ ρ σ' ρ' → D.bk σ' H'
  ct := fun ρ' => ∀ σ' W' H', Rep K W' H' σ' ρ' → Step (Rt σ ρ) W H (Rt σ' ρ') W' H' → IoK σ ρ σ' ρ' → D.ct σ' H'
  ex := fun C fs ρ' => ∀ d σ' W' H', ExD K W' H' d fs → Rep K W' H' σ' ρ' → Step (Rt σ ρ) W H (Rt σ' ρ') W' H' → IoK σ ρ σ' ρ' → X (.ref C) d σ' H'
def RS (K : PySem.W.Frag) (X : WX) (d : Ds) : TS := fun D σ H => ∃ W ρ, Rep K W H σ ρ ∧ d ρ (spost K X σ ρ W H D)
structure XS (X : Cx) (Wx : WX) (st : Stmt) (d : Ds) : Prop where
  ps : PS X st (RS X.K Wx d)
  mn : MnS d
structure XSs (X : Cx) (Wx : WX) (st : List Stmt) (d : Ds) : Prop where
  pss : PSs X st (RS X.K Wx d)
  mn : MnS d
theorem PS.imp {X : Cx} {st : Stmt} {t t' : TS} (h : PS X st t) (i : ∀ D σ H, t' D σ H → t D σ H) : PS X st t' := ⟨fun pins s σ H D I q => h.run pins s σ H D I (i D σ H q)⟩
theorem PSs.imp {X : Cx} {st : List Stmt} {t t' : TS} (h : PSs X st t) (i : ∀ D σ H, t' D σ H → t D σ H) : PSs X st t' := ⟨fun pins s σ H D I q => h.run pins s σ H D I (i D σ H q)⟩
section
variable {K : PySem.W.Frag} {Wx : WX} {σ σ1 : L2.St} {ρ ρ1 : Rho} {W W1 : Ad} {H H1 : Hp} {D D1 : Ends}
/-- a statement runs behind what was done: its wish Q is taken up -/
theorem rs_next {d : Ds} {Q : PoS} (m : MnS d) (rep : Rep K W H σ ρ) (st : Step (Rt σ ρ) W H (Rt σ1 ρ1) W1 H1) (io : IoK σ ρ σ1 ρ1) (rep1 : Rep K W1 H1 σ1 ρ1) (h : d ρ1 Q)
    (n : ∀ ρ2, Q.nx ρ2 → ∀ σ' W' H', Rep K W' H' σ' ρ2 → Step (Rt σ1 ρ1) W1 H1 (Rt σ' ρ2) W' H' → Step (Rt σ ρ) W H (Rt σ' ρ2) W' H' → IoK σ ρ σ' ρ2 → D1.nx σ' H')
    (r : ∀ r ρ2, Q.rt r ρ2 → (spost K Wx σ ρ W H D1).rt r ρ2) (b : ∀ ρ2, Q.bk ρ2 → (spost K Wx σ ρ W H D1).bk ρ2) (c : ∀ ρ2, Q.ct ρ2 → (spost K Wx σ ρ W H D1).ct ρ2)
    (e : ∀ C fs ρ2, Q.ex C fs ρ2 → (spost K Wx σ ρ W H D1).ex C fs ρ2) : RS K Wx d D1 σ1 H1 :=
  ⟨W1, ρ1, rep1, m ρ1 _ _ h (fun ρ2 z σ' W' H' rp s i => n ρ2 z σ' W' H' rp s (st.trans rep.wd s) (io.trans i)) (fun x ρ2 z v σ' W' H' rl rp s i => r x ρ2 z v σ' W' H' rl rp (st.trans rep.wd s) (io.trans i))
    (fun ρ2 z σ' W' H' rp s i => b ρ2 z σ' W' H' rp (st.trans rep.wd s) (io.trans i)) (fun ρ2 z σ' W' H' rp s i => c ρ2 z σ' W' H' rp (st.trans rep.wd s) (io.trans i))
    fun C fs ρ2 z x σ' W' H' ed rp s i => e C fs ρ2 z x σ' W' H' ed rp (st.trans rep.wd s) (io.trans i)⟩
/-- an expression within a statement -/
theorem rd_stmt {α β : Type} {rel : L2.St → Rho → Ad → Hp → β → α → Prop} {ext : β → α → Ad} {Q1 : β → Hp → Prop} {d : Dn α} {k : α → Rho → Prop} (m : Mn d) (rep : Rep K W H σ ρ) (h : d ρ ⟨k, (spost K Wx σ ρ W H D).ex⟩)
    (hk : ∀ y ρ2, k y ρ2 → ∀ v W2 H2, rel σ ρ2 W2 H2 v y → Rep K W2 H2 σ ρ2 → Step (Rt σ ρ) W H (rooted (Rt σ ρ2) (ext v y)) W2 H2 → Pn ρ ρ2 → Q1 v H2) : RD K rel ext Wx d σ H Q1 :=
  ⟨W, ρ, rep, m ρ _ _ h (fun y ρ2 z v W2 H2 r rp s p2 => hk y ρ2 z v W2 H2 r rp s p2) fun C fs ρ' z d W' H' e rp s p2 => z d σ W' H' e rp s (.of p2)⟩
end
def sSeq (a b : Ds) : Ds := fun ρ Q => a ρ { Q with nx := fun ρ1 => b ρ1 Q }
theorem mn_seq {a b : Ds} (ma : MnS a) (mb : MnS b) : MnS (sSeq a b) := fun ρ Q Q' h n r bk c e => ma _ _ _ h (fun ρ1 q => mb _ _ _ q n r bk c e) r bk c e
def sNext : Ds := fun ρ Q => Q.nx ρ
def sBrk : Ds := fun ρ Q => Q.bk ρ
def sCnt : Ds := fun ρ Q => Q.ct ρ
def sDrop (d : Dn Rv) : Ds := fun ρ Q => d ρ ⟨fun _ ρ1 => Q.nx ρ1, Q.ex⟩
def sIf (t : Dn Bool) (a b : Ds) : Ds := fun ρ Q => t ρ ⟨fun c ρ1 => ifB c (a ρ1 Q) (b ρ1 Q), Q.ex⟩
def sRet (d : Dn Rv) : Ds := fun ρ Q => d ρ ⟨fun r ρ1 => Q.rt r ρ1, Q.ex⟩
def sRetN : Ds := fun ρ Q => Q.rt (false, .non) ρ
theorem mn_drop {d : Dn Rv} (m : Mn d) : MnS (sDrop d) := fun ρ Q Q' h n r bk c e => m _ _ _ h (fun _ ρ1 q => n _ q) e
theorem mn_sif {t : Dn Bool} {a b : Ds} (mt : Mn t) (ma : MnS a) (mb : MnS b) : MnS (sIf t a b) := fun ρ Q Q' h n r bk c e => mt _ _ _ h (fun k ρ1 q => ifB_mono q (fun z => ma _ _ _ z n r bk c e) fun z => mb _ _ _ z n r bk c e) e
theorem mn_ret {d : Dn Rv} (m : Mn d) : MnS (sRet d) := fun ρ Q Q' h n r bk c e => m _ _ _ h (fun _ ρ1 q => r _ _ q) e
section
variable {X : Cx} {Wx : WX} {st : Stmt} {rest body orelse : List Stmt} {e c : Expr} {d : Dn Rv} {dt : Dn Bool} {a b : Ds} {pos : Pos}
theorem xs_nil : XSs X Wx [] sNext := ⟨PSs.imp pss_nil fun D σ H ⟨W, ρ, rep, h⟩ => h σ W H rep (Step.refl _ _ _) (IoK.refl _ _), fun ρ Q Q' h n _ _ _ _ => n _ h⟩
theorem xs_one (h : XS X Wx st a) : XSs X Wx [st] a := ⟨pss_one h.ps, h.mn⟩
theorem xs_cons (h : XS X Wx st a) (hr : XSs X Wx rest b) : XSs X Wx (st :: rest) (sSeq a b) := by
  refine ⟨PSs.imp (pss_cons h.ps hr.pss) fun D σ H ⟨W, ρ, rep, q⟩ => ?_, mn_seq h.mn hr.mn⟩
  refine rs_next h.mn rep (Step.refl _ _ _) (IoK.refl _ _) rep q (fun ρ2 z σ' W' H' rp s s2 io => ?_) (fun _ _ z => z) (fun _ z => z) (fun _ z => z) (fun _ _ _ z => z)
  exact rs_next hr.mn rep s2 io rp z (fun ρ2 z σ' W' H' rp _ s io => z σ' W' H' rp s io) (fun _ _ z => z) (fun _ z => z) (fun _ z => z) (fun _ _ _ z => z)
theorem xs_expr (h : XE X Wx e d) (hs : swapsWith e none pos.line X.env = pure false := by rfl) : XS X Wx (.Expr e pos) (sDrop d) := by
  refine ⟨PS.imp (ps_expr h.pe hs) fun D σ H ⟨W, ρ, rep, q⟩ => ?_, mn_drop h.mn⟩
  refine rd_stmt h.mn rep q fun r ρ1 q v W1 H1 rl rep1 st pn => ?_
  exact q σ W1 H1 rep1 (st.subP fun p z => .inl z) (.of pn)
theorem xs_ret (h : XE X Wx e d) : XS X Wx (.Return (some e) pos) (sRet d) := by
  refine ⟨PS.imp (ps_ret h.pe) fun D σ H ⟨W, ρ, rep, q⟩ => ?_, mn_ret h.mn⟩
  exact rd_stmt h.mn rep q fun r ρ1 q v W1 H1 rl rep1 st pn => q v σ W1 H1 rl rep1 st (.of pn)
theorem xs_if (ht : XT X Wx c dt) (ha : XSs X Wx body a) (hb : XSs X Wx orelse b) : XS X Wx (.If c body orelse pos) (sIf dt a b) := by
  refine ⟨PS.imp (ps_if ht.pt ha.pss hb.pss) fun D σ H ⟨W, ρ, rep, q⟩ => ?_, mn_sif ht.mn ha.mn hb.mn⟩
  refine rd_stmt ht.mn rep q fun r ρ1 q v W1 H1 rl rep1 st pn => ?_
  have rl : v = r := rl
  subst rl
  by_cases k : v = true
  · rw [if_pos k]
    exact rs_next ha.mn rep st.noxx (.of pn) rep1 (q.1 k) (fun ρ2 z σ' W' H' rp _ s io => z σ' W' H' rp s io) (fun _ _ z => z) (fun _ z => z) (fun _ z => z) (fun _ _ _ z => z)
  · rw [if_neg k]
    exact rs_next hb.mn rep st.noxx (.of pn) rep1 (q.2 (by cases v <;> first | rfl | exact absurd rfl k)) (fun ρ2 z σ' W' H' rp _ s io => z σ' W' H' rp s io) (fun _ _ z => z) (fun _ z => z) (fun _ z => z) (fun _ _ _ z => z)
end
end O
namespace O
open PySem PySem.Spec PyProof.Rows L2
def Sl.of (r : Rv) : Sl := if r.1 = true then .ow r.2 else .sh r.2
section
variable {K : PySem.W.Frag} {Wx : WX} {σ σ1 : L2.St} {ρ ρ1 : Rho} {W W1 : Ad} {H H1 : Hp} {v : V} {r : Rv} {i : Nat}
theorem Sl.of_pin (r : Rv) : (Sl.of r).pin = false := by unfold Sl.of; split <;> rfl
theorem own_of {r : Rv} (h : (Sl.of r).own) : r.1 = true := by
  unfold Sl.of at h
  by_cases c : r.1 = true
  · exact c
  · rw [if_neg c] at h; exact h.elim
theorem repS_of (h : relE K σ ρ W H v r) : RepS K W H (some v) (Sl.of r) := by
  unfold relE at h
  unfold Sl.of
  by_cases c : r.1 = true
  · rw [if_pos c] at h ⊢
    obtain ⟨p, e, hw, ho, _⟩ := h
    exact ⟨p, by rw [e], hw, ho⟩
  · rw [if_neg c] at h ⊢
    exact ⟨v, rfl, h⟩
/-- a slot takes a value -/
theorem Rep.put (rep : Rep K W H σ ρ) (h : relE K σ ρ W H v r) (i : Nat) : Rep K W H (σ.set i (some v)) (ρ.set i (Sl.of r)) ∧ ∀ p, Rt (σ.set i (some v)) (ρ.set i (Sl.of r)) p → rooted (Rt σ ρ) (xr v r) p := by
  have hl := rep.len
  have own1 : ∀ j p, (sl_ (ρ.set i (Sl.of r)) j).own → at_ (σ.set i (some v)) j = some (.ref p) → (i = j ∧ r.1 = true ∧ v = .ref p) ∨ (¬ (i = j ∧ i < ρ.length) ∧ (sl_ ρ j).own ∧ at_ σ j = some (.ref p)) := fun j p w e => by
    rw [sl_set] at w
    rw [at_set, ← hl] at e
    by_cases c : i = j ∧ i < ρ.length
    · rw [if_pos c] at w e
      exact .inl ⟨c.1, own_of w, by cases e; rfl⟩
    · rw [if_neg c] at w e
      exact .inr ⟨c, w, e⟩
  have new : ∀ p, r.1 = true → v = .ref p → ¬ Rt σ ρ p := fun p c e => by
    unfold relE at h
    rw [if_pos c] at h
    obtain ⟨q, e', _, _, n⟩ := h
    rw [e'] at e; cases e; exact n
  refine ⟨⟨by rw [List.length_set, List.length_set]; exact hl, fun j => ?_, fun a b p wa wb ea eb => ?_, rep.wd⟩, fun p ⟨j, w, e⟩ => ?_⟩
  · rw [sl_set, at_set, ← hl]
    by_cases c : i = j ∧ i < ρ.length
    · rw [if_pos c, if_pos c]; exact repS_of h
    · rw [if_neg c, if_neg c]; exact rep.sl j
  · rcases own1 a p wa ea with ⟨x1, x2, x3⟩ | ⟨x1, x2, x3⟩ <;> rcases own1 b p wb eb with ⟨y1, y2, y3⟩ | ⟨y1, y2, y3⟩
    · exact x1.symm.trans y1
    · exact (new p x2 x3 ⟨b, y2, y3⟩).elim
    · exact (new p y2 y3 ⟨a, x2, x3⟩).elim
    · exact rep.inj a b p x2 y2 x3 y3
  · rcases own1 j p w e with ⟨_, x2, x3⟩ | ⟨_, x2, x3⟩
    · exact .inr ⟨x2, x3⟩
    · exact .inl ⟨j, x2, x3⟩
theorem ioK_put (h : (sl_ ρ i).pin = false) {s : Sl} {o : Option V} : IoK σ ρ (σ.set i o) (ρ.set i s) := fun j z => by
  have ne : i ≠ j := fun e => by subst e; rw [h] at z; cases z
  rw [sl_set, at_set, if_neg fun c => ne c.1, if_neg fun c => ne c.1]
  exact ⟨z, rfl⟩
end
def sSet (i : Nat) (d : Dn Rv) : Ds := fun ρ Q => d ρ ⟨fun r ρ1 => (sl_ ρ1 i).pin = false ∧ Q.nx (ρ1.set i (Sl.of r)), Q.ex⟩
theorem mn_set {i : Nat} {d : Dn Rv} (m : Mn d) : MnS (sSet i d) := fun ρ Q Q' h n r bk c e => m _ _ _ h (fun _ ρ1 q => ⟨q.1, n _ q.2⟩) e
section
variable {X : Cx} {Wx : WX} {e : Expr} {d : Dn Rv} {pos pos' : Pos}
theorem xs_set (i : Nat) {x : Str} (h : XE X Wx e d) (hN : X.N.Nodup) (hi : X.N[i]? = some x := by rfl) (hx : Loc X.env.scope x := by first | exact Or.inl rfl | exact Or.inr rfl)
    (hs : swapsWith e (some (.Name x pos')) pos.line X.env = pure false := by rfl) (hf : X.fn x = true ∨ X.env.scope.names.lookup x = some .local := by first | exact .inl rfl | exact .inr rfl) :
    XS X Wx (.Assign [.Name x pos'] e pos) (sSet i d) := by
  refine ⟨PS.imp (ps_set hN hi hx h.pe hs hf) fun D σ H ⟨W, ρ, rep, q⟩ => ?_, mn_set h.mn⟩
  refine rd_stmt h.mn rep q fun r ρ1 ⟨pf, q⟩ v W1 H1 rl rep1 st pn => ?_
  obtain ⟨rp, sub⟩ := rep1.put rl i
  exact q _ W1 H1 rp (st.subP sub) ((IoK.of pn).trans (ioK_put pf))
end
abbrev Dg := T → Rho → Po Unit → Prop
abbrev Dgs := List T → Rho → Po Unit → Prop
def MnG (g : Dg) : Prop := ∀ t ρ Q Q', g t ρ Q → (∀ x ρ', Q.ok x ρ' → Q'.ok x ρ') → (∀ c f ρ', Q.ex c f ρ' → Q'.ex c f ρ') → g t ρ Q'
def MnGs (g : Dgs) : Prop := ∀ t ρ Q Q', g t ρ Q → (∀ x ρ', Q.ok x ρ' → Q'.ok x ρ') → (∀ c f ρ', Q.ex c f ρ' → Q'.ex c f ρ') → g t ρ Q'
def gpost (K : PySem.W.Frag) (X : WX) (σ : L2.St) (ρ : Rho) (W : Ad) (H : Hp) (Q : L2.St → Hp → Prop) : Po Unit where
  ok := fun _ ρ' => ∀ σ' W' H', Rep K W' H' σ' ρ' → Step (Rt σ ρ) W H (Rt σ' ρ') W' H' → IoK σ ρ σ' ρ' → Q σ' H'
  ex := fun C fs ρ' => ∀ d σ' W' H', ExD K W' H' d fs → Rep K W' H' σ' ρ' → Step (Rt σ ρ) W H (Rt σ' ρ') W' H' → IoK σ ρ σ' ρ' → X (.ref C) d σ' H'
def RG (K : PySem.W.Frag) (X : WX) (g : Dg) : TG := fun v σ H Q => ∃ W ρ t, Rep K W H σ ρ ∧ Is K W H v t ∧ g t ρ (gpost K X σ ρ W H Q)
def RGs (K : PySem.W.Frag) (X : WX) (g : Dgs) : TGs := fun vs σ H Q => ∃ W ρ ts, Rep K W H σ ρ ∧ IsL K W H vs ts ∧ g ts ρ (gpost K X σ ρ W H Q)
structure XG (X : Cx) (Wx : WX) (e : Expr) (g : Dg) : Prop where
  pg : PG X e (RG X.K Wx g)
  mn : MnG g
structure XGs (X : Cx) (Wx : WX) (es : List Expr) (g : Dgs) : Prop where
  pgs : PGs X es (RGs X.K Wx g)
  mn : MnGs g
theorem PG.imp {X : Cx} {e : Expr} {t t' : TG} (h : PG X e t) (i : ∀ v σ H Q, t' v σ H Q → t v σ H Q) : PG X e t' := ⟨fun pins s σ H v u Q I r q => h.run pins s σ H v u Q I r (i v σ H Q q)⟩
theorem PGs.imp {X : Cx} {e : List Expr} {t t' : TGs} (h : PGs X e t) (i : ∀ v σ H Q, t' v σ H Q → t v σ H Q) : PGs X e t' := ⟨fun pins s σ H v u Q I r q => h.run pins s σ H v u Q I r (i v σ H Q q)⟩
def gNm (i : Nat) : Dg := fun t ρ Q => (sl_ ρ i).pin = false ∧ Q.ok () (ρ.set i (.sh t))
def gTp (n : Nat) (g : Dgs) : Dg := fun t ρ Q => ∃ ts, t = .tup ts ∧ ts.length = n ∧ g ts ρ Q
def gNi : Dgs := fun ts ρ Q => ts = [] ∧ Q.ok () ρ
def gCn (g : Dg) (gs : Dgs) : Dgs := fun ts ρ Q => ∃ t r, ts = t :: r ∧ g t ρ ⟨fun _ ρ1 => gs r ρ1 Q, Q.ex⟩
theorem mn_gNm (i : Nat) : MnG (gNm i) := fun t ρ Q Q' h k e => ⟨h.1, k _ _ h.2⟩
theorem mn_gTp {n : Nat} {g : Dgs} (m : MnGs g) : MnG (gTp n g) := fun t ρ Q Q' ⟨ts, i, l, h⟩ k e => ⟨ts, i, l, m _ _ _ _ h k e⟩
theorem mn_gNi : MnGs gNi := fun t ρ Q Q' h k e => ⟨h.1, k _ _ h.2⟩
theorem mn_gCn {g : Dg} {gs : Dgs} (m : MnG g) (ms : MnGs gs) : MnGs (gCn g gs) := fun t ρ Q Q' ⟨a, r, i, h⟩ k e => ⟨a, r, i, m _ _ _ _ h (fun _ _ z => ms _ _ _ _ z k e) e⟩
section
variable {X : Cx} {Wx : WX} {e : Expr} {es : List Expr} {g : Dg} {gs : Dgs} {pos : Pos}
theorem xg_name (i : Nat) {x : Str} (hN : X.N.Nodup) (hi : X.N[i]? = some x := by rfl) (hx : Loc X.env.scope x := by first | exact Or.inl rfl | exact Or.inr rfl) (hf : X.fn x = true ∨ X.env.scope.names.lookup x = some .local := by first | exact .inl rfl | exact .inr rfl) : XG X Wx (.Name x pos) (gNm i) := by
  refine ⟨PG.imp (pg_name hN hi hx hf) fun v σ H Q ⟨W, ρ, t, rep, is, pf, q⟩ => ?_, mn_gNm i⟩
  obtain ⟨rp, sub⟩ := rep.put (r := (false, t)) (relE_sh is) i
  rw [xr_sh] at sub
  exact q _ W H rp ((Step.refl _ _ _).subP sub) (ioK_put pf)
theorem xg_tup {k n : Nat} (hc : X.calm = true) (h : XGs X Wx es gs) (hn : (assignEach es X.env).length = n := by rfl) (hst : (assignEach es X.env).findIdx? (·.1) = none := by rfl) : XG X Wx (.Tuple es k pos) (gTp n gs) := by
  refine ⟨PG.imp (pg_tup hc h.pgs hn hst) fun v σ H Q ⟨W, ρ, t, rep, is, ts, e, hl, q⟩ => ?_, mn_gTp h.mn⟩
  subst e
  cases is with
  | tup r w l => exact ⟨_, _, rfl, .of r, by rw [l.length]; exact hl, W, ρ, ts, rep, l, q⟩
  | tupK r l => exact ⟨_, _, rfl, .inr r, by rw [l.length]; exact hl, W, ρ, ts, rep, l, q⟩
theorem xgs_nil : XGs X Wx [] gNi := ⟨PGs.imp pgs_nil fun vs σ H Q ⟨W, ρ, ts, rep, is, e, q⟩ => by
  subst e
  cases is
  exact ⟨rfl, q σ W H rep (Step.refl _ _ _) (IoK.refl _ _)⟩, mn_gNi⟩
theorem xgs_cons (h : XG X Wx e g) (hr : XGs X Wx es gs) (hs : (assignEach (e :: es) X.env).map (·.2) = assign e X.env :: (assignEach es X.env).map (·.2) := by rfl) : XGs X Wx (e :: es) (gCn g gs) := by
  refine ⟨PGs.imp (pgs_cons h.pg hr.pgs hs) fun vs σ H Q ⟨W, ρ, ts, rep, is, t, r, e, q⟩ => ?_, mn_gCn h.mn hr.mn⟩
  subst e
  cases is with
  | cons i1 i2 =>
    refine ⟨_, _, rfl, W, ρ, t, rep, i1, h.mn _ _ _ _ q (fun _ ρ1 z σ' W' H' rp st io => ?_) fun C fs ρ' z => z⟩
    refine ⟨W', ρ1, r, rp, i2.step st rep.rt, hr.mn _ _ _ _ z (fun _ ρ2 z σ2 W2 H2 rp2 st2 io2 => z σ2 W2 H2 rp2 (st.trans rep.wd st2) (io.trans io2)) fun C fs ρ2 z d σ2 W2 H2 ed rp2 st2 io2 => z d σ2 W2 H2 ed rp2 (st.trans rep.wd st2) (io.trans io2)⟩
end
/-- target = value, the value shared -/
def sAsg (d : Dn Rv) (g : Dg) : Ds := fun ρ Q => d ρ ⟨fun r ρ1 => g r.2 ρ1 ⟨fun _ ρ2 => Q.nx ρ2, Q.ex⟩, Q.ex⟩
theorem mn_asg {d : Dn Rv} {g : Dg} (m : Mn d) (mg : MnG g) : MnS (sAsg d g) := fun ρ Q Q' h n r bk c e => m _ _ _ h (fun _ ρ1 q => mg _ _ _ _ q (fun _ ρ2 z => n _ z) e) e
section
variable {X : Cx} {Wx : WX} {e tg : Expr} {d : Dn Rv} {g : Dg} {pos pos' : Pos}
theorem xs_asg (h : XE X Wx e d) (hg : XG X Wx tg g) (hs : swapsWithSole [tg] e pos.line X.env = pure false := by rfl) (hw : swappedStores [tg] e X.env = pure none := by rfl) (h1 : (assignEach [tg] X.env).map (·.2) = [assign tg X.env] := by rfl) :
    XS X Wx (.Assign [tg] e pos) (sAsg d g) := by
  refine ⟨PS.imp (ps_asg h.pe hg.pg hs hw h1) fun D σ H ⟨W, ρ, rep, q⟩ => ?_, mn_asg h.mn hg.mn⟩
  refine rd_stmt h.mn rep q fun r ρ1 q v W1 H1 rl rep1 st pn => ?_
  obtain ⟨W2, s, is, rp2, st2⟩ := demote rep.wd rl rep1 st
  exact ⟨W2, ρ1, r.2, rp2, is, hg.mn _ _ _ _ q (fun _ ρ3 z σ' W' H' rp st3 io => z σ' W' H' rp (st2.trans rep.wd st3) ((IoK.of pn).trans io)) fun C fs ρ3 z d σ' W' H' ed rp st3 io => z d σ' W' H' ed rp (st2.trans rep.wd st3) ((IoK.of pn).trans io)⟩
end
structure Lt (W : Ad) (H : Hp) (W2 : Ad) (H2 : Hp) : Prop where
  keep : ∀ p o, H p = some o → ¬ W p → H2 p = some o
  new : ∀ p, W2 p → W p ∨ H p = none
  dom : ∀ p o, H p = some o → ∃ o', H2 p = some o'
theorem Lt.refl (W : Ad) (H : Hp) : Lt W H W H := ⟨fun _ _ e _ => e, fun _ h => .inl h, fun _ o e => ⟨o, e⟩⟩
theorem Lt.step {W W1 W2 P P2 : Ad} {H H1 H2 : Hp} (a : Lt W H W1 H1) (hP : ∀ p, P p → W1 p) (s : Step P W1 H1 P2 W2 H2) : Lt W H W2 H2 where
  keep := fun p o e n => s.keep p o (a.keep p o e n) fun z => (a.new p (hP p z)).elim n fun q => by rw [e] at q; cases q
  new := fun p z => (s.new p z).elim (a.new p) fun q => .inr (by
    cases e : H p with
    | none => rfl
    | some o => obtain ⟨o1, e1⟩ := a.dom p o e; rw [q] at e1; cases e1)
  dom := fun p o e => by obtain ⟨o1, e1⟩ := a.dom p o e; exact s.dom p o1 e1
theorem Is.lt {K : PySem.W.Frag} {W W2 : Ad} {H H2 : Hp} {v : V} {t : T} (h : Is K W H v t) (l : Lt W H W2 H2) : Is K W2 H2 v t := h.keep (P := W) l.keep (fun _ z => z) l.new
theorem IsL.lt {K : PySem.W.Frag} {W W2 : Ad} {H H2 : Hp} {v : List V} {t : List T} (h : IsL K W H v t) (l : Lt W H W2 H2) : IsL K W2 H2 v t := h.keep (P := W) l.keep (fun _ z => z) l.new
/-- the iterator gives these trees, whatever happens to what is owned -/
def Yl (K : PySem.W.Frag) (W : Ad) (H : Hp) (J : It) (ts : List T) : Prop :=
  ∀ W2 H2, Lt W H W2 H2 → Wd W2 H2 → J.stop ts.length H2 ∧ ∀ i t, ts[i]? = some t → J.go i H2 ∧ ∀ x H3, J.yld i H2 x H3 → (∀ p o, H2 p = some o → H3 p = some o) ∧ Is K W2 H3 x t
abbrev Di := Dn (List T)
def RI (K : PySem.W.Frag) (X : WX) (d : Di) : TI := fun σ H R => ∃ W ρ, Rep K W H σ ρ ∧ d ρ
  ⟨fun ts ρ' => ∀ J W' H', Rep K W' H' σ ρ' → Step (Rt σ ρ) W H (Rt σ ρ') W' H' → Pn ρ ρ' → Yl K W' H' J ts → R J H',
   fun C fs ρ' => ∀ d W' H', ExD K W' H' d fs → Rep K W' H' σ ρ' → Step (Rt σ ρ) W H (Rt σ ρ') W' H' → Pn ρ ρ' → X (.ref C) d σ H'⟩
structure XI (X : Cx) (Wx : WX) (tg e : Expr) (d : Di) : Prop where
  pi : PI X tg e (RI X.K Wx d)
  mn : Mn d
theorem PI.imp {X : Cx} {tg e : Expr} {t t' : TI} (h : PI X tg e t) (i : ∀ σ H R, t' σ H R → t σ H R) : PI X tg e t' := ⟨fun pins s σ H R I q => h.run pins s σ H R I (i σ H R q)⟩
def forD (g : Dg) (b : Ds) (Q : PoS) : List T → Rho → Prop
  | [], ρ => Q.nx ρ
  | t :: ts, ρ => g t ρ ⟨fun _ ρ1 => b ρ1 { Q with nx := forD g b Q ts, ct := forD g b Q ts, bk := Q.nx }, Q.ex⟩
def sFor (d : Di) (g : Dg) (b : Ds) : Ds := fun ρ Q => d ρ ⟨fun ts ρ1 => forD g b Q ts ρ1, Q.ex⟩
theorem mn_forD {g : Dg} {b : Ds} (mg : MnG g) (mb : MnS b) {Q Q' : PoS} (n : ∀ ρ', Q.nx ρ' → Q'.nx ρ') (r : ∀ r ρ', Q.rt r ρ' → Q'.rt r ρ') (e : ∀ c f ρ', Q.ex c f ρ' → Q'.ex c f ρ') : ∀ ts ρ, forD g b Q ts ρ → forD g b Q' ts ρ
  | [], ρ, h => n ρ h
  | t :: ts, ρ, h => mg _ _ _ _ h (fun _ ρ1 z => mb _ _ _ z (fun ρ2 z => mn_forD mg mb n r e ts ρ2 z) r n (fun ρ2 z => mn_forD mg mb n r e ts ρ2 z) e) e
theorem mn_for {d : Di} {g : Dg} {b : Ds} (md : Mn d) (mg : MnG g) (mb : MnS b) : MnS (sFor d g b) := fun ρ Q Q' h n r bk c e => md _ _ _ h (fun ts ρ1 z => mn_forD mg mb n r e ts ρ1 z) e
section
variable {X : Cx} {Wx : WX} {tg e c : Expr} {body : List Stmt} {d : Di} {g : Dg} {b : Ds} {dt : Dn Bool} {pos : Pos}
theorem xs_for (hp : PassesOwn (model X.prog X.w) X.A X.env X.xe) (hc : X.calm = true) (hi : XI X Wx tg e d) (hg : XG X Wx tg g) (hb : XSs X Wx body b) (hs : ∀ x, foldedSetIterable e X.env x = pure x := by intro _; rfl) :
    XS X Wx (.For tg e body [] pos) (sFor d g b) := by
  refine ⟨PS.imp (ps_for hp hc hi.pi hg.pg hb.pss hs) fun D σ H ⟨W, ρ, rep, q⟩ => ?_, mn_for hi.mn hg.mn hb.mn⟩
  refine ⟨W, ρ, rep, hi.mn _ _ _ q (fun ts ρ1 q J W1 H1 rep1 st1 pn1 yl => ?_) fun C fs ρ1 z d W1 H1 ed rp st pn => z d σ W1 H1 ed rp st (.of pn)⟩
  -- the state ahead of a turn
  let St := fun (k : Nat) (σ' : L2.St) (H' : Hp) => ∃ W' ρ', Rep X.K W' H' σ' ρ' ∧ forD g b (spost X.K Wx σ ρ W H D) (ts.drop k) ρ' ∧ Lt W1 H1 W' H' ∧ Step (Rt σ ρ) W H (Rt σ' ρ') W' H' ∧ IoK σ ρ σ' ρ'
  refine ⟨fun i m σ' H' => m = ts.length - i ∧ i ≤ ts.length ∧ St i σ' H', ⟨_, rfl, Nat.zero_le _, W1, ρ1, rep1, by rw [List.drop_zero]; exact q, .refl _ _, st1, .of pn1⟩, ?_⟩
  rintro i m σ2 H2 ⟨rfl, hle, W2, ρ2, rep2, q2, lt2, st2, io2⟩
  obtain ⟨ys, yg⟩ := yl W2 H2 lt2 rep2.wd
  by_cases hlt : i < ts.length
  · rw [List.drop_eq_getElem_cons hlt] at q2
    obtain ⟨go, yi⟩ := yg i ts[i] (List.getElem?_eq_getElem hlt)
    refine .inr ⟨go, St (i + 1), fun σ' H' z => ⟨ts.length - (i + 1), by omega, rfl, hlt, z⟩, fun x H3 y => ?_⟩
    obtain ⟨same, is⟩ := yi x H3 y
    have sm : Step (Rt σ2 ρ2) W2 H2 (Rt σ2 ρ2) W2 H3 := Step.same same
    refine ⟨W2, ρ2, ts[i], rep2.same same, is, hg.mn _ _ _ _ q2 (fun _ ρ4 z σ4 W4 H4 rp4 st4 io4 => ?_) fun C fs ρ4 z d σ4 W4 H4 ed rp4 st4 io4 => z d σ4 W4 H4 ed rp4 ((st2.trans rep.wd sm).trans rep.wd st4) (io2.trans io4)⟩
    have rel4 : Step (Rt σ2 ρ2) W2 H2 (Rt σ4 ρ4) W4 H4 := sm.trans rep2.wd st4
    have lt4 := lt2.step rep2.rt rel4
    have tot4 := st2.trans rep.wd rel4
    refine ⟨W4, ρ4, rp4, hb.mn _ _ _ z (fun ρ5 z σ5 W5 H5 rp5 st5 io5 => ?_) (fun r ρ5 z v σ5 W5 H5 rl rp5 st5 io5 => z v σ5 W5 H5 rl rp5 (tot4.trans rep.wd st5) ((io2.trans io4).trans io5)) (fun ρ5 z σ5 W5 H5 rp5 st5 io5 => z σ5 W5 H5 rp5 (tot4.trans rep.wd st5) ((io2.trans io4).trans io5)) (fun ρ5 z σ5 W5 H5 rp5 st5 io5 => ?_)
      fun C fs ρ5 z d σ5 W5 H5 ed rp5 st5 io5 => z d σ5 W5 H5 ed rp5 (tot4.trans rep.wd st5) ((io2.trans io4).trans io5)⟩
    · exact ⟨W5, ρ5, rp5, z, lt4.step rp4.rt st5, tot4.trans rep.wd st5, (io2.trans io4).trans io5⟩
    · exact ⟨W5, ρ5, rp5, z, lt4.step rp4.rt st5, tot4.trans rep.wd st5, (io2.trans io4).trans io5⟩
  · have e : i = ts.length := by omega
    subst e
    rw [List.drop_length] at q2
    exact .inl ⟨ys, q2 σ2 W2 H2 rep2 st2 io2⟩
end
end O
namespace O
open PySem PySem.Spec PyProof.Rows L2
/-- return x: the owned object goes with it -/
def dMove (i : Nat) : Dn Rv := fun ρ Q => match sl_ ρ i with
  | .no => False
  | .sh t => Q.ok (false, t) ρ
  | .sd t => Q.ok (false, t) ρ
  | .ow t => Q.ok (true, t) (ρ.set i .no)
  | .io t => Q.ok (false, t) (ρ.set i (.sd t))
theorem mn_move (i : Nat) : Mn (dMove i) := fun ρ Q Q' h k _ => by
  unfold dMove at h ⊢
  cases q : sl_ ρ i <;> rw [q] at h <;> first | exact h.elim | exact k _ _ h
section
variable {K : PySem.W.Frag} {σ : L2.St} {ρ : Rho} {W : Ad} {H : Hp}
theorem sl_lt {i : Nat} (h : sl_ ρ i ≠ .no) : i < ρ.length := by
  rcases Nat.lt_or_ge i ρ.length with l | l
  · exact l
  · exact absurd (by unfold sl_; rw [List.getD_eq_getElem?_getD, List.getElem?_eq_none l]; rfl) h
theorem own_ne {s : Sl} (h : s.own) : s ≠ .no := fun e => by rw [e] at h; exact h
theorem Rep.move {i : Nat} {t : T} (r : Rep K W H σ ρ) (h : sl_ ρ i = .ow t) :
    ∃ p, at_ σ i = some (.ref p) ∧ relE K σ (ρ.set i .no) W H (.ref p) (true, t) ∧ Rep K W H σ (ρ.set i .no) ∧ Step (Rt σ ρ) W H (rooted (Rt σ (ρ.set i .no)) (xr (.ref p) (true, t))) W H := by
  have hr := r.sl i
  rw [h] at hr
  obtain ⟨p, e1, e2, e3⟩ := hr
  have w : (sl_ ρ i).own := by rw [h]; trivial
  have li := sl_lt (own_ne w)
  have own' : ∀ j, (sl_ (ρ.set i .no) j).own → j ≠ i ∧ (sl_ ρ j).own := fun j z => by
    rw [sl_set] at z
    by_cases c : i = j ∧ i < ρ.length
    · rw [if_pos c] at z; exact z.elim
    · rw [if_neg c] at z; exact ⟨fun e => c ⟨e.symm, li⟩, z⟩
  refine ⟨p, e1, ?_, ⟨by rw [List.length_set]; exact r.len, fun j => ?_, fun a b q wa wb => r.inj a b q (own' a wa).2 (own' b wb).2, r.wd⟩, (Step.refl _ _ _).subP fun q z => ?_⟩
  · unfold relE
    rw [if_pos rfl]
    exact ⟨p, rfl, e2, e3, fun ⟨j, wj, ej⟩ => (own' j wj).1 (r.inj j i p (own' j wj).2 w ej e1)⟩
  · rw [sl_set]
    by_cases c : i = j ∧ i < ρ.length
    · rw [if_pos c]; trivial
    · rw [if_neg c]; exact r.sl j
  · rcases z with ⟨j, wj, ej⟩ | ⟨_, e⟩
    · exact ⟨j, (own' j wj).2, ej⟩
    · cases e; exact ⟨i, w, e1⟩
/-- the owned object is written -/
theorem Rep.write {i : Nat} {t' : T} {p : Addr} {o : HO} (r : Rep K W H σ ρ) (hi : (sl_ ρ i).own) (hp : at_ σ i = some (.ref p)) (ho : OwnAt K W (upd H p o) p t') :
    Rep K W (upd H p o) σ (ρ.set i (if (sl_ ρ i).pin = true then .io t' else .ow t')) ∧ Step (Rt σ ρ) W H (Rt σ (ρ.set i (if (sl_ ρ i).pin = true then .io t' else .ow t'))) W (upd H p o) := by
  have hw := r.rt p ⟨i, hi, hp⟩
  have li := sl_lt (own_ne hi)
  have k : ∀ q u, H q = some u → ¬ q = p → upd H p o q = some u := fun q u e n => by rw [upd_ne n]; exact e
  have kw : ∀ q, q = p → W q := fun q e => by rw [e]; exact hw
  have own' : ∀ j, (sl_ (ρ.set i (if (sl_ ρ i).pin = true then Sl.io t' else .ow t')) j).own → (sl_ ρ j).own := fun j z => by
    rw [sl_set] at z
    by_cases c : i = j ∧ i < ρ.length
    · rw [← c.1]; exact hi
    · rw [if_neg c] at z; exact z
  have dom : ∀ q u, H q = some u → ∃ u', upd H p o q = some u' := fun q u e => by
    by_cases c : q = p
    · rw [c, upd_same]; exact ⟨_, rfl⟩
    · exact ⟨u, k q u e c⟩
  refine ⟨⟨by rw [List.length_set]; exact r.len, fun j => ?_, fun a b q wa wb => r.inj a b q (own' a wa) (own' b wb), fun q z => by obtain ⟨u, e⟩ := r.wd q z; exact dom q u e⟩,
    ⟨fun q u e n => k q u e fun c => n ⟨i, hi, by rw [c]; exact hp⟩, dom, fun q z _ => z, fun q z => .inl z, fun q ⟨j, w, e⟩ => .inl ⟨j, own' j w, e⟩⟩⟩
  rw [sl_set]
  by_cases c : i = j ∧ i < ρ.length
  · rw [if_pos c, ← c.1]
    by_cases pn : (sl_ ρ i).pin = true
    · rw [if_pos pn]; exact ⟨p, hp, hw, ho⟩
    · rw [if_neg pn]; exact ⟨p, hp, hw, ho⟩
  · rw [if_neg c]
    have hs := r.sl j
    have ne : ∀ q, (sl_ ρ j).own → at_ σ j = some (.ref q) → q ≠ p := fun q w e z => by
      rw [z] at e
      exact c ⟨(r.inj j i p w hi e hp).symm, li⟩
    cases q : sl_ ρ j with
    | no => trivial
    | sh t => rw [q] at hs; obtain ⟨u, e1, e2⟩ := hs; exact ⟨u, e1, e2.keep (P := fun q => q = p) k kw fun _ z => .inl z⟩
    | sd t => rw [q] at hs; obtain ⟨u, e1, ⟨e2, ob, eo⟩, e3⟩ := hs; exact ⟨u, e1, ⟨e2, dom _ _ eo⟩, e3.keep (P := fun q => q = p) k kw fun _ z => .inl z⟩
    | ow t => rw [q] at hs; obtain ⟨u, e1, e2, e3⟩ := hs; exact ⟨u, e1, e2, e3.keep (P := fun q => q = p) k kw (fun _ z => .inl z) fun v e => k u v e (ne u (by rw [q]; trivial) e1)⟩
    | io t => rw [q] at hs; obtain ⟨u, e1, e2, e3⟩ := hs; exact ⟨u, e1, e2, e3.keep (P := fun q => q = p) k kw (fun _ z => .inl z) fun v e => k u v e (ne u (by rw [q]; trivial) e1)⟩
theorem Is.write {v : V} {t : T} {p : Addr} {o : HO} (h : Is K W H v t) (hw : W p) : Is K W (upd H p o) v t :=
  h.keep (P := fun q => q = p) (fun q u e n => by rw [upd_ne n]; exact e) (fun q e => by rw [e]; exact hw) fun _ z => .inl z
theorem IsL.write {v : List V} {t : List T} {p : Addr} {o : HO} (h : IsL K W H v t) (hw : W p) : IsL K W (upd H p o) v t :=
  h.keep (P := fun q => q = p) (fun q u e n => by rw [upd_ne n]; exact e) (fun q e => by rw [e]; exact hw) fun _ z => .inl z
end
section
variable {X : Cx} {Wx : WX}
theorem xe_move (i : Nat) {x : Str} {pos : Pos} (hN : X.N[i]? = some x := by rfl) (hv : Vis X.env.scope x := by first | exact Or.inl rfl | exact Or.inr (Or.inl rfl) | exact Or.inr (Or.inr rfl)) (hd : (x == ("__debug__" : Str)) = false := by decide)
    (hcd : (x == ("__classdict__" : Str)) = false := by decide) : XE X Wx (.Name x pos) (dMove i) := by
  refine ⟨PE.imp (pv i hN hv hd hcd) fun σ H Q ⟨W, ρ, rep, h⟩ => ?_, mn_move i⟩
  have hs := rep.sl i
  unfold dMove at h
  cases q : sl_ ρ i with
  | no => rw [q] at h; exact h.elim
  | sh t =>
    rw [q] at h hs
    obtain ⟨v, e, hi⟩ := hs
    exact ⟨v, at_get.mp e, h v W H (relE_sh hi) rep (by rw [xr_sh]; exact Step.refl _ _ _) (Pn.refl _)⟩
  | sd t =>
    rw [q] at h hs
    obtain ⟨p, e, n, hi⟩ := hs
    exact ⟨.ref p, at_get.mp e, h _ W H (relE_sh hi) rep (by rw [xr_sh]; exact Step.refl _ _ _) (Pn.refl _)⟩
  | ow t =>
    rw [q] at h
    obtain ⟨p, e, rl, rp, st⟩ := rep.move q
    exact ⟨.ref p, at_get.mp e, h _ W H rl rp st (pn_set fun z => by rw [q] at z; cases z)⟩
  | io t =>
    obtain ⟨v, s', W', e, e2, hi, rp, st⟩ := rep.shared (.inr q)
    rw [q] at h e2
    have e2 : s' = .sd t := e2
    subst e2
    exact ⟨v, at_get.mp e, h v W' H (relE_sh hi) rp (by rw [xr_sh]; exact st) (pn_set fun _ => rfl)⟩
end
structure Om where
  pre : Prop
  new : T
  val : T
def Om.no : Om := ⟨False, .non, .non⟩
def T.isTy (Ty : String) : T → Prop
  | .lst _ => Ty = "list"
  | .dK _ => Ty = "dict"
  | .dT _ => Ty = "dict"
  | .str _ => Ty = "str"
  | _ => False
/-- a method's reading does g to the receiver's tree -/
def MutR (K : PySem.W.Frag) (r : V → List V → Hp → VK → Prop) (g : T → List T → Om) : Prop := ∀ W H p vs t ts (Q : VK), Wd W H → W p → OwnAt K W H p t → IsL K W H vs ts → (g t ts).pre →
  (∀ v o, OwnAt K W (upd H p o) p (g t ts).new → Is K W (upd H p o) v (g t ts).val → Q v (upd H p o)) → r (.ref p) vs H Q
def ownT : Sl → Option T
  | .ow t => some t
  | .io t => some t
  | _ => none
def reown (s : Sl) (t : T) : Sl := if s.pin = true then .io t else .ow t
def dMut (i : Nat) (Ty : String) (g : T → List T → Om) (d : Dn (List Hn)) : Dn Rv := fun ρ Q => (∃ t0, ownT (sl_ ρ i) = some t0 ∧ t0.isTy Ty) ∧
  d ρ ⟨fun hs ρ1 => ∃ t, ownT (sl_ ρ1 i) = some t ∧ ∃ ts, tms hs = some ts ∧ (g t ts).pre ∧ Q.ok (false, (g t ts).val) (ρ1.set i (reown (sl_ ρ1 i) (g t ts).new)), Q.ex⟩
theorem mn_mut {i : Nat} {Ty : String} {g : T → List T → Om} {d : Dn (List Hn)} (m : Mn d) : Mn (dMut i Ty g d) := fun ρ Q Q' h k e => ⟨h.1, m _ _ _ h.2 (fun hs ρ1 ⟨t, a, ts, b, c, q⟩ => ⟨t, a, ts, b, c, k _ _ q⟩) e⟩
theorem relOs_tm {K : PySem.W.Frag} {σ : L2.St} {ρ : Rho} {W : Ad} {H : Hp} : ∀ {vs : List V} {ts : List T}, relOs K σ ρ W H vs (ts.map Hn.tm) → IsL K W H vs ts
  | _, [], h => by cases h; exact .nil
  | _, t :: ts, h => by cases h with | cons a b => exact .cons a (relOs_tm b)
theorem own_at {K : PySem.W.Frag} {σ : L2.St} {ρ : Rho} {W : Ad} {H : Hp} {i : Nat} {t : T} (rep : Rep K W H σ ρ) (h : ownT (sl_ ρ i) = some t) : ∃ p, at_ σ i = some (.ref p) ∧ W p ∧ OwnAt K W H p t ∧ (sl_ ρ i).own := by
  have hs := rep.sl i
  cases q : sl_ ρ i with
  | ow u => rw [q] at hs h; cases h; obtain ⟨p, a, b, c⟩ := hs; exact ⟨p, a, b, c, trivial⟩
  | io u => rw [q] at hs h; cases h; obtain ⟨p, a, b, c⟩ := hs; exact ⟨p, a, b, c, trivial⟩
  | _ => rw [q] at h; cases h
theorem tyV_own {K : PySem.W.Frag} {W : Ad} {H : Hp} {p : Addr} {t : T} {Ty : String} (h : OwnAt K W H p t) (i : t.isTy Ty) : tyV K Ty (.ref p) H := by
  cases t with
  | lst ts => obtain ⟨xs, e, _⟩ := h; exact .inl ⟨i, xs, .of e⟩
  | dK ts => obtain ⟨xs, e, _⟩ := h; exact .inr (.inr (.inl ⟨i, .inl ⟨xs, e⟩⟩))
  | dT ts => obtain ⟨xs, e, _⟩ := h; exact .inr (.inr (.inl ⟨i, .inr ⟨xs, e⟩⟩))
  | _ => first | exact h.elim | exact i.elim
theorem reown_pin {s : Sl} {t : T} : (reown s t).pin = s.pin := by unfold reown; cases s <;> rfl
section
variable {X : Cx} {Wx : WX} {e : Expr} {es : List Expr} {ds : Dn (List Hn)}
theorem mut_run {i : Nat} {Ty : String} {r : V → List V → Hp → VK → Prop} {g : T → List T → Om} (hg : MutR X.K r g) (ma : Mn ds) (σ : L2.St) (H : Hp) (Q : VK) (h : RD X.K (relE X.K) xr Wx (dMut i Ty g ds) σ H Q) :
    ∃ v, σ[i]? = some (some v) ∧ tyV X.K Ty v H ∧ RD X.K (relOs X.K) nox Wx ds σ H fun xs H2 => r v xs H2 Q := by
  obtain ⟨W, ρ, rep, ⟨t0, o0, y0⟩, h⟩ := h
  obtain ⟨p, a, w, o, _⟩ := own_at rep o0
  refine ⟨.ref p, at_get.mp a, tyV_own o y0, rd_first ma rep h fun hs ρ1 ⟨t, ot, ts, e, pr, q⟩ vs W1 H1 rl rep1 st pn => ?_⟩
  have e := tms_map e
  subst e
  obtain ⟨p', a', w', o', hown⟩ := own_at rep1 ot
  rw [a] at a'; cases a'
  refine hg W1 H1 p vs t ts Q rep1.wd w' o' (relOs_tm rl) pr fun v ob h1 h2 => ?_
  obtain ⟨rp, st'⟩ := rep1.write hown a h1
  exact q v W1 _ (relE_sh h2) rp (by rw [xr_sh]; exact st.noxx.trans rep.wd st') (pn.trans (pn_set fun z => by rw [reown_pin]; exact z))
/-- x.m(..) of a list, a dict that x owns -/
theorem xe_mut (i : Nat) {x name : Str} {p apos cpos : Pos} {Ty id : String} {r : V → List V → Hp → VK → Prop} {g : T → List T → Om} (hg : MutR X.K r g) (pa : PlainAttrs Ty) (slot : Slot Ty name id) (hty : typeOf (.builtin id) = pure (.type "method_descriptor")) (hm : MtR X id r) (ha : XA X Wx (e :: es) ds)
    (hN : X.N[i]? = some x := by rfl) (hv : Vis X.env.scope x := by first | exact Or.inl rfl | exact Or.inr (Or.inl rfl) | exact Or.inr (Or.inr rfl)) (hd : (x == ("__debug__" : Str)) = false := by decide) (hcd : (x == ("__classdict__" : Str)) = false := by decide)
    (hbase : attributeBase (.Name x p) name X.env (eval (.Name x p) X.env) = eval (.Name x p) X.env := by rfl)
    (hfew : ((backTo cpos (starEach (e :: es) X.env)).all (fun x => !x.1) && (backToKw cpos (keywordEach [] X.env)).all (fun x => x.1.isSome)
      && decide ((e :: es).length + ([] : List Keyword).length + (if ([] : List Keyword).isEmpty then 0 else 1) < 30)) = true := by rfl)
    (hline : (apos.endLine == cpos.line) = true := by rfl) (hs : starEach (e :: es) X.env = (false, eval e X.env) :: starEach es X.env := by rfl) (hplain : (backTo cpos (starEach es X.env)).any (·.1) = false := by rfl) :
    XE X Wx (.Call (.Attribute (.Name x p) name apos) (e :: es) [] cpos) (dMut i Ty g ds) :=
  ⟨PE.imp (pe_bm pa slot hty hm (pv i hN hv hd hcd) ha.pa hbase hfew hline hs hplain) fun σ H Q h => by
    obtain ⟨v, a, b, c⟩ := mut_run hg ha.mn σ H Q h
    exact ⟨v, a, b, c⟩, mn_mut ha.mn⟩
end
def SetR (K : PySem.W.Frag) (r : TSet) (g : T → T → T → Om) : Prop := ∀ W H p iv v u ti t (Q : Hp → Prop), Wd W H → W p → OwnAt K W H p u → IsR K W H iv ti → Is K W H v t → (g u ti t).pre →
  (∀ o, OwnAt K W (upd H p o) p (g u ti t).new → Q (upd H p o)) → r (.ref p) iv v H Q
def gIt (i : Nat) (g : T → T → T → Om) (d : Dn Hn) : Dg := fun t ρ Q => (∃ u0, ownT (sl_ ρ i) = some u0) ∧ d ρ ⟨fun h ρ1 => ∃ ti, h.is ρ1 ti ∧ ∃ u, ownT (sl_ ρ1 i) = some u ∧ (g u ti t).pre ∧ Q.ok () (ρ1.set i (reown (sl_ ρ1 i) (g u ti t).new)), Q.ex⟩
theorem mn_it {i : Nat} {g : T → T → T → Om} {d : Dn Hn} (m : Mn d) : MnG (gIt i g d) := fun t ρ Q Q' h k e => ⟨h.1, m _ _ _ h.2 (fun hs ρ1 ⟨ti, a, u, b, c, q⟩ => ⟨ti, a, u, b, c, k _ _ q⟩) e⟩
section
variable {X : Cx} {Wx : WX} {e : Expr} {d : Dn Hn}
theorem xg_item (i : Nat) {x : Str} {p pos : Pos} {r : TSet} {g : T → T → T → Om} (hg : SetR X.K r g) (hr : PSet X r) (h : XO X Wx e d)
    (hN : X.N[i]? = some x := by rfl) (hv : Vis X.env.scope x := by first | exact Or.inl rfl | exact Or.inr (Or.inl rfl) | exact Or.inr (Or.inr rfl)) (hd : (x == ("__debug__" : Str)) = false := by decide) (hcd : (x == ("__classdict__" : Str)) = false := by decide)
    (ha : ∀ v, assign (.Subscript (.Name x p) e pos) X.env v = (do
      let ov ← holding [v] (eval (.Name x p) X.env)
      let iv ← holding [v, ov] (eval e X.env)
      standAt pos
      holding [v, ov, iv] (setItem ov iv v)
      release [v, ov, iv] []) := by intro _; rfl) : XG X Wx (.Subscript (.Name x p) e pos) (gIt i g d) := by
  refine ⟨PG.imp (pg_sub (pv i hN hv hd hcd) h.pe hr ha) fun v σ H Q ⟨W, ρ, t, rep, is, ⟨u0, o0⟩, q⟩ => ?_, mn_it h.mn⟩
  obtain ⟨p', ea, _, _, _⟩ := own_at rep o0
  refine ⟨.ref p', at_get.mp ea, W, ρ, rep, h.mn _ _ _ q (fun hn ρ1 ⟨ti, hi, u, ot, pr, q⟩ iv W1 H1 rl rep1 st pn => ?_) fun C fs ρ1 z d W1 H1 ed rp st pn => z d σ W1 H1 ed rp st (.of pn)⟩
  obtain ⟨p'', a', w', o', hown⟩ := own_at rep1 ot
  rw [ea] at a'; cases a'
  refine hg W1 H1 p' iv v u ti t _ rep1.wd w' o' (isR_of rep1 rl hi) (is.step st.noxx rep.rt) pr fun ob h1 => ?_
  obtain ⟨rp, st'⟩ := rep1.write hown ea h1
  exact q σ W1 _ rp (st.noxx.trans rep.wd st') (.of (pn.trans (pn_set fun z => by rw [reown_pin]; exact z)))
end
structure RoomG (k : Nat) (A : Around) : Prop where
  room : Room k A
  none : A.guards = some []
theorem RoomG.mono {j k : Nat} {A : Around} (r : RoomG k A) (h : j ≤ k) : RoomG j A := ⟨r.room.mono h, r.none⟩
theorem RoomG.u64 {k : Nat} {A : Around} (r : RoomG k A) : A.units + 64 < cLine := r.room.units
theorem RoomG.u66 {k : Nat} {A : Around} (r : RoomG k A) : A.units + 66 < cLine := by have := r.room.un; omega
theorem RoomG.u65 {k : Nat} {A : Around} (r : RoomG k A) : A.units + 65 < cLine := by have := r.room.un; omega
structure FnG (P : Program) (w : World) (K : PySem.W.Frag) (mg : Str → Option Value) (base : Heap) (k : Nat) (f : Addr) (fd : FuncData) (ps : List Str) (sp : Sp) : Prop where
  len : ∀ vs H Q E, sp vs H Q E → vs.length = ps.length
  go : ∀ {A : Around} {outer : List Env} {s : Shared} {H : Hp} {as : Args} {us : List Value} {vs : List V} {Q : VK} {E : XK}, RoomG k A → Env0 P w K mg base A outer s H → BindsTo s fd as (ps.zip us) → Vals vs us → sp vs H Q E →
    codeAny (model P w) A (.call (.ref f) as) (CR (L2N.CX P w) outer P w H s Q E) s
theorem FnG.mono {P : Program} {w : World} {K : PySem.W.Frag} {mg : Str → Option Value} {base : Heap} {j k : Nat} {f : Addr} {fd : FuncData} {ps : List Str} {sp : Sp} (F : FnG P w K mg base j f fd ps sp) (h : j ≤ k) : FnG P w K mg base k f fd ps sp := ⟨F.len, fun r => F.go (r.mono h)⟩
theorem call_G {X : Cx} {Wx : WX} {k : Nat} {f : Addr} {fd : FuncData} {ps : List Str} {sp : Sp} {pins : List (Addr × Obj)} {σ : L2.St} {H : Hp} {s : Shared} {Q : VK} {us : List Value} {vs : List V} (F : FnG X.prog X.w X.K X.mg X.base k f fd ps sp) (hr : RoomG k X.A)
    (bd : Binds X.K fd ps []) (tk : L2N.Takes X Wx) (I : Inv X pins σ H s) (r : Vals vs us) (h : sp vs H Q (WE Wx σ)) : wpAny (model X.prog X.w) X.A (call (.ref f) us) (EP X pins σ Q) X.xe s := by
  have bd := bd s us I.kIn (by rw [List.append_nil, ← r.length, F.len _ _ _ _ h])
  rw [List.append_nil] at bd
  refine wpAny_call (codeAny_mono (F.go hr I.env0 bd r h) fun r s' z => ?_)
  rcases r with e | (_ | _ | _ | u) <;> first | exact L2N.passAt tk σ pins H s _ s' I z | exact I.after z | exact False.elim z
/-- a def's promise by its body -/
theorem FnG.by {P : Program} {w : World} {K : PySem.W.Frag} {mg : Str → Option Value} {base : Heap} {x qual : Str} {params : Arguments} {body : List Stmt} {sc : Scope} {f : Addr} {fd : FuncData} {N ps : List Str} {k : Nat} {sp : Sp} {dvs : List V} {kws : List (Str × V)}
    (F : FunD K x qual params body sc dvs kws f fd) (Sc : FnScope N ps sc) (len : ∀ vs H Q E, sp vs H Q E → vs.length = ps.length)
    (run : ∀ (cdv : Value) (A : Around) (outer : List Env) (s : Shared) (H : Hp) (vs : List V) (Q : VK) (E : XK), RoomG k (A.deeper (envOfC qual sc s.heap.objs.size f cdv)) → sp vs H Q E →
      ∃ t, PSs (cxOf (L2N.CX P w) P w K mg base N qual sc f cdv A outer s H E) body t ∧ t { nx := fun _ H' => Q .non H', rt := Q } (start N vs) H) : FnG P w K mg base (k + 1) f fd ps sp := by
  obtain ⟨_, _, _, _, _, _, _, cdv, _, _, rfl, look, code, _, _⟩ := F.ex
  refine ⟨len, fun {A outer s H as us vs Q E} room env bd r h => ?_⟩
  have keep : ∀ b o, base.get? b = some o → s.heap.get? b = some o := fun b o e => (env.bs b o e).1
  have KX : K.In s.heap := env.mod.kin.keeps keep
  refine codeAny_call_function room.room.depth (KX _ _ look) rfl Sc.co Sc.gen rfl (PySem.W.codeRec_of KX code) (bd _ _ _ _ (wpAny_newFunctionEnv_cells Sc.kind (fun y hy => ?_) fun ev he s1 made => ?_))
  · refine (Sc.par y.1 (List.of_mem_zip (show (y.1, y.2) ∈ ps.zip us from hy)).1).imp id fun c => ⟨c, ?_⟩
    exact PySem.W.cellsFrom_some _ _ _ (.inl c)
  · cases he
    refine ⟨env.mod.nolimit.keeps fun b o e => made.toInCall.keep b o (keep b o e), codeAny_func ?_⟩
    obtain ⟨t, pss, ht⟩ := run cdv A outer s H vs Q E ⟨room.room.deeper _, room.none⟩ h
    have go := pss.run [] s1 (start N vs) H _ (inv_start Sc room.room.hd env (len _ _ _ _ h) r made) ht
    refine wpAny_mono go (fun fl s' z => ?_) fun _ _ z => z
    match fl, z with
    | .ret u, ⟨v, σ', H', J, rv, q⟩ => exact ⟨v, H', J.os, J.bare, J.base, J.hok, rv, q⟩
    | .next, ⟨σ', H', J, q⟩ => exact ⟨.non, H', J.os, J.bare, J.base, J.hok, rfl, q⟩
    | .brk, ⟨_, _, _, q⟩ => exact q.elim
    | .cont, ⟨_, _, _, q⟩ => exact q.elim
/-- f(e, ..) -/
theorem pe_callG {X : Cx} {Wx : WX} {k : Nat} {f : Addr} {fd : FuncData} {ps : List Str} {sp : Sp} {x : Str} {p pos : Pos} {e : Expr} {es : List Expr} {t : TA} (F : FnG X.prog X.w X.K X.mg X.base k f fd ps sp) (hr : RoomG k X.A) (gl : Gl X x) (m : X.mg x = some (.ref f)) (kp : PySem.W.keepIn X.K (.ref f) = true)
    (bd : Binds X.K fd ps []) (tk : L2N.Takes X Wx) (ha : PA X (e :: es) t) (nd : (x == ("__debug__" : Str)) = false) (s1 : starEach (e :: es) X.env = (false, eval e X.env) :: starEach es X.env) (s2 : (backTo pos (starEach es X.env)).any (·.1) = false) :
    PE X (.Call (.Name x p) (e :: es) [] pos) (fun σ H Q => t σ H fun vs H1 => sp vs H1 Q (WE Wx σ)) :=
  ⟨fun pins s σ H Q I h => wpAny_Call_Name_kw (ld_glob I gl m (PySem.W.callWith_K (h₀ := X.base) I.ok.mod.kin kp (thn (ha.run pos pins s σ H _ I h) fun us s' ⟨vs, H1, I1, r, q⟩ => ⟨I1.kIn, call_G F hr bd tk I1 r q⟩) s1 s2) nd)⟩
/-- what a def does: from its parameters' slots to its value and what becomes of them -/
abbrev Sx := Dn Rv
/-- a parameter that is handed in: shared, or the caller's own -/
def Sl.arg : Sl → Bool
  | .sh _ => true
  | .io _ => true
  | _ => false
def OutOk (ars outs : Rho) : Prop := outs.length = ars.length ∧ ∀ i, match sl_ ars i, sl_ outs i with
  | .io _, .io _ => True
  | .io _, .sd _ => True
  | .io _, _ => False
  | _, .no => True
  | _, _ => False
def spOf (K : PySem.W.Frag) (n : Nat) (S : Sx) : Sp := fun vs H Q E => ∃ W ars, ars.length = n ∧ Rep K W H (vs.map some) ars ∧ (∀ i, i < n → (sl_ ars i).arg = true) ∧ S ars
  ⟨fun r outs => ∀ v W' H', relE K (vs.map some) outs W' H' v r → (r.1 = true → ∀ p, v = .ref p → H p = none) → Rep K W' H' (vs.map some) outs → Step (Rt (vs.map some) ars) W H (rooted (Rt (vs.map some) outs) (xr v r)) W' H' → OutOk ars outs → Q v H',
   fun C fs outs => ∀ d W' H', ExD K W' H' d fs → Rep K W' H' (vs.map some) outs → Step (Rt (vs.map some) ars) W H (Rt (vs.map some) outs) W' H' → OutOk ars outs → E (.ref C) d H'⟩
structure FnX (P : Program) (w : World) (K : PySem.W.Frag) (mg : Str → Option Value) (base : Heap) (k : Nat) (x : Str) (S : Sx) : Prop where
  ex : ∃ (f : Addr) (fd : FuncData) (ps : List Str), mg x = some (.ref f) ∧ PySem.W.keepIn K (.ref f) = true ∧ FnG P w K mg base k f fd ps (spOf K ps.length S) ∧ Binds K fd ps [] ∧ ∀ ars Q, S ars Q → ars.length = ps.length
  mn : Mn S
/-- the slot of an argument, as the callee has it -/
def argS : Sl → Sl
  | .ow t => .io t
  | .io t => .io t
  | .sh t => .sh t
  | .sd t => .sh t
  | .no => .no
def argOf (ρ : Rho) : Hn → Sl
  | .tm t => .sh t
  | .sl i => argS (sl_ ρ i)
/-- what becomes of the argument's name -/
def conv : Sl → Sl → Sl
  | .ow _, .io t => .ow t
  | .ow _, .sd t => .sh t
  | .io _, .io t => .io t
  | .io _, .sd t => .sd t
  | s, _ => s
def put1 (ρ : Rho) : Hn → Sl → Rho
  | .tm _, _ => ρ
  | .sl i, o => ρ.set i (conv (sl_ ρ i) o)
def putOut : Rho → List Hn → Rho → Rho
  | ρ, h :: hs, o :: os => putOut (put1 ρ h o) hs os
  | ρ, _, _ => ρ
/-- no owned name is handed in twice -/
def ndOwn (ρ : Rho) : List Hn → Prop
  | [] => True
  | .tm _ :: hs => ndOwn ρ hs
  | .sl i :: hs => ((sl_ ρ i).own → Hn.sl i ∉ hs) ∧ ndOwn ρ hs
theorem conv_no (o : Sl) : conv .no o = .no := by cases o <;> rfl
theorem conv_sh {s o : Sl} (h : ¬ s.own) : conv s o = s := by cases s <;> first | (cases o <;> rfl) | exact (h trivial).elim
theorem own_conv {s o : Sl} (h : (conv s o).own) : s.own := by cases s <;> cases o <;> first | exact h | exact h.elim
theorem sl_put1 {ρ : Rho} {i k : Nat} {o : Sl} : sl_ (put1 ρ (.sl i) o) k = if i = k then conv (sl_ ρ k) o else sl_ ρ k := by
  show sl_ (ρ.set i _) k = _
  rw [sl_set]
  by_cases e : i = k
  · subst e
    by_cases l : i < ρ.length
    · rw [if_pos ⟨rfl, l⟩, if_pos rfl]
    · rw [if_neg (fun c => l c.2), if_pos rfl]
      have : sl_ ρ i = .no := by unfold sl_; rw [List.getD_eq_getElem?_getD, List.getElem?_eq_none (by omega)]; rfl
      rw [this, conv_no]
  · rw [if_neg (fun c => e c.1), if_neg e]
theorem ndOwn_put1 {ρ : Rho} {h : Hn} {o : Sl} : ∀ {hs : List Hn}, ndOwn ρ hs → ndOwn (put1 ρ h o) hs
  | [], _ => trivial
  | .tm _ :: hs, n => ndOwn_put1 (hs := hs) n
  | .sl i :: hs, n => ⟨fun w => n.1 (by
      cases h with
      | tm t => exact w
      | sl k =>
        rw [sl_put1] at w
        by_cases e : k = i
        · rw [if_pos e] at w; exact own_conv w
        · rw [if_neg e] at w; exact w), ndOwn_put1 (hs := hs) n.2⟩
theorem len_putOut : ∀ (hs : List Hn) (os : Rho) (ρ : Rho), (putOut ρ hs os).length = ρ.length
  | [], _, _ => by unfold putOut; rfl
  | _ :: _, [], _ => by unfold putOut; rfl
  | h :: hs, o :: os, ρ => by
    unfold putOut
    rw [len_putOut hs os]
    cases h with
    | tm t => rfl
    | sl i => exact List.length_set
theorem putOut_spec : ∀ (hs : List Hn) (os : Rho) (ρ : Rho) (i : Nat), ndOwn ρ hs → hs.length = os.length →
    (sl_ (putOut ρ hs os) i = sl_ ρ i ∧ ((sl_ ρ i).own → ∀ j : Nat, hs[j]? ≠ some (Hn.sl i))) ∨ ((sl_ ρ i).own ∧ ∃ j : Nat, hs[j]? = some (Hn.sl i) ∧ sl_ (putOut ρ hs os) i = conv (sl_ ρ i) (sl_ os j))
  | [], os, ρ, i, _, _ => .inl ⟨by unfold putOut; rfl, fun _ j => by simp⟩
  | _ :: _, [], _, _, _, l => by simp at l
  | .tm t :: hs, o :: os, ρ, i, n, l => by
    have ih := putOut_spec hs os ρ i n (by simpa using l)
    have e : putOut ρ (.tm t :: hs) (o :: os) = putOut ρ hs os := rfl
    rw [e]
    rcases ih with ⟨a, b⟩ | ⟨w, j, a, b⟩
    · refine .inl ⟨a, fun w j => ?_⟩
      cases j with
      | zero => simp
      | succ j => simpa using b w j
    · exact .inr ⟨w, j + 1, by simpa using a, by rw [b]; rfl⟩
  | .sl k :: hs, o :: os, ρ, i, n, l => by
    have ih := putOut_spec hs os (put1 ρ (.sl k) o) i (ndOwn_put1 n.2) (by simpa using l)
    have e : putOut ρ (.sl k :: hs) (o :: os) = putOut (put1 ρ (.sl k) o) hs os := rfl
    rw [e]
    rw [sl_put1] at ih
    by_cases ek : k = i
    · subst ek
      rw [if_pos rfl] at ih
      by_cases w : (sl_ ρ k).own
      · rcases ih with ⟨a, b⟩ | ⟨w', j, a, b⟩
        · exact .inr ⟨w, 0, rfl, a⟩
        · exact absurd (List.mem_of_getElem? a) (n.1 w)
      · rw [conv_sh w] at ih
        rcases ih with ⟨a, b⟩ | ⟨w', j, a, b⟩
        · exact .inl ⟨a, fun z => (w z).elim⟩
        · exact (w w').elim
    · rw [if_neg ek] at ih
      rcases ih with ⟨a, b⟩ | ⟨w, j, a, b⟩
      · refine .inl ⟨a, fun w j => ?_⟩
        cases j with
        | zero => simp [ek]
        | succ j => simpa using b w j
      · exact .inr ⟨w, j + 1, by simpa using a, by rw [b]; rfl⟩
def dCall (S : Sx) (d : Dn (List Hn)) : Dn Rv := fun ρ Q => d ρ ⟨fun hs ρ1 => ndOwn ρ1 hs ∧ (∀ h ∈ hs, (argOf ρ1 h).arg = true) ∧ S (hs.map (argOf ρ1)) ⟨fun r outs => Q.ok r (putOut ρ1 hs outs), fun C fs outs => Q.ex C fs (putOut ρ1 hs outs)⟩, Q.ex⟩
theorem mn_call {S : Sx} {d : Dn (List Hn)} (mS : Mn S) (m : Mn d) : Mn (dCall S d) := fun ρ Q Q' h k e => m _ _ _ h (fun hs ρ1 ⟨a, b, q⟩ => ⟨a, b, mS _ _ _ q (fun _ _ z => k _ _ z) fun _ _ _ z => e _ _ _ z⟩) e
section
variable {K : PySem.W.Frag} {σ : L2.St} {ρ : Rho} {W : Ad} {H : Hp} {vs : List V} {hs : List Hn}
theorem relOs_len : ∀ {vs : List V} {hs : List Hn}, relOs K σ ρ W H vs hs → vs.length = hs.length
  | _, _, .nil => rfl
  | _, _, .cons _ r => by rw [List.length_cons, List.length_cons, relOs_len r]
theorem relOs_get : ∀ {vs : List V} {hs : List Hn} {j : Nat} {h : Hn}, relOs K σ ρ W H vs hs → hs[j]? = some h → ∃ v, vs[j]? = some v ∧ relO K σ ρ W H v h
  | _, _, _, _, .nil, e => by simp at e
  | _, _, 0, _, .cons a _, e => by simp at e; subst e; exact ⟨_, rfl, a⟩
  | _, _, j + 1, _, .cons _ b, e => by obtain ⟨v, x, y⟩ := relOs_get (j := j) b (by simpa using e); exact ⟨v, by simpa using x, y⟩
theorem at_map {vs : List V} {j : Nat} {v : V} : at_ (vs.map some) j = some v ↔ vs[j]? = some v := by
  rw [at_get, List.getElem?_map]
  cases vs[j]? with
  | none => simp
  | some u => simp
theorem sl_map {f : Hn → Sl} {j : Nat} {h : Hn} (e : hs[j]? = some h) : sl_ (hs.map f) j = f h := by
  unfold sl_
  rw [List.getD_eq_getElem?_getD, List.getElem?_map, e]
  rfl
theorem sl_map_none {f : Hn → Sl} {j : Nat} (e : hs[j]? = none) : sl_ (hs.map f) j = .no := by
  unfold sl_
  rw [List.getD_eq_getElem?_getD, List.getElem?_map, e]
  rfl
/-- an owned argument is an owned name -/
theorem arg_own {h : Hn} (w : (argOf ρ h).own) : ∃ i t, h = .sl i ∧ (sl_ ρ i).own ∧ argOf ρ h = .io t ∧ (sl_ ρ i).tr = some t := by
  cases h with
  | tm t => exact w.elim
  | sl i =>
    have w : (argS (sl_ ρ i)).own := w
    cases q : sl_ ρ i with
    | ow t => exact ⟨i, t, rfl, by rw [q]; trivial, by show argS (sl_ ρ i) = _; rw [q]; rfl, by rw [q]; rfl⟩
    | io t => exact ⟨i, t, rfl, by rw [q]; trivial, by show argS (sl_ ρ i) = _; rw [q]; rfl, by rw [q]; rfl⟩
    | sh t => rw [q] at w; exact w.elim
    | sd t => rw [q] at w; exact w.elim
    | no => rw [q] at w; exact w.elim
theorem nd_eq : ∀ {hs : List Hn} {j k i : Nat}, ndOwn ρ hs → (sl_ ρ i).own → hs[j]? = some (.sl i) → hs[k]? = some (.sl i) → j = k
  | [], _, _, _, _, _, e, _ => by simp at e
  | .tm _ :: hs, 0, _, _, _, _, e, _ => by simp at e
  | .tm _ :: hs, _, 0, _, _, _, _, e => by simp at e
  | .tm _ :: hs, j + 1, k + 1, i, n, w, a, b => congrArg (· + 1) (nd_eq (hs := hs) (j := j) (k := k) n w (by simpa using a) (by simpa using b))
  | .sl m :: hs, 0, 0, _, _, _, _, _ => rfl
  | .sl m :: hs, 0, k + 1, i, n, w, a, b => by
    have a' : m = i := by simpa using a
    subst a'
    exact absurd (List.mem_of_getElem? (by simpa using b)) (n.1 w)
  | .sl m :: hs, j + 1, 0, i, n, w, a, b => by
    have b' : m = i := by simpa using b
    subst b'
    exact absurd (List.mem_of_getElem? (by simpa using a)) (n.1 w)
  | .sl m :: hs, j + 1, k + 1, i, n, w, a, b => congrArg (· + 1) (nd_eq (hs := hs) (j := j) (k := k) n.2 w (by simpa using a) (by simpa using b))
/-- the callee's view of its parameters -/
theorem args_rep (rep : Rep K W H σ ρ) (r : relOs K σ ρ W H vs hs) (nd : ndOwn ρ hs) : Rep K W H (vs.map some) (hs.map (argOf ρ)) ∧ ∀ p, Rt (vs.map some) (hs.map (argOf ρ)) p → ∃ (i j : Nat), hs[j]? = some (.sl i) ∧ (sl_ ρ i).own ∧ at_ σ i = some (.ref p) := by
  have own1 : ∀ j, (sl_ (hs.map (argOf ρ)) j).own → ∃ i v, hs[j]? = some (.sl i) ∧ (sl_ ρ i).own ∧ at_ (vs.map some) j = some v ∧ at_ σ i = some v := fun j w => by
    cases e : hs[j]? with
    | none => rw [sl_map_none e] at w; exact w.elim
    | some h =>
      rw [sl_map e] at w
      obtain ⟨i, t, e1, w1, _, _⟩ := arg_own w
      subst e1
      obtain ⟨v, e2, e3⟩ := relOs_get r e
      exact ⟨i, v, rfl, w1, at_map.mpr e2, e3⟩
  refine ⟨⟨by rw [List.length_map, List.length_map, relOs_len r], fun j => ?_, fun a b p wa wb ea eb => ?_, rep.wd⟩, fun p ⟨j, w, e⟩ => ?_⟩
  · cases e : hs[j]? with
    | none => rw [sl_map_none e]; trivial
    | some h =>
      obtain ⟨v, e2, e3⟩ := relOs_get r e
      rw [sl_map e, at_map.mpr e2]
      cases h with
      | tm t => exact ⟨v, rfl, e3⟩
      | sl i =>
        have e3 : at_ σ i = some v := e3
        have hz := rep.sl i
        rw [e3] at hz
        show RepS K W H (some v) (argS (sl_ ρ i))
        cases q : sl_ ρ i with
        | no => trivial
        | sh t => rw [q] at hz; exact hz
        | sd t => rw [q] at hz; obtain ⟨p, a, _, b⟩ := hz; exact ⟨_, a, b⟩
        | ow t => rw [q] at hz; exact hz
        | io t => rw [q] at hz; exact hz
  · obtain ⟨i, v, a1, a2, a3, a4⟩ := own1 a wa
    obtain ⟨i', v', b1, b2, b3, b4⟩ := own1 b wb
    rw [a3] at ea; cases ea
    rw [b3] at eb; cases eb
    have := rep.inj i i' p a2 b2 a4 b4
    subst this
    exact nd_eq nd a2 a1 b1
  · obtain ⟨i, v, a1, a2, a3, a4⟩ := own1 j w
    rw [a3] at e; cases e
    exact ⟨i, j, a1, a2, a4⟩
theorem own_final {os : Rho} (nd : ndOwn ρ hs) (hl : hs.length = os.length) {i : Nat} (w : (sl_ (putOut ρ hs os) i).own) : (sl_ ρ i).own := by
  rcases putOut_spec hs os ρ i nd hl with ⟨a, _⟩ | ⟨w', _⟩
  · rw [a] at w; exact w
  · exact w'
theorem call_post {outs : Rho} {W' : Ad} {H' : Hp} {ext : Ad} (rep : Rep K W H σ ρ) (r : relOs K σ ρ W H vs hs) (nd : ndOwn ρ hs) (repO : Rep K W' H' (vs.map some) outs)
    (st : Step (Rt (vs.map some) (hs.map (argOf ρ))) W H (rooted (Rt (vs.map some) outs) ext) W' H') (ok : OutOk (hs.map (argOf ρ)) outs) :
    Rep K W' H' σ (putOut ρ hs outs) ∧ Step (Rt σ ρ) W H (rooted (Rt σ (putOut ρ hs outs)) ext) W' H' ∧ Pn ρ (putOut ρ hs outs) := by
  obtain ⟨repA, hP⟩ := args_rep rep r nd
  have hl : hs.length = outs.length := by rw [ok.1, List.length_map]
  have sub : ∀ p, Rt (vs.map some) (hs.map (argOf ρ)) p → Rt σ ρ p := fun p z => by obtain ⟨i, j, _, w, e⟩ := hP p z; exact ⟨i, w, e⟩
  have own' : ∀ i, (sl_ (putOut ρ hs outs) i).own → (sl_ ρ i).own := fun i w => own_final nd hl w
  refine ⟨⟨by rw [len_putOut]; exact rep.len, fun i => ?_, fun a b p wa wb => rep.inj a b p (own' a wa) (own' b wb), repO.wd⟩,
    ⟨fun p o e n => st.keep p o e fun z => n (sub p z), st.dom, fun p w n => st.stay p w fun z => n (sub p z), st.new, fun p z => ?_⟩, fun i pn => ?_⟩
  · rcases putOut_spec hs outs ρ i nd hl with ⟨a, b⟩ | ⟨w, j, ej, a⟩
    · rw [a]
      have hz := rep.sl i
      have np : ∀ p, (sl_ ρ i).own → at_ σ i = some (.ref p) → ¬ Rt (vs.map some) (hs.map (argOf ρ)) p := fun p w e z => by
        obtain ⟨i', j', e1, w', e2⟩ := hP p z
        have := rep.inj i' i p w' w e2 e
        subst this
        exact b w j' e1
      cases q : sl_ ρ i with
      | no => trivial
      | sh t => rw [q] at hz; obtain ⟨v, e1, e2⟩ := hz; exact ⟨v, e1, e2.step st repA.rt⟩
      | sd t =>
        rw [q] at hz
        obtain ⟨p, e1, ⟨e2, ob, eo⟩, e3⟩ := hz
        refine ⟨p, e1, ⟨fun z => (st.new p z).elim e2 fun z => ?_, st.dom p ob eo⟩, e3.step st repA.rt⟩
        rw [eo] at z
        cases z
      | ow t =>
        rw [q] at hz np
        obtain ⟨p, e1, e2, e3⟩ := hz
        have n := np p trivial e1
        exact ⟨p, e1, st.stay p e2 n, e3.keep st.keep repA.rt st.new fun o e => st.keep p o e n⟩
      | io t =>
        rw [q] at hz np
        obtain ⟨p, e1, e2, e3⟩ := hz
        have n := np p trivial e1
        exact ⟨p, e1, st.stay p e2 n, e3.keep st.keep repA.rt st.new fun o e => st.keep p o e n⟩
    · rw [a]
      obtain ⟨v, ev, rv⟩ := relOs_get r ej
      have rv : at_ σ i = some v := rv
      have ho := repO.sl j
      rw [at_map.mpr ev] at ho
      have hok := ok.2 j
      have ea : sl_ (hs.map (argOf ρ)) j = argS (sl_ ρ i) := by rw [sl_map ej]; rfl
      rw [ea] at hok
      rw [rv]
      cases q : sl_ ρ i with
      | ow t =>
        rw [q] at hok
        cases q2 : sl_ outs j with
        | io u => rw [q2] at ho; exact ho
        | sd u => rw [q2] at ho; obtain ⟨p, x, _, y⟩ := ho; exact ⟨_, x, y⟩
        | _ => rw [q2] at hok; exact hok.elim
      | io t =>
        rw [q] at hok
        cases q2 : sl_ outs j with
        | io u => rw [q2] at ho; exact ho
        | sd u => rw [q2] at ho; exact ho
        | _ => rw [q2] at hok; exact hok.elim
      | _ => rw [q] at w; exact w.elim
  · rcases z with ⟨i, w, e⟩ | z
    · exact .inl ⟨i, own' i w, e⟩
    · exact (st.newP p (.inr z)).elim (fun z => .inl (sub p z)) .inr
  · rcases putOut_spec hs outs ρ i nd hl with ⟨a, _⟩ | ⟨w, j, ej, a⟩
    · rw [a]; exact pn
    · rw [a]
      cases q : sl_ ρ i with
      | io t => cases sl_ outs j <;> rfl
      | _ => rw [q] at pn w; first | exact w.elim | cases pn
end
section
variable {X : Cx} {Wx : WX} {e : Expr} {es : List Expr} {ds : Dn (List Hn)} {S : Sx} {j k : Nat} {x : Str} {p pos : Pos}
theorem call_run {f : Addr} {fd : FuncData} {ps : List Str} (mS : Mn S) (ma : Mn ds) (F : FnG X.prog X.w X.K X.mg X.base k f fd ps (spOf X.K ps.length S)) (len : ∀ ars Q, S ars Q → ars.length = ps.length)
    (σ : L2.St) (H : Hp) (Q : VK) (h : RD X.K (relE X.K) xr Wx (dCall S ds) σ H Q) : RD X.K (relOs X.K) nox Wx ds σ H fun vs H1 => spOf X.K ps.length S vs H1 Q (WE Wx σ) := by
  obtain ⟨W, ρ, rep, h⟩ := h
  refine rd_first ma rep h fun hs ρ1 ⟨nd, harg, q⟩ vs W1 H1 rl rep1 st pn => ?_
  obtain ⟨repA, hP⟩ := args_rep rep1 rl nd
  have hl : hs.length = ps.length := by rw [← len _ _ q, List.length_map]
  refine ⟨W1, hs.map (argOf ρ1), by rw [List.length_map]; exact hl, repA, fun i hi => ?_, mS _ _ _ q (fun r outs z v W' H' rlv fr repO stO ok => ?_) fun C fs outs z d W' H' ed repO stO ok => ?_⟩
  · have hi' : i < hs.length := by omega
    rw [sl_map (List.getElem?_eq_getElem hi')]
    exact harg _ (List.getElem_mem hi')
  · obtain ⟨rp, s2, p2⟩ := call_post rep1 rl nd repO stO ok
    have hlo : hs.length = outs.length := by rw [ok.1, List.length_map]
    refine z v W' H' ?_ rp (st.noxx.trans rep.wd s2) (pn.trans p2)
    unfold relE at rlv ⊢
    by_cases c : r.1 = true
    · rw [if_pos c] at rlv ⊢
      obtain ⟨p, e1, e2, e3, _⟩ := rlv
      refine ⟨p, e1, e2, e3, fun ⟨i, w, e⟩ => ?_⟩
      have w' := own_final nd hlo w
      obtain ⟨o, eo⟩ := rep1.wd p (rep1.rt p ⟨i, w', e⟩)
      rw [fr c p e1] at eo; cases eo
    · rw [if_neg c] at rlv ⊢; exact rlv
  · obtain ⟨rp, s2, p2⟩ := call_post (ext := fun _ => False) rep1 rl nd repO (by
      have : rooted (Rt (vs.map some) outs) (fun _ => False) = Rt (vs.map some) outs := by funext p; exact propext ⟨fun z => z.elim id False.elim, Or.inl⟩
      rw [this]; exact stO) ok
    exact z d W' H' ed rp (st.noxx.trans rep.wd (s2.subP fun p z => .inl z)) (pn.trans p2)
end
section
variable {X : Cx} {Wx : WX} {e : Expr} {es : List Expr} {ds : Dn (List Hn)} {S : Sx} {j k : Nat} {x : Str} {p pos : Pos}
/-- f(e, ..) -/
theorem xe_call (F : FnX X.prog X.w X.K X.mg X.base k x S) (hr : RoomG j X.A) (hk : k ≤ j) (tk : L2N.Takes X Wx) (ha : XA X Wx (e :: es) ds) (hg : Gl X x := by rfl) (hdb : (x == ("__debug__" : Str)) = false := by decide)
    (he : starEach (e :: es) X.env = (false, eval e X.env) :: starEach es X.env := by rfl) (hpl : (backTo pos (starEach es X.env)).any (·.1) = false := by rfl) : XE X Wx (.Call (.Name x p) (e :: es) [] pos) (dCall S ds) := by
  obtain ⟨⟨f, fd, ps, hm, hkp, F, hb, len⟩, mS⟩ := F
  exact ⟨PE.imp (pe_callG F (hr.mono hk) hg hm hkp hb tk ha.pa hdb he hpl) fun σ H Q h => call_run mS ha.mn F len σ H Q h, mn_call mS ha.mn⟩
end
/-- what becomes of the parameters -/
def outS : Sl → Sl
  | .io t => .io t
  | .sd t => .sd t
  | _ => .no
def outA : Sl → Sl → Sl
  | .io _, r => outS r
  | _, _ => .no
def outs : Rho → Rho → Rho
  | [], _ => []
  | a :: as, r :: rs => outA a r :: outs as rs
  | a :: as, [] => outA a .no :: outs as []
def fwish (ars : Rho) (Q : Po Rv) : PoS := ⟨fun ρ => Q.ok (false, .non) (outs ars ρ), fun r ρ => Q.ok r (outs ars ρ), fun _ => False, fun _ => False, fun C fs ρ => Q.ex C fs (outs ars ρ)⟩
theorem sl_cons {a : Sl} {as : Rho} : ∀ {i : Nat}, sl_ (a :: as) (i + 1) = sl_ as i := fun {i} => by unfold sl_; rw [List.getD_cons_succ]
theorem sl_nil {i : Nat} : sl_ [] i = .no := by unfold sl_; rw [List.getD_nil]
theorem sl_outs : ∀ (ars ρ : Rho) (i : Nat), sl_ (outs ars ρ) i = outA (sl_ ars i) (sl_ ρ i)
  | [], ρ, i => by unfold outs; rw [sl_nil]; rfl
  | a :: as, r :: rs, 0 => rfl
  | a :: as, [], 0 => by unfold outs; rw [sl_nil]; rfl
  | a :: as, r :: rs, i + 1 => by unfold outs; rw [sl_cons, sl_cons, sl_cons]; exact sl_outs as rs i
  | a :: as, [], i + 1 => by unfold outs; rw [sl_cons, sl_cons, sl_outs as [] i, sl_nil, sl_nil]
theorem len_outs : ∀ (ars ρ : Rho), (outs ars ρ).length = ars.length
  | [], _ => rfl
  | a :: as, r :: rs => by unfold outs; rw [List.length_cons, List.length_cons, len_outs as rs]
  | a :: as, [] => by unfold outs; rw [List.length_cons, List.length_cons, len_outs as []]
theorem outA_own {a r : Sl} (h : (outA a r).own) : (∃ t, a = .io t) ∧ ∃ t, r = .io t := by
  cases a with
  | io t => exact ⟨⟨t, rfl⟩, by cases r <;> first | exact ⟨_, rfl⟩ | exact h.elim⟩
  | _ => exact h.elim
section
variable {K : PySem.W.Frag} {W W' : Ad} {H H' : Hp} {vs : List V} {ars ρ' : Rho} {σ' : L2.St} {N : List Str} {n : Nat}
theorem sl_start {i m : Nat} : sl_ (ars ++ List.replicate m .no) i = sl_ ars i := by
  unfold sl_
  rw [List.getD_eq_getElem?_getD, List.getD_eq_getElem?_getD, List.getElem?_append]
  by_cases h : i < ars.length
  · rw [if_pos h]
  · rw [if_neg h, List.getElem?_eq_none (l := ars) (by omega)]
    cases q : (List.replicate m Sl.no)[i - ars.length]? with
    | none => rfl
    | some s => have := List.eq_of_mem_replicate (List.mem_of_getElem? q); rw [this]; rfl
theorem at_start {i m : Nat} : at_ (vs.map some ++ List.replicate m none) i = at_ (vs.map some) i := by
  unfold at_
  rw [List.getD_eq_getElem?_getD, List.getD_eq_getElem?_getD, List.getElem?_append]
  by_cases h : i < (vs.map some).length
  · rw [if_pos h]
  · rw [if_neg h, List.getElem?_eq_none (l := vs.map some) (by omega)]
    cases q : (List.replicate m (none : Option V))[i - (vs.map some).length]? with
    | none => rfl
    | some s => have := List.eq_of_mem_replicate (List.mem_of_getElem? q); rw [this]; rfl
theorem rt_start {m : Nat} : Rt (vs.map some ++ List.replicate m none) (ars ++ List.replicate m .no) = Rt (vs.map some) ars := by
  funext p
  unfold Rt
  simp only [sl_start, at_start]
theorem Rep.start {m : Nat} (rep : Rep K W H (vs.map some) ars) : Rep K W H (vs.map some ++ List.replicate m none) (ars ++ List.replicate m .no) :=
  ⟨by rw [List.length_append, List.length_append, List.length_replicate, List.length_replicate, rep.len], fun i => by rw [sl_start, at_start]; exact rep.sl i, fun i j p => by rw [sl_start, sl_start, at_start, at_start]; exact rep.inj i j p, rep.wd⟩
/-- at a def's end -/
theorem ends {m : Nat} (rep : Rep K W H (vs.map some) ars) (harg : ∀ i, i < ars.length → (sl_ ars i).arg = true) (rep' : Rep K W' H' σ' ρ')
    (io : IoK (vs.map some ++ List.replicate m none) (ars ++ List.replicate m .no) σ' ρ') : Rep K W' H' (vs.map some) (outs ars ρ') ∧ OutOk ars (outs ars ρ') ∧ (∀ p, Rt (vs.map some) (outs ars ρ') p → Rt σ' ρ' p) ∧
      ∀ p, Rt (vs.map some) ars p → W' p → Rt σ' ρ' p := by
  have iok : ∀ i, (sl_ ars i).pin = true → (sl_ ρ' i).pin = true ∧ at_ σ' i = at_ (vs.map some) i := fun i h => by
    have := io i (by rw [sl_start]; exact h)
    rw [at_start] at this
    exact this
  have own' : ∀ i, (sl_ (outs ars ρ') i).own → (sl_ ρ' i).own ∧ at_ σ' i = at_ (vs.map some) i := fun i w => by
    rw [sl_outs] at w
    obtain ⟨⟨t, e1⟩, u, e2⟩ := outA_own w
    exact ⟨by rw [e2]; trivial, (iok i (by rw [e1]; rfl)).2⟩
  refine ⟨⟨by rw [len_outs]; exact rep.len, fun i => ?_, fun a b p wa wb ea eb => rep'.inj a b p (own' a wa).1 (own' b wb).1 (by rw [(own' a wa).2]; exact ea) (by rw [(own' b wb).2]; exact eb), rep'.wd⟩, ⟨len_outs _ _, fun i => ?_⟩,
    fun p ⟨i, w, e⟩ => ⟨i, (own' i w).1, by rw [(own' i w).2]; exact e⟩, fun p ⟨i, w, e⟩ hw => ?_⟩
  · rw [sl_outs]
    cases q : sl_ ars i with
    | io t =>
      obtain ⟨pn, ea⟩ := iok i (by rw [q]; rfl)
      have hs := rep'.sl i
      rw [ea] at hs
      cases q2 : sl_ ρ' i with
      | io u => rw [q2] at hs; exact hs
      | sd u => rw [q2] at hs; exact hs
      | _ => trivial
    | _ => trivial
  · rw [sl_outs]
    cases q : sl_ ars i with
    | io t =>
      obtain ⟨pn, _⟩ := iok i (by rw [q]; rfl)
      cases q2 : sl_ ρ' i with
      | io u => trivial
      | sd u => trivial
      | _ => rw [q2] at pn; cases pn
    | _ => trivial
  · have hi := sl_lt (own_ne w)
    have ha := harg i hi
    cases q : sl_ ars i with
    | io t =>
      obtain ⟨pn, ea⟩ := iok i (by rw [q]; rfl)
      have hs := rep'.sl i
      rw [ea, e] at hs
      cases q2 : sl_ ρ' i with
      | io u => exact ⟨i, by rw [q2]; trivial, by rw [ea]; exact e⟩
      | sd u => rw [q2] at hs; obtain ⟨p', e', ⟨n, _⟩, _⟩ := hs; cases e'; exact (n hw).elim
      | _ => rw [q2] at pn; cases pn
    | sh t => rw [q] at w; exact w.elim
    | _ => rw [q] at ha; cases ha
/-- a def's body does what S says -/
theorem body_run {S : Sx} {d : Ds} {m : Nat} {E : XK} {Q : VK} {C : Addr} (mS : Mn S) (md : MnS d) (hS : ∀ ars Q, S ars Q → d (ars ++ List.replicate m .no) (fwish ars Q)) (h : spOf K n S vs H Q E) :
    RS K (fun cls d _ H => E cls d H) d { nx := fun _ H' => Q .non H', rt := Q } (vs.map some ++ List.replicate m none) H := by
  obtain ⟨W, ars, hn, rep, harg, q⟩ := h
  have harg : ∀ i, i < ars.length → (sl_ ars i).arg = true := fun i hi => harg i (by rw [← hn]; exact hi)
  refine ⟨W, ars ++ List.replicate m .no, rep.start, md _ _ _ (hS _ _ q) (fun ρ' z σ' W' H' rp st io => ?_) (fun r ρ' z v σ' W' H' rl rp st io => ?_) (fun _ z => False.elim z) (fun _ z => False.elim z) fun C fs ρ' z dx σ' W' H' ed rp st io => ?_⟩
  · obtain ⟨r1, r2, r3, _⟩ := ends rep harg rp io
    rw [rt_start] at st
    exact z .non W' H' (relE_sh .non) (fun h => Bool.noConfusion h) r1 (by rw [xr_sh]; exact st.subP r3) r2
  · obtain ⟨r1, r2, r3, r4⟩ := ends rep harg rp io
    rw [rt_start] at st
    refine z v W' H' ?_ (fun c p e => ?_) r1 (st.subP fun p z => z.elim (fun z => .inl (r3 p z)) .inr) r2
    · unfold relE at rl ⊢
      by_cases c : r.1 = true
      · rw [if_pos c] at rl ⊢
        obtain ⟨p, e1, e2, e3, e4⟩ := rl
        exact ⟨p, e1, e2, e3, fun z => e4 (r3 p z)⟩
      · rw [if_neg c] at rl ⊢; exact rl
    · unfold relE at rl
      rw [if_pos c] at rl
      obtain ⟨p', e1, e2, e3, e4⟩ := rl
      rw [e] at e1; cases e1
      exact (st.newP p (.inr ⟨c, e⟩)).elim (fun z => (e4 (r4 p z e2)).elim) id
  · obtain ⟨r1, r2, r3, _⟩ := ends rep harg rp io
    rw [rt_start] at st
    exact z dx W' H' ed r1 (st.subP r3) r2
end
/-- THE RULE for a def: its body's denotation, and what that does -/
theorem FnX.of {P : Program} {w : World} {K : PySem.W.Frag} {mg : Str → Option Value} {base : Heap} {k : Nat} {x : Str} {S : Sx} {qual : Str} {st : Stmt} {N ps : List Str} {f : Addr} {fd : FuncData} (d : Ds)
    (F : FunD K x qual (defArgs st) (defBody st) (defScope st) [] [] f fd) (hm : mg x = some (.ref f)) (Sc : FnScope N ps (defScope st))
    (hb : ∀ (kV doc pm : Value) (an : Option Addr) (cdv ct : Value) (us : List Value), us.length = ps.length → bindArgs (PySem.W.fnOf x qual (defArgs st) (defBody st) (defScope st) .none kV doc pm an cdv ct) ⟨us, []⟩ = pure (ps.zip us))
    (mS : Mn S) (len : ∀ ars Q, S ars Q → ars.length = ps.length)
    (body : ∀ (cdv : Value) (A : Around) (outer : List Env) (s : Shared) (H : Hp) (E : XK), RoomG k (A.deeper (envOfC qual (defScope st) s.heap.objs.size f cdv)) → XSs (cxOf (L2N.CX P w) P w K mg base N qual (defScope st) f cdv A outer s H E) (fun cls d _ H => E cls d H) (defBody st) d)
    (hS : ∀ ars Q, S ars Q → d (ars ++ List.replicate (N.length - ps.length) .no) (fwish ars Q)) : FnX P w K mg base (k + 1) x S := by
  refine ⟨⟨f, fd, ps, hm, F.kp, FnG.by F Sc (fun vs H Q E h => ?_) (fun cdv A outer s H vs Q E hr h => ?_), F.bindsN hb, len⟩, mS⟩
  · obtain ⟨W, ars, hn, rep, _⟩ := h
    rw [← hn, rep.len, List.length_map]
  · have hl : vs.length = ps.length := by obtain ⟨W, ars, hn, rep, _⟩ := h; rw [← hn, rep.len, List.length_map]
    have B := body cdv A outer s H E hr
    refine ⟨_, B.pss, ?_⟩
    show RS K _ d _ (vs.map some ++ List.replicate (N.length - vs.length) none) H
    rw [hl]
    exact body_run (C := f) mS B.mn hS h
end O
namespace O
open PySem PySem.Spec PyProof.Rows L2
/-- a target of names alone -/
inductive Tg where
  | one (i : Nat) | tup (is : List Nat)
def gNms : List Nat → TGs
  | [] => gNil
  | i :: is => gCons (gName i) (gNms is)
def gTg (K : PySem.W.Frag) : Tg → TG
  | .one i => gName i
  | .tup is => gTup K is.length (gNms is)
def Tg.ix : Tg → List Nat
  | .one i => [i]
  | .tup is => is
def cNms : List Nat → List T → Rho → (Rho → Prop) → Prop
  | [], ts, ρ, Q => ts = [] ∧ Q ρ
  | i :: is, ts, ρ, Q => ∃ t r, ts = t :: r ∧ (sl_ ρ i).pin = false ∧ cNms is r (ρ.set i (.sh t)) Q
def cTg : Tg → T → Rho → (Rho → Prop) → Prop
  | .one i, t, ρ, Q => (sl_ ρ i).pin = false ∧ Q (ρ.set i (.sh t))
  | .tup is, t, ρ, Q => ∃ ts, t = .tup ts ∧ ts.length = is.length ∧ cNms is ts ρ Q
theorem mn_cNms : ∀ (is : List Nat) (ts : List T) (ρ : Rho) (Q Q' : Rho → Prop), cNms is ts ρ Q → (∀ ρ', Q ρ' → Q' ρ') → cNms is ts ρ Q'
  | [], _, _, _, _, h, k => ⟨h.1, k _ h.2⟩
  | i :: is, _, _, _, _, ⟨t, r, e, p, h⟩, k => ⟨t, r, e, p, mn_cNms is _ _ _ _ h k⟩
theorem mn_cTg {g : Tg} {t : T} {ρ : Rho} {Q Q' : Rho → Prop} (h : cTg g t ρ Q) (k : ∀ ρ', Q ρ' → Q' ρ') : cTg g t ρ Q' := by
  cases g with
  | one i => exact ⟨h.1, k _ h.2⟩
  | tup is => obtain ⟨ts, e, l, h⟩ := h; exact ⟨ts, e, l, mn_cNms _ _ _ _ _ h k⟩
section
variable {X : Cx} {is : List Nat} {es : List Expr} {e : Expr} {pos : Pos}
theorem pc_name (i : Nat) {x : Str} (hN : X.N.Nodup) (hi : X.N[i]? = some x := by rfl) (hx : Loc X.env.scope x := by first | exact Or.inl rfl | exact Or.inr rfl) (hf : X.fn x = true ∨ X.env.scope.names.lookup x = some .local := by first | exact .inl rfl | exact .inr rfl) : PG X (.Name x pos) (gTg X.K (.one i)) := pg_name hN hi hx hf
theorem pc_nil : PGs X [] (gNms []) := pgs_nil
theorem pc_cons (i : Nat) {x : Str} (hN : X.N.Nodup) (hr : PGs X es (gNms is)) (hi : X.N[i]? = some x := by rfl) (hx : Loc X.env.scope x := by first | exact Or.inl rfl | exact Or.inr rfl) (hf : X.fn x = true ∨ X.env.scope.names.lookup x = some .local := by first | exact .inl rfl | exact .inr rfl)
    (hs : (assignEach (.Name x pos :: es) X.env).map (·.2) = assign (.Name x pos) X.env :: (assignEach es X.env).map (·.2) := by rfl) : PGs X (.Name x pos :: es) (gNms (i :: is)) := pgs_cons (pg_name hN hi hx hf) hr hs
theorem pc_tup {k : Nat} (hc : X.calm = true) (h : PGs X es (gNms is)) (hn : (assignEach es X.env).length = is.length := by rfl) (hst : (assignEach es X.env).findIdx? (·.1) = none := by rfl) : PG X (.Tuple es k pos) (gTg X.K (.tup is)) := pg_tup hc h hn hst
end
def wipeR (ρ : Rho) : List Nat → Rho
  | [] => ρ
  | v :: vs => (wipeR ρ vs).set v .no
/-- the slots vs of a, the others of b -/
def restore (a b : Rho) : List Nat → Rho
  | [] => b
  | v :: vs => (restore a b vs).set v (sl_ a v)
theorem len_wipe (ρ : Rho) : ∀ vs : List Nat, (wipeR ρ vs).length = ρ.length
  | [] => rfl
  | v :: vs => by unfold wipeR; rw [List.length_set, len_wipe ρ vs]
theorem len_restore (a b : Rho) : ∀ vs : List Nat, (restore a b vs).length = b.length
  | [] => rfl
  | v :: vs => by unfold restore; rw [List.length_set, len_restore a b vs]
theorem sl_wipe {ρ : Rho} {i : Nat} : ∀ {vs : List Nat}, sl_ (wipeR ρ vs) i = if i ∈ vs then .no else sl_ ρ i
  | [] => by simp [wipeR]
  | v :: vs => by
    unfold wipeR
    rw [sl_set, sl_wipe (vs := vs), len_wipe]
    by_cases e : v = i
    · subst e
      by_cases l : v < ρ.length
      · simp [l]
      · have : sl_ ρ v = .no := by unfold sl_; rw [List.getD_eq_getElem?_getD, List.getElem?_eq_none (by omega)]; rfl
        simp [l, this]
    · have e' : ¬ i = v := fun z => e z.symm
      simp [e, e']
theorem sl_restore {a b : Rho} (hl : a.length = b.length) {i : Nat} : ∀ {vs : List Nat}, sl_ (restore a b vs) i = if i ∈ vs then sl_ a i else sl_ b i
  | [] => by simp [restore]
  | v :: vs => by
    unfold restore
    rw [sl_set, sl_restore hl (vs := vs), len_restore]
    by_cases e : v = i
    · subst e
      by_cases l : v < b.length
      · simp [l]
      · have h1 : sl_ a v = .no := by unfold sl_; rw [List.getD_eq_getElem?_getD, List.getElem?_eq_none (by omega)]; rfl
        have h2 : sl_ b v = .no := by unfold sl_; rw [List.getD_eq_getElem?_getD, List.getElem?_eq_none (by omega)]; rfl
        rw [h1, h2, if_neg (fun c => l c.2), ite_self, ite_self]
    · have e' : ¬ i = v := fun z => e z.symm
      simp [e, e']
theorem at_wipe {σ : L2.St} {i : Nat} : ∀ {vs : List Nat}, at_ (wipe σ vs) i = if i ∈ vs then none else at_ σ i
  | [] => by simp [wipe]
  | v :: vs => by
    unfold wipe
    rw [at_set, at_wipe (vs := vs), wipe_length]
    by_cases e : v = i
    · subst e
      by_cases l : v < σ.length
      · simp [l]
      · have : at_ σ v = none := by unfold at_; rw [List.getD_eq_getElem?_getD, List.getElem?_eq_none (by omega)]; rfl
        simp [l, this]
    · have e' : ¬ i = v := fun z => e z.symm
      simp [e, e']
theorem st_ext {a b : L2.St} (hl : a.length = b.length) (h : ∀ j, at_ a j = at_ b j) : a = b := by
  apply List.ext_getElem?
  intro j
  have : ∀ (τ : L2.St), τ[j]? = if j < τ.length then some (at_ τ j) else none := fun τ => by
    unfold at_
    rw [List.getD_eq_getElem?_getD]
    by_cases l : j < τ.length
    · rw [if_pos l, List.getElem?_eq_getElem l]; rfl
    · rw [if_neg l, List.getElem?_eq_none (by omega)]
  rw [this, this, hl, h j]
theorem wipe_set {σ : L2.St} {i : Nat} {o : Option V} {vs : List Nat} (h : i ∈ vs) : wipe (σ.set i o) vs = wipe σ vs := by
  refine st_ext (by rw [wipe_length, wipe_length, List.length_set]) fun j => ?_
  rw [at_wipe, at_wipe, at_set]
  by_cases hj : j ∈ vs
  · rw [if_pos hj, if_pos hj]
  · rw [if_neg hj, if_neg hj, if_neg (fun c : i = j ∧ i < σ.length => hj (c.1 ▸ h))]
theorem wipe_idem {σ : L2.St} {vs : List Nat} : wipe (wipe σ vs) vs = wipe σ vs := by
  refine st_ext (by rw [wipe_length]) fun j => ?_
  rw [at_wipe, at_wipe]
  by_cases hj : j ∈ vs
  · rw [if_pos hj, if_pos hj]
  · rw [if_neg hj, if_neg hj]
def noex : Addr → List (Str × T) → Rho → Prop := fun _ _ _ => False
def compD (vs : List Nat) (g : Tg) (tt : Dn Bool) (te : Dn Rv) (k : List T → Rho → Prop) : List T → List T → Rho → Prop
  | [], acc, ρ => k acc ρ
  | t :: ts, acc, ρ => cTg g t ρ fun ρ1 => tt ρ1 ⟨fun b ρ2 => ifB b (te ρ2 ⟨fun r ρ3 => acc.length < sizeLine ∧ compD vs g tt te k ts (acc ++ [r.2]) (wipeR ρ3 vs), noex⟩) (compD vs g tt te k ts acc (wipeR ρ2 vs)), noex⟩
/-- [te for g in di if tt] -/
def dComp (vs : List Nat) (di : Di) (g : Tg) (tt : Dn Bool) (te : Dn Rv) : Dn Rv := fun ρ Q => di ρ ⟨fun ts ρ1 => compD vs g tt te (fun acc ρ2 => Q.ok (true, .lst acc) (restore ρ1 ρ2 vs)) ts [] (wipeR ρ1 vs), Q.ex⟩
def dYes : Dn Bool := fun ρ Q => Q.ok true ρ
theorem mn_compD {vs : List Nat} {g : Tg} {tt : Dn Bool} {te : Dn Rv} {k k' : List T → Rho → Prop} (mt : Mn tt) (me : Mn te) (h : ∀ a ρ, k a ρ → k' a ρ) : ∀ ts acc ρ, compD vs g tt te k ts acc ρ → compD vs g tt te k' ts acc ρ
  | [], acc, ρ, q => h _ _ q
  | t :: ts, acc, ρ, q => mn_cTg q fun ρ1 z => mt _ _ _ z (fun b ρ2 z => ifB_mono z (fun z => me _ _ _ z (fun r ρ3 z => ⟨z.1, mn_compD mt me h ts _ _ z.2⟩) fun _ _ _ z => z) fun z => mn_compD mt me h ts _ _ z) fun _ _ _ z => z
theorem mn_comp {vs : List Nat} {di : Di} {g : Tg} {tt : Dn Bool} {te : Dn Rv} (mi : Mn di) (mt : Mn tt) (me : Mn te) : Mn (dComp vs di g tt te) := fun ρ Q Q' h k e => mi _ _ _ h (fun ts ρ1 z => mn_compD mt me (fun a ρ2 z => k _ _ z) _ _ _ z) e
section
variable {K : PySem.W.Frag} {σ : L2.St} {ρ : Rho} {W : Ad} {H : Hp}
/-- a free owned object is written -/
theorem Rep.writeFree {p : Addr} {o : HO} (r : Rep K W H σ ρ) (hw : W p) (hn : ¬ Rt σ ρ p) : Rep K W (upd H p o) σ ρ := by
  have k : ∀ q u, H q = some u → ¬ q = p → upd H p o q = some u := fun q u e n => by rw [upd_ne n]; exact e
  have kw : ∀ q, q = p → W q := fun q e => by rw [e]; exact hw
  have dom : ∀ q u, H q = some u → ∃ u', upd H p o q = some u' := fun q u e => by
    by_cases c : q = p
    · rw [c, upd_same]; exact ⟨_, rfl⟩
    · exact ⟨u, k q u e c⟩
  refine ⟨r.len, fun j => ?_, r.inj, fun q z => by obtain ⟨u, e⟩ := r.wd q z; exact dom q u e⟩
  have hs := r.sl j
  have ne : ∀ q, (sl_ ρ j).own → at_ σ j = some (.ref q) → q ≠ p := fun q w e z => hn ⟨j, w, by rw [← z]; exact e⟩
  cases q : sl_ ρ j with
  | no => trivial
  | sh t => rw [q] at hs; obtain ⟨u, e1, e2⟩ := hs; exact ⟨u, e1, e2.write hw⟩
  | sd t => rw [q] at hs; obtain ⟨u, e1, ⟨e2, ob, eo⟩, e3⟩ := hs; exact ⟨u, e1, ⟨e2, dom _ _ eo⟩, e3.write hw⟩
  | ow t => rw [q] at hs; obtain ⟨u, e1, e2, e3⟩ := hs; exact ⟨u, e1, e2, e3.keep (P := fun q => q = p) k kw (fun _ z => .inl z) fun v e => k u v e (ne u (by rw [q]; trivial) e1)⟩
  | io t => rw [q] at hs; obtain ⟨u, e1, e2, e3⟩ := hs; exact ⟨u, e1, e2, e3.keep (P := fun q => q = p) k kw (fun _ z => .inl z) fun v e => k u v e (ne u (by rw [q]; trivial) e1)⟩
/-- the target's names -/
theorem nms_run {vs : List Nat} : ∀ (is : List Nat) (xs : List V) (ts : List T) (σ : L2.St) (ρ : Rho) (Q : Rho → Prop) (R : L2.St → Hp → Prop), (∀ i ∈ is, i ∈ vs) → Rep K W H σ ρ → IsL K W H xs ts → cNms is ts ρ Q →
    (∀ σ2 ρ2, Rep K W H σ2 ρ2 → (∀ p, Rt σ2 ρ2 p → Rt σ ρ p) → IoK σ ρ σ2 ρ2 → wipe σ2 vs = wipe σ vs → Q ρ2 → R σ2 H) → gNms is xs σ H R
  | [], xs, ts, σ, ρ, Q, R, hv, rep, is, ⟨e, q⟩, k => by
    subst e
    cases is
    exact ⟨rfl, k σ ρ rep (fun _ z => z) (IoK.refl _ _) rfl q⟩
  | i :: is, xs, ts, σ, ρ, Q, R, hv, rep, hl, ⟨t, r, e, pf, q⟩, k => by
    subst e
    cases hl with
    | cons a b =>
      refine ⟨_, _, rfl, ?_⟩
      obtain ⟨rp, sub⟩ := rep.put (r := (false, t)) (relE_sh a) i
      rw [xr_sh] at sub
      refine nms_run is _ _ _ _ Q R (fun j hj => hv j (List.mem_cons_of_mem _ hj)) rp b q fun σ2 ρ2 r2 s2 io w q2 => ?_
      exact k σ2 ρ2 r2 (fun p z => sub p (s2 p z)) ((ioK_put pf).trans io) (by rw [w, wipe_set (hv i List.mem_cons_self)]) q2
theorem tg_run {vs : List Nat} {g : Tg} {v : V} {t : T} {Q : Rho → Prop} {R : L2.St → Hp → Prop} (hv : ∀ i ∈ g.ix, i ∈ vs) (rep : Rep K W H σ ρ) (is : Is K W H v t) (h : cTg g t ρ Q)
    (k : ∀ σ2 ρ2, Rep K W H σ2 ρ2 → (∀ p, Rt σ2 ρ2 p → Rt σ ρ p) → IoK σ ρ σ2 ρ2 → wipe σ2 vs = wipe σ vs → Q ρ2 → R σ2 H) : gTg K g v σ H R := by
  cases g with
  | one i =>
    obtain ⟨pf, q⟩ := h
    obtain ⟨rp, sub⟩ := rep.put (r := (false, t)) (relE_sh is) i
    rw [xr_sh] at sub
    exact k _ _ rp sub (ioK_put pf) (wipe_set (hv i List.mem_cons_self)) q
  | tup is' =>
    obtain ⟨ts, e, l, q⟩ := h
    subst e
    cases is with
    | tup r w ll => exact ⟨_, _, rfl, .of r, by rw [ll.length]; exact l, nms_run is' _ _ _ _ Q R hv rep ll q k⟩
    | tupK r ll => exact ⟨_, _, rfl, .inr r, by rw [ll.length]; exact l, nms_run is' _ _ _ _ Q R hv rep ll q k⟩
theorem Step.widen {P Q W P' W' : Ad} {H H' : Hp} (a : Step P W H P' W' H') (h : ∀ p, P p → Q p) : Step Q W H P' W' H' := ⟨fun p o e n => a.keep p o e fun z => n (h p z), a.dom, fun p w n => a.stay p w fun z => n (h p z), a.new, fun p z => (a.newP p z).elim (fun z => .inl (h p z)) .inr⟩
theorem Step.keepP {P W P' P'' W' : Ad} {H H' : Hp} (a : Step P W H P' W' H') (h : ∀ p, P'' p → P p ∨ H p = none) : Step P W H P'' W' H' := ⟨a.keep, a.dom, a.stay, a.new, h⟩
theorem rep_wipe {vs : List Nat} (rep : Rep K W H σ ρ) : Rep K W H (wipe σ vs) (wipeR ρ vs) ∧ ∀ p, Rt (wipe σ vs) (wipeR ρ vs) p → Rt σ ρ p := by
  have own' : ∀ i, (sl_ (wipeR ρ vs) i).own → i ∉ vs ∧ (sl_ ρ i).own := fun i w => by
    rw [sl_wipe] at w
    by_cases c : i ∈ vs
    · rw [if_pos c] at w; exact w.elim
    · rw [if_neg c] at w; exact ⟨c, w⟩
  have at' : ∀ i, i ∉ vs → at_ (wipe σ vs) i = at_ σ i := fun i c => by rw [at_wipe, if_neg c]
  refine ⟨⟨by rw [len_wipe, wipe_length]; exact rep.len, fun i => ?_, fun a b p wa wb ea eb => ?_, rep.wd⟩, fun p ⟨i, w, e⟩ => ?_⟩
  · rw [sl_wipe]
    by_cases c : i ∈ vs
    · rw [if_pos c]; trivial
    · rw [if_neg c, at' i c]; exact rep.sl i
  · rw [at' a (own' a wa).1] at ea
    rw [at' b (own' b wb).1] at eb
    exact rep.inj a b p (own' a wa).2 (own' b wb).2 ea eb
  · rw [at' i (own' i w).1] at e
    exact ⟨i, (own' i w).2, e⟩
end
/-- no exception leaves a comprehension's block -/
def noW : WX := fun _ _ _ _ => False
theorem takes_blk {X : Cx} {s : Shared} {H : Hp} {scope : Scope} {cenv : Env} {fp : List Addr} : L2N.Takes (X.blk s H scope cenv fp) noW := fun u s' h => by
  obtain ⟨a, B, sI, pins, σ, H, cls, d, _, _, _, _, _, _, _, _, w⟩ := h
  exact w
structure XTs (X : Cx) (Wx : WX) (ifs : List Expr) (d : Dn Bool) : Prop where
  pts : PTs X ifs (RD X.K relB nox Wx d)
  mn : Mn d
theorem PTs.imp {X : Cx} {e : List Expr} {t t' : TT} (h : PTs X e t) (i : ∀ σ H Q, t' σ H Q → t σ H Q) : PTs X e t' := ⟨fun pins s σ H Q I q => h.run pins s σ H Q I (i σ H Q q)⟩
theorem xts_nil {X : Cx} {Wx : WX} : XTs X Wx [] dYes := ⟨PTs.imp pts_nil fun σ H Q ⟨W, ρ, rep, q⟩ => q true W H rfl rep (Step.refl _ _ _).toNox (Pn.refl _), fun ρ Q Q' h k _ => k _ _ h⟩
theorem xts_one {X : Cx} {Wx : WX} {c : Expr} {d : Dn Bool} (h : XT X Wx c d) : XTs X Wx [c] d := ⟨pts_one h.pt, h.mn⟩
section
variable {K : PySem.W.Frag} {Wx : WX}
theorem lc_run {vs : List Nat} {di : Di} {g : Tg} {tt : Dn Bool} {te : Dn Rv} (mi : Mn di) (mt : Mn tt) (me : Mn te) (hv : ∀ i ∈ g.ix, i ∈ vs) (σ : L2.St) (H : Hp) (Q : VK) (h : RD K (relE K) xr Wx (dComp vs di g tt te) σ H Q) :
    tLc (RI K Wx di) (gTg K g) (RD K relB nox noW tt) (RD K (relE K) xr noW te) vs σ H Q := by
  obtain ⟨W, ρ, rep, h⟩ := h
  refine ⟨W, ρ, rep, mi _ _ _ h (fun ts ρ1 q J W1 H1 rep1 st1 pn1 yl => ?_) fun _ _ _ z => z⟩
  intro D hD
  obtain ⟨repw, subw⟩ := rep_wipe (vs := vs) rep1
  let τ := wipe σ vs
  let P0 := Rt τ (wipeR ρ1 vs)
  have wdD : ¬ W1 D := fun z => by obtain ⟨o, e⟩ := rep1.wd D z; rw [hD] at e; cases e
  -- the state ahead of a turn
  let Z := fun (k : Nat) (H' : Hp) => ∃ W' ρ' acc accV, Rep K W' H' τ ρ' ∧ (∀ i ∈ vs, sl_ ρ' i = .no) ∧ H' D = some (.lst accV) ∧ IsL K W' H' accV acc ∧ W' D ∧ ¬ Rt τ ρ' D ∧
    compD vs g tt te (fun acc ρ2 => (cpost K (relE K) xr Wx σ ρ W H Q).ok (true, .lst acc) (restore ρ1 ρ2 vs)) (ts.drop k) acc ρ' ∧ Step P0 W1 H1 (rooted (Rt τ ρ') fun p => p = D) W' H' ∧ Lt W1 H1 W' H' ∧ Pn (wipeR ρ1 vs) ρ'
  have hZ0 : Z 0 (upd H1 D (.lst [])) := by
    have same := kept_upd (o := .lst []) hD
    refine ⟨plus W1 D, wipeR ρ1 vs, [], [], repw.grow same hD ⟨_, upd_same⟩, fun i hi => by rw [sl_wipe, if_pos hi], upd_same, .nil, .inr rfl, fun z => wdD (repw.rt _ z), by rw [List.drop_zero]; exact q,
      ⟨fun p o e _ => same p o e, fun p o e => ⟨o, same p o e⟩, fun p z _ => .inl z, fun p z => z.elim .inl fun e => .inr (by rw [e]; exact hD), fun p z => z.elim .inl fun e => .inr (by rw [e]; exact hD)⟩,
      ⟨fun p o e _ => same p o e, fun p z => z.elim .inl fun e => .inr (by rw [e]; exact hD), fun p o e => ⟨o, same p o e⟩⟩, Pn.refl _⟩
  refine ⟨fun i m H' => m = ts.length - i ∧ i ≤ ts.length ∧ Z i H', ⟨_, rfl, Nat.zero_le _, hZ0⟩, ?_⟩
  rintro i m H2 ⟨rfl, hle, W2, ρ2, acc, accV, rep2, nov, eD, lD, wD, nD, q2, st2, lt2, pn2⟩
  obtain ⟨ys, yg⟩ := yl W2 H2 lt2 rep2.wd
  have hP0 : ∀ p, P0 p → W1 p := fun p z => repw.rt p z
  -- behind a part of the turn
  have go_on : ∀ {σ4 : L2.St} {W4 : Ad} {ρ4 : Rho} {H4 : Hp}, Rep K W4 H4 σ4 ρ4 → wipe σ4 vs = τ → Step (Rt τ ρ2) W2 H2 (Rt σ4 ρ4) W4 H4 → Pn ρ2 ρ4 → H4 D = some (.lst accV) ∧ IsL K W4 H4 accV acc ∧ W4 D ∧ ¬ Rt σ4 ρ4 D := fun {σ4 W4 ρ4 H4} rp e st pn =>
    ⟨st.keep D _ eD nD, lD.step st rep2.rt, st.stay D wD nD, fun z => (st.newP D z).elim nD fun e => by rw [eD] at e; cases e⟩
  have close : ∀ {σ4 : L2.St} {W4 : Ad} {ρ4 : Rho} {H6 H4 : Hp} (acc' : List T) (accV' : List V) (k : Nat), Rep K W4 H4 σ4 ρ4 → wipe σ4 vs = τ → Step (Rt τ ρ2) W2 H2 (Rt σ4 ρ4) W4 H6 → (∀ p, p ≠ D → H4 p = H6 p) → Pn ρ2 ρ4 → H4 D = some (.lst accV') → IsL K W4 H4 accV' acc' → W4 D → ¬ Rt σ4 ρ4 D →
      compD vs g tt te (fun acc ρ2 => (cpost K (relE K) xr Wx σ ρ W H Q).ok (true, .lst acc) (restore ρ1 ρ2 vs)) (ts.drop k) acc' (wipeR ρ4 vs) → Z k H4 := fun {σ4 W4 ρ4 H6 H4} acc' accV' k rp e st oD pn h1 h2 h3 h4 h5 => by
    obtain ⟨r', s'⟩ := rep_wipe (vs := vs) rp
    rw [e] at r' s'
    have neD : ∀ p o, H1 p = some o → p ≠ D := fun p o e z => by rw [z, hD] at e; cases e
    have lt4 := lt2.step rep2.rt st
    refine ⟨W4, wipeR ρ4 vs, acc', accV', r', fun i hi => by rw [sl_wipe, if_pos hi], h1, h2, h3, fun z => h4 (s' _ z), h5, ?_, ⟨fun p o e n => by rw [oD p (neD p o e)]; exact lt4.keep p o e n, lt4.new, fun p o e => by rw [oD p (neD p o e)]; exact lt4.dom p o e⟩, fun i z => ?_⟩
    · refine ⟨fun p o e n => ?_, fun p o e => ?_, fun p w n => ?_, fun p z => ?_, fun p z => ?_⟩
      · rw [oD p (neD p o e)]
        exact st.keep p o (st2.keep p o e n) fun z => (st2.newP p (.inl z)).elim n fun q => by rw [e] at q; cases q
      · rw [oD p (neD p o e)]
        obtain ⟨o', e'⟩ := st2.dom p o e; exact st.dom p o' e'
      · exact st.stay p (st2.stay p w n) fun z => (st2.newP p (.inl z)).elim n fun q => by obtain ⟨o, e⟩ := rep1.wd p w; rw [q] at e; cases e
      · exact (st.new p z).elim (st2.new p) fun q => .inr (st2.none_of q)
      · rcases z with z | z
        · exact (st.newP p (s' p z)).elim (fun z => st2.newP p (.inl z)) fun q => .inr (st2.none_of q)
        · exact .inr (by rw [z]; exact hD)
    · have hi : i ∉ vs := fun hi => by rw [sl_wipe, if_pos hi] at z; cases z
      rw [sl_wipe, if_neg hi]
      exact pn i (pn2 i z)
  by_cases hlt : i < ts.length
  · rw [List.drop_eq_getElem_cons hlt] at q2
    obtain ⟨go, yi⟩ := yg i ts[i] (List.getElem?_eq_getElem hlt)
    refine .inr ⟨go, Z (i + 1), fun H' z => ⟨ts.length - (i + 1), by omega, rfl, hlt, z⟩, fun x H3 y => ?_⟩
    obtain ⟨same, is⟩ := yi x H3 y
    have sm : Step (Rt τ ρ2) W2 H2 (Rt τ ρ2) W2 H3 := Step.same same
    refine tg_run (K := K) (vs := vs) hv (rep2.same same) is q2 fun σ4 ρ4 rp4 sub4 io4 w4 q4 => ?_
    have w4' : wipe σ4 vs = τ := by rw [w4]; exact wipe_idem
    refine ⟨w4', ?_⟩
    have pn4 : Pn ρ2 ρ4 := fun i z => (io4 i z).1
    have sm4 : Step (Rt τ ρ2) W2 H2 (Rt σ4 ρ4) W2 H3 := sm.subP sub4
    refine ⟨W2, ρ4, rp4, mt _ _ _ q4 (fun b ρ5 z b' W5 H5 rl5 rp5 st5 pn5 => ?_) fun _ _ _ z => z.elim⟩
    have rl5 : b' = b := rl5
    subst rl5
    have tot5 := sm4.trans rep2.wd st5.noxx
    have pnt5 := pn4.trans pn5
    show if b' = true then _ else _
    by_cases kb : b' = true
    · rw [if_pos kb]
      refine ⟨W5, ρ5, rp5, me _ _ _ (z.1 kb) (fun r ρ6 z v W6 H6 rl6 rp6 st6 pn6 => ?_) fun _ _ _ z => z.elim⟩
      obtain ⟨W7, s7, is7, rp7, st7⟩ := demote rp5.wd rl6 rp6 st6
      have tot7 := tot5.trans rep2.wd st7
      have pnt7 := pnt5.trans pn6
      obtain ⟨e1, e2, e3, e4⟩ := go_on rp7 w4' tot7 pnt7
      refine ⟨accV, e1, by rw [e2.length]; exact z.1, ?_⟩
      exact close (acc ++ [r.2]) (accV ++ [v]) (i + 1) (rp7.writeFree e3 e4) w4' tot7 (fun p n => upd_ne n) pnt7 upd_same ((e2.append (.cons is7 .nil)).write e3) e3 e4 z.2
    · rw [if_neg kb]
      obtain ⟨e1, e2, e3, e4⟩ := go_on rp5 w4' tot5 pnt5
      exact close acc accV (i + 1) rp5 w4' tot5 (fun _ _ => rfl) pnt5 e1 e2 e3 e4 (z.2 (by cases b' <;> first | rfl | exact absurd rfl kb))
  · have e : i = ts.length := by omega
    subst e
    rw [List.drop_length] at q2
    refine .inl ⟨ys, ?_⟩
    have hlen : ρ1.length = ρ2.length := by rw [rep1.len, rep2.len, wipe_length]
    -- the names that the block hid
    have hid : ∀ i p, i ∈ vs → (sl_ ρ1 i).own → at_ σ i = some (.ref p) → ¬ P0 p := fun i p hi w e ⟨j, wj, ej⟩ => by
      rw [sl_wipe] at wj
      by_cases c : j ∈ vs
      · rw [if_pos c] at wj; exact wj
      · rw [if_neg c] at wj
        rw [at_wipe, if_neg c] at ej
        have := rep1.inj i j p w wj e ej
        subst this
        exact c hi
    have own' : ∀ i, (sl_ (restore ρ1 ρ2 vs) i).own → (i ∈ vs ∧ (sl_ ρ1 i).own) ∨ (i ∉ vs ∧ (sl_ ρ2 i).own) := fun i w => by
      rw [sl_restore hlen] at w
      by_cases c : i ∈ vs
      · rw [if_pos c] at w; exact .inl ⟨c, w⟩
      · rw [if_neg c] at w; exact .inr ⟨c, w⟩
    have rt2 : ∀ p, Rt τ ρ2 p → P0 p ∨ H1 p = none := fun p z => st2.newP p (.inl z)
    have inner : ∀ i p, i ∉ vs → (sl_ ρ2 i).own → at_ σ i = some (.ref p) → Rt τ ρ2 p := fun i p c w e => ⟨i, w, by rw [at_wipe, if_neg c]; exact e⟩
    have apart : ∀ a b p, a ∈ vs → (sl_ ρ1 a).own → at_ σ a = some (.ref p) → b ∉ vs → (sl_ ρ2 b).own → at_ σ b = some (.ref p) → False := fun a b p ha wa ea hb wb eb => by
      rcases rt2 p (inner b p hb wb eb) with z | z
      · exact hid a p ha wa ea z
      · obtain ⟨o, e⟩ := rep1.wd p (rep1.rt p ⟨a, wa, ea⟩); rw [z] at e; cases e
    have repF : Rep K W2 H2 σ (restore ρ1 ρ2 vs) := by
      refine ⟨by rw [len_restore, rep2.len, wipe_length], fun i => ?_, fun a b p wa wb ea eb => ?_, rep2.wd⟩
      · rw [sl_restore hlen]
        by_cases c : i ∈ vs
        · rw [if_pos c]
          have hz := rep1.sl i
          have np := hid i
          cases q : sl_ ρ1 i with
          | no => trivial
          | sh t => rw [q] at hz; obtain ⟨v, e1, e2⟩ := hz; exact ⟨v, e1, e2.step st2 hP0⟩
          | sd t =>
            rw [q] at hz; obtain ⟨p, e1, ⟨e2, ob, eo⟩, e3⟩ := hz
            refine ⟨p, e1, ⟨fun z => (st2.new p z).elim e2 fun z => ?_, st2.dom p ob eo⟩, e3.step st2 hP0⟩
            rw [eo] at z; cases z
          | ow t => rw [q] at hz np; obtain ⟨p, e1, e2, e3⟩ := hz; have n := np p c trivial e1; exact ⟨p, e1, st2.stay p e2 n, e3.keep st2.keep hP0 st2.new fun o e => st2.keep p o e n⟩
          | io t => rw [q] at hz np; obtain ⟨p, e1, e2, e3⟩ := hz; have n := np p c trivial e1; exact ⟨p, e1, st2.stay p e2 n, e3.keep st2.keep hP0 st2.new fun o e => st2.keep p o e n⟩
        · rw [if_neg c]
          have hz := rep2.sl i
          rw [at_wipe, if_neg c] at hz
          exact hz
      · rcases own' a wa with ⟨ha, wa⟩ | ⟨ha, wa⟩ <;> rcases own' b wb with ⟨hb, wb⟩ | ⟨hb, wb⟩
        · exact rep1.inj a b p wa wb ea eb
        · exact (apart a b p ha wa ea hb wb eb).elim
        · exact (apart b a p hb wb eb ha wa ea).elim
        · exact rep2.inj a b p wa wb (by rw [at_wipe, if_neg ha]; exact ea) (by rw [at_wipe, if_neg hb]; exact eb)
    have nDF : ¬ Rt σ (restore ρ1 ρ2 vs) D := fun ⟨i, w, e⟩ => by
      rcases own' i w with ⟨c, w⟩ | ⟨c, w⟩
      · obtain ⟨o, e'⟩ := rep1.wd D (rep1.rt D ⟨i, w, e⟩); rw [hD] at e'; cases e'
      · exact nD (inner i D c w e)
    have stF : Step (Rt σ ρ1) W1 H1 (rooted (Rt σ (restore ρ1 ρ2 vs)) (xr (.ref D) (true, .lst acc))) W2 H2 := by
      refine (st2.widen subw).keepP fun p z => ?_
      rcases z with ⟨i, w, e⟩ | ⟨_, e⟩
      · rcases own' i w with ⟨c, w⟩ | ⟨c, w⟩
        · exact .inl ⟨i, w, e⟩
        · exact (rt2 p (inner i p c w e)).elim (fun z => .inl (subw p z)) .inr
      · cases e; exact .inr hD
    refine q2 (.ref D) W2 H2 ?_ repF (st1.trans rep.wd stF) (pn1.trans fun i z => ?_)
    · unfold relE
      rw [if_pos rfl]
      exact ⟨D, rfl, wD, ⟨accV, eD, lD⟩, nDF⟩
    · rw [sl_restore hlen]
      by_cases c : i ∈ vs
      · rw [if_pos c]; exact z
      · rw [if_neg c]; exact pn2 i (by rw [sl_wipe, if_neg c]; exact z)
end
section
variable {X : Cx} {Wx : WX}
theorem xe_lc {elt tg iter : Expr} {ifs : List Expr} {scope : Scope} {own : List (Str × Nat)} {pos : Pos} {di : Di} {g : Tg} {tt : Dn Bool} {te : Dn Rv} (hc : X.calm = true) (hN : X.N.Nodup) (hi : XI X Wx tg iter di) (ok : BlkOk X.N X.env.scope scope own) (hv : ∀ i ∈ g.ix, i ∈ own.map (·.2))
    (hg : ∀ (s : Shared) (H : Hp) (C : Addr) (cl : List (Str × Addr)) (fp : List Addr), PG (X.blk s H scope (compEnvC scope cl C X.env) fp) tg (gTg X.K g)) (ht : ∀ (s : Shared) (H : Hp) (C : Addr) (cl : List (Str × Addr)) (fp : List Addr), XTs (X.blk s H scope (compEnvC scope cl C X.env) fp) noW ifs tt)
    (he : ∀ (s : Shared) (H : Hp) (C : Addr) (cl : List (Str × Addr)) (fp : List Addr), XE (X.blk s H scope (compEnvC scope cl C X.env) fp) noW elt te) (hs : ∀ x, foldedSetIterable iter X.env x = pure x := by intro _; rfl) :
    XE X Wx (.ListComp elt [⟨tg, iter, ifs, 0⟩] scope pos) (dComp (own.map (·.2)) di g tt te) := by
  have mt := (ht X.s_0 X.H_0 0 [] []).mn
  have me := (he X.s_0 X.H_0 0 [] []).mn
  exact ⟨PE.imp (pe_lc (g := gTg X.K g) (tt := RD X.K relB nox noW tt) (te := RD X.K (relE X.K) xr noW te) hc hN hi.pi ok hg (fun s H C cl fp => (ht s H C cl fp).pts) (fun s H C cl fp => (he s H C cl fp).pe) hs) fun σ H Q h => lc_run hi.mn mt me hv σ H Q h, mn_comp hi.mn mt me⟩
/-- x = [..], x a local -/
theorem xs_setLc (i : Nat) {y : Str} {py : Pos} {elt tg iter : Expr} {ifs : List Expr} {scope : Scope} {own : List (Str × Nat)} {pos spos : Pos} {di : Di} {g : Tg} {tt : Dn Bool} {te : Dn Rv} (hc : X.calm = true) (hN : X.N.Nodup) (hi : XI X Wx tg iter di) (ok : BlkOk X.N X.env.scope scope own) (hv : ∀ i ∈ g.ix, i ∈ own.map (·.2))
    (hg : ∀ (s : Shared) (H : Hp) (C : Addr) (cl : List (Str × Addr)) (fp : List Addr), PG (X.blk s H scope (compEnvC scope cl C X.env) fp) tg (gTg X.K g)) (ht : ∀ (s : Shared) (H : Hp) (C : Addr) (cl : List (Str × Addr)) (fp : List Addr), XTs (X.blk s H scope (compEnvC scope cl C X.env) fp) noW ifs tt)
    (he : ∀ (s : Shared) (H : Hp) (C : Addr) (cl : List (Str × Addr)) (fp : List Addr), XE (X.blk s H scope (compEnvC scope cl C X.env) fp) noW elt te)
    (hsw : swapsWith (.ListComp elt [⟨tg, iter, ifs, 0⟩] scope pos) (some (.Name y py)) spos.line X.env = pure true) (hyl : X.env.scope.names.lookup y = some .local) (hy : X.N[i]? = some y := by rfl) (hs : ∀ x, foldedSetIterable iter X.env x = pure x := by intro _; rfl) :
    XS X Wx (.Assign [.Name y py] (.ListComp elt [⟨tg, iter, ifs, 0⟩] scope pos) spos) (sSet i (dComp (own.map (·.2)) di g tt te)) := by
  have mt := (ht X.s_0 X.H_0 0 [] []).mn
  have me := (he X.s_0 X.H_0 0 [] []).mn
  have mc := mn_comp (vs := own.map (·.2)) (g := g) hi.mn mt me
  refine ⟨PS.imp (ps_setLc (g := gTg X.K g) (tt := RD X.K relB nox noW tt) (te := RD X.K (relE X.K) xr noW te) hc hN hy hyl hsw hi.pi ok hg (fun s H C cl fp => (ht s H C cl fp).pts) (fun s H C cl fp => (he s H C cl fp).pe) hs) fun D σ H ⟨W, ρ, rep, q⟩ => ?_, mn_set mc⟩
  refine lc_run (Wx := Wx) hi.mn mt me hv σ H _ ?_
  refine rd_stmt mc rep q fun r ρ1 ⟨pf, q⟩ v W1 H1 rl rep1 st pn => ?_
  obtain ⟨rp, sub⟩ := rep1.put rl i
  exact q _ W1 H1 rp (st.subP sub) ((IoK.of pn).trans (ioK_put pf))
end
end O
namespace O
open PySem PySem.Spec PyProof.Rows L2
/-- what is drawn from: a list, a tuple, a text -/
inductive Sc where
  | lst (a : Addr) | tup (a : Addr) | txt (x : Str)
def Sc.v : Sc → V
  | .lst a => .ref a
  | .tup a => .ref a
  | .txt x => .str x
def sgn (x : Str) : List V := x.cps.toList.map fun c => V.str ⟨#[c]⟩
def Sc.has (K : PySem.W.Frag) (H : Hp) : Sc → List V → Prop
  | .lst a, xs => SqL K H a xs
  | .tup a, xs => SqT K H a xs
  | .txt x, xs => xs = sgn x
/-- its iterator at it, ahead of turn i -/
def Sc.tn (it : Addr) (i : Nat) (h : Heap) : Sc → Prop
  | .lst a => h.IsListIter it a i
  | .tup a => h.IsTupleIter it a i
  | .txt x => ∃ t, h.IsStrIter it (strIterType x) x t i
theorem Sc.obj {it : Addr} {i : Nat} {h : Heap} {c : Sc} (s : c.tn it i h) : ∃ o, h.get? it = some o ∧ ∀ v, o.data ≠ .cell v := by
  cases c with
  | lst a => obtain ⟨o, e, c, d⟩ := s; exact ⟨o, e, fun v z => by rw [d] at z; cases z⟩
  | tup a => obtain ⟨o, e, c, d⟩ := s; exact ⟨o, e, fun v z => by rw [d] at z; cases z⟩
  | txt x => obtain ⟨t, o, e, c, d⟩ := s; exact ⟨o, e, fun v z => by rw [d] at z; cases z⟩
theorem Sc.keep {it : Addr} {i : Nat} {h h' : Heap} {c : Sc} (s : c.tn it i h) (k : ∀ o, h.get? it = some o → h'.get? it = some o) : c.tn it i h' := by
  cases c with
  | lst a => obtain ⟨o, e, c⟩ := s; exact ⟨o, k o e, c⟩
  | tup a => obtain ⟨o, e, c⟩ := s; exact ⟨o, k o e, c⟩
  | txt x => obtain ⟨t, o, e, c⟩ := s; exact ⟨t, o, k o e, c⟩
section
variable {X : Cx} {pins : List (Addr × Obj)} {σ : L2.St} {H : Hp} {s : Shared}
theorem Sc.inj {c : Sc} {xs ys : List V} (I : Inv X pins σ H s) (a : c.has X.K H xs) (b : c.has X.K H ys) : xs = ys := by
  cases c with
  | lst p => exact I.list_inj a b
  | tup p => exact I.tuple_inj a b
  | txt x => exact (show xs = _ from a).trans (show ys = _ from b).symm
/-- the iterator draws the items; the addresses that it leans on -/
theorem Sc.draws {c : Sc} {xs : List V} {it : Addr} {i : Nat} {A : Around} (I : Inv X pins σ H s) (hh : A.handled = none) (hit : H it = none) (a : c.has X.K H xs) (st : c.tn it i s.heap) :
    ∃ (fp : List Addr) (P : Nat → Value → Prop) (St : Nat → Heap → Prop), Draws X.prog X.w A it fp xs.length P St ∧ St i s.heap ∧ it ∈ fp ∧ (∀ b ∈ fp, b = it ∨ ((∃ o, s.heap.get? b = some o) ∧ ∀ z, H z = none → ∀ o, s.heap.get? z = some o → X.base.get? z = none → b ≠ z)) ∧
      (∀ j u, P j u → ∃ x, xs[j]? = some x ∧ RelV x u) ∧ ∀ j h, St j h → c.tn it j h := by
  cases c with
  | lst p =>
    obtain ⟨its, rv, pl, hz⟩ := I.list a
    have hne : p ≠ it := fun e => by
      obtain ⟨o, e1, c1, _⟩ := pl.isList
      obtain ⟨o2, e2, c2, _⟩ := st
      rw [e, e2] at e1; cases e1
      rw [c2] at c1
      exact absurd (Value.type.inj c1) (by decide)
    refine ⟨[it, p], fun i v => its.toArray[i]? = some v, fun i h => h.IsListIter it p i ∧ h.IsList p its.toArray, by rw [rv.length]; simpa using Draws.list (prog := X.prog) (w := X.w) hh it p hne its.toArray, ⟨st, pl.isList⟩, by simp, fun b hb => ?_, fun j u e => ?_, fun j h e => e.1⟩
    · rcases List.mem_cons.mp hb with e | hb
      · exact .inl e
      · rw [List.mem_singleton.mp hb]
        obtain ⟨o, e1, _⟩ := id pl.isList
        refine .inr ⟨⟨o, e1⟩, fun z hz o2 e2 hb2 e => ?_⟩
        subst e
        rcases a with (a | ⟨o3, a⟩) | ⟨o3, _, _, k, _⟩
        · rw [hz] at a; cases a
        · rw [hz] at a; cases a
        · rw [I.ok.mod.kin p o3 k] at hb2; cases hb2
    · have e' : its[j]? = some u := by simpa using e
      obtain ⟨l, _⟩ := List.getElem?_eq_some_iff.mp e'
      have l2 : j < xs.length := by rw [rv.length]; exact l
      obtain ⟨u', e1, r⟩ := rv.get (List.getElem?_eq_getElem l2)
      rw [e'] at e1; cases e1
      exact ⟨_, List.getElem?_eq_getElem l2, r⟩
  | tup p =>
    obtain ⟨its, rv, pl, hz⟩ := I.tuple a
    have pl' : s.heap.IsTuple p its.toArray := pl
    have hne : p ≠ it := fun e => by
      obtain ⟨o, e1, c1, _⟩ := pl'
      obtain ⟨o2, e2, c2, _⟩ := st
      rw [e, e2] at e1; cases e1
      rw [c2] at c1
      exact absurd (Value.type.inj c1) (by decide)
    refine ⟨[it, p], fun i v => its.toArray[i]? = some v, fun i h => h.IsTupleIter it p i ∧ h.IsTuple p its.toArray, by rw [rv.length]; simpa using Draws.tuple (prog := X.prog) (w := X.w) hh it p hne its.toArray, ⟨st, pl'⟩, by simp, fun b hb => ?_, fun j u e => ?_, fun j h e => e.1⟩
    · rcases List.mem_cons.mp hb with e | hb
      · exact .inl e
      · rw [List.mem_singleton.mp hb]
        obtain ⟨o, e1, _⟩ := id pl'
        refine .inr ⟨⟨o, e1⟩, fun z hz o2 e2 hb2 e => ?_⟩
        subst e
        rcases a with (a | ⟨o3, a⟩) | ⟨o3, _, _, k, _⟩
        · rw [hz] at a; cases a
        · rw [hz] at a; cases a
        · rw [I.ok.mod.kin p o3 k] at hb2; cases hb2
    · have e' : its[j]? = some u := by simpa using e
      obtain ⟨l, _⟩ := List.getElem?_eq_some_iff.mp e'
      have l2 : j < xs.length := by rw [rv.length]; exact l
      obtain ⟨u', e1, r⟩ := rv.get (List.getElem?_eq_getElem l2)
      rw [e'] at e1; cases e1
      exact ⟨_, List.getElem?_eq_getElem l2, r⟩
  | txt x =>
    obtain ⟨t, st⟩ := st
    have e : xs = sgn x := a
    subst e
    have hl : (sgn x).length = x.cps.size := by simp [sgn]
    refine ⟨[it], _, _, by rw [hl]; exact Draws.text hh it x t, st, by simp, fun b hb => .inl (by simpa using hb), fun j u e => ?_, fun j h e => ⟨t, e⟩⟩
    obtain ⟨c, k, e1, e2⟩ := e
    refine ⟨.str ⟨#[c]⟩, by simp [sgn, e1], k, e2⟩
end
section
variable {X : Cx} {pins : List (Addr × Obj)} {σ : L2.St} {H : Hp} {s : Shared}
theorem fp_base {b : Addr} (I : Inv X pins σ H s) (f : FpOk X pins H b) : X.base.get? b = none := by
  cases e : X.base.get? b with
  | none => rfl
  | some o =>
    rcases f.2.2.2.1 with z | z
    · exact (I.ok.noex b o e z).elim
    · exact absurd (Nat.lt_of_lt_of_le (Heap.lt_size e) (Nat.le_trans I.ok.bsz z)) (Nat.lt_irrefl _)
end
structure ZA where
  z : Addr
  ti : Addr
  tt : Addr
  l : Addr
  r : Addr
def ZA.all (q : ZA) : List Addr := [q.z, q.ti, q.tt, q.l, q.r]
theorem ZA.each {q : ZA} {P : Addr → Prop} (p : P q.z) (p1 : P q.ti) (p2 : P q.tt) (p3 : P q.l) (p4 : P q.r) : ∀ c ∈ q.all, P c := by
  unfold ZA.all; simpa using ⟨p, p1, p2, p3, p4⟩
theorem ZA.every {q : ZA} {P : Addr → Prop} (h : ∀ c ∈ q.all, P c) : P q.z ∧ P q.ti ∧ P q.tt ∧ P q.l ∧ P q.r := by
  unfold ZA.all at h; simpa using h
theorem ZA.none_of {q : ZA} {c : Addr} (h : c ∉ q.all) : c ≠ q.z ∧ c ≠ q.ti ∧ c ≠ q.tt ∧ c ≠ q.l ∧ c ≠ q.r := by
  unfold ZA.all at h; simpa using h
/-- how they stand ahead of turn i -/
structure ZS (q : ZA) (a b : Sc) (i : Nat) (h : Heap) : Prop where
  hz : IsZip h q.z q.ti q.tt .none
  hi : IsTupOf2 h q.ti (.ref q.l) (.ref q.r)
  ho : ∃ x y, IsTupOf2 h q.tt x y
  ha : a.tn q.l i h
  hb : b.tn q.r i h
theorem ZS.obj {q : ZA} {a b : Sc} {i : Nat} {h : Heap} (s : ZS q a b i h) : ∀ c ∈ q.all, ∃ o, h.get? c = some o ∧ ∀ v, o.data ≠ .cell v := by
  obtain ⟨x, y, ho⟩ := s.ho
  exact ZA.each ⟨_, s.hz, fun v e => nomatch e⟩ ⟨_, s.hi, fun v e => nomatch e⟩ ⟨_, ho, fun v e => nomatch e⟩ (Sc.obj s.ha) (Sc.obj s.hb)
theorem ZS.keep {q : ZA} {a b : Sc} {i : Nat} {h h' : Heap} (s : ZS q a b i h) (k : ∀ c ∈ q.all, ∀ o, h.get? c = some o → h'.get? c = some o) : ZS q a b i h' := by
  obtain ⟨k1, k2, k3, k4, k5⟩ := ZA.every k
  obtain ⟨x, y, ho⟩ := s.ho
  exact ⟨k1 _ s.hz, k2 _ s.hi, ⟨x, y, k3 _ ho⟩, Sc.keep s.ha k4, Sc.keep s.hb k5⟩
section
variable {X : Cx} {pins : List (Addr × Obj)} {σ : L2.St} {H : Hp} {s : Shared} {q : ZA} {a b : Sc} {i : Nat} {xs ys : List V}
/-- the addresses of one source's iterator are none of the other four objects -/
theorem zip_far {it c : Addr} {fp : List Addr} (I : Inv X pins σ H s) (m : ∀ x ∈ fp, x = it ∨ ((∃ o, s.heap.get? x = some o) ∧ ∀ z, H z = none → ∀ o, s.heap.get? z = some o → X.base.get? z = none → x ≠ z))
    (n : c ≠ it) (f : FpOk X pins H c) (o : ∃ o, s.heap.get? c = some o ∧ ∀ v, o.data ≠ .cell v) : c ∉ fp := fun hm => by
  obtain ⟨ob, e, _⟩ := o
  rcases m c hm with z | ⟨_, z⟩
  · exact n z
  · exact z c f.1 ob e (fp_base I f) rfl
end
/-- how a source begins -/
def Sc.ob (v : Value) : Sc → Obj
  | .lst a => { cls := .type "list_iterator", data := .fields #[.ref a, .int 0 0] }
  | .tup a => { cls := .type "tuple_iterator", data := .fields #[.ref a, .int 0 0] }
  | .txt x => { cls := .type (strIterType x), data := .fields #[v, .int 0 0] }
/-- the items that are walked -/
def T.its : T → Option (List T)
  | .lst ts => some ts
  | .scr ts => some ts
  | .tup ts => some ts
  | .str l => some (l.map fun c => .str [c])
  | _ => none
theorem IsL.signs {K : PySem.W.Frag} {W : Ad} {H : Hp} : ∀ l : List Nat, IsL K W H (l.map fun c => V.str ⟨#[c]⟩) (l.map fun c => .str [c])
  | [] => .nil
  | c :: l => .cons (.str [c]) (IsL.signs l)
def zipT (ts us : List T) : List T := (ts.zip us).map fun p => .tup [p.1, p.2]
def dZip2 (d : Dn (List Hn)) : Di := fun ρ Q => d ρ ⟨fun hs ρ1 => ∃ t u ts us, hs = [.tm t, .tm u] ∧ t.its = some ts ∧ u.its = some us ∧ Q.ok (zipT ts us) ρ1, Q.ex⟩
/-- a new tuple -/
theorem Is.newTup {K : PySem.W.Frag} {W : Ad} {H : Hp} {T : Addr} {xs : List V} {ts : List O.T} (wd : Wd W H) (hn : H T = none) (h : IsL K W H xs ts) : Is K W (upd H T (.tup xs)) (.ref T) (.tup ts) :=
  .tup upd_same (fun z => by obtain ⟨o, e⟩ := wd T z; rw [hn] at e; cases e) (h.fresh hn)
section
variable {X : Cx} {Wx : WX} {e e2 tg : Expr} {d : Dn (List Hn)} {de : Dn Rv} {p pos tpos : Pos} {elts : List Expr} {kk : Nat}
def dSrc (d : Dn Rv) : Di := fun ρ Q => d ρ ⟨fun r ρ1 => ∃ ts, r.2.its = some ts ∧ Q.ok ts ρ1, Q.ex⟩
theorem mn_src {d : Dn Rv} (m : Mn d) : Mn (dSrc d) := fun ρ Q Q' h k e => m _ _ _ h (fun r ρ1 ⟨t, a, q⟩ => ⟨t, a, k _ _ q⟩) e
theorem yl_list {K : PySem.W.Frag} {W : Ad} {H : Hp} {a : Addr} {xs : List V} {ts : List T} (ha : ∀ W2 H2, Lt W H W2 H2 → SqL K H2 a xs ∧ IsL K W2 H2 xs ts) : Yl K W H (Itl K a) ts := by
  intro W2 H2 lt wd
  obtain ⟨a1, a2⟩ := ha W2 H2 lt
  refine ⟨⟨xs, a1, by rw [a2.length]; exact Nat.le_refl _⟩, fun i t e => ?_⟩
  obtain ⟨x, ex, ix⟩ := a2.get e
  refine ⟨⟨xs, x, a1, ex⟩, fun v H3 ⟨eH, h1⟩ => ?_⟩
  have e1 := h1 xs a1
  rw [ex] at e1; cases e1
  subst eH
  exact ⟨fun _ _ z => z, ix⟩
theorem yl_tup {K : PySem.W.Frag} {W : Ad} {H : Hp} {a : Addr} {xs : List V} {ts : List T} (ha : ∀ W2 H2, Lt W H W2 H2 → SqT K H2 a xs ∧ IsL K W2 H2 xs ts) : Yl K W H (Itt K a) ts := by
  intro W2 H2 lt wd
  obtain ⟨a1, a2⟩ := ha W2 H2 lt
  refine ⟨⟨xs, a1, by rw [a2.length]; exact Nat.le_refl _⟩, fun i t e => ?_⟩
  obtain ⟨x, ex, ix⟩ := a2.get e
  refine ⟨⟨xs, x, a1, ex⟩, fun v H3 ⟨eH, h1⟩ => ?_⟩
  have e1 := h1 xs a1
  rw [ex] at e1; cases e1
  subst eH
  exact ⟨fun _ _ z => z, ix⟩
def rangeT (lo : Int) (n : Nat) : List T := (List.range n).map fun i : Nat => T.int (lo + i)
def small62 (i : Int) : Prop := -(2 ^ 62) ≤ i ∧ i < 2 ^ 62
def dRng1 (d : Dn (List Hn)) : Di := fun ρ Q => d ρ ⟨fun hs ρ1 => ∃ j : Int, hs = [.tm (.int j)] ∧ small62 j ∧ Q.ok (rangeT 0 j.toNat) ρ1, Q.ex⟩
def dRng2 (d : Dn (List Hn)) : Di := fun ρ Q => d ρ ⟨fun hs ρ1 => ∃ i j : Int, hs = [.tm (.int i), .tm (.int j)] ∧ small62 i ∧ small62 j ∧ Q.ok (rangeT i (j - i).toNat) ρ1, Q.ex⟩
theorem mn_rng1 {d : Dn (List Hn)} (m : Mn d) : Mn (dRng1 d) := fun ρ Q Q' h k e => m _ _ _ h (fun r ρ1 ⟨t, a, b, q⟩ => ⟨t, a, b, k _ _ q⟩) e
theorem yl_range {K : PySem.W.Frag} {W : Ad} {H : Hp} (lo : Int) (n : Nat) : Yl K W H (Itr lo n) (rangeT lo n) := by
  intro W2 H2 lt wd
  refine ⟨by show n ≤ (rangeT lo n).length; simp [rangeT], fun i t e => ?_⟩
  unfold rangeT at e
  rw [List.getElem?_map, Option.map_eq_some_iff] at e
  obtain ⟨k, e, e'⟩ := e
  have hi := (List.getElem?_eq_some_iff.mp e).1
  rw [List.length_range] at hi
  rw [List.getElem?_range hi] at e
  cases e
  subst e'
  exact ⟨hi, fun v H4 ⟨eH, ev⟩ => by subst eH ev; exact ⟨fun _ _ z => z, .int _⟩⟩
theorem xi_range1 (hg : Gl X "range") (hm : X.mg "range" = none) (h : XA X Wx [e] d) (hs : starEach [e] X.env = [(false, eval e X.env)] := by rfl) : XI X Wx tg (.Call (.Name "range" p) [e] [] pos) (dRng1 d) := by
  refine ⟨PI.imp (pi_range1 hg hm h.pa hs) fun σ H R ⟨W, ρ, rep, q⟩ => ?_, mn_rng1 h.mn⟩
  refine ⟨W, ρ, rep, h.mn _ _ _ q (fun hs ρ1 ⟨j, e, b, q⟩ vs W1 H1 rl rep1 st pn => ?_) fun _ _ _ z => z⟩
  subst e
  cases rl with
  | cons r1 rr =>
    cases rr
    have r1 : Is X.K W1 H1 _ (.int j) := r1
    cases r1
    exact ⟨j, rfl, b.1, b.2, q _ W1 H1 rep1 st.noxx pn (yl_range _ _)⟩
end
end O
namespace O
open PySem PySem.Spec PyProof.Rows L2
section
variable {K : PySem.W.Frag} {W : Ad} {H : Hp} {v : V}
theorem IsR.int {i : Int} (h : IsR K W H v (.int i)) : v = .int i := by
  rcases h with h | ⟨p, e, h⟩
  · cases h; rfl
  · exact h.elim
theorem IsR.str {l : List Nat} (h : IsR K W H v (.str l)) : v = .str (S l) := by
  rcases h with h | ⟨p, e, h⟩
  · cases h; rfl
  · exact h.elim
theorem IsR.bl {b : Bool} (h : IsR K W H v (.bl b)) : v = .bl b := by
  rcases h with h | ⟨p, e, h⟩
  · cases h; rfl
  · exact h.elim
theorem IsR.non (h : IsR K W H v .non) : v = .non := by
  rcases h with h | ⟨p, e, h⟩
  · cases h; rfl
  · exact h.elim
theorem IsR.lst {ts : List T} (h : IsR K W H v (.lst ts)) : ∃ p xs, v = .ref p ∧ H p = some (.lst xs) ∧ IsL K W H xs ts := by
  rcases h with h | ⟨p, e, h⟩
  · cases h with | lst r n l => exact ⟨_, _, rfl, r, l⟩
  · obtain ⟨xs, r, l⟩ := h; exact ⟨p, xs, e, r, l⟩
theorem IsR.scr {ts : List T} (h : IsR K W H v (.scr ts)) : ∃ p xs, v = .ref p ∧ SqL K H p xs ∧ IsL K W H xs ts := by
  rcases h with h | ⟨p, e, h⟩
  · cases h with
    | scr r n l => exact ⟨_, _, rfl, .inl (.inr ⟨_, r⟩), l⟩
    | scrK r l => exact ⟨_, _, rfl, .inr r, l⟩
  · exact h.elim
theorem IsR.tup {ts : List T} (h : IsR K W H v (.tup ts)) : ∃ p xs, v = .ref p ∧ SqT K H p xs ∧ IsL K W H xs ts := by
  rcases h with h | ⟨p, e, h⟩
  · cases h with
    | tup r n l => exact ⟨_, _, rfl, .of r, l⟩
    | tupK r l => exact ⟨_, _, rfl, .inr r, l⟩
  · exact h.elim
theorem Res.int (i : Int) : Res K W H (false, .int i) (.int i) H := .sh (.int i)
theorem Res.bl (b : Bool) : Res K W H (false, .bl b) (.bl b) H := .sh (.bl b)
theorem Res.str (l : List Nat) : Res K W H (false, .str l) (.str (S l)) H := .sh (.str l)
end
def addT : T → T → Ot
  | .int i, .int j => .sh (.int (i + j))
  | .str a, .str b => .when (a.length + b.length ≤ sizeLine) (.str (a ++ b))
  | .lst a, .lst b => .new (a.length + b.length ≤ sizeLine) (.lst (a ++ b))
  | _, _ => .no
def subT : T → T → Ot
  | .int i, .int j => .sh (.int (i - j))
  | _, _ => .no
def mulT : T → T → Ot
  | .int i, .int j => .when (CMul i j ∨ CMulW i j) (.int (i * j))
  | .str a, .int n => .when (-(2 ^ 63) ≤ n ∧ n < 2 ^ 63 ∧ a.length * n.toNat ≤ sizeLine) (.str (List.replicate n.toNat a).flatten)
  | .lst a, .int n => .new (-(2 ^ 63) ≤ n ∧ n < 2 ^ 63 ∧ a.length * n.toNat ≤ sizeLine) (.lst (List.replicate n.toNat a).flatten)
  | _, _ => .no
def fdivT : T → T → Ot
  | .int i, .int j => .when (CDivW i j) (.int (i / j))
  | _, _ => .no
def modT : T → T → Ot
  | .int i, .int j => .when (0 < j) (.int (i % j))
  | _, _ => .no
def powT : T → T → Ot
  | .int i, .int j => .when (CPow i j) (.int (i ^ j.toNat))
  | _, _ => .no
def negT : T → Ot
  | .int i => .sh (.int (-i))
  | _ => .no
section
variable {X : Cx}
theorem OpR.orr {f : Value → Value → Sem Value} {r r' : R2} (h : OpR X f r) (h' : OpR X f r') : OpR X f (fun x y H Q => r x y H Q ∨ r' x y H Q) := OpR.or h h'
def rAdd : R2 := fun x y H Q => (∃ i j, x = .int i ∧ y = .int j ∧ Q (.int (i + j)) H) ∨ (∃ i j, x = .str i ∧ y = .str j ∧ i.length + j.length ≤ sizeLine ∧ Q (.str (i ++ j)) H) ∨ rCat x y H Q
theorem op_addA : OpR X (binaryOp .Add) rAdd := op_add.or (op_add_str.or op_cat)
theorem p_add : Pure2 X.K rAdd addT := by
  intro W H v u a b Q wd ha hb pre k
  unfold addT at pre k
  cases a <;> cases b <;> first | exact pre.elim | skip
  · rw [ha.int, hb.int]; exact .inl ⟨_, _, rfl, rfl, k _ _ (.int _)⟩
  · rw [ha.str, hb.str]
    refine .inr (.inl ⟨_, _, rfl, rfl, by rw [S_len, S_len]; exact pre, ?_⟩)
    rw [S_append]; exact k _ _ (.str _)
  · obtain ⟨p, xs, rfl, r1, l1⟩ := ha.lst
    obtain ⟨q, ys, rfl, r2, l2⟩ := hb.lst
    exact .inr (.inr ⟨p, q, xs, ys, rfl, rfl, r1, r2, by rw [l1.length, l2.length]; exact pre, fun l hl => k _ _ (.newL hl (l1.append l2))⟩)
theorem p_sub : Pure2 X.K (rI0 fun i j => .int (i - j)) subT := by
  intro W H v u a b Q wd ha hb pre k
  unfold subT at pre k
  cases a <;> cases b <;> first | exact pre.elim | skip
  rw [ha.int, hb.int]; exact ⟨_, _, rfl, rfl, k _ _ (.int _)⟩
theorem flat_rep (l : List Nat) : ∀ n : Nat, (List.replicate n l.toArray).foldl (· ++ ·) #[] = (List.replicate n l).flatten.toArray := by
  have h : ∀ (n : Nat) (acc : List Nat), (List.replicate n l.toArray).foldl (· ++ ·) acc.toArray = (acc ++ (List.replicate n l).flatten).toArray := by
    intro n
    induction n with
    | zero => intro acc; simp
    | succ n ih =>
      intro acc
      rw [List.replicate_succ, List.foldl_cons, List.append_toArray, ih, List.replicate_succ, List.flatten_cons, List.append_assoc]
  intro n
  have := h n []
  simpa using this
theorem op_mul_str : OpR X (binaryOp .Mult) (fun x y H Q => ∃ (l : List Nat) (n : Int), x = .str (S l) ∧ y = .int n ∧ (-(2 ^ 63) ≤ n ∧ n < 2 ^ 63 ∧ l.length * n.toNat ≤ sizeLine) ∧ Q (.str (S (List.replicate n.toNat l).flatten)) H) := by
  intro pins s σ H x y v u Q I rx ry h
  obtain ⟨l, n, e1, e2, ⟨h1, h2, h3⟩, q⟩ := h
  subst e1 e2
  obtain ⟨t, rfl⟩ := rx
  obtain ⟨t', rfl⟩ := ry
  have hl : (S l).length = l.length := S_len l
  refine P.mul_str (by rw [decide_eq_false (by omega), decide_eq_false (by omega)]; rfl) (fun a b => ?_) (fun a b => ?_) ?_
  · rw [hl]
    intro c
    have b' : ¬ n = 1 ∧ ¬ l.length = 0 := by
      rw [hl, Bool.or_eq_false_iff] at b
      exact ⟨by simpa using b.1, by simpa using b.2⟩
    have hn : 0 < n := by omega
    have e : (n.toNat : Int) = n := Int.toNat_of_nonneg (by omega)
    have h4 : (l.length : Int) * n ≤ sizeLine := by rw [← e]; exact_mod_cast h3
    have h5 : (sizeLine : Int) ≤ 2 ^ 63 - 1 := by rw [sizeLine_eq]; decide
    have h6 := Int.le_ediv_of_mul_le hn (Int.le_trans h4 h5)
    omega
  · rw [hl]
    show decide (_ > sizeLine) = false
    rw [decide_eq_false_iff_not]; omega
  · have fin : ∀ {m : Str} {t'' : Tok} {tk : Nat}, m = S (List.replicate n.toNat l).flatten → EP X pins σ Q (.str m t'') { s with toks := tk } := fun {m t'' tk} e => ⟨.str _, H, I.tok _, ⟨t'', by rw [e]⟩, q⟩
    by_cases c : n < 1
    · rw [if_pos c]
      have e0 : n.toNat = 0 := by omega
      exact ⟨by decide, fin (by rw [e0]; rfl)⟩
    · rw [if_neg c]
      by_cases c2 : (n == 1 || (S l).length == 0) = true
      · rw [if_pos c2]
        refine fin (tk := s.toks) ?_
        rw [hl, Bool.or_eq_true] at c2
        rcases c2 with c2 | c2
        · have e : n = 1 := by simpa using c2
          subst e; simp
        · have e : l = [] := by simpa using c2
          subst e
          have : (List.replicate n.toNat ([] : List Nat)).flatten = [] := by simp
          rw [this]
      · rw [if_neg c2]
        have e : (⟨(List.replicate n.toNat (S l).cps).foldl (· ++ ·) #[]⟩ : Str) = S (List.replicate n.toNat l).flatten := by
          show (⟨(List.replicate n.toNat l.toArray).foldl (· ++ ·) #[]⟩ : Str) = ⟨_⟩
          rw [flat_rep]
        refine ⟨?_, fin e⟩
        rw [e, S_len, List.length_flatten, List.map_replicate, List.sum_replicate_nat]
        rw [Nat.mul_comm]
        exact h3
def rMulA : R2 := fun x y H Q => (rI CMul (fun i j => .int (i * j)) x y H Q ∨ rI CMulW (fun i j => .int (i * j)) x y H Q) ∨ (∃ (l : List Nat) (n : Int), x = .str (S l) ∧ y = .int n ∧ (-(2 ^ 63) ≤ n ∧ n < 2 ^ 63 ∧ l.length * n.toNat ≤ sizeLine) ∧ Q (.str (S (List.replicate n.toNat l).flatten)) H) ∨ rRep x y H Q
theorem op_mulA : OpR X (binaryOp .Mult) rMulA := (op_mul.or op_mulW).or (op_mul_str.or op_rep)
theorem p_mul : Pure2 X.K rMulA mulT := by
  intro W H v u a b Q wd ha hb pre k
  unfold mulT at pre k
  cases a <;> cases b <;> first | exact pre.elim | skip
  · rw [ha.int, hb.int]; exact .inl (pre.elim (fun z => .inl ⟨_, _, rfl, rfl, z, k _ _ (.int _)⟩) fun z => .inr ⟨_, _, rfl, rfl, z, k _ _ (.int _)⟩)
  · rw [ha.str, hb.int]; exact .inr (.inl ⟨_, _, rfl, rfl, pre, k _ _ (.str _)⟩)
  · obtain ⟨p, xs, rfl, r1, l1⟩ := ha.lst
    rw [hb.int]
    exact .inr (.inr ⟨p, _, xs, rfl, rfl, r1, pre.1, pre.2.1, by rw [l1.length]; exact pre.2.2, fun l hl => k _ _ (.newL hl (l1.rep _))⟩)
theorem p_fdiv : Pure2 X.K (rI CDivW fun i j => .int (i / j)) fdivT := by
  intro W H v u a b Q wd ha hb pre k
  unfold fdivT at pre k
  cases a <;> cases b <;> first | exact pre.elim | skip
  rw [ha.int, hb.int]; exact ⟨_, _, rfl, rfl, pre, k _ _ (.int _)⟩
theorem p_mod : Pure2 X.K (rI (fun _ j => 0 < j) fun i j => .int (i % j)) modT := by
  intro W H v u a b Q wd ha hb pre k
  unfold modT at pre k
  cases a <;> cases b <;> first | exact pre.elim | skip
  rw [ha.int, hb.int]; exact ⟨_, _, rfl, rfl, pre, k _ _ (.int _)⟩
theorem p_pow : Pure2 X.K (rI CPow fun i j => .int (i ^ j.toNat)) powT := by
  intro W H v u a b Q wd ha hb pre k
  unfold powT at pre k
  cases a <;> cases b <;> first | exact pre.elim | skip
  rw [ha.int, hb.int]; exact ⟨_, _, rfl, rfl, pre, k _ _ (.int _)⟩
theorem p_neg : Pure1 X.K (rU fun i => .int (-i)) negT := by
  intro W H v a Q wd ha pre k
  unfold negT at pre k
  cases a <;> first | exact pre.elim | skip
  rw [ha.int]; exact ⟨_, rfl, k _ _ (.int _)⟩
end
end O
namespace O
open PySem PySem.Spec PyProof.Rows L2
mutual
def T.pd : T → Option PyData
  | .non => some .none
  | .bl b => some (.bool b)
  | .int i => some (.int i)
  | .str l => some (.str (S l))
  | .lst ts => (T.pdL ts).map PyData.list
  | .scr ts => (T.pdL ts).map PyData.list
  | .tup ts => (T.pdL ts).map PyData.tuple
  | _ => none
def T.pdL : List T → Option (List PyData)
  | [] => some []
  | t :: ts => match T.pd t, T.pdL ts with
    | some d, some ds => some (d :: ds)
    | _, _ => none
end
section
variable {K : PySem.W.Frag} {W : Ad} {H : Hp}
theorem pdL_cons {t : T} {ts : List T} {ds : List PyData} (e : T.pdL (t :: ts) = some ds) : ∃ d es, ds = d :: es ∧ t.pd = some d ∧ T.pdL ts = some es := by
  unfold T.pdL at e
  cases h : t.pd with
  | none => rw [h] at e; cases e
  | some d =>
    rw [h] at e
    cases h2 : T.pdL ts with
    | none => rw [h2] at e; cases e
    | some es => rw [h2] at e; cases e; exact ⟨d, es, rfl, rfl, rfl⟩
theorem map_some {α β : Type} {f : α → β} {o : Option α} {b : β} (h : o.map f = some b) : ∃ a, o = some a ∧ f a = b := Option.map_eq_some_iff.mp h
mutual
theorem Is.dp : ∀ {v : V} {t : T} {d : PyData}, Is K W H v t → t.pd = some d → Dp K H v d
  | _, _, _, .non, e => by cases e; exact .non
  | _, _, _, .bl b, e => by cases e; exact .bl b
  | _, _, _, .int i, e => by cases e; exact .int i
  | _, _, _, .str l, e => by cases e; exact .str _
  | _, _, _, .ty n, e => by cases e
  | _, _, _, .fn a, e => by cases e
  | _, _, _, .lst r n l, e => by obtain ⟨ds, e1, e2⟩ := map_some e; subst e2; exact .lst (.of r) (IsL.dp l e1)
  | _, _, _, .scr r n l, e => by obtain ⟨ds, e1, e2⟩ := map_some e; subst e2; exact .lst (.inl (.inr ⟨_, r⟩)) (IsL.dp l e1)
  | _, _, _, .scrK r l, e => by obtain ⟨ds, e1, e2⟩ := map_some e; subst e2; exact .lst (.inr r) (IsL.dp l e1)
  | _, _, _, .tup r n l, e => by obtain ⟨ds, e1, e2⟩ := map_some e; subst e2; exact .tup (.of r) (IsL.dp l e1)
  | _, _, _, .tupK r l, e => by obtain ⟨ds, e1, e2⟩ := map_some e; subst e2; exact .tup (.inr r) (IsL.dp l e1)
  | _, _, _, .dK r n l, e => by cases e
  | _, _, _, .dT r n l, e => by cases e
  | _, _, _, .ins _ r n l, e => by cases e
theorem IsL.dp : ∀ {vs : List V} {ts : List T} {ds : List PyData}, IsL K W H vs ts → T.pdL ts = some ds → DpAll K H vs ds
  | _, _, _, .nil, e => by cases e; exact .nil
  | _, _, _, .cons a b, e => by obtain ⟨d, es, e1, e2, e3⟩ := pdL_cons e; subst e1; exact .cons (Is.dp a e2) (IsL.dp b e3)
end
theorem IsR.dp {v : V} {t : T} {d : PyData} (h : IsR K W H v t) (e : t.pd = some d) : Dp K H v d := by
  rcases h with h | ⟨p, e1, h⟩
  · exact h.dp e
  · subst e1
    cases t with
    | lst ts => obtain ⟨xs, r, l⟩ := h; obtain ⟨ds, e1, e2⟩ := map_some e; subst e2; exact .lst (.of r) (IsL.dp l e1)
    | _ => first | exact h.elim | cases e
end
def eqvO : Option PyData → Option PyData → Bool
  | some d, some e => PyData.eqv d e
  | _, _ => false
def okD (a : T) : Prop := ∃ d, a.pd = some d ∧ SeqAt.shaped d = true
def eqT (n : Bool) : T → T → Ot
  | .int i, .int j => .sh (.bl (n != decide (i = j)))
  | .str a, .str b => .sh (.bl (n != decide (a = b)))
  | .bl a, .bl b => .sh (.bl (n != decide (a = b)))
  | .non, .non => .sh (.bl (n != true))
  | .non, .int _ => .sh (.bl n)
  | .int _, .non => .sh (.bl n)
  | .non, .str _ => .sh (.bl n)
  | .str _, .non => .sh (.bl n)
  | a, b => ⟨okD a ∧ okD b, (false, .bl (n != eqvO a.pd b.pd))⟩
def rEqA (K : PySem.W.Frag) : R2 := fun x y H Q => rEq x y H Q ∨ rEqD K x y H Q
def rNeA (K : PySem.W.Frag) : R2 := fun x y H Q => rNe x y H Q ∨ rNeD K x y H Q
section
variable {X : Cx}
theorem op_eqA (hu : X.A.units + 64 < cLine) : OpR X (compareOp .Eq) (rEqA X.K) := op_eq.or (op_eqD hu)
theorem op_neA (hu : X.A.units + 64 < cLine) : OpR X (compareOp .NotEq) (rNeA X.K) := op_ne.or (op_neD hu)
theorem dec_str {a b : List Nat} : decide (V.str (S a) = V.str (S b)) = decide (a = b) := by
  by_cases h : a = b
  · subst h; simp
  · rw [decide_eq_false h, decide_eq_false fun z => h (S_inj (V.str.inj z))]
theorem dec_int {a b : Int} : decide (V.int a = V.int b) = decide (a = b) := by
  by_cases h : a = b
  · subst h; simp
  · rw [decide_eq_false h, decide_eq_false fun z => h (V.int.inj z)]
theorem dec_bl {a b : Bool} : decide (V.bl a = V.bl b) = decide (a = b) := by
  by_cases h : a = b
  · subst h; simp
  · rw [decide_eq_false h, decide_eq_false fun z => h (V.bl.inj z)]
theorem p_eq : Pure2 X.K (rEqA X.K) (eqT false) := by
  intro W H v u a b Q wd ha hb pre k
  have deep : okD a → okD b → (∀ v' H', Res X.K W H (false, .bl (false != eqvO a.pd b.pd)) v' H' → Q v' H') → rEqA X.K v u H Q := fun ⟨d, e1, s1⟩ ⟨e, e2, s2⟩ k => by
    refine .inr ⟨d, e, ha.dp e1, hb.dp e2, s1, s2, ?_⟩
    have := k _ _ (.bl _)
    rw [e1, e2, Bool.false_bne] at this
    exact this
  revert pre k
  unfold eqT
  split <;> intro pre k
  · rw [ha.int, hb.int]; exact .inl ⟨rfl, by rw [dec_int]; have := k _ _ (.bl _); rwa [Bool.false_bne] at this⟩
  · rw [ha.str, hb.str]; exact .inl ⟨rfl, by rw [dec_str]; have := k _ _ (.bl _); rwa [Bool.false_bne] at this⟩
  · rw [ha.bl, hb.bl]; exact .inl ⟨rfl, by rw [dec_bl]; have := k _ _ (.bl _); rwa [Bool.false_bne] at this⟩
  · rw [ha.non, hb.non]; exact .inl ⟨rfl, k _ _ (.bl _)⟩
  · rw [ha.non, hb.int]; exact .inl ⟨rfl, k _ _ (.bl _)⟩
  · rw [ha.int, hb.non]; exact .inl ⟨rfl, k _ _ (.bl _)⟩
  · rw [ha.non, hb.str]; exact .inl ⟨rfl, k _ _ (.bl _)⟩
  · rw [ha.str, hb.non]; exact .inl ⟨rfl, k _ _ (.bl _)⟩
  · exact deep pre.1 pre.2 k
theorem p_ne : Pure2 X.K (rNeA X.K) (eqT true) := by
  intro W H v u a b Q wd ha hb pre k
  have deep : okD a → okD b → (∀ v' H', Res X.K W H (false, .bl (true != eqvO a.pd b.pd)) v' H' → Q v' H') → rNeA X.K v u H Q := fun ⟨d, e1, s1⟩ ⟨e, e2, s2⟩ k => by
    refine .inr ⟨d, e, ha.dp e1, hb.dp e2, s1, s2, ?_⟩
    have := k _ _ (.bl _)
    rw [e1, e2, Bool.true_bne] at this
    exact this
  revert pre k
  unfold eqT
  split <;> intro pre k
  · rw [ha.int, hb.int]; exact .inl ⟨rfl, by rw [dec_int]; have := k _ _ (.bl _); rwa [Bool.true_bne] at this⟩
  · rw [ha.str, hb.str]; exact .inl ⟨rfl, by rw [dec_str]; have := k _ _ (.bl _); rwa [Bool.true_bne] at this⟩
  · rw [ha.bl, hb.bl]; exact .inl ⟨rfl, by rw [dec_bl]; have := k _ _ (.bl _); rwa [Bool.true_bne] at this⟩
  · rw [ha.non, hb.non]; exact .inl ⟨rfl, k _ _ (.bl _)⟩
  · rw [ha.non, hb.int]; exact .inl ⟨rfl, k _ _ (.bl _)⟩
  · rw [ha.int, hb.non]; exact .inl ⟨rfl, k _ _ (.bl _)⟩
  · rw [ha.non, hb.str]; exact .inl ⟨rfl, k _ _ (.bl _)⟩
  · rw [ha.str, hb.non]; exact .inl ⟨rfl, k _ _ (.bl _)⟩
  · exact deep pre.1 pre.2 k
end
def ordT (p : Int → Int → Bool) (q : List Nat → List Nat → Bool) : T → T → Ot
  | .int i, .int j => .sh (.bl (p i j))
  | .str a, .str b => .sh (.bl (q a b))
  | _, _ => .no
def ltT : T → T → Ot := ordT (fun i j => decide (i < j)) fun a b => decide (a < b)
def leT : T → T → Ot := ordT (fun i j => decide (i ≤ j)) fun a b => !decide (b < a)
def gtT : T → T → Ot := ordT (fun i j => decide (j < i)) fun a b => decide (b < a)
def geT : T → T → Ot := ordT (fun i j => decide (j ≤ i)) fun a b => !decide (a < b)
def rOrd (p : Int → Int → Bool) (q : List Nat → List Nat → Bool) : R2 := fun x y H Q => rI0 (fun i j => .bl (p i j)) x y H Q ∨ ∃ i j, x = .str i ∧ y = .str j ∧ Q (.bl (q i.cps.toList j.cps.toList)) H
section
variable {X : Cx}
theorem op_ltA : OpR X (compareOp .Lt) (rOrd (fun i j => decide (i < j)) fun a b => decide (a < b)) := op_lt.or op_lt_str
theorem op_leA : OpR X (compareOp .LtE) (rOrd (fun i j => decide (i ≤ j)) fun a b => !decide (b < a)) := op_le.or op_le_str
theorem op_gtA : OpR X (compareOp .Gt) (rOrd (fun i j => decide (j < i)) fun a b => decide (b < a)) := op_gt.or op_gt_str
theorem p_ord (p : Int → Int → Bool) (q : List Nat → List Nat → Bool) : Pure2 X.K (rOrd p q) (ordT p q) := by
  intro W H v u a b Q wd ha hb pre k
  unfold ordT at pre k
  cases a <;> cases b <;> first | exact pre.elim | skip
  · rw [ha.int, hb.int]; exact .inl ⟨_, _, rfl, rfl, k _ _ (.bl _)⟩
  · rw [ha.str, hb.str]; exact .inr ⟨_, _, rfl, rfl, k _ _ (.bl _)⟩
theorem p_lt : Pure2 X.K (rOrd (fun i j => decide (i < j)) fun a b => decide (a < b)) ltT := p_ord _ _
theorem p_le : Pure2 X.K (rOrd (fun i j => decide (i ≤ j)) fun a b => !decide (b < a)) leT := p_ord _ _
theorem p_gt : Pure2 X.K (rOrd (fun i j => decide (j < i)) fun a b => decide (b < a)) gtT := p_ord _ _
end
def T.isNon : T → Bool
  | .non => true
  | _ => false
def isT (n : Bool) : T → T → Ot
  | .bl a, .bl b => .sh (.bl (n != decide (a = b)))
  | a, .non => .sh (.bl (n != a.isNon))
  | _, _ => .no
theorem isNon_V {K : PySem.W.Frag} {W : Ad} {H : Hp} {v : V} {t : T} (h : IsR K W H v t) : decide (v = .non) = t.isNon := by
  rcases h with h | ⟨p, e, h⟩
  · cases h <;> first | rfl | exact decide_eq_false (by intro z; cases z)
  · subst e
    cases t with
    | non => exact h.elim
    | _ => exact decide_eq_false (by intro z; cases z)
section
variable {X : Cx}
theorem op_isA : OpR X (compareOp .Is) (fun x y H Q => (y = .non ∧ Q (.bl (decide (x = .non))) H) ∨ rIsB x y H Q) := op_isN.or op_isBl
theorem p_is : Pure2 X.K (fun x y H Q => (y = .non ∧ Q (.bl (decide (x = .non))) H) ∨ rIsB x y H Q) (isT false) := by
  intro W H v u a b Q wd ha hb pre k
  revert pre k
  unfold isT
  split <;> intro pre k
  · rw [ha.bl, hb.bl]; exact .inr ⟨_, _, rfl, rfl, by have := k _ _ (.bl _); rwa [Bool.false_bne] at this⟩
  · rw [hb.non]; exact .inl ⟨rfl, by rw [isNon_V ha]; have := k _ _ (.bl _); rwa [Bool.false_bne] at this⟩
  · exact pre.elim
end
def T.anyEq (ts : List T) (a : T) : Bool := match T.pdL ts, a.pd with
  | some ds, some d => ds.any fun z => PyData.eqv z d
  | _, _ => false
def inT (n : Bool) : T → T → Ot
  | .str [c], .str z => .sh (.bl (n != decide (c ∈ z)))
  | a, .lst ts => ⟨okD a ∧ okD (.lst ts), (false, .bl (n != T.anyEq ts a))⟩
  | a, .scr ts => ⟨okD a ∧ okD (.scr ts), (false, .bl (n != T.anyEq ts a))⟩
  | _, _ => .no
def rInA (K : PySem.W.Frag) : R2 := fun x y H Q => (∃ (c : Nat) (z : Str), x = .str ⟨#[c]⟩ ∧ y = .str z ∧ Q (.bl (decide (c ∈ z.cps.toList))) H) ∨ rInD K x y H Q
def rNotInA (K : PySem.W.Frag) : R2 := fun x y H Q => (∃ (c : Nat) (z : Str), x = .str ⟨#[c]⟩ ∧ y = .str z ∧ Q (.bl (!decide (c ∈ z.cps.toList))) H) ∨ rNotInD K x y H Q
section
variable {X : Cx}
theorem op_inA (hu : X.A.units + 65 < cLine) : OpR X (compareOp .In) (rInA X.K) := op_in_sign.or (op_inD hu)
theorem op_ninA (hu : X.A.units + 65 < cLine) : OpR X (compareOp .NotIn) (rNotInA X.K) := op_notIn_sign.or (op_notInD hu)
theorem anyEq_is {a : T} {ts : List T} {d : PyData} {ds : List PyData} (e1 : a.pd = some d) (e2 : T.pdL ts = some ds) : T.anyEq ts a = ds.any fun z => PyData.eqv z d := by unfold T.anyEq; rw [e1, e2]
theorem p_in : Pure2 X.K (rInA X.K) (inT false) := by
  intro W H v u a b Q wd ha hb pre k
  revert pre k
  unfold inT
  split <;> intro pre k
  · rw [ha.str, hb.str]; exact .inl ⟨_, _, rfl, rfl, by have := k _ _ (.bl _); rwa [Bool.false_bne] at this⟩
  · obtain ⟨⟨d, e1, s1⟩, ⟨e, e2, s2⟩⟩ := pre
    obtain ⟨ds, e3, e4⟩ := map_some e2
    subst e4
    have := k _ _ (.bl _)
    rw [Bool.false_bne, anyEq_is e1 e3] at this
    exact .inr ⟨d, ds, ha.dp e1, hb.dp e2, s1, s2, this⟩
  · obtain ⟨⟨d, e1, s1⟩, ⟨e, e2, s2⟩⟩ := pre
    obtain ⟨ds, e3, e4⟩ := map_some e2
    subst e4
    have := k _ _ (.bl _)
    rw [Bool.false_bne, anyEq_is e1 e3] at this
    exact .inr ⟨d, ds, ha.dp e1, hb.dp e2, s1, s2, this⟩
  · exact pre.elim
theorem p_nin : Pure2 X.K (rNotInA X.K) (inT true) := by
  intro W H v u a b Q wd ha hb pre k
  revert pre k
  unfold inT
  split <;> intro pre k
  · rw [ha.str, hb.str]; exact .inl ⟨_, _, rfl, rfl, by have := k _ _ (.bl _); rwa [Bool.true_bne] at this⟩
  · obtain ⟨⟨d, e1, s1⟩, ⟨e, e2, s2⟩⟩ := pre
    obtain ⟨ds, e3, e4⟩ := map_some e2
    subst e4
    have := k _ _ (.bl _)
    rw [Bool.true_bne, anyEq_is e1 e3] at this
    exact .inr ⟨d, ds, ha.dp e1, hb.dp e2, s1, s2, this⟩
  · obtain ⟨⟨d, e1, s1⟩, ⟨e, e2, s2⟩⟩ := pre
    obtain ⟨ds, e3, e4⟩ := map_some e2
    subst e4
    have := k _ _ (.bl _)
    rw [Bool.true_bne, anyEq_is e1 e3] at this
    exact .inr ⟨d, ds, ha.dp e1, hb.dp e2, s1, s2, this⟩
  · exact pre.elim
end
def ixT : T → T → Ot
  | .lst ts, .int i => ⟨(atI ts i).isSome = true, (false, (atI ts i).getD .non)⟩
  | .scr ts, .int i => ⟨(atI ts i).isSome = true, (false, (atI ts i).getD .non)⟩
  | .tup ts, .int i => ⟨(atI ts i).isSome = true, (false, (atI ts i).getD .non)⟩
  | .str l, .int i => ⟨l.length ≤ sizeLine ∧ (atI l i).isSome = true, (false, .str [(atI l i).getD 0])⟩
  | _, _ => .no
theorem IsL.atI {K : PySem.W.Frag} {W : Ad} {H : Hp} {xs : List V} {ts : List T} {i : Int} {t : T} (h : IsL K W H xs ts) (e : L2.atI ts i = some t) : ∃ v, L2.atI xs i = some v ∧ Is K W H v t := by
  unfold L2.atI at e ⊢
  rw [h.length]
  cases q : ixN ts.length i with
  | none => rw [q] at e; cases e
  | some j => rw [q] at e; exact h.get e
section
variable {X : Cx}
theorem p_ix : Pure2 X.K (rIx X.K) ixT := by
  intro W H v u a b Q wd ha hb pre k
  unfold ixT at pre k
  cases a <;> cases b <;> first | exact pre.elim | skip
  · rw [ha.str, hb.int]
    obtain ⟨h1, h2⟩ := pre
    obtain ⟨c, e⟩ := Option.isSome_iff_exists.mp h2
    have := k _ _ (.str _)
    rw [e] at this
    exact .inr (.inr ⟨_, _, c, rfl, rfl, by rw [S_len]; exact h1, e, this⟩)
  · obtain ⟨p, xs, rfl, r, l⟩ := ha.lst
    rw [hb.int]
    obtain ⟨t, e⟩ := Option.isSome_iff_exists.mp pre
    obtain ⟨x, e1, i1⟩ := l.atI e
    dsimp only at k
    rw [e] at k
    exact .inl ⟨p, xs, _, x, rfl, rfl, .of r, e1, k _ _ (.sh i1)⟩
  · obtain ⟨p, xs, rfl, r, l⟩ := ha.tup
    rw [hb.int]
    obtain ⟨t, e⟩ := Option.isSome_iff_exists.mp pre
    obtain ⟨x, e1, i1⟩ := l.atI e
    dsimp only at k
    rw [e] at k
    exact .inr (.inl ⟨p, xs, _, x, rfl, rfl, r, e1, k _ _ (.sh i1)⟩)
  · obtain ⟨p, xs, rfl, r, l⟩ := ha.scr
    rw [hb.int]
    obtain ⟨t, e⟩ := Option.isSome_iff_exists.mp pre
    obtain ⟨x, e1, i1⟩ := l.atI e
    dsimp only at k
    rw [e] at k
    exact .inl ⟨p, xs, _, x, rfl, rfl, r, e1, k _ _ (.sh i1)⟩
end
def cutL {α : Type} (xs : List α) (lo hi : Option Int) : List α := (xs.drop (HT.sIx xs.length 0 lo)).take (HT.sIx xs.length xs.length hi - HT.sIx xs.length 0 lo)
def slT : T → Option Int → Option Int → Ot
  | .lst ts, lo, hi => .new True (.lst (cutL ts lo hi))
  | .scr ts, lo, hi => .new True (.lst (cutL ts lo hi))
  | .tup ts, lo, hi => .sh (.tup (cutL ts lo hi))
  | .str l, lo, hi => .when (l.length ≤ sizeLine) (.str (cutL l lo hi))
  | _, _, _ => .no
theorem IsL.cut {K : PySem.W.Frag} {W : Ad} {H : Hp} {xs : List V} {ts : List T} {lo hi : Option Int} (h : IsL K W H xs ts) : IsL K W H (cutV xs lo hi) (cutL ts lo hi) := by
  unfold cutV cutL
  rw [h.length]
  exact (h.drop _).take _
def rSlx (K : PySem.W.Frag) : V → Option Int → Option Int → Hp → VK → Prop := fun x lo hi H Q => rSlL K x lo hi H Q ∨ rSlA K x lo hi H Q ∨ rSlS x lo hi H Q
/-- a slice's part -/
structure XP (X : Cx) (Wx : WX) (e : Option Expr) (d : Dn (Option Int)) : Prop where
  po : PO X e (RD X.K (fun _ _ _ _ (b c : Option Int) => b = c) nox Wx d)
  mn : Mn d
theorem PO.imp {X : Cx} {e : Option Expr} {t t' : TO} (h : PO X e t) (i : ∀ σ H Q, t' σ H Q → t σ H Q) : PO X e t' := ⟨fun pins s σ H Q I q => h.run pins s σ H Q I (i σ H Q q)⟩
def dNoP : Dn (Option Int) := fun ρ Q => Q.ok none ρ
def dPrt (d : Dn Rv) : Dn (Option Int) := fun ρ Q => d ρ ⟨fun r ρ1 => ∃ i, r = (false, .int i) ∧ Q.ok (some i) ρ1, Q.ex⟩
theorem mn_noP : Mn dNoP := fun ρ Q Q' h k _ => k _ _ h
theorem mn_prt {d : Dn Rv} (m : Mn d) : Mn (dPrt d) := fun ρ Q Q' h k e => m _ _ _ h (fun r ρ1 ⟨i, a, q⟩ => ⟨i, a, k _ _ q⟩) e
def dSl (f : T → Option Int → Option Int → Ot) (a : Dn Hn) (lo hi : Dn (Option Int)) : Dn Rv := fun ρ Q => a ρ ⟨fun h ρ1 => lo ρ1 ⟨fun l ρ2 => hi ρ2 ⟨fun u ρ3 => ∃ t, h.is ρ3 t ∧ (f t l u).pre ∧ Q.ok (f t l u).val ρ3, Q.ex⟩, Q.ex⟩, Q.ex⟩
theorem mn_sl {f : T → Option Int → Option Int → Ot} {a : Dn Hn} {lo hi : Dn (Option Int)} (ma : Mn a) (ml : Mn lo) (mh : Mn hi) : Mn (dSl f a lo hi) := fun ρ Q Q' h k e =>
  ma _ _ _ h (fun h1 ρ1 h => ml _ _ _ h (fun l ρ2 h => mh _ _ _ h (fun u ρ3 ⟨t, i, p, q⟩ => ⟨t, i, p, k _ _ q⟩) e) e) e
section
variable {X : Cx} {Wx : WX} {e : Expr} {lo hi : Option Expr} {da : Dn Hn} {dl dh : Dn (Option Int)} {de : Dn Rv} {pos p2 : Pos}
theorem sl_any : SlR X (rSlx X.K) := sl_list.or (sl_tupA.or sl_str)
theorem xp_none : XP X Wx none dNoP := ⟨PO.imp po_none fun σ H Q ⟨W, ρ, rep, q⟩ => q none W H rfl rep (Step.refl _ _ _).toNox (Pn.refl _), mn_noP⟩
theorem xp_some (h : XE X Wx e de) : XP X Wx (some e) (dPrt de) := by
  refine ⟨PO.imp (po_some h.pe) fun σ H Q ⟨W, ρ, rep, q⟩ => ?_, mn_prt h.mn⟩
  refine rd_first h.mn rep q fun r ρ1 ⟨i, e1, q⟩ v W1 H1 rl rep1 st pn => ?_
  subst e1
  rw [xr_sh] at st
  unfold relE at rl
  rw [if_neg (fun z : false = true => Bool.noConfusion z)] at rl
  cases rl
  exact ⟨i, rfl, q (some i) W1 H1 rfl rep1 st.toNox pn⟩
theorem p_sl {W : Ad} {H : Hp} {v : V} {t : T} {l u : Option Int} {Q : VK} (wd : Wd W H) (ha : IsR X.K W H v t) (pre : (slT t l u).pre) (k : ∀ v' H', Res X.K W H (slT t l u).val v' H' → Q v' H') : rSlx X.K v l u H Q := by
  unfold slT at pre k
  cases t <;> first | exact pre.elim | skip
  · rw [ha.str]
    refine .inr (.inr ⟨_, rfl, by rw [S_len]; exact pre, ?_⟩)
    have := k _ _ (.str _)
    unfold cutL at this
    unfold cutS
    rw [S_len]
    exact this
  · obtain ⟨p, xs, rfl, r, il⟩ := ha.lst
    exact .inl ⟨p, xs, rfl, .of r, fun q hq => k _ _ (.newL hq il.cut)⟩
  · obtain ⟨p, xs, rfl, r, il⟩ := ha.tup
    refine .inr (.inl ⟨p, xs, rfl, r, fun w => k _ _ (.sh ?_), fun w q hq => k _ _ (.newT wd hq il.cut)⟩)
    rename_i ts
    have e : cutL ts l u = ts := by
      unfold cutL
      rw [← il.length, w.1, w.2, il.length, List.drop_zero, Nat.sub_zero, List.take_length]
    rw [e]
    rcases ha with ha | ⟨_, _, ha⟩
    · exact ha
    · exact ha.elim
  · obtain ⟨p, xs, rfl, r, il⟩ := ha.scr
    exact .inl ⟨p, xs, rfl, r, fun q hq => k _ _ (.newL hq il.cut)⟩
theorem xe_sl (ha : XO X Wx e da) (hl : XP X Wx lo dl) (hh : XP X Wx hi dh) : XE X Wx (.Subscript e (.Slice lo hi none p2) pos) (dSl slT da dl dh) := by
  refine ⟨PE.imp (pe_slice sl_any ha.pe hl.po hh.po) fun σ H Q ⟨W, ρ, rep, q⟩ => ?_, mn_sl ha.mn hl.mn hh.mn⟩
  refine rd_first ha.mn rep q fun h ρ1 q v W1 H1 r1 rep1 st1 pn1 => ?_
  refine rd_next hl.mn rep st1.noxx pn1 rep1 q fun l ρ2 q l' W2 H2 r2 rep2 st12 st2 pn2 => ?_
  have r2 : l' = l := r2
  subst r2
  have ra := relO_step (ρ2 := ρ2) r1 rep1 st12
  refine rd_next hh.mn rep st2.noxx pn2 rep2 q fun u ρ3 ⟨t, i, pre, q⟩ u' W3 H3 r3 rep3 st23 st3 pn3 => ?_
  have r3 : u' = u := r3
  subst r3
  have rb := relO_step (ρ2 := ρ3) ra rep2 st23
  refine p_sl rep3.wd (isR_of rep3 rb i) pre fun v' H' rs => ?_
  obtain ⟨W', rl, rep', st'⟩ := rs.post rep3
  exact q v' W' H' rl rep' (st3.noxx.trans rep.wd st') pn3
end
end O
namespace O
open PySem PySem.Spec PyProof.Rows L2
def dLst (d : Dn (List Hn)) : Dn Rv := fun ρ Q => d ρ ⟨fun hs ρ1 => ∃ ts, tms hs = some ts ∧ ts.length ≤ sizeLine ∧ Q.ok (true, .lst ts) ρ1, Q.ex⟩
def dTup (d : Dn (List Hn)) : Dn Rv := fun ρ Q => d ρ ⟨fun hs ρ1 => ∃ ts, tms hs = some ts ∧ ts.length ≤ sizeLine ∧ Q.ok (false, .tup ts) ρ1, Q.ex⟩
theorem mn_lst {d : Dn (List Hn)} (m : Mn d) : Mn (dLst d) := fun ρ Q Q' h k e => m _ _ _ h (fun hs ρ1 ⟨ts, a, b, q⟩ => ⟨ts, a, b, k _ _ q⟩) e
theorem mn_tup {d : Dn (List Hn)} (m : Mn d) : Mn (dTup d) := fun ρ Q Q' h k e => m _ _ _ h (fun hs ρ1 ⟨ts, a, b, q⟩ => ⟨ts, a, b, k _ _ q⟩) e
section
variable {X : Cx} {Wx : WX} {e : Expr} {es : List Expr} {ds : Dn (List Hn)} {pos : Pos} {k : Nat}
theorem xe_lst (ha : XA X Wx es ds) : XE X Wx (.List es pos) (dLst ds) := by
  refine ⟨PE.imp (pe_lst ha.pa) fun σ H Q ⟨W, ρ, rep, q⟩ => ?_, mn_lst ha.mn⟩
  refine rd_first ha.mn rep q fun hs ρ1 ⟨ts, e, z, q⟩ vs W1 H1 rl rep1 st pn => ?_
  have e := tms_map e
  subst e
  have il := relOs_tm rl
  refine ⟨by rw [il.length]; exact z, fun p hp => ?_⟩
  obtain ⟨W', rl', rep', st'⟩ := Res.post rep1 (.newL hp il)
  exact q _ W' _ rl' rep' (st.noxx.trans rep.wd st') pn
theorem xe_tup (ha : XA X Wx es ds) : XE X Wx (.Tuple es k pos) (dTup ds) := by
  refine ⟨PE.imp (pe_tup ha.pa) fun σ H Q ⟨W, ρ, rep, q⟩ => ?_, mn_tup ha.mn⟩
  refine rd_first ha.mn rep q fun hs ρ1 ⟨ts, e, z, q⟩ vs W1 H1 rl rep1 st pn => ?_
  have e := tms_map e
  subst e
  have il := relOs_tm rl
  refine ⟨by rw [il.length]; exact z, fun p hp => ?_⟩
  obtain ⟨W', rl', rep', st'⟩ := Res.post rep1 (.newT rep1.wd hp il)
  exact q _ W' _ rl' rep' (st.noxx.trans rep.wd st') pn
end
def f1 (g : T → Ot) : List T → Ot
  | [a] => g a
  | _ => .no
def f2 (g : T → T → Ot) : List T → Ot
  | [a, b] => g a b
  | _ => .no
def f3 (g : T → T → T → Ot) : List T → Ot
  | [a, b, c] => g a b c
  | _ => .no
def PureC1 (K : PySem.W.Frag) (r : List V → Hp → VK → Prop) (g : T → Ot) : Prop := ∀ W H v a (Q : VK), Wd W H → IsR K W H v a → (g a).pre → (∀ v' H', Res K W H (g a).val v' H' → Q v' H') → r [v] H Q
def PureC2 (K : PySem.W.Frag) (r : List V → Hp → VK → Prop) (g : T → T → Ot) : Prop := ∀ W H v u a b (Q : VK), Wd W H → IsR K W H v a → IsR K W H u b → (g a b).pre → (∀ v' H', Res K W H (g a b).val v' H' → Q v' H') → r [v, u] H Q
theorem PureC1.n {K : PySem.W.Frag} {r : List V → Hp → VK → Prop} {g : T → Ot} (h : PureC1 K r g) : PureN K r (f1 g) := by
  intro W H vs as Q wd p pre k
  match as, p, pre, k with
  | [], _, pre, _ => exact pre.elim
  | [a], .cons x .nil, pre, k => exact h W H _ a Q wd x pre k
  | _ :: _ :: _, _, pre, _ => exact pre.elim
theorem PureC2.n {K : PySem.W.Frag} {r : List V → Hp → VK → Prop} {g : T → T → Ot} (h : PureC2 K r g) : PureN K r (f2 g) := by
  intro W H vs as Q wd p pre k
  match as, p, pre, k with
  | [], _, pre, _ => exact pre.elim
  | [a], _, pre, k => exact pre.elim
  | [a, b], .cons x (.cons y .nil), pre, k => exact h W H _ _ a b Q wd x y pre k
  | _ :: _ :: _ :: _, _, pre, _ => exact pre.elim
theorem CallR.orr {X : Cx} {f : Value} {r r' : List V → Hp → VK → Prop} (h : CallR X f r) (h' : CallR X f r') : CallR X f (fun xs H Q => r xs H Q ∨ r' xs H Q) := by
  intro pins s σ H xs us Q I rs q
  rcases q with q | q
  · exact h pins s σ H xs us Q I rs q
  · exact h' pins s σ H xs us Q I rs q
def lenT : T → Ot
  | .str l => .when (l.length ≤ sizeLine) (.int l.length)
  | .lst ts => .sh (.int ts.length)
  | .scr ts => .sh (.int ts.length)
  | .tup ts => .sh (.int ts.length)
  | .dK ts => .sh (.int ts.length)
  | _ => .no
theorem IsP.length {K : PySem.W.Frag} {W : Ad} {H : Hp} {κ : Type} : ∀ {xs : List (κ × V)} {ts : List (κ × T)}, IsP K W H κ xs ts → xs.length = ts.length
  | _, _, .nil => rfl
  | _, _, .cons _ b => by rw [List.length_cons, List.length_cons, IsP.length b]
theorem IsR.dK {K : PySem.W.Frag} {W : Ad} {H : Hp} {v : V} {ts : List (Key × T)} (h : IsR K W H v (.dK ts)) : ∃ p xs, v = .ref p ∧ H p = some (.dK xs) ∧ IsP K W H Key xs ts := by
  rcases h with h | ⟨p, e, h⟩
  · cases h with | dK r n l => exact ⟨_, _, rfl, r, l⟩
  · obtain ⟨xs, r, l⟩ := h; exact ⟨p, xs, e, r, l⟩
def rLenA (K : PySem.W.Frag) : List V → Hp → VK → Prop := fun xs H Q => (∃ x n, xs = [x] ∧ LenV K x H n ∧ Q (.int n) H) ∨ ∃ a kvs, xs = [V.ref a] ∧ H a = some (.dK kvs) ∧ Q (.int kvs.length) H
section
variable {X : Cx}
theorem call_lenA : CallR X (.builtin "len") (rLenA X.K) := CallR.orr call_len call_lenD
theorem p_len : PureN X.K (rLenA X.K) (f1 lenT) := PureC1.n fun W H v a Q wd ha pre k => by
  unfold lenT at pre k
  cases a <;> first | exact pre.elim | skip
  · rw [ha.str]; exact .inl ⟨_, _, rfl, ⟨by rw [S_len]; exact pre, rfl⟩, by rw [S_len]; exact k _ _ (.int _)⟩
  · obtain ⟨p, xs, rfl, r, l⟩ := ha.lst; exact .inl ⟨_, _, rfl, .inl ⟨xs, .of r, rfl⟩, by rw [l.length]; exact k _ _ (.int _)⟩
  · obtain ⟨p, xs, rfl, r, l⟩ := ha.tup; exact .inl ⟨_, _, rfl, .inr ⟨xs, r, rfl⟩, by rw [l.length]; exact k _ _ (.int _)⟩
  · obtain ⟨p, xs, rfl, r, l⟩ := ha.scr; exact .inl ⟨_, _, rfl, .inl ⟨xs, r, rfl⟩, by rw [l.length]; exact k _ _ (.int _)⟩
  · obtain ⟨p, xs, rfl, r, l⟩ := ha.dK; exact .inr ⟨p, xs, rfl, r, by rw [l.length]; exact k _ _ (.int _)⟩
end
def intT : T → Ot
  | .int i => .sh (.int i)
  | .bl b => .sh (.int (if b then 1 else 0))
  | _ => .no
def absT : T → Ot
  | .int i => .sh (.int (if i < 0 then -i else i))
  | _ => .no
def max2T : T → T → Ot
  | .int i, .int j => .sh (.int (if j > i then j else i))
  | _, _ => .no
def min2T : T → T → Ot
  | .int i, .int j => .sh (.int (if j < i then j else i))
  | _, _ => .no
section
variable {X : Cx}
theorem p_int1 : PureN X.K (fun xs H Q => (∃ i, xs = [.int i] ∧ Q (.int i) H) ∨ ∃ k, xs = [.bl k] ∧ Q (.int (if k then 1 else 0)) H) (f1 intT) := PureC1.n fun W H v a Q wd ha pre k => by
  unfold intT at pre k
  cases a <;> first | exact pre.elim | skip
  · rw [ha.bl]; exact .inr ⟨_, rfl, k _ _ (.int _)⟩
  · rw [ha.int]; exact .inl ⟨_, rfl, k _ _ (.int _)⟩
theorem p_abs : PureN X.K (fun xs H Q => ∃ i, xs = [.int i] ∧ Q (.int (if i < 0 then -i else i)) H) (f1 absT) := PureC1.n fun W H v a Q wd ha pre k => by
  unfold absT at pre k
  cases a <;> first | exact pre.elim | skip
  rw [ha.int]; exact ⟨_, rfl, k _ _ (.int _)⟩
theorem p_min2 : PureN X.K (fun xs H Q => ∃ i j, xs = [.int i, .int j] ∧ Q (.int (if j < i then j else i)) H) (f2 min2T) := PureC2.n fun W H v u a b Q wd ha hb pre k => by
  unfold min2T at pre k
  cases a <;> cases b <;> first | exact pre.elim | skip
  rw [ha.int, hb.int]; exact ⟨_, _, rfl, k _ _ (.int _)⟩
end
def T.ints : List T → Option (List Int)
  | [] => some []
  | .int i :: ts => match T.ints ts with
    | some ns => some (i :: ns)
    | none => none
  | _ :: _ => none
def T.bools : List T → Option (List Bool)
  | [] => some []
  | .bl i :: ts => match T.bools ts with
    | some ns => some (i :: ns)
    | none => none
  | _ :: _ => none
theorem bools_map : ∀ {ts : List T} {ns : List Bool}, T.bools ts = some ns → ts = ns.map T.bl
  | [], _, e => by cases e; rfl
  | .bl i :: ts, ns, e => by
    unfold T.bools at e
    cases q : T.bools ts with
    | none => rw [q] at e; cases e
    | some us => rw [q] at e; cases e; rw [bools_map q]; rfl
  | .non :: _, _, e => by cases e
  | .int _ :: _, _, e => by cases e
  | .str _ :: _, _, e => by cases e
  | .ty _ :: _, _, e => by cases e
  | .fn _ :: _, _, e => by cases e
  | .lst _ :: _, _, e => by cases e
  | .tup _ :: _, _, e => by cases e
  | .scr _ :: _, _, e => by cases e
  | .dK _ :: _, _, e => by cases e
  | .dT _ :: _, _, e => by cases e
  | .ins _ _ :: _, _, e => by cases e
theorem ints_of (ns : List Int) : T.ints (ns.map T.int) = some ns := by
  induction ns with
  | nil => rfl
  | cons n ns ih => show (match T.ints (ns.map T.int) with | some ns => some (n :: ns) | none => none) = _; rw [ih]
theorem bools_of (ns : List Bool) : T.bools (ns.map T.bl) = some ns := by
  induction ns with
  | nil => rfl
  | cons n ns ih => show (match T.bools (ns.map T.bl) with | some ns => some (n :: ns) | none => none) = _; rw [ih]
theorem IsL.ints {K : PySem.W.Frag} {W : Ad} {H : Hp} : ∀ {xs : List V} {ns : List Int}, IsL K W H xs (ns.map T.int) → xs = ns.map V.int
  | _, [], h => by cases h; rfl
  | _, n :: ns, h => by cases h with | cons a b => cases a; rw [IsL.ints b]; rfl
theorem IsL.bools {K : PySem.W.Frag} {W : Ad} {H : Hp} : ∀ {xs : List V} {ns : List Bool}, IsL K W H xs (ns.map T.bl) → xs = ns.map V.bl
  | _, [], h => by cases h; rfl
  | _, n :: ns, h => by cases h with | cons a b => cases a; rw [IsL.bools b]; rfl
/-- the items of a list, however it stands -/
def T.lists : T → Option (List T)
  | .lst ts => some ts
  | .scr ts => some ts
  | _ => none
theorem IsR.lists {K : PySem.W.Frag} {W : Ad} {H : Hp} {v : V} {t : T} {ts : List T} (h : IsR K W H v t) (e : t.lists = some ts) : ∃ p xs, v = .ref p ∧ SqL K H p xs ∧ IsL K W H xs ts := by
  cases t <;> first | cases e | skip
  · obtain ⟨p, xs, e, r, l⟩ := h.lst; exact ⟨p, xs, e, .of r, l⟩
  · obtain ⟨p, xs, e, r, l⟩ := h.scr; exact ⟨p, xs, e, r, l⟩
def sumT (a : T) : Ot := match a.lists with
  | some ts => ⟨(T.ints ts).isSome = true, (false, .int ((T.ints ts).getD []).sum)⟩
  | none => .no
def anyT (a : T) : Ot := match a.lists with
  | some ts => ⟨(T.bools ts).isSome = true, (false, .bl (((T.bools ts).getD []).any id))⟩
  | none => .no
def allT (a : T) : Ot := match a.lists with
  | some ts => ⟨(T.bools ts).isSome = true, (false, .bl (((T.bools ts).getD []).all id))⟩
  | none => .no
section
variable {X : Cx}
theorem p_all : PureN X.K (rAll X.K) (f1 allT) := PureC1.n fun W H v a Q wd ha pre k => by
  unfold allT at pre k
  cases e : a.lists with
  | none => rw [e] at pre; exact pre.elim
  | some ts =>
    rw [e] at pre k
    obtain ⟨ns, en⟩ := Option.isSome_iff_exists.mp pre
    obtain ⟨p, xs, rfl, r, l⟩ := ha.lists e
    have := bools_map en
    subst this
    rw [l.bools] at r
    dsimp only at k
    rw [en] at k
    exact ⟨p, ns, rfl, r, k _ _ (.bl _)⟩
end
def listT : T → Ot
  | .lst ts => .new True (.lst ts)
  | .scr ts => .new True (.lst ts)
  | .tup ts => .new True (.lst ts)
  | .str l => .new (l.length ≤ sizeLine) (.lst (l.map fun c => .str [c]))
  | _ => .no
section
variable {X : Cx}
theorem vals_signs {l : List Nat} {us : Array Value} (h : ItemsOf (SignAt (S l)) us (S l).cps.size) : Vals (l.map fun c => V.str (S [c])) us.toList := by
  have hl : us.size = l.length := by rw [h.1]; simp [S]
  have g : ∀ (k : Nat) (m : List Nat) (vs : List Value), m.length = vs.length → (∀ j c, m[j]? = some c → l[k + j]? = some c) → (∀ j v, vs[j]? = some v → us[k + j]? = some v) → Vals (m.map fun c => V.str (S [c])) vs := by
    intro k m
    induction m generalizing k with
    | nil => intro vs e _ _; cases vs with | nil => exact .nil | cons _ _ => cases e
    | cons c m ih =>
      intro vs e hm hv
      cases vs with
      | nil => cases e
      | cons v vs =>
        have h1 := hm 0 c rfl
        have h2 := hv 0 v rfl
        obtain ⟨c', u, e1, e2⟩ := h.2 _ _ h2
        have e3 : l[k + 0]? = some c' := by simpa [S] using e1
        rw [h1] at e3; cases e3
        refine .cons ⟨u, e2⟩ (ih (k + 1) vs (by simpa using e) (fun j d q => ?_) fun j d q => ?_)
        · have := hm (j + 1) d (by simpa using q); rwa [show k + 1 + j = k + (j + 1) by omega]
        · have := hv (j + 1) d (by simpa using q); rwa [show k + 1 + j = k + (j + 1) by omega]
  exact g 0 l us.toList (by simpa using hl.symm) (fun j c q => by simpa using q) fun j v q => by simpa using q
def rListA (K : PySem.W.Frag) : List V → Hp → VK → Prop := fun xs H Q => (∃ p ys, xs = [.ref p] ∧ (SqL K H p ys ∨ SqT K H p ys) ∧ ∀ l, H l = none → Q (.ref l) (upd H l (.lst ys))) ∨
  ∃ l : List Nat, xs = [.str (S l)] ∧ l.length ≤ sizeLine ∧ ∀ p, H p = none → Q (.ref p) (upd H p (.lst (l.map fun c => V.str (S [c]))))
theorem call_listA (hc : X.calm = true) : CallR X (.type "list") (rListA X.K) := CallR.orr call_list_of fun pins s σ H xs us Q I r h => by
  obtain ⟨l, rfl, hl, q⟩ := h
  cases r with | cons ru rr => cases rr with | nil =>
  obtain ⟨t, rfl⟩ := ru
  have hz : (S l).cps.size ≤ sizeLine := by simpa [S] using hl
  refine call_list_str (I.ok.hd hc) (S l) t (hn := hz) fun h' tk acc c' keep at' items => ?_
  exact ⟨.ref s.heap.objs.size, _, I.laid (o := .lst (l.map fun c => V.str (S [c]))) keep (Nat.le_refl _) ⟨by simpa using hl, acc.toList, c', vals_signs items, by simpa using at'⟩, rfl, q _ (I.hok.fresh (Nat.le_refl _))⟩
theorem IsL.sgs {K : PySem.W.Frag} {W : Ad} {H : Hp} : ∀ l : List Nat, IsL K W H (l.map fun c => V.str (S [c])) (l.map fun c => .str [c])
  | [] => .nil
  | c :: l => .cons (.str [c]) (IsL.sgs l)
theorem p_list : PureN X.K (rListA X.K) (f1 listT) := PureC1.n fun W H v a Q wd ha pre k => by
  unfold listT at pre k
  cases a <;> first | exact pre.elim | skip
  · rw [ha.str]; exact .inr ⟨_, rfl, pre, fun p hp => k _ _ (.newL hp (IsL.sgs _))⟩
  · obtain ⟨p, xs, rfl, r, l⟩ := ha.lst; exact .inl ⟨p, xs, rfl, .inl (.of r), fun q hq => k _ _ (.newL hq l)⟩
  · obtain ⟨p, xs, rfl, r, l⟩ := ha.tup; exact .inl ⟨p, xs, rfl, .inr r, fun q hq => k _ _ (.newL hq l)⟩
  · obtain ⟨p, xs, rfl, r, l⟩ := ha.scr; exact .inl ⟨p, xs, rfl, .inl r, fun q hq => k _ _ (.newL hq l)⟩
end
def T.pdD (t : T) : PyData := t.pd.getD .none
/-- the order of data -/
def T.le (a b : T) : Bool := PySem.W.dataLe false T.pdD a b
def srtOk (ts : List T) : Prop := (∃ ds, T.pdL ts = some ds ∧ ∀ d ∈ ds, d.depth ≤ 64) ∧ PySem.W.AllAlike (ts.map T.pdD) ∧ PySem.W.Sortable (ts.map T.pdD)
def rSortA (K : PySem.W.Frag) : List V → Hp → VK → Prop := fun vs H Q => (∃ (a : Addr) (ps : List (V × T)), vs = [.ref a] ∧ SqL K H a (ps.map (·.1)) ∧ (∀ p ∈ ps, ∃ d, p.2.pd = some d ∧ Dp K H p.1 d ∧ d.depth ≤ 64) ∧
    PySem.W.AllAlike (ps.map fun p => p.2.pdD) ∧ PySem.W.Sortable (ps.map fun p => p.2.pdD) ∧ ∀ l, H l = none → Q (.ref l) (upd H l (.lst ((ps.mergeSort (PySem.W.dataLe false fun p => p.2.pdD)).map (·.1))))) ∨
  ∃ x : List Nat, vs = [.str (S x)] ∧ x.length ≤ sizeLine ∧ ∀ l, H l = none → Q (.ref l) (upd H l (.lst ((x.mergeSort fun a b => decide (a ≤ b)).map fun c => V.str (S [c]))))
theorem each_vals {β : Type} {f : β → V} : ∀ {us : List Value} {bs : List β}, PySem.W.EachIs (fun u b => RelV (f b) u) us bs → Vals (bs.map f) us
  | _, _, .nil => .nil
  | _, _, .cons h t => .cons h (each_vals t)
theorem vals_each {β : Type} {f : β → V} : ∀ {us : List Value} {bs : List β}, Vals (bs.map f) us → PySem.W.EachIs (fun u b => RelV (f b) u) us bs
  | us, [], h => by cases us with | nil => exact .nil | cons _ _ => cases h
  | us, b :: bs, h => by cases h with | cons r t => exact .cons r (vals_each t)
section
variable {X : Cx}
theorem sort_dataA (hu : X.A.units + 66 < cLine) : CallR X (.builtin "sorted") (fun vs H Q => ∃ (a : Addr) (ps : List (V × T)), vs = [.ref a] ∧ SqL X.K H a (ps.map (·.1)) ∧ (∀ p ∈ ps, ∃ d, p.2.pd = some d ∧ Dp X.K H p.1 d ∧ d.depth ≤ 64) ∧
    PySem.W.AllAlike (ps.map fun p => p.2.pdD) ∧ PySem.W.Sortable (ps.map fun p => p.2.pdD) ∧ ∀ l, H l = none → Q (.ref l) (upd H l (.lst ((ps.mergeSort (PySem.W.dataLe false fun p => p.2.pdD)).map (·.1))))) := by
  rintro pins s σ H xs us Q I r ⟨a, ps, rfl, hs, hp, al, sb, q⟩
  obtain ⟨its, rv, pl, hz⟩ := I.list hs
  cases r with | cons ru rr => cases rr with | nil =>
  cases (show _ = Value.ref a from ru)
  have hlen := rv.length
  rw [List.length_map] at hlen hz
  have ev := vals_each rv
  have rd : ∀ {us : List Value} {bs : List (V × T)}, (∀ p ∈ bs, p ∈ ps) → PySem.W.EachIs (fun u (b : V × T) => RelV b.1 u) us bs → PySem.W.EachIs (fun v (b : V × T) => ∃ as, Reads s.heap v b.2.pdD as) us bs := fun {us bs} m e => by
    induction e with
    | nil => exact .nil
    | @cons u b us bs h t ih =>
      obtain ⟨d, e1, e2, _⟩ := hp _ (m _ List.mem_cons_self)
      refine .cons ?_ (ih fun p hp => m p (List.mem_cons_of_mem _ hp))
      unfold T.pdD
      rw [e1]
      exact Dp.reads I d _ _ e2 h
  refine PySem.W.sorted_data (enc := fun p : V × T => p.2.pdD) pl.isList ev (rd (fun _ h => h) ev) al sb hz (fun b hb => ?_) fun out hl eo => ?_
  · obtain ⟨d, e1, _, e3⟩ := hp b hb
    unfold T.pdD
    rw [e1]
    show X.A.units + 2 + d.depth < cLine
    omega
  · obtain ⟨n, at'⟩ := sortedAll_at s.heap its out.toArray
    refine ⟨.ref _, _, I.laid (t' := s.toks) (o := .lst ((ps.mergeSort (PySem.W.dataLe false fun p => p.2.pdD)).map (·.1))) (fun _ _ => sortedAll_old) (Nat.le_succ _) ⟨?_, out, n, each_vals eo, at'⟩, rfl, q _ (I.hok.fresh (Nat.le_succ _))⟩
    rw [List.length_map, List.length_mergeSort]
    exact hz
/-- the signs of a text, sorted -/
theorem sort_signs {prog : Program} {w : World} {A : Around} {E : Value → Shared → Prop} {s : Shared} {Q : Value → Shared → Prop} (hh : A.handled = none) (hu : A.units + 66 < cLine) (x : List Nat) (t : Tok) (hx : x.length ≤ sizeLine)
    (h : ∀ (h1 h' : Heap) (tk : Nat) (d : Addr) (out : List Value) (n : Nat), (∀ b o, s.heap.get? b = some o → h1.get? b = some o) → (∀ b o, h1.get? b = some o → h'.get? b = some o) → h1.objs.size ≤ d → h'.get? d = some (seqObj "list" out.toArray n) →
      PySem.W.EachIs (fun u (c : Nat) => RelV (.str (S [c])) u) out (x.mergeSort fun a b => decide (a ≤ b)) → Q (.ref d) { s with heap := h', toks := tk }) :
    wpAny (model prog w) A (call (.builtin "sorted") [.str (S x) t]) Q E s := by
  have hz : (S x).cps.size ≤ sizeLine := by simpa [S] using hx
  refine call_function_entry_kw kind_sorted plain_sorted entry_sorted (args_sorted1 _) ?_
  show wpAny _ _ (Builtin.«sorted» ⟨[.str (S x) t], []⟩) _ _ _
  unfold Builtin.«sorted»
  refine wpAny_bind (m := checkCount "sorted" 1 1 _) (wpAny_pure (wpAny_bind (wpAny_collect_str (A := A.in1) hh (S x) t (fun s' acc keep hg hd hos items => ?_) hz)))
  have ev := vals_each (vals_signs items)
  have hl := ev.length
  let N := s'.heap.objs.size
  let h2 := s'.heap.push (seqObj "list" acc.toList.toArray 0)
  have at2 : h2.get? N = some (seqObj "list" acc.toList.toArray 0) := Heap.get?_push_size _ rfl
  have rd : ∀ {hp : Heap} {us : List Value} {bs : List Nat}, PySem.W.EachIs (fun u (c : Nat) => RelV (.str (S [c])) u) us bs → PySem.W.EachIs (fun v (c : Nat) => ∃ as, Reads hp v (.str (S [c])) as) us bs := fun {hp us bs} e => e.mono fun u c ⟨t, e⟩ => ⟨_, by rw [e]; exact .str _ _⟩
  refine wpAny_bind (wpAny_newList ?_ (by omega))
  refine wpAny_bind (wpAny_holding (wpAny_call_entry_kw (self := .ref N) slot_list_sort (show Shared.TypeIs { s' with heap := h2 } (.ref N) "list" from ⟨_, at2, rfl⟩) entry_list_sort ?_ (args_list_sort _)))
  have al : PySem.W.AllAlike (x.map fun c => PyData.str (S [c])) := PySem.W.AllAlike.of fun a b => rfl
  have sb : PySem.W.Sortable (x.map fun c => PyData.str (S [c])) := PySem.W.Sortable.others fun c => ⟨fun z => (by cases z), fun xs z => (by cases z)⟩
  have S1 : PySem.W.SortsAt prog w A.in1.in1 { s' with heap := PySem.W.sortingHeap h2 N acc.toList } (PySem.W.dataKind (PySem.W.sortingHeap h2 N acc.toList) (x.map fun c => PyData.str (S [c]))) acc.toList :=
    PySem.W.SortsAt.data (PySem.W.each_map (R := fun v d => ∃ as, Reads (PySem.W.sortingHeap h2 N acc.toList) v d as) (fun c => PyData.str (S [c])) (rd ev)) al sb fun d hd => by
      obtain ⟨c, _, rfl⟩ := List.mem_map.mp hd
      show A.units + 1 + 1 + 0 < cLine
      omega
  refine PySem.W.list_sort_vals (s := { s' with heap := h2 }) at2 S1 (by omega) ⟨_, rfl, wpAny_pure ⟨_, rfl, ?_⟩⟩
  obtain ⟨n, at3⟩ := sortedHeap_at (vs := acc.toList) (out := (PySem.W.sortVals (PySem.W.dataKind (PySem.W.sortingHeap h2 N acc.toList) (x.map fun c => PyData.str (S [c]))) false acc.toList acc.toList).toArray) at2
  have eo := PySem.W.sortVals_data (h' := PySem.W.sortingHeap h2 N acc.toList) (R := fun u (c : Nat) => RelV (.str (S [c])) u) (enc := fun c => PyData.str (S [c])) false ev (rd ev) al
  rw [PySem.W.dataLe_str] at eo
  have := h s'.heap (sortedHeap h2 N acc.toList _) s'.toks N _ n keep (fun b o e => ?_) (Nat.le_refl _) at3 ?_
  · obtain ⟨a1, a2, a3, a4, a5⟩ := s'
    cases hg; cases hd; cases hos
    exact this
  · have e2 : h2.get? b = some o := Heap.get?_push_of_some _ e
    rw [sortedHeap_old (Nat.ne_of_lt (Heap.lt_size e)) (Heap.lt_size e2)]; exact e2
  · have fe : (fun a b : Nat => decide ((S [a]).cps.toList ≤ (S [b]).cps.toList)) = fun a b => decide (a ≤ b) := by
      funext a b
      show decide ([a] ≤ [b]) = decide (a ≤ b)
      have z : ([a] ≤ [b]) ↔ a ≤ b := by
        show ¬ ([b] < [a]) ↔ _
        rw [List.cons_lt_cons_iff]
        simp
      exact decide_eq_decide.mpr z
    rw [fe] at eo
    exact eo
theorem call_sortA (hc : X.calm = true) (hu : X.A.units + 66 < cLine) : CallR X (.builtin "sorted") (rSortA X.K) := CallR.orr (sort_dataA hu) fun pins s σ H xs us Q I r h => by
  obtain ⟨x, rfl, hx, q⟩ := h
  cases r with | cons ru rr => cases rr with | nil =>
  obtain ⟨t, rfl⟩ := ru
  refine sort_signs (I.ok.hd hc) hu x t hx fun h1 h' tk d out n k1 k2 hd at' eo => ?_
  have I1 : Inv X pins σ H { s with heap := h1, toks := s.toks } := I.kept k1
  have hfr : H d = none := I1.hok.fresh hd
  refine ⟨.ref d, _, I1.laid (t' := tk) (o := .lst ((x.mergeSort fun a b => decide (a ≤ b)).map fun c => V.str (S [c]))) k2 hd ⟨?_, out, n, each_vals eo, at'⟩, rfl, q _ hfr⟩
  rw [List.length_map, List.length_mergeSort]
  exact hx
/-- sorted(..) -/
def sortT (a : T) : Ot := match a with
  | .str l => .new (l.length ≤ sizeLine) (.lst ((l.mergeSort fun a b => decide (a ≤ b)).map fun c => .str [c]))
  | a => match a.lists with
    | some ts => .new (srtOk ts) (.lst (ts.mergeSort T.le))
    | none => .no
theorem pdL_mem : ∀ {ts : List T} {ds : List PyData}, T.pdL ts = some ds → ∀ t ∈ ts, ∃ d ∈ ds, t.pd = some d
  | [], _, _, t, h => by cases h
  | t :: ts, ds, e, u, h => by
    obtain ⟨d, es, e1, e2, e3⟩ := pdL_cons e
    subst e1
    rcases List.mem_cons.mp h with h | h
    · subst h; exact ⟨d, List.mem_cons_self, e2⟩
    · obtain ⟨x, hx, ex⟩ := pdL_mem e3 u h; exact ⟨x, List.mem_cons_of_mem _ hx, ex⟩
theorem IsL.zip {K : PySem.W.Frag} {W : Ad} {H : Hp} : ∀ {xs : List V} {ts : List T}, IsL K W H xs ts → ∀ p ∈ xs.zip ts, Is K W H p.1 p.2
  | _, _, .nil, p, h => by cases h
  | _, _, .cons a b, p, h => by
    rw [List.zip_cons_cons] at h
    rcases List.mem_cons.mp h with h | h
    · subst h; exact a
    · exact b.zip p h
theorem IsL.of {K : PySem.W.Frag} {W : Ad} {H : Hp} : ∀ {ps : List (V × T)}, (∀ p ∈ ps, Is K W H p.1 p.2) → IsL K W H (ps.map (·.1)) (ps.map (·.2))
  | [], _ => .nil
  | p :: ps, h => .cons (h p List.mem_cons_self) (IsL.of fun q hq => h q (List.mem_cons_of_mem _ hq))
theorem p_sort : PureN X.K (rSortA X.K) (f1 sortT) := PureC1.n fun W H v a Q wd ha pre k => by
  have main : ∀ ts, a.lists = some ts → srtOk ts → (∀ v' H', Res X.K W H (true, .lst (ts.mergeSort T.le)) v' H' → Q v' H') → rSortA X.K [v] H Q := fun ts e ⟨⟨ds, e1, dp⟩, al, sb⟩ k => by
    obtain ⟨p, xs, rfl, r, l⟩ := ha.lists e
    have hl := l.length
    have m1 : (xs.zip ts).map (·.1) = xs := List.map_fst_zip (by omega)
    have m2 : (xs.zip ts).map (·.2) = ts := List.map_snd_zip (by omega)
    have m3 : (xs.zip ts).map (fun p => p.2.pdD) = ts.map T.pdD := by rw [← m2, List.map_map, m2]; rfl
    refine .inl ⟨p, xs.zip ts, rfl, by rw [m1]; exact r, fun q hq => ?_, by rw [m3]; exact al, by rw [m3]; exact sb, fun q hq => ?_⟩
    · have hm : q.2 ∈ ts := by rw [← m2]; exact List.mem_map_of_mem hq
      obtain ⟨d, hd, ed⟩ := pdL_mem e1 _ hm
      exact ⟨d, ed, (l.zip q hq).dp ed, dp d hd⟩
    · have sm := PySem.W.sort_maps (r := PySem.W.dataLe false fun p : V × T => p.2.pdD) (s := T.le) (fun p : V × T => p.2) (l := xs.zip ts) fun a _ b _ => rfl
      have il : IsL X.K W H (((xs.zip ts).mergeSort (PySem.W.dataLe false fun p => p.2.pdD)).map (·.1)) (((xs.zip ts).mergeSort (PySem.W.dataLe false fun p => p.2.pdD)).map (·.2)) := IsL.of fun p hp => l.zip p (List.mem_mergeSort.mp hp)
      rw [sm, m2] at il
      exact k _ _ (.newL hq il)
  revert pre k
  unfold sortT
  split
  · intro pre k
    rw [ha.str]; exact .inr ⟨_, rfl, pre, fun p hp => k _ _ (.newL hp (IsL.sgs _))⟩
  · cases e : a.lists with
    | none => intro pre; exact pre.elim
    | some ts => intro pre k; exact main ts e pre k
end
def T.cls : T → Option String
  | .non => some "NoneType"
  | .bl _ => some "bool"
  | .int _ => some "int"
  | .str _ => some "str"
  | .lst _ => some "list"
  | .scr _ => some "list"
  | .tup _ => some "tuple"
  | .dK _ => some "dict"
  | .dT _ => some "dict"
  | _ => none
/-- an own instance is none of the built-in kinds -/
def isiI : T → T → Ot
  | .ins _ _, .ty n => ⟨n ∈ ["int", "bool", "str", "list", "tuple", "dict"], (false, .bl false)⟩
  | _, _ => .no
theorem IsR.insK {K : PySem.W.Frag} {W : Ad} {H : Hp} {v : V} {C : Addr} {fs : List (Str × T)} (h : IsR K W H v (.ins C fs)) : InsK K C ∧ TyX K H v (.ref C) := by
  rcases h with h | ⟨p, e, h⟩
  · cases h with | ins kc r w l => exact ⟨kc, .base (.ins r kc.cl kc.ha kc.hn kc.ht kc.hm)⟩
  · obtain ⟨kc, dx, xs, r, l⟩ := h; rw [e]; exact ⟨kc, .base (.ins r kc.cl kc.ha kc.hn kc.ht kc.hm)⟩
def isiT (a b : T) : Ot := match a.cls, b with
  | some c, .ty n => ⟨(kitB c n).isSome = true, (false, .bl ((kitB c n).getD false))⟩
  | _, b => isiI a b
theorem IsR.ty {K : PySem.W.Frag} {W : Ad} {H : Hp} {v : V} {n : String} (h : IsR K W H v (.ty n)) : v = .ty n := by
  rcases h with h | ⟨p, e, h⟩
  · cases h; rfl
  · exact h.elim
theorem IsR.cls {K : PySem.W.Frag} {W : Ad} {H : Hp} {v : V} {t : T} {c : String} (h : IsR K W H v t) (e : t.cls = some c) : TyX K H v (.type c) := by
  rcases h with h | ⟨p, e1, h⟩
  · cases h <;> cases e
    · exact .base .non
    · exact .base (.bl _)
    · exact .base (.int _)
    · exact .base (.str _)
    · rename_i r _ _; exact .base (.lst r)
    · rename_i r _ _; exact .base (.frz r)
    · rename_i r _; obtain ⟨o, _, _, e1, e2, _⟩ := r; exact .kList e1 e2
    · rename_i r _ _; exact .base (.tup r)
    · rename_i r _; obtain ⟨o, _, _, e1, e2, _⟩ := r; exact .kTuple e1 e2
    · rename_i r _ _; exact .base (.dK r)
    · rename_i r _ _; exact .base (.dT r)
  · subst e1
    cases t <;> cases e
    · exact h.elim
    · exact h.elim
    · exact h.elim
    · exact h.elim
    · obtain ⟨xs, r, _⟩ := h; exact .base (.lst r)
    · exact h.elim
    · exact h.elim
    · obtain ⟨xs, r, _⟩ := h; exact .base (.dK r)
    · obtain ⟨xs, r, _⟩ := h; exact .base (.dT r)
theorem p_isi {X : Cx} : PureN X.K (rIsi X.K) (f2 isiT) := PureC2.n fun W H v u a b Q wd ha hb pre k => by
  revert pre k
  unfold isiT
  split
  · rename_i c n e
    intro pre k
    obtain ⟨r, er⟩ := Option.isSome_iff_exists.mp pre
    dsimp only at k
    rw [er] at k
    rw [hb.ty]
    exact ⟨v, .ty n, .type c, .type n, r, rfl, .ty n, ha.cls e, kit_ty er, k _ _ (.bl _)⟩
  · unfold isiI
    split
    · rename_i n _
      intro pre k
      obtain ⟨kc, ty⟩ := ha.insK
      rw [hb.ty]
      exact ⟨v, .ty n, _, .type n, false, rfl, .ty n, ty, kc.ty n pre, k _ _ (.sh (.bl _))⟩
    · intro pre; exact pre.elim
end O
namespace O
open PySem PySem.Spec PyProof.Rows L2
section
variable {X : Cx} {Wx : WX}
def sDead : Ds := fun _ _ => False
theorem xs_dead {st : Stmt} : XS X Wx st sDead := ⟨⟨fun _ _ _ _ _ _ ⟨_, _, _, h⟩ => h.elim⟩, fun _ _ _ h => h.elim⟩
end
def T.isMt (Ty : String) : T → Prop
  | .str _ => Ty = "str"
  | .lst _ => Ty = "list"
  | .scr _ => Ty = "list"
  | .dK _ => Ty = "dict"
  | .dT _ => Ty = "dict"
  | _ => False
theorem tyV_of {K : PySem.W.Frag} {W : Ad} {H : Hp} {v : V} {t : T} {Ty : String} (h : IsR K W H v t) (i : t.isMt Ty) : tyV K Ty v H := by
  rcases h with h | ⟨p, e, h⟩
  · cases h with
    | str l => exact i
    | lst r n l => exact .inl ⟨i, _, .of r⟩
    | scr r n l => exact .inl ⟨i, _, .inl (.inr ⟨_, r⟩)⟩
    | scrK r l => exact .inl ⟨i, _, .inr r⟩
    | dK r n l => exact .inr (.inr (.inl ⟨i, .inl ⟨_, r⟩⟩))
    | dT r n l => exact .inr (.inr (.inl ⟨i, .inr ⟨_, r⟩⟩))
    | _ => exact i.elim
  · subst e
    cases t with
    | lst ts => obtain ⟨xs, r, _⟩ := h; exact .inl ⟨i, _, .of r⟩
    | dK ts => obtain ⟨xs, r, _⟩ := h; exact .inr (.inr (.inl ⟨i, .inl ⟨_, r⟩⟩))
    | dT ts => obtain ⟨xs, r, _⟩ := h; exact .inr (.inr (.inl ⟨i, .inr ⟨_, r⟩⟩))
    | _ => first | exact h.elim | exact i.elim
def dMt (Ty : String) (f : T → List T → Ot) (a : Dn Hn) (b : Dn (List Hn)) : Dn Rv := fun ρ Q => a ρ ⟨fun h ρ1 => (∃ t, h.is ρ1 t ∧ t.isMt Ty) ∧ b ρ1 ⟨fun hs ρ2 => ∃ t, h.is ρ2 t ∧ ∃ ts, Hn.all ρ2 hs ts ∧ (f t ts).pre ∧ Q.ok (f t ts).val ρ2, Q.ex⟩, Q.ex⟩
theorem mn_mt {Ty : String} {f : T → List T → Ot} {a : Dn Hn} {b : Dn (List Hn)} (ma : Mn a) (mb : Mn b) : Mn (dMt Ty f a b) := fun ρ Q Q' h k e =>
  ma _ _ _ h (fun h1 ρ1 h => ⟨h.1, mb _ _ _ h.2 (fun h2 ρ2 ⟨t, i, u, j, p, q⟩ => ⟨t, i, u, j, p, k _ _ q⟩) e⟩) e
section
variable {X : Cx} {Wx : WX} {o e : Expr} {es : List Expr} {da : Dn Hn} {ds : Dn (List Hn)} {name : Str} {apos cpos : Pos} {Ty id : String} {r : V → List V → Hp → VK → Prop} {f : T → List T → Ot}
theorem mt_run (hp : PureM X.K r f) (ma : Mn da) (mb : Mn ds) (σ : L2.St) (H : Hp) (Q : VK) (h : RD X.K (relE X.K) xr Wx (dMt Ty f da ds) σ H Q) :
    RD X.K (relO X.K) nox Wx da σ H fun x H1 => tyV X.K Ty x H1 ∧ RD X.K (relOs X.K) nox Wx ds σ H1 fun xs H2 => r x xs H2 Q := by
  obtain ⟨W, ρ, rep, h⟩ := h
  refine rd_first ma rep h fun h1 ρ1 ⟨⟨t0, i0, m0⟩, k1⟩ v W1 H1 r1 rep1 st1 pn1 => ⟨tyV_of (isR_of rep1 r1 i0) m0, ?_⟩
  refine rd_next mb rep st1.noxx pn1 rep1 k1 fun h2 ρ2 ⟨t, i, ts, j, p, q⟩ w W2 H2 r2 rep2 st12 st2 pn2 => ?_
  refine hp W2 H2 v w t ts Q rep2.wd (isR_of rep2 (relO_step (ρ2 := ρ2) r1 rep1 st12) i) (all_isR rep2 r2 j) p fun v' H' rs => ?_
  obtain ⟨W', rl, rep', st'⟩ := rs.post rep2
  exact q v' W' H' rl rep' (st2.noxx.trans rep.wd st') pn2
/-- o.m(e, ..) -/
theorem xe_bm (hp : PureM X.K r f) (pa : PlainAttrs Ty) (slot : Slot Ty name id) (hty : typeOf (.builtin id) = pure (.type "method_descriptor")) (hm : MtR X id r) (ho : XO X Wx o da) (ha : XA X Wx (e :: es) ds)
    (hb : attributeBase o name X.env (eval o X.env) = eval o X.env := by rfl)
    (few : ((backTo cpos (starEach (e :: es) X.env)).all (fun x => !x.1) && (backToKw cpos (keywordEach [] X.env)).all (fun x => x.1.isSome) && decide ((e :: es).length + ([] : List Keyword).length + (if ([] : List Keyword).isEmpty then 0 else 1) < 30)) = true := by rfl)
    (ln : (apos.endLine == cpos.line) = true := by rfl) (st : starEach (e :: es) X.env = (false, eval e X.env) :: starEach es X.env := by rfl) (np : (backTo cpos (starEach es X.env)).any (·.1) = false := by rfl) :
    XE X Wx (.Call (.Attribute o name apos) (e :: es) [] cpos) (dMt Ty f da ds) :=
  ⟨PE.imp (pe_bm pa slot hty hm ho.pe ha.pa hb few ln st np) fun σ H Q h => mt_run hp ho.mn ha.mn σ H Q h, mn_mt ho.mn ha.mn⟩
end
def T.strs : List T → Option (List (List Nat))
  | [] => some []
  | .str l :: ts => match T.strs ts with
    | some ns => some (l :: ns)
    | none => none
  | _ :: _ => none
theorem strs_map : ∀ {ts : List T} {ns : List (List Nat)}, T.strs ts = some ns → ts = ns.map T.str
  | [], _, e => by cases e; rfl
  | .str l :: ts, ns, e => by
    unfold T.strs at e
    cases q : T.strs ts with
    | none => rw [q] at e; cases e
    | some us => rw [q] at e; cases e; rw [strs_map q]; rfl
  | .non :: _, _, e => by cases e
  | .bl _ :: _, _, e => by cases e
  | .int _ :: _, _, e => by cases e
  | .ty _ :: _, _, e => by cases e
  | .fn _ :: _, _, e => by cases e
  | .lst _ :: _, _, e => by cases e
  | .tup _ :: _, _, e => by cases e
  | .scr _ :: _, _, e => by cases e
  | .dK _ :: _, _, e => by cases e
  | .dT _ :: _, _, e => by cases e
  | .ins _ _ :: _, _, e => by cases e
theorem strs_of (ns : List (List Nat)) : T.strs (ns.map T.str) = some ns := by
  induction ns with
  | nil => rfl
  | cons n ns ih => show (match T.strs (ns.map T.str) with | some ns => some (n :: ns) | none => none) = _; rw [ih]
theorem IsL.strs {K : PySem.W.Frag} {W : Ad} {H : Hp} : ∀ {xs : List V} {ns : List (List Nat)}, IsL K W H xs (ns.map T.str) → xs = (ns.map S).map V.str
  | _, [], h => by cases h; rfl
  | _, n :: ns, h => by cases h with | cons a b => cases a; rw [IsL.strs b]; rfl
/-- the items of a list, a tuple -/
def T.seqs : T → Option (List T)
  | .lst ts => some ts
  | .scr ts => some ts
  | .tup ts => some ts
  | _ => none
theorem IsR.seqs {K : PySem.W.Frag} {W : Ad} {H : Hp} {v : V} {t : T} {ts : List T} (h : IsR K W H v t) (e : t.seqs = some ts) : ∃ p xs, v = .ref p ∧ (SqL K H p xs ∨ SqT K H p xs) ∧ IsL K W H xs ts := by
  cases t <;> first | cases e | skip
  · obtain ⟨p, xs, e, r, l⟩ := h.lst; exact ⟨p, xs, e, .inl (.of r), l⟩
  · obtain ⟨p, xs, e, r, l⟩ := h.tup; exact ⟨p, xs, e, .inr r, l⟩
  · obtain ⟨p, xs, e, r, l⟩ := h.scr; exact ⟨p, xs, e, .inl r, l⟩
def joinL (a : List Nat) : List (List Nat) → List Nat
  | [] => []
  | [x] => x
  | x :: y :: r => x ++ a ++ joinL a (y :: r)
def joinT : T → List T → Ot
  | .str a, [b] => match b.seqs with
    | some ts => ⟨∃ ls, T.strs ts = some ls ∧ (ls.map (·.length)).sum + ls.length * a.length ≤ 16777216, (false, .str (joinL a ((T.strs ts).getD [])))⟩
    | none => .no
  | _, _ => .no
theorem S_join (a : List Nat) (ls : List (List Nat)) : Txt.join (S a) (ls.map S) = S (joinL a ls) := by
  show Builtin.Str.glued (S a) (ls.map S) = _
  rw [StrLaws.glued_eq_join]
  induction ls with
  | nil => rfl
  | cons x r ih =>
    cases r with
    | nil => rfl
    | cons y r =>
      show S x ++ S a ++ Str.join (S a) ((y :: r).map S) = _
      rw [ih, S_append, S_append]
      rfl
def countT : T → List T → Ot
  | .str a, [.str [c]] => .sh (.int (a.count c))
  | _, _ => .no
theorem S_count (a : List Nat) (c : Nat) : Txt.count (S a) (S [c]) = ((a.count c : Nat) : Int) := by
  rw [show S [c] = ⟨#[c]⟩ from rfl, count_cnt]
  show cnt c a = _
  induction a with
  | nil => rfl
  | cons n r ih =>
    rw [cnt_cons, ih, List.count_cons]
    by_cases h : n = c
    · subst h; simp; omega
    · rw [if_neg h]; simp [h]
section
variable {X : Cx}
theorem p_join : PureM X.K (fun x xs H Q => ∃ a p, ∃ ys : List Str, x = .str a ∧ xs = [.ref p] ∧ (SqL X.K H p (ys.map V.str) ∨ SqT X.K H p (ys.map V.str)) ∧ (ys.map (·.length)).sum + ys.length * a.length ≤ 16777216 ∧ Q (.str (Txt.join a ys)) H) joinT := by
  intro W H v vs a as Q wd ha hs pre k
  revert pre k
  unfold joinT
  split
  · rename_i l b
    split
    · rename_i ts e
      rintro ⟨ls, e1, z⟩ k
      cases hs with | cons hb hr => cases hr with | nil =>
      obtain ⟨p, xs, rfl, r, il⟩ := hb.seqs e
      have := strs_map e1
      subst this
      rw [il.strs] at r
      rw [ha.str]
      have := k _ _ (.str _)
      rw [e1] at this
      refine ⟨_, p, ls.map S, rfl, rfl, r, ?_, by rw [S_join]; exact this⟩
      rw [List.map_map, List.length_map, S_len]
      have : (fun x : List Nat => x.length) = (fun x : Str => x.length) ∘ S := by funext x; exact (S_len x).symm
      rw [← this]
      exact z
    · intro pre; exact pre.elim
  · intro pre; exact pre.elim
theorem p_count : PureM X.K (fun x xs H Q => ∃ a b, x = .str a ∧ xs = [.str b] ∧ Q (.int (Txt.count a b)) H) countT := by
  intro W H v vs a as Q wd ha hs pre k
  revert pre k
  unfold countT
  split
  · intro pre k
    cases hs with | cons hb hr => cases hr with | nil =>
    rw [ha.str, hb.str]
    exact ⟨_, _, rfl, rfl, by rw [S_count]; exact k _ _ (.int _)⟩
  · intro pre; exact pre.elim
end
def appM : T → List T → Om
  | .lst ts, [t] => ⟨ts.length < sizeLine, .lst (ts ++ [t]), .non⟩
  | _, _ => .no
def extM : T → List T → Om
  | .lst ts, [.lst us] => ⟨ts.length + us.length ≤ sizeLine, .lst (ts ++ us), .non⟩
  | _, _ => .no
def revM : T → List T → Om
  | .lst ts, [] => ⟨True, .lst ts.reverse, .non⟩
  | _, _ => .no
def clrM : T → List T → Om
  | .lst ts, [] => ⟨True, .lst [], .non⟩
  | _, _ => .no
section
variable {X : Cx}
theorem own_lst {K : PySem.W.Frag} {W : Ad} {H : Hp} {p : Addr} {xs : List V} {ts : List T} (hw : W p) (l : IsL K W H xs ts) : OwnAt K W (upd H p (.lst xs)) p (.lst ts) := ⟨xs, upd_same, l.write hw⟩
theorem m_ext : MutR X.K rExtend extM := by
  intro W H p vs t ts Q wd hw ho il pre k
  revert pre k
  unfold extM
  split
  · intro pre k
    obtain ⟨xs, e, l⟩ := ho
    cases il with | cons a r => cases r with | nil =>
    obtain ⟨b, ys, rfl, r2, l2⟩ := IsR.lst (.inl a)
    exact ⟨p, b, xs, ys, rfl, rfl, e, r2, by rw [l.length, l2.length]; exact pre, k _ _ (own_lst hw (l.append l2)) .non⟩
  · intro pre; exact pre.elim
def setL (u i t : T) : Om := match u, i with
  | .lst ts, .int i => ⟨(ixN ts.length i).isSome = true, .lst (ts.set ((ixN ts.length i).getD 0) t), .non⟩
  | _, _ => .no
theorem s_list : SetR X.K rSetL setL := by
  intro W H p iv v u ti t Q wd hw ho hi hv pre k
  revert pre k
  unfold setL
  split
  · rename_i ts i
    intro pre k
    obtain ⟨xs, e, l⟩ := ho
    obtain ⟨j, ej⟩ := Option.isSome_iff_exists.mp pre
    rw [hi.int]
    dsimp only at k
    rw [ej] at k
    exact ⟨p, xs, i, j, rfl, rfl, e, by rw [l.length]; exact ej, k _ (own_lst hw (l.set hv j))⟩
  · intro pre; exact pre.elim
end
end O
namespace O
open PySem PySem.Spec PyProof.Rows L2
section
variable (K : PySem.W.Frag)
/-- these values, the new objects among them apart from each other -/
inductive Vs (σ : L2.St) (ρ : Rho) (W : Ad) (H : Hp) : List V → List Rv → Prop
  | nil : Vs σ ρ W H [] []
  | cons {v : V} {r : Rv} {vs : List V} {rs : List Rv} : relE K σ ρ W H v r → (r.1 = true → ∀ (j : Nat) q, vs[j]? = some v → rs[j]? = some q → q.1 = false) → Vs σ ρ W H vs rs → Vs σ ρ W H (v :: vs) (r :: rs)
def relVs (σ : L2.St) (ρ : Rho) (W : Ad) (H : Hp) (vs : List V) (rs : List Rv) : Prop := Vs K σ ρ W H vs rs
def xrs (vs : List V) (rs : List Rv) : Ad := fun p => ∃ (j : Nat) (r : Rv), vs[j]? = some (V.ref p) ∧ rs[j]? = some r ∧ r.1 = true
end
structure XV (X : Cx) (Wx : WX) (es : List Expr) (d : Dn (List Rv)) : Prop where
  pa : PA X es (RD X.K (relVs X.K) xrs Wx d)
  mn : Mn d
section
variable {K : PySem.W.Frag} {σ : L2.St} {ρ ρ1 ρ2 : Rho} {W W1 W2 : Ad} {H H1 H2 : Hp}
theorem relE_step {v : V} {r : Rv} {P2 : Ad} (h : relE K σ ρ1 W1 H1 v r) (rep : Rep K W1 H1 σ ρ1) (st : Step (Rt σ ρ1) W1 H1 P2 W2 H2) (sub : ∀ p, Rt σ ρ2 p → P2 p) : relE K σ ρ2 W2 H2 v r := by
  unfold relE at h ⊢
  by_cases c : r.1 = true
  · rw [if_pos c] at h ⊢
    obtain ⟨p, e, hw, ho, hn⟩ := h
    refine ⟨p, e, st.stay p hw hn, ho.keep st.keep rep.rt st.new fun o e => st.keep p o e hn, fun z => ?_⟩
    rcases st.newP p (sub p z) with z | z
    · exact hn z
    · obtain ⟨o, e⟩ := rep.wd p hw; rw [z] at e; cases e
  · rw [if_neg c] at h ⊢
    exact h.step st rep.rt
end
def dVn : Dn (List Rv) := fun ρ Q => Q.ok [] ρ
def dVc (a : Dn Rv) (b : Dn (List Rv)) : Dn (List Rv) := fun ρ Q => a ρ ⟨fun r ρ1 => b ρ1 ⟨fun rs ρ2 => Q.ok (r :: rs) ρ2, Q.ex⟩, Q.ex⟩
theorem mn_vc {a : Dn Rv} {b : Dn (List Rv)} (ma : Mn a) (mb : Mn b) : Mn (dVc a b) := fun ρ Q Q' h k e => ma _ _ _ h (fun h1 ρ1 h => mb _ _ _ h (fun h2 ρ2 q => k _ _ q) e) e
section
variable {X : Cx} {Wx : WX} {e : Expr} {es : List Expr} {d : Dn Rv} {ds : Dn (List Rv)}
theorem xv_nil : XV X Wx [] dVn := ⟨PA.imp pa_nil fun σ H Q ⟨W, ρ, rep, h⟩ => h [] W H .nil rep ((Step.refl _ _ _).subP fun p z => z.elim id fun ⟨j, r, e, _⟩ => by simp at e) (Pn.refl _), fun ρ Q Q' h k _ => k _ _ h⟩
theorem xv_cons (ha : XE X Wx e d) (hr : XV X Wx es ds) (hs : starEach (e :: es) X.env = (false, eval e X.env) :: starEach es X.env := by rfl) : XV X Wx (e :: es) (dVc d ds) := by
  refine ⟨PA.imp (pa_cons ha.pe hr.pa hs) fun σ H Q ⟨W, ρ, rep, h⟩ => ?_, mn_vc ha.mn hr.mn⟩
  refine rd_first ha.mn rep h fun r ρ1 k1 v W1 H1 r1 rep1 st1 pn1 => ?_
  -- the second part starts with fewer roots than are held
  have st1' : Step (Rt σ ρ) W H (Rt σ ρ1) W1 H1 := st1.subP fun p z => .inl z
  refine ⟨W1, ρ1, rep1, hr.mn ρ1 _ _ k1 (fun rs ρ2 q vs W2 H2 r2 rep2 st12 pn2 => ?_) fun C fs ρ' z dx W' H' ed rp s p2 => z dx W' H' ed rp (st1'.trans rep.wd s) (pn1.trans p2)⟩
  have r1' : relE X.K σ ρ2 W2 H2 v r := relE_step r1 rep1 st12 fun p z => .inl z
  have apart : r.1 = true → ∀ (j : Nat) (q : Rv), vs[j]? = some v → rs[j]? = some q → q.1 = false := fun c j q e1 e2 => by
    cases hq : q.1 with
    | false => rfl
    | true =>
      have r1 := r1
      unfold relE at r1
      rw [if_pos c] at r1
      obtain ⟨p, e, hw, _, hn⟩ := r1
      rcases st12.newP p (.inr ⟨j, q, by rw [← e]; exact e1, e2, hq⟩) with z | z
      · exact (hn z).elim
      · obtain ⟨o, eo⟩ := rep1.wd p hw; rw [z] at eo; cases eo
  refine q (v :: vs) W2 H2 (.cons r1' apart r2) rep2 ⟨fun p o e n => (st1'.trans rep.wd st12).keep p o e n, (st1'.trans rep.wd st12).dom, (st1'.trans rep.wd st12).stay, (st1'.trans rep.wd st12).new, fun p z => ?_⟩ (pn1.trans pn2)
  rcases z with z | ⟨j, q', e1, e2, c⟩
  · exact (st1'.trans rep.wd st12).newP p (.inl z)
  · cases j with
    | zero =>
      simp at e1 e2
      subst e2
      exact st1.newP p (.inr ⟨c, e1⟩)
    | succ j => exact (st1'.trans rep.wd st12).newP p (.inr ⟨j, q', by simpa using e1, by simpa using e2, c⟩)
end
/-- the slots is take the values rs -/
def putAll : Rho → List Nat → List Rv → Rho
  | ρ, i :: is, r :: rs => putAll (ρ.set i (Sl.of r)) is rs
  | ρ, _, _ => ρ
def setAll : L2.St → List Nat → List V → L2.St
  | σ, i :: is, v :: vs => setAll (σ.set i (some v)) is vs
  | σ, _, _ => σ
section
variable {K : PySem.W.Frag} {σ : L2.St} {ρ : Rho} {W : Ad} {H : Hp}
theorem put_all : ∀ (is : List Nat) (vs : List V) (rs : List Rv) (σ : L2.St) (ρ : Rho), Rep K W H σ ρ → Vs K σ ρ W H vs rs → is.Nodup → (∀ i ∈ is, (sl_ ρ i).pin = false) →
    Rep K W H (setAll σ is vs) (putAll ρ is rs) ∧ (∀ p, Rt (setAll σ is vs) (putAll ρ is rs) p → rooted (Rt σ ρ) (xrs vs rs) p) ∧ IoK σ ρ (setAll σ is vs) (putAll ρ is rs)
  | [], vs, rs, σ, ρ, rep, _, _, _ => ⟨by unfold setAll putAll; exact rep, fun p z => .inl (by unfold setAll putAll at z; exact z), by unfold setAll putAll; exact IoK.refl _ _⟩
  | i :: is, [], [], σ, ρ, rep, _, _, _ => ⟨by unfold setAll putAll; exact rep, fun p z => .inl (by unfold setAll putAll at z; exact z), by unfold setAll putAll; exact IoK.refl _ _⟩
  | i :: is, v :: vs, r :: rs, σ, ρ, rep, .cons a dj t, nd, pin => by
    obtain ⟨rp, sub⟩ := rep.put a i
    have pf := pin i List.mem_cons_self
    have t' : Vs K (σ.set i (some v)) (ρ.set i (Sl.of r)) W H vs rs := by
      have gen : ∀ {vs : List V} {rs : List Rv}, Vs K σ ρ W H vs rs → (∀ (j : Nat) (q : Rv), vs[j]? = some v → rs[j]? = some q → r.1 = true → q.1 = false) → Vs K (σ.set i (some v)) (ρ.set i (Sl.of r)) W H vs rs := fun {vs rs} h => by
        induction h with
        | nil => intro _; exact .nil
        | @cons u q us qs b db tb ih =>
          intro ap
          refine .cons ?_ db (ih fun j q e1 e2 => ap (j + 1) q (by simpa using e1) (by simpa using e2))
          unfold relE at b ⊢
          by_cases c : q.1 = true
          · rw [if_pos c] at b ⊢
            obtain ⟨p, e, hw, ho, hn⟩ := b
            refine ⟨p, e, hw, ho, fun z => ?_⟩
            rcases sub p z with z | ⟨c2, e2⟩
            · exact hn z
            · have := ap 0 q (by rw [e2, e]; rfl) rfl c2
              rw [c] at this; cases this
          · rw [if_neg c] at b ⊢; exact b
      exact gen t fun j q e1 e2 c => dj c j q e1 e2
    have pin' : ∀ j ∈ is, (sl_ (ρ.set i (Sl.of r)) j).pin = false := fun j hj => by
      rw [sl_set]
      by_cases c : i = j ∧ i < ρ.length
      · rw [if_pos c]; exact Sl.of_pin _
      · rw [if_neg c]; exact pin j (List.mem_cons_of_mem _ hj)
    obtain ⟨x1, x2, x3⟩ := put_all is vs rs _ _ rp t' (List.nodup_cons.mp nd).2 pin'
    refine ⟨x1, fun p z => ?_, (ioK_put pf).trans x3⟩
    rcases x2 p z with z | ⟨j, q, e1, e2, c⟩
    · rcases sub p z with z | ⟨c, e⟩
      · exact .inl z
      · exact .inr ⟨0, r, by rw [e]; rfl, rfl, c⟩
    · exact .inr ⟨j + 1, q, by simpa using e1, by simpa using e2, c⟩
end
def sPar (is : List Nat) (d : Dn (List Rv)) : Ds := fun ρ Q => d ρ ⟨fun rs ρ1 => rs.length = is.length ∧ (∀ i ∈ is, (sl_ ρ1 i).pin = false) ∧ Q.nx (putAll ρ1 is rs), Q.ex⟩
theorem mn_par {is : List Nat} {d : Dn (List Rv)} (m : Mn d) : MnS (sPar is d) := fun ρ Q Q' h n r bk c e => m _ _ _ h (fun rs ρ1 q => ⟨q.1, q.2.1, n _ q.2.2⟩) e
section
variable {X : Cx} {Wx : WX} {a b c : Expr} {d : Dn (List Rv)}
theorem Vs.len {K : PySem.W.Frag} {σ : L2.St} {ρ : Rho} {W : Ad} {H : Hp} {vs : List V} {rs : List Rv} (h : Vs K σ ρ W H vs rs) : vs.length = rs.length := by
  induction h with
  | nil => rfl
  | cons _ _ _ ih => rw [List.length_cons, List.length_cons, ih]
theorem len2 {α : Type} : ∀ {l : List α}, l.length = 2 → ∃ a b, l = [a, b]
  | [a, b], _ => ⟨a, b, rfl⟩
  | [], h => by cases h
  | [_], h => by cases h
  | _ :: _ :: _ :: _, h => by simp at h
/-- x, y = a, b -/
theorem xs_par {i j : Nat} {x y : Str} {px py pt pos : Pos} {kt k2 pt2} (hc : X.calm = true) (hN : X.N.Nodup) (ha : XV X Wx [a, b] d) (hi : X.N[i]? = some x := by rfl) (hj : X.N[j]? = some y := by rfl) (hij : i ≠ j := by decide)
    (hx : X.env.scope.names.lookup x = some .local := by rfl) (hy : X.env.scope.names.lookup y = some .local := by rfl)
    (hw : swappedStores [.Tuple [.Name x px, .Name y py] kt pt] (.Tuple [a, b] k2 pt2) X.env = pure (some [x, y]) := by rfl) (hs : swapsWithSole [.Tuple [.Name x px, .Name y py] kt pt] (.Tuple [a, b] k2 pt2) pos.line X.env = pure false := by rfl) :
    XS X Wx (.Assign [.Tuple [.Name x px, .Name y py] kt pt] (.Tuple [a, b] k2 pt2) pos) (sPar [i, j] d) := by
  refine ⟨PS.imp (ps_par hc hN hi hj hij hx hy ha.pa hw hs) fun D σ H ⟨W, ρ, rep, q⟩ => ?_, mn_par ha.mn⟩
  refine rd_stmt ha.mn rep q fun rs ρ1 ⟨hl, pin, q⟩ vs W1 H1 rl rep1 st pn => ?_
  have hv := Vs.len rl
  obtain ⟨x1, x2, x3⟩ := put_all [i, j] vs rs σ ρ1 rep1 rl (by simp [hij]) pin
  obtain ⟨u, v, rfl⟩ : ∃ u v, vs = [u, v] := len2 (hv.trans hl)
  exact ⟨u, v, rfl, q _ W1 H1 x1 (st.subP x2) ((IoK.of pn).trans x3)⟩
end
def pick {α : Type} (xs : List α) (lo hi : Option Int) (k : Int) : List α := (sliceRange (sliceBounds lo hi (some k) xs.length).1 (sliceBounds lo hi (some k) xs.length).2.1 (sliceBounds lo hi (some k) xs.length).2.2).filterMap (xs[·]?)
theorem pick_rev {α : Type} (xs : List α) : pick xs none none (-1) = xs.reverse := by
  unfold pick
  rw [PySem.W.krv_bounds]
  show (sliceRange ((xs.length : Int) - 1) (-1) (-1)).filterMap (xs[·]?) = _
  rw [PySem.W.krv_sliceRange, PySem.W.krv_range, List.filterMap_reverse]
  have := PySem.W.krv_all xs.toArray
  simp only [List.size_toArray, List.getElem?_toArray] at this
  rw [this]
theorem sliceRange_up (n : Nat) : sliceRange 0 (n : Int) 1 = List.range n := by
  unfold sliceRange
  by_cases h : (0 : Int) < n
  · simp only [Int.zero_lt_one, gt_iff_lt, if_true, h]
    rw [show ((n : Int) - 0 + 1 - 1) / 1 = n by omega, Int.toNat_natCast]
    refine (List.map_congr_left fun k _ => ?_).trans (List.map_id _)
    show (0 + 1 * (k : Int)).toNat = k
    omega
  · have e : n = 0 := by omega
    subst e
    simp
theorem pick_one {α : Type} (xs : List α) : pick xs none none 1 = xs := by
  unfold pick
  show (sliceRange 0 (xs.length : Int) 1).filterMap (xs[·]?) = _
  rw [sliceRange_up]
  have := PySem.W.krv_all xs.toArray
  simp only [List.size_toArray, List.getElem?_toArray] at this
  exact this
def clipS (n : Nat) (v : Option Int) (d : Int) : Int := match v with
  | none => d
  | some i => max 0 (min (if i < 0 then i + (n : Int) else i) (n : Int))
theorem clip_in {n : Nat} {v : Option Int} {d : Int} (h0 : 0 ≤ d) (h1 : d ≤ n) : 0 ≤ clipS n v d ∧ clipS n v d ≤ n := by
  unfold clipS
  cases v with
  | none => exact ⟨h0, h1⟩
  | some i => dsimp only; constructor <;> omega
theorem bounds_one (lo hi : Option Int) (n : Nat) : sliceBounds lo hi (some 1) n = (clipS n lo 0, clipS n hi n, 1) := by
  cases lo <;> cases hi <;> rfl
theorem pick_whole {α : Type} {xs : List α} {lo hi : Option Int} (h : (sliceRange (sliceBounds lo hi (some 1) xs.length).1 (sliceBounds lo hi (some 1) xs.length).2.1 (sliceBounds lo hi (some 1) xs.length).2.2).length = xs.length) : pick xs lo hi 1 = xs := by
  have b1 := bounds_one lo hi xs.length
  obtain ⟨a0, a1⟩ := clip_in (n := xs.length) (v := lo) (d := 0) (Int.le_refl _) (by omega)
  obtain ⟨c0, c1⟩ := clip_in (n := xs.length) (v := hi) (d := xs.length) (by omega) (Int.le_refl _)
  unfold pick
  rw [b1] at h ⊢
  dsimp only at h ⊢
  generalize clipS xs.length lo 0 = a at *
  generalize clipS xs.length hi xs.length = b at *
  have hl : (sliceRange a b 1).length = (b - a).toNat := by
    unfold sliceRange
    rw [List.length_map, List.length_range]
    by_cases c : a < b
    · simp only [gt_iff_lt, Int.zero_lt_one, if_true, c]; omega
    · simp only [gt_iff_lt, Int.zero_lt_one, if_true, c, if_false]; omega
  rw [hl] at h
  by_cases z : xs.length = 0
  · have : xs = [] := List.eq_nil_of_length_eq_zero z
    subst this
    generalize sliceRange a b 1 = js
    induction js with
    | nil => rfl
    | cons j js ih => rw [List.filterMap_cons]; simpa using ih
  · have ea : a = 0 := by omega
    have eb : b = (xs.length : Int) := by omega
    rw [ea, eb]
    have := pick_one xs
    unfold pick at this
    exact this
/-- t[lo:hi:k] -/
def sl3T : T → Option Int → Option Int → Int → Ot
  | .lst ts, lo, hi, k => .new (k ≠ 0 ∧ (pick ts lo hi k).length ≤ sizeLine) (.lst (pick ts lo hi k))
  | .scr ts, lo, hi, k => .new (k ≠ 0 ∧ (pick ts lo hi k).length ≤ sizeLine) (.lst (pick ts lo hi k))
  | .str l, lo, hi, k => .when (k ≠ 0 ∧ l.length ≤ sizeLine ∧ (pick l lo hi k).length ≤ sizeLine) (.str (pick l lo hi k))
  | _, _, _, _ => .no
def rSl3 (K : PySem.W.Frag) (x : V) (lo hi : Option Int) (k : Int) (H : Hp) (Q : VK) : Prop := k ≠ 0 ∧ ((∃ a xs, x = .ref a ∧ SqL K H a xs ∧ (pick xs lo hi k).length ≤ sizeLine ∧ ∀ p, H p = none → Q (.ref p) (upd H p (.lst (pick xs lo hi k)))) ∨
  ∃ l : List Nat, x = .str (S l) ∧ l.length ≤ sizeLine ∧ (pick l lo hi k).length ≤ sizeLine ∧ Q (.str (S (pick l lo hi k))) H)
theorem IsL.pickL {K : PySem.W.Frag} {W : Ad} {H : Hp} {xs : List V} {ts : List T} (h : IsL K W H xs ts) (lo hi : Option Int) (k : Int) : IsL K W H (pick xs lo hi k) (pick ts lo hi k) := by
  unfold pick
  rw [h.length]
  generalize sliceRange _ _ _ = js
  induction js with
  | nil => exact .nil
  | cons j js ih =>
    rw [List.filterMap_cons, List.filterMap_cons]
    cases e : ts[j]? with
    | none =>
      have : xs[j]? = none := by rw [List.getElem?_eq_none_iff] at e ⊢; rw [h.length]; exact e
      rw [this]; exact ih
    | some t => obtain ⟨v, ev, iv⟩ := h.get e; rw [ev]; exact .cons iv ih
theorem Vals.pickL {xs : List V} {us : List Value} (h : Vals xs us) (lo hi : Option Int) (k : Int) : Vals (pick xs lo hi k) (pick us lo hi k) := by
  unfold pick
  rw [h.length]
  generalize sliceRange _ _ _ = js
  induction js with
  | nil => exact .nil
  | cons j js ih =>
    rw [List.filterMap_cons, List.filterMap_cons]
    cases e : xs[j]? with
    | none => rw [L2.Vals.none_of h e]; exact ih
    | some t => obtain ⟨v, ev, iv⟩ := L2.Vals.get h e; rw [ev]; exact .cons iv ih
theorem part_of {v : Value} {o : Option Int} (h : IsPart v o) : ∃ l : Option (Int × Tok), v = partValue l ∧ l.map (·.1) = o := by
  cases h with
  | none => exact ⟨none, rfl, rfl⟩
  | int i t => exact ⟨some (i, t), rfl, rfl⟩
section
variable {X : Cx} {Wx : WX} {e st : Expr} {lo hi : Option Expr} {te : TE} {tl th ts : TO} {da : Dn Hn} {dl dh dk : Dn (Option Int)} {pos p2 : Pos}
theorem pe_sl3 (he : PE X e te) (hl : PO X lo tl) (hh : PO X hi th) (hs : PO X (some st) ts) : PE X (.Subscript e (.Slice lo hi (some st) p2) pos) (fun σ H Q => te σ H fun x H1 => tl σ H1 fun l H2 => th σ H2 fun u H3 => ts σ H3 fun ko H4 => ∃ k, ko = some k ∧ rSl3 X.K x l u k H4 Q) := by
  refine ⟨fun pins s σ H Q I h => Subscript_ (thn (he.run pins s σ H _ I h) fun v s1 ⟨x, H1, I1, r1, q1⟩ => ?_)⟩
  refine wpAny_Slice (thn (hl.run pins s1 σ H1 _ I1 q1) fun vl s2 ⟨l, H2, I2, pl, q2⟩ => thn (hh.run pins s2 σ H2 _ I2 q2) fun vu s3 ⟨u, H3, I3, pu, q3⟩ => thn (hs.run pins s3 σ H3 _ I3 q3) fun vk s4 ⟨ko, H4, I4, pk, k, ek, hk0, q⟩ => ?_)
  subst ek
  let N := s4.heap.objs.size
  let h5 := s4.heap.push { cls := .type "slice", data := .fields #[vl, vu, vk] }
  have I5 : Inv X pins σ H4 { s4 with heap := h5 } := I4.kept (t' := s4.toks) fun b ob z => Heap.get?_push_of_some _ z
  have so : h5.IsSliceOf N vl vu vk := Heap.IsSliceOf.new ..
  show wpAny _ _ (subscriptTail e (.Slice lo hi (some st) p2) v (.ref N)) _ _ { s4 with heap := h5 }
  rcases q with ⟨a, xs, rfl, hx, hz, q⟩ | ⟨z, rfl, z1, z2, q⟩
  · cases r1
    obtain ⟨its, r, ht, hz2⟩ := I5.list hx
    refine tail_any (ops := [.ref a, .ref N]) ht.isList.typeIs slot_list_getitem.lookup (wpAny_getItem_list_slice ht.isList so pl pu pk (by simpa using hk0) ?_ (by rw [List.size_toArray, ← r.length]; exact hz2)) (by with_unfolding_all rfl)
    have ep : slicePick its.toArray l u (some k) = (pick its l u k).toArray := by
      unfold slicePick pick
      simp only [List.size_toArray, List.getElem?_toArray]
    rw [ep]
    exact ⟨.ref _, _, I5.laid (t' := s4.toks) (o := .lst (pick xs l u k)) (fun b ob z => Heap.get?_push_of_some _ z) (Nat.le_refl _) ⟨hz, _, 0, Vals.pickL r l u k, Heap.get?_push_size _ rfl⟩, rfl, q _ (I5.hok.fresh (Nat.le_refl _))⟩
  · obtain ⟨t, rfl⟩ := r1
    obtain ⟨l', el, ml⟩ := part_of pl
    obtain ⟨u', eu, mu⟩ := part_of pu
    obtain ⟨k', ekk, mk⟩ := part_of pk
    have k1 : (k'.map (·.1)).getD 1 = k := by rw [mk]; rfl
    have so' : h5.IsSlice N l' u' k' := by
      obtain ⟨o, e1, e2, e3⟩ := so
      exact ⟨o, e1, e2, by rw [e3, el, eu, ekk]⟩
    refine tail_any (ops := [.str (S z) t, .ref N]) (typeIs_str _ _ _) PySem.F.slot_str_getitem.lookup (wpAny_getItem_str_slice so' (by rw [k1]; simpa using hk0) ?_) (by with_unfolding_all rfl)
    have ep : slicePicked (S z) l' u' k' = sliceRange (sliceBounds l u (some k) z.length).1 (sliceBounds l u (some k) z.length).2.1 (sliceBounds l u (some k) z.length).2.2 := by
      unfold slicePicked
      rw [ml, mu, k1, S_len]
      rfl
    have ev : ((slicePicked (S z) l' u' k').filterMap ((S z).cps[·]?)) = pick z l u k := by
      rw [ep]
      unfold pick
      have : (fun x : Nat => (S z).cps[x]?) = (fun x : Nat => z[x]?) := by funext x; simp [S]
      rw [this]
    unfold sliceMade
    rw [ev, k1]
    by_cases c : (k == 1 && (slicePicked (S z) l' u' k').length == (S z).length) = true
    · rw [if_pos c]
      rw [Bool.and_eq_true, beq_iff_eq, beq_iff_eq] at c
      have e1 : pick z l u k = z := by
        have k1' := c.1
        subst k1'
        rw [ep, S_len] at c
        exact pick_whole c.2
      rw [e1] at q
      exact ⟨.str (S z), H4, I5, ⟨t, rfl⟩, q⟩
    · rw [if_neg c]
      exact ⟨by rw [show (⟨(pick z l u k).toArray⟩ : Str) = S (pick z l u k) from rfl, S_len]; exact z2, .str (S (pick z l u k)), H4, I5.tok _, ⟨_, rfl⟩, q⟩
def dSl3 (a : Dn Hn) (lo hi kk : Dn (Option Int)) : Dn Rv := fun ρ Q => a ρ ⟨fun h ρ1 => lo ρ1 ⟨fun l ρ2 => hi ρ2 ⟨fun u ρ3 => kk ρ3 ⟨fun ko ρ4 => ∃ k, ko = some k ∧ ∃ t, h.is ρ4 t ∧ (sl3T t l u k).pre ∧ Q.ok (sl3T t l u k).val ρ4, Q.ex⟩, Q.ex⟩, Q.ex⟩, Q.ex⟩
theorem mn_sl3 {a : Dn Hn} {lo hi kk : Dn (Option Int)} (ma : Mn a) (ml : Mn lo) (mh : Mn hi) (mk : Mn kk) : Mn (dSl3 a lo hi kk) := fun ρ Q Q' h k e =>
  ma _ _ _ h (fun h1 ρ1 h => ml _ _ _ h (fun l ρ2 h => mh _ _ _ h (fun u ρ3 h => mk _ _ _ h (fun ko ρ4 ⟨n, e1, t, i, p, q⟩ => ⟨n, e1, t, i, p, k _ _ q⟩) e) e) e) e
theorem p_sl3 {W : Ad} {H : Hp} {v : V} {t : T} {l u : Option Int} {k : Int} {Q : VK} (ha : IsR X.K W H v t) (pre : (sl3T t l u k).pre) (kk : ∀ v' H', Res X.K W H (sl3T t l u k).val v' H' → Q v' H') : rSl3 X.K v l u k H Q := by
  unfold sl3T at pre kk
  cases t <;> first | exact pre.elim | skip
  · rw [ha.str]
    exact ⟨pre.1, .inr ⟨_, rfl, pre.2.1, pre.2.2, kk _ _ (.str _)⟩⟩
  · obtain ⟨p, xs, rfl, r, il⟩ := ha.lst
    have il2 := il.pickL l u k
    exact ⟨pre.1, .inl ⟨p, xs, rfl, .of r, by rw [il2.length]; exact pre.2, fun q hq => kk _ _ (.newL hq il2)⟩⟩
  · obtain ⟨p, xs, rfl, r, il⟩ := ha.scr
    have il2 := il.pickL l u k
    exact ⟨pre.1, .inl ⟨p, xs, rfl, r, by rw [il2.length]; exact pre.2, fun q hq => kk _ _ (.newL hq il2)⟩⟩
theorem xe_sl3 (ha : XO X Wx e da) (hl : XP X Wx lo dl) (hh : XP X Wx hi dh) (hk : XP X Wx (some st) dk) : XE X Wx (.Subscript e (.Slice lo hi (some st) p2) pos) (dSl3 da dl dh dk) := by
  refine ⟨PE.imp (pe_sl3 ha.pe hl.po hh.po hk.po) fun σ H Q ⟨W, ρ, rep, q⟩ => ?_, mn_sl3 ha.mn hl.mn hh.mn hk.mn⟩
  refine rd_first ha.mn rep q fun h ρ1 q v W1 H1 r1 rep1 st1 pn1 => ?_
  refine rd_next hl.mn rep st1.noxx pn1 rep1 q fun l ρ2 q l' W2 H2 r2 rep2 st12 st2 pn2 => ?_
  cases (show l' = l from r2)
  have ra := relO_step (ρ2 := ρ2) r1 rep1 st12
  refine rd_next hh.mn rep st2.noxx pn2 rep2 q fun u ρ3 q u' W3 H3 r3 rep3 st23 st3 pn3 => ?_
  cases (show u' = u from r3)
  have rb := relO_step (ρ2 := ρ3) ra rep2 st23
  refine rd_next hk.mn rep st3.noxx pn3 rep3 q fun ko ρ4 ⟨k, ek, t, i, pre, q⟩ k' W4 H4 r4 rep4 st34 st4 pn4 => ?_
  cases (show k' = ko from r4)
  have rc := relO_step (ρ2 := ρ4) rb rep3 st34
  refine ⟨k, ek, p_sl3 (isR_of rep4 rc i) pre fun v' H' rs => ?_⟩
  obtain ⟨W', rl, rep', st'⟩ := rs.post rep4
  exact q v' W' H' rl rep' (st4.noxx.trans rep.wd st') pn4
end
def dChn (f g : T → T → Ot) (a b c : Dn Hn) : Dn Rv := fun ρ Q => a ρ ⟨fun h1 ρ1 => b ρ1 ⟨fun h2 ρ2 => ∃ t, h1.is ρ2 t ∧ ∃ u, h2.is ρ2 u ∧ (f t u).pre ∧ ∃ k, (f t u).val = (false, .bl k) ∧
  ifB k (c ρ2 ⟨fun h3 ρ3 => ∃ u', h2.is ρ3 u' ∧ ∃ w, h3.is ρ3 w ∧ (g u' w).pre ∧ Q.ok (g u' w).val ρ3, Q.ex⟩) (Q.ok (false, .bl false) ρ2), Q.ex⟩, Q.ex⟩
section
variable {X : Cx} {Wx : WX} {a b c : Expr} {da db dc : Dn Hn} {pos : Pos} {op op' : CmpOp} {r r' : R2} {f g : T → T → Ot}
end
end O
namespace O
open PySem PySem.Spec PyProof.Rows L2
def ItEn (K : PySem.W.Frag) (a : Sc) : It :=
  ⟨fun i H => ∃ (xs : List V) (x : V), a.has K H xs ∧ xs[i]? = some x,
    fun i H v H' => ∃ T x, v = .ref T ∧ H T = none ∧ H' = upd H T (.tup [.int (i : Nat), x]) ∧ ∀ xs, a.has K H xs → xs[i]? = some x,
    fun i H => ∃ xs : List V, a.has K H xs ∧ i ≤ xs.length ∧ xs.length ≤ i⟩
structure ES (e it : Addr) (a : Sc) (i : Nat) (h : Heap) : Prop where
  he : ∃ old, IsEnum h e it ((i : Nat) : Int) old
  hi : a.tn it i h
theorem two_of {e it : Addr} {P : Addr → Prop} (p : P e) (q : P it) : ∀ c ∈ [e, it], P c := by simpa using ⟨p, q⟩
theorem enum_walk {P : Program} {w : World} {K : PySem.W.Frag} {elts : List Expr} {kk : Nat} {tpos : Pos} {a : Sc} {e it : Addr} (ne : e ≠ it) : Turn P w K (.Tuple elts kk tpos) (ItEn K a) [e, it] e (ES e it a) where
  mem := List.mem_cons_self
  obj := fun _ _ st => by obtain ⟨old, he⟩ := st.he; exact two_of ⟨_, he, fun v q => nomatch q⟩ (Sc.obj st.hi)
  keep := fun _ _ _ st k => by obtain ⟨old, he⟩ := st.he; exact ⟨⟨old, k e (by simp) _ he⟩, Sc.keep st.hi (k it (by simp))⟩
  self := fun _ _ _ _ _ st z => by obtain ⟨old, he⟩ := st.he; exact wpAny_pyIter_enum he z
  item := fun X e1 e2 e3 calm i pins s σ H E I hf st g => by
    subst e1 e2 e3
    obtain ⟨xs, x, ax, ex⟩ := g
    obtain ⟨old, he⟩ := st.he
    have fe := hf e (by simp)
    have fi := hf it (by simp)
    obtain ⟨fp, Pa, Sa, D, sa, ma, ea, pa, ta⟩ := Sc.draws (A := X.A.in1) I (I.ok.hd calm) fi.1 ax st.hi
    let N := s.heap.objs.size
    have small : ∀ c ∈ [e, it], c < N := two_of (Heap.lt_size he) (by obtain ⟨o, q, _⟩ := Sc.obj st.hi; exact Heap.lt_size q)
    refine wpAny_pyNext_enum_itemC D he sa (List.getElem?_eq_some_iff.mp ex).1 ne (zip_far I ea ne fe ⟨_, he, fun v q => nomatch q⟩) fun u h1 tk pu out sa1 t1 sz keep1 => ?_
    obtain ⟨v, ev, rv⟩ := pa i u pu
    cases ex.symm.trans ev
    refine ⟨.ref N, rfl, wpAny_letOwnedTupleGo_enum (s := { s with heap := h1, toks := tk + 1 }) out fun h2 he2 only => ?_⟩
    have at2 : ∀ {c o}, c ≠ e → h1.get? c = some o → h2.get? c = some o := fun n q => (only.2 _ n).trans q
    have old2 : ∀ c o, c ∉ [e, it] → s.heap.get? c = some o → h2.get? c = some o := fun c o n q => by
      have n' : c ≠ e ∧ c ≠ it := by simpa using n
      exact at2 n'.1 (keep1 c o n'.1 n'.2 q)
    refine ⟨.ref N, upd H N (.tup [.int (i : Nat), x]), I.turnedNew (ch := [e, it]) old2 hf (Nat.le_refl _) ⟨by simp [sizeLine_eq], [.int i tk, u], .cons ⟨_, rfl⟩ (.cons rv .nil), _, at2 (Nat.ne_of_gt (small e (by simp))) t1, rfl, _, rfl⟩, rfl,
      ⟨N, x, rfl, I.hok.fresh (Nat.le_refl _), rfl, fun l hl => by rw [Sc.inj I hl ax, ex]⟩, ⟨⟨u, ?_⟩, Sc.keep (ta _ _ sa1) fun o => at2 ne.symm⟩, fun c m => ?_⟩
    · rw [show ((i + 1 : Nat) : Int) = (i : Int) + 1 by omega]; exact he2
    · show upd H N _ c = none
      rw [upd_ne (Nat.ne_of_lt (small c m))]
      exact (hf c m).1
  done := fun X e1 e2 e3 calm i pins s σ H E I hf st g => by
    subst e1 e2 e3
    obtain ⟨xs, ax, l1, l2⟩ := g
    obtain ⟨old, he⟩ := st.he
    obtain ⟨fp, Pa, Sa, D, sa, ma, ea, pa, ta⟩ := Sc.draws (A := X.A.in1) I (I.ok.hd calm) (hf it (by simp)).1 ax st.hi
    have sa' : Sa xs.length s.heap := by rw [show xs.length = i by omega]; exact sa
    refine wpAny_pyNext_enum_endD D he sa' fun h1 keep1 => ⟨rfl, I.turnedL (t' := s.toks) (ch := [e, it]) (fun c o n q => ?_) hf⟩
    have n' : c ≠ e ∧ c ≠ it := by simpa using n
    exact keep1 c o n'.2 q
/-- what enumerate takes here: a list, a text -/
def T.its2 : T → Option (List T)
  | .lst ts => some ts
  | .scr ts => some ts
  | .str l => some (l.map fun c => .str [c])
  | _ => none
def Sc.two : Sc → Prop
  | .tup _ => False
  | _ => True
def iEn (K : PySem.W.Frag) (ta : TA) : TI := fun σ H R => ta σ H fun vs H1 => ∃ (a : Sc) (xs : List V), a.two ∧ vs = [a.v] ∧ a.has K H1 xs ∧ R (ItEn K a) H1
theorem pi_en {X : Cx} {e : Expr} {ta : TA} {p pos tpos : Pos} {elts : List Expr} {kk : Nat} (hg : Gl X "enumerate") (hm : X.mg "enumerate" = none) (ha : PA X [e] ta) (st : starEach [e] X.env = (false, eval e X.env) :: starEach [] X.env) :
    PI X (.Tuple elts kk tpos) (.Call (.Name "enumerate" p) [e] [] pos) (iEn X.K ta) := ⟨fun pins s σ H R I h => by
  refine Call_ (ld_blt I hg hm boot_enumerate (callWith_type1 (thn (ha.run pos pins s σ H _ I h) ?_) st rfl))
  rintro us s1 ⟨vs, H1, I1, r1, a, xs, two, rfl, ax, q⟩
  cases r1 with | cons ra rr =>
  cases rr
  let N := s1.heap.objs.size
  have ne : N + 1 ≠ N := Nat.succ_ne_self _
  have new : ∀ c ∈ [N + 1, N], N ≤ c := two_of (Nat.le_succ _) (Nat.le_refl _)
  have fin : ∀ h1 : Heap, (∃ old, IsEnum h1 (N + 1) N 0 old) → a.tn N 0 h1 → (∀ b o, s1.heap.get? b = some o → h1.get? b = some o) → PIE X pins σ (.Tuple elts kk tpos) R (.ref (N + 1)) { s1 with heap := h1 } := fun h1 he hi keep =>
    ⟨N + 1, [N + 1, N], _, _, H1, rfl, I1.kept (t' := s1.toks) keep, enum_walk (a := a) ne, ⟨he, hi⟩, fun c m => I1.fpOk (new c m) (I1.hok.fresh (new c m)), q⟩
  cases a with
  | lst b =>
    cases ra
    obtain ⟨its, rv, pl, hz⟩ := I1.list ax
    exact call_enumerate_list pl.isList fun h1 he hi sz keep => wpAny_pyIter_enum he (fin h1 ⟨_, he⟩ hi keep)
  | txt x =>
    obtain ⟨t, rfl⟩ := ra
    exact call_enumerate_str fun h1 he hi sz keep => wpAny_pyIter_enum he (fin h1 ⟨_, he⟩ ⟨t, hi⟩ keep)
  | tup b => exact two.elim⟩
theorem Is.src2 {K : PySem.W.Frag} {W : Ad} {H : Hp} {v : V} {t : T} {ts : List T} (h : Is K W H v t) (e : t.its2 = some ts) : ∃ (c : Sc) (xs : List V), c.two ∧ v = c.v ∧ ∀ W2 H2, Lt W H W2 H2 → c.has K H2 xs ∧ IsL K W2 H2 xs ts := by
  cases h with
  | lst r n l => cases e; exact ⟨.lst _, _, trivial, rfl, fun W2 H2 lt => ⟨.of (lt.keep _ _ r n), l.lt lt⟩⟩
  | scr r n l => cases e; exact ⟨.lst _, _, trivial, rfl, fun W2 H2 lt => ⟨.inl (.inr ⟨_, lt.keep _ _ r n⟩), l.lt lt⟩⟩
  | scrK r l => cases e; exact ⟨.lst _, _, trivial, rfl, fun W2 H2 lt => ⟨.inr r, l.lt lt⟩⟩
  | str l => cases e; exact ⟨.txt (S l), _, trivial, rfl, fun W2 H2 lt => ⟨rfl, IsL.signs l⟩⟩
  | _ => cases e
def enumFrom (n : Nat) : List T → List T
  | [] => []
  | t :: ts => .tup [.int n, t] :: enumFrom (n + 1) ts
def enumT (ts : List T) : List T := enumFrom 0 ts
theorem len_enum : ∀ (n : Nat) (ts : List T), (enumFrom n ts).length = ts.length
  | _, [] => rfl
  | n, t :: ts => by unfold enumFrom; rw [List.length_cons, List.length_cons, len_enum]
theorem get_enum : ∀ (n : Nat) (ts : List T) (i : Nat) (u : T), (enumFrom n ts)[i]? = some u → ∃ t, ts[i]? = some t ∧ u = .tup [.int ((n + i : Nat) : Int), t]
  | _, [], i, u, h => by simp [enumFrom] at h
  | n, t :: ts, 0, u, h => by simp [enumFrom] at h; exact ⟨t, rfl, by rw [← h]; rfl⟩
  | n, t :: ts, i + 1, u, h => by
    unfold enumFrom at h
    obtain ⟨x, e1, e2⟩ := get_enum (n + 1) ts i u (by simpa using h)
    exact ⟨x, by simpa using e1, by rw [e2, show n + 1 + i = n + (i + 1) by omega]⟩
def dEnum (d : Dn (List Hn)) : Di := fun ρ Q => d ρ ⟨fun hs ρ1 => ∃ t ts, hs = [.tm t] ∧ t.its2 = some ts ∧ Q.ok (enumT ts) ρ1, Q.ex⟩
theorem mn_enum {d : Dn (List Hn)} (m : Mn d) : Mn (dEnum d) := fun ρ Q Q' h k e => m _ _ _ h (fun hs ρ1 ⟨t, ts, a, b, q⟩ => ⟨t, ts, a, b, k _ _ q⟩) e
theorem yl_enum {K : PySem.W.Frag} {W : Ad} {H : Hp} {a : Sc} {xs : List V} {ts : List T} (ha : ∀ W2 H2, Lt W H W2 H2 → a.has K H2 xs ∧ IsL K W2 H2 xs ts) : Yl K W H (ItEn K a) (enumT ts) := by
  intro W2 H2 lt wd
  obtain ⟨a1, a2⟩ := ha W2 H2 lt
  have hl : (enumT ts).length = ts.length := len_enum 0 ts
  refine ⟨⟨xs, a1, ?_, ?_⟩, fun i t e => ?_⟩
  · rw [hl, a2.length]; exact Nat.le_refl _
  · rw [hl, a2.length]; exact Nat.le_refl _
  · obtain ⟨u, eu, et⟩ := get_enum 0 ts i t e
    obtain ⟨x, ex, ix⟩ := a2.get eu
    refine ⟨⟨xs, x, a1, ex⟩, fun v H3 ⟨T, x', ev, hT, eH, h1⟩ => ?_⟩
    have e1 := h1 xs a1
    rw [ex] at e1; cases e1
    subst ev eH et
    rw [Nat.zero_add]
    exact ⟨kept_upd hT, .newTup wd hT (.cons (.int _) (.cons ix .nil))⟩
section
variable {X : Cx} {Wx : WX} {e : Expr} {d : Dn (List Hn)} {p pos tpos : Pos} {elts : List Expr} {kk : Nat}
theorem xi_enum (hg : Gl X "enumerate") (hm : X.mg "enumerate" = none) (h : XA X Wx [e] d) (hs : starEach [e] X.env = (false, eval e X.env) :: starEach [] X.env := by rfl) : XI X Wx (.Tuple elts kk tpos) (.Call (.Name "enumerate" p) [e] [] pos) (dEnum d) := by
  refine ⟨PI.imp (pi_en hg hm h.pa hs) fun σ H R ⟨W, ρ, rep, q⟩ => ?_, mn_enum h.mn⟩
  refine ⟨W, ρ, rep, h.mn _ _ _ q (fun hs ρ1 ⟨t, ts, e, i1, q⟩ vs W1 H1 rl rep1 st pn => ?_) fun _ _ _ z => z⟩
  subst e
  cases rl with
  | cons r1 rr =>
    cases rr
    obtain ⟨a, xs, two, ea, ha⟩ := Is.src2 r1 i1
    exact ⟨a, xs, two, by rw [ea], (ha _ _ (.refl _ _)).1, q _ W1 H1 rep1 st.noxx pn (yl_enum ha)⟩
end
def shOk (d : PyData) : Prop := d.showable = true ∧ d.depth ≤ 64 ∧ d.shown.length ≤ sizeLine
def reprT (a : T) : Ot := match a.seqs, a.pd with
  | some _, some d => .when (shOk d) (.str d.shown.cps.toList)
  | _, _ => .no
section
variable {X : Cx}
end
end O
namespace O
open PySem PySem.Spec PyProof.Rows L2
theorem IsL.ofInts {K : PySem.W.Frag} {W : Ad} {H : Hp} : ∀ ns : List Int, IsL K W H (ns.map V.int) (ns.map T.int)
  | [] => .nil
  | n :: ns => .cons (.int n) (IsL.ofInts ns)
/-- only the script may be tracked, where it is not the written part's -/
structure Scr (K : PySem.W.Frag) (H : Hp) (a : Addr) (o : Obj) (xs : List V) : Prop where
  only : ∀ b u, H b = some u → b = a ∧ K.lookup a = none ∧ u = .frz o (.lst xs)
theorem scr_heap (K : PySem.W.Frag) {a : Addr} {vs : List Value} {ns : List Int} (h1 : ∀ o, K.lookup a = some o → o = { cls := .type "list", data := .seq vs.toArray }) (hi : IntsAre vs ns) (hl : ns.length ≤ sizeLine) :
    ∃ H : Hp, Scr K H a { cls := .type "list", data := .seq vs.toArray } (ns.map V.int) ∧ Is K (fun _ => False) H (.ref a) (.scr (ns.map T.int)) := by
  cases e : K.lookup a with
  | some o =>
    cases h1 o e
    refine ⟨fun _ => none, ⟨fun b u z => by cases z⟩, .scrK ⟨_, vs.toArray, _, e, rfl, rfl, rfl, ?_, vals_ints hi⟩ (IsL.ofInts ns)⟩
    rw [List.size_toArray, hi.length]
    exact hl
  | none =>
    refine ⟨upd (fun _ => none) a (.frz { cls := .type "list", data := .seq vs.toArray } (.lst (ns.map V.int))), ⟨fun b u z => ?_⟩, .scr upd_same (fun z => z) (IsL.ofInts ns)⟩
    by_cases c : b = a
    · subst c; rw [upd_same] at z; cases z; exact ⟨rfl, e, rfl⟩
    · rw [upd_ne c] at z; cases z
theorem law_end {P : Program} {w : World} {K : PySem.W.Frag} {mg mb : Str → Option Value} {k : Nat} {fa a : Addr} {x : Str} {S : Sx} {s₁ : Shared} {vs : List Value} {ns : List Int} (KX : K.In s₁.heap) (n1 : s₁.heap.Ns mainGlobals mg) (n2 : s₁.heap.Ns builtinsNs mb)
    (nb : ∀ x : Str, x ≠ "__name__" → mb x = bootBuiltins x) (lim : s₁.heap.NoLimit) (gens : s₁.gens = #[]) (ha : s₁.heap.get? a = some { cls := .type "list", data := .seq vs.toArray }) (hi : IntsAre vs ns) (hl : ns.length ≤ sizeLine) (hr : RoomG k callerA)
    (F : ∀ base : Heap, K.In base → base.Ns mainGlobals mg → FnX P w K mg base k x S) (hm : mg x = some (.ref fa)) (hS : S [.sh (.scr (ns.map T.int))] ⟨fun r _ => r = (false, .bl true), fun _ _ _ => False⟩) :
    codeAny (model P w) callerA (.call (.ref fa) ⟨[.ref a], []⟩) (fun r s' => r = .ok (.ret (.bool true)) ∧ OldK s₁.heap s'.heap ∧ s'.os = s₁.os ∧ AllBare s'.gens) s₁ := by
  obtain ⟨H, sc, is⟩ := scr_heap K (a := a) (fun o e => by have := KX a o e; rw [ha] at this; cases this; rfl) hi hl
  have ok : HOk P w H s₁.heap := fun b u e => by
    obtain ⟨rfl, _, rfl⟩ := sc.only b u e
    exact ⟨ha, by rw [List.length_map]; exact hl, vs, _, vals_ints hi, ha⟩
  let base := hidT s₁.heap H
  -- what the written part and the namespaces are, is not tracked
  have into : ∀ {b o}, s₁.heap.get? b = some o → (H b = none ∨ ∃ es ep, o.data = .dict es ep) → base.get? b = some o := fun {b o} e z => by
    refine hidT_get e (z.elim id fun ⟨es, ep, d⟩ => ?_)
    cases q : H b with
    | none => rfl
    | some u =>
      obtain ⟨rfl, _⟩ := sc.only b u q
      rw [ha] at e; cases e; cases d
  have nsB : ∀ {b m}, s₁.heap.Ns b m → base.Ns b m := fun {b m} ⟨o, es, ep, e, d, r⟩ => ⟨o, es, ep, into e (.inr ⟨es, ep, d⟩), d, r⟩
  have KB : K.In base := fun b o e => into (KX b o e) (.inl (by
    cases q : H b with
    | none => rfl
    | some u => obtain ⟨rfl, z, _⟩ := sc.only b u q; rw [z] at e; cases e))
  obtain ⟨mc, l1, l2⟩ := lim
  have env : Env0 P w K mg base callerA [] s₁ H := { frames := rfl, mod := ⟨KB, nsB n1, ⟨mb, nsB n2, nb⟩, mc, nsB l1, l2⟩, bs := fun _ _ e => of_hidT e, bsz := Nat.le_of_eq (hidT_size _ _), funs := trivial, frf := (by intro b z; cases z), hok := ok, bare := .of_eq gens }
  have rp : Rep K (fun _ => False) H ([V.ref a].map some) [.sh (.scr (ns.map T.int))] := by
    refine ⟨rfl, fun i => ?_, fun i j p wi => ?_, fun p z => z.elim⟩
    · cases i with
      | zero => exact ⟨_, rfl, is⟩
      | succ i => rw [sl_cons, sl_nil]; trivial
    · cases i with
      | zero => exact wi.elim
      | succ i => rw [sl_cons, sl_nil] at wi; exact wi.elim
  obtain ⟨⟨f, fd, ps, hm2, kp, go, bd, len⟩, mS⟩ := F base KB (nsB n1)
  cases hm.symm.trans hm2
  have len1 : 1 = ps.length := len _ _ hS
  have bd1 := bd s₁ [.ref a] KX len1
  rw [List.append_nil] at bd1
  have sp : spOf K ps.length S [.ref a] H (fun v _ => v = .bl true) fun _ _ _ => False := by
    refine ⟨fun _ => False, [.sh (.scr (ns.map T.int))], len1, rp, fun i hi => ?_, mS _ _ _ hS (fun r outs e v W' H' rl _ _ _ _ => ?_) fun _ _ _ z => z.elim⟩
    · cases i with
      | zero => rfl
      | succ i => omega
    · rw [show r = (false, .bl true) from e] at rl
      exact relE_bl rl
  have vals : Vals [V.ref a] [Value.ref a] := .cons rfl .nil
  refine codeAny_mono (go.go (us := [.ref a]) hr env bd1 vals sp) fun r s' z => ?_
  rcases r with e | (_ | _ | _ | u)
  · obtain ⟨_, _, _, _, _, _, _, _, _, _, _, _, no⟩ := z
    exact no.elim
  · exact False.elim z
  · exact False.elim z
  · exact False.elim z
  · obtain ⟨v, H', os, bare, un, ok', rv, q⟩ := z
    subst q
    cases rv
    refine ⟨rfl, OldK.of_keep fun b o e => ?_, os, bare⟩
    cases q : H b with
    | none => exact un.keep b o e q (fun z => by cases z) fun z => by cases z
    | some u =>
      obtain ⟨rfl, _, rfl⟩ := sc.only b u q
      obtain ⟨e2, _⟩ := ok' b _ (un.frzs b _ _ q)
      rw [ha] at e; cases e
      exact e2
theorem walk_G {l : PySem.W.OpenLaw} {n k : Nat} {q : Program} {loose : List Str} {XP : (Str → Option Value) → Heap → Prop} {YP : World → Heap → Prop} {d : DefRec} {S : Sx} (hn : l.most = some n) (hn2 : n ≤ sizeLine) (hdf : d.params.defaults = []) (hr : RoomG k callerA)
    (F : ∀ (w : World) (mg : Str → Option Value) (fa : Addr) (h : Heap), YP w h → h.Ns mainGlobals mg → mg d.name = some (.ref fa) → ∃ K : PySem.W.Frag, K.In h ∧ ∀ base : Heap, K.In base → base.Ns mainGlobals mg → FnX l.prog w K mg base k d.name S)
    (hS : ∀ ns : List Int, ns.length ≤ n → (∀ z ∈ ns, Builtin.Int.intBits z ≤ 1048576) → S [.sh (.scr (ns.map T.int))] ⟨fun r _ => r = (false, .bl true), fun _ _ _ => False⟩) :
    PySem.W.WalkO q loose XP YP l.row.toRowW d [] (fun f vs => PySem.call f vs) := by
  refine Att.attach_callB hn hdf fun w s₀ s₁ mg mb fa o pm cd doc a vs ns G Y ho hd hcd hmg hobj hints hlen hbits hg => ?_
  obtain ⟨K, KX, hF⟩ := F w mg fa _ Y G.T.g hmg
  exact law_end KX G.T.g G.T.b G.T.builtins G.T.nolimit hg hobj hints (Nat.le_trans hlen hn2) hr hF hmg (hS ns hlen hbits)
end O
namespace O
open PySem PySem.Spec PyProof.Rows L2
inductive Hq where
  | op (h : Hn) | ls (hs : List Hq) | tp (hs : List Hq)
mutual
def Hq.get (ρ : Rho) : Hq → Option T
  | .op h => h.get ρ
  | .ls hs => (Hq.gets ρ hs).map T.lst
  | .tp hs => (Hq.gets ρ hs).map T.tup
def Hq.gets (ρ : Rho) : List Hq → Option (List T)
  | [] => some []
  | h :: hs => match Hq.get ρ h, Hq.gets ρ hs with
    | some t, some ts => some (t :: ts)
    | _, _ => none
end
mutual
inductive RQ (K : PySem.W.Frag) (σ : L2.St) (ρ : Rho) (W : Ad) (H : Hp) : V → Hq → Prop
  | op {v : V} {h : Hn} : relO K σ ρ W H v h → RQ K σ ρ W H v (.op h)
  | ls {p : Addr} {vs : List V} {hs : List Hq} : H p = some (.lst vs) → ¬ W p → RQs K σ ρ W H vs hs → RQ K σ ρ W H (.ref p) (.ls hs)
  | tp {p : Addr} {vs : List V} {hs : List Hq} : H p = some (.tup vs) → ¬ W p → RQs K σ ρ W H vs hs → RQ K σ ρ W H (.ref p) (.tp hs)
inductive RQs (K : PySem.W.Frag) (σ : L2.St) (ρ : Rho) (W : Ad) (H : Hp) : List V → List Hq → Prop
  | nil : RQs K σ ρ W H [] []
  | cons {v : V} {h : Hq} {vs : List V} {hs : List Hq} : RQ K σ ρ W H v h → RQs K σ ρ W H vs hs → RQs K σ ρ W H (v :: vs) (h :: hs)
end
section
variable {K : PySem.W.Frag} {σ : L2.St} {ρ1 ρ2 : Rho} {W1 W2 P2 : Ad} {H1 H2 : Hp}
mutual
theorem RQ.step (rep : Rep K W1 H1 σ ρ1) (st : Step (Rt σ ρ1) W1 H1 P2 W2 H2) : ∀ {v : V} {h : Hq}, RQ K σ ρ1 W1 H1 v h → RQ K σ ρ2 W2 H2 v h
  | _, _, .op r => .op (relO_step r rep st)
  | _, _, .ls e n r => .ls (st.keep _ _ e fun z => n (rep.rt _ z)) (fun z => (st.new _ z).elim n fun q => by rw [q] at e; cases e) (RQs.step rep st r)
  | _, _, .tp e n r => .tp (st.keep _ _ e fun z => n (rep.rt _ z)) (fun z => (st.new _ z).elim n fun q => by rw [q] at e; cases e) (RQs.step rep st r)
theorem RQs.step (rep : Rep K W1 H1 σ ρ1) (st : Step (Rt σ ρ1) W1 H1 P2 W2 H2) : ∀ {v : List V} {h : List Hq}, RQs K σ ρ1 W1 H1 v h → RQs K σ ρ2 W2 H2 v h
  | _, _, .nil => .nil
  | _, _, .cons a b => .cons (RQ.step rep st a) (RQs.step rep st b)
end
theorem gets_cons {ρ : Rho} {h : Hq} {hs : List Hq} {ts : List T} (e : Hq.gets ρ (h :: hs) = some ts) : ∃ t us, ts = t :: us ∧ h.get ρ = some t ∧ Hq.gets ρ hs = some us := by
  unfold Hq.gets at e
  cases q : h.get ρ with
  | none => rw [q] at e; cases e
  | some t =>
    rw [q] at e
    cases q2 : Hq.gets ρ hs with
    | none => rw [q2] at e; cases e
    | some us => rw [q2] at e; cases e; exact ⟨t, us, rfl, rfl, rfl⟩
mutual
theorem RQ.dp (rep : Rep K W1 H1 σ ρ1) : ∀ {v : V} {h : Hq} {t : T} {d : PyData}, RQ K σ ρ1 W1 H1 v h → h.get ρ1 = some t → t.pd = some d → Dp K H1 v d
  | _, _, _, _, .op r, e, p => (isR_of rep r e).dp p
  | _, _, t, _, .ls e n r, g, p => by
    obtain ⟨ts, e1, e2⟩ := map_some g
    subst e2
    obtain ⟨ds, e3, e4⟩ := map_some p
    subst e4
    exact .lst (.of e) (RQs.dp rep r e1 e3)
  | _, _, t, _, .tp e n r, g, p => by
    obtain ⟨ts, e1, e2⟩ := map_some g
    subst e2
    obtain ⟨ds, e3, e4⟩ := map_some p
    subst e4
    exact .tup (.of e) (RQs.dp rep r e1 e3)
theorem RQs.dp (rep : Rep K W1 H1 σ ρ1) : ∀ {vs : List V} {hs : List Hq} {ts : List T} {ds : List PyData}, RQs K σ ρ1 W1 H1 vs hs → Hq.gets ρ1 hs = some ts → T.pdL ts = some ds → DpAll K H1 vs ds
  | _, _, _, _, .nil, e, p => by cases e; cases p; exact .nil
  | _, _, _, _, .cons a b, e, p => by
    obtain ⟨t, us, e1, e2, e3⟩ := gets_cons e
    subst e1
    obtain ⟨d, es, e4, e5, e6⟩ := pdL_cons p
    subst e4
    exact .cons (RQ.dp rep a e2 e5) (RQs.dp rep b e3 e6)
end
theorem RQs.length {vs : List V} {hs : List Hq} : RQs K σ ρ1 W1 H1 vs hs → vs.length = hs.length
  | .nil => rfl
  | .cons _ b => by rw [List.length_cons, List.length_cons, RQs.length b]
end
structure XQ (X : Cx) (Wx : WX) (e : Expr) (d : Dn Hq) : Prop where
  pe : PE X e (RD X.K (RQ X.K) nox Wx d)
  mn : Mn d
structure XQs (X : Cx) (Wx : WX) (es : List Expr) (d : Dn (List Hq)) : Prop where
  pa : PA X es (RD X.K (RQs X.K) nox Wx d)
  mn : Mn d
def qOp (d : Dn Hn) : Dn Hq := fun ρ Q => d ρ ⟨fun h ρ1 => Q.ok (.op h) ρ1, Q.ex⟩
def qNil : Dn (List Hq) := fun ρ Q => Q.ok [] ρ
def qCons (a : Dn Hq) (b : Dn (List Hq)) : Dn (List Hq) := fun ρ Q => a ρ ⟨fun h ρ1 => b ρ1 ⟨fun hs ρ2 => Q.ok (h :: hs) ρ2, Q.ex⟩, Q.ex⟩
def qLs (d : Dn (List Hq)) : Dn Hq := fun ρ Q => d ρ ⟨fun hs ρ1 => hs.length ≤ sizeLine ∧ Q.ok (.ls hs) ρ1, Q.ex⟩
def qTp (d : Dn (List Hq)) : Dn Hq := fun ρ Q => d ρ ⟨fun hs ρ1 => hs.length ≤ sizeLine ∧ Q.ok (.tp hs) ρ1, Q.ex⟩
theorem mn_qop {d : Dn Hn} (m : Mn d) : Mn (qOp d) := fun ρ Q Q' h k e => m _ _ _ h (fun _ _ q => k _ _ q) e
theorem mn_qls {d : Dn (List Hq)} (m : Mn d) : Mn (qLs d) := fun ρ Q Q' h k e => m _ _ _ h (fun _ _ q => ⟨q.1, k _ _ q.2⟩) e
section
variable {X : Cx} {Wx : WX} {e a b : Expr} {es : List Expr} {d da db : Dn Hq} {ds : Dn (List Hq)} {pos : Pos} {k : Nat}
theorem xq_op {d : Dn Hn} (h : XO X Wx e d) : XQ X Wx e (qOp d) := by
  refine ⟨PE.imp h.pe fun σ H Q ⟨W, ρ, rep, q⟩ => ?_, mn_qop h.mn⟩
  exact rd_first h.mn rep q fun h1 ρ1 q v W1 H1 rl rep1 st pn => q v W1 H1 (.op rl) rep1 st.noxx.toNox pn
theorem xq_nil : XQs X Wx [] qNil := ⟨PA.imp pa_nil fun σ H Q ⟨W, ρ, rep, h⟩ => h [] W H .nil rep (Step.refl _ _ _).toNox (Pn.refl _), fun ρ Q Q' h k _ => k _ _ h⟩
theorem xq_ls (h : XQs X Wx es ds) : XQ X Wx (.List es pos) (qLs ds) := by
  refine ⟨PE.imp (pe_lst h.pa) fun σ H Q ⟨W, ρ, rep, q⟩ => ?_, mn_qls h.mn⟩
  refine rd_first h.mn rep q fun hs ρ1 ⟨z, q⟩ vs W1 H1 rl rep1 st pn => ⟨by rw [rl.length]; exact z, fun p hp => ?_⟩
  have same := kept_upd (o := .lst vs) hp
  have nw : ¬ W1 p := fun z => by obtain ⟨o, e⟩ := rep1.wd p z; rw [hp] at e; cases e
  have stn : Step (Rt σ ρ1) W1 H1 (Rt σ ρ1) W1 (upd H1 p (.lst vs)) := Step.same same
  exact q _ W1 _ (.ls upd_same nw (rl.step rep1 stn)) (rep1.same same) ((st.noxx.trans rep.wd stn).toNox) pn
def dEqQ (n : Bool) (a b : Dn Hq) : Dn Rv := fun ρ Q => a ρ ⟨fun h1 ρ1 => b ρ1 ⟨fun h2 ρ2 => ∃ t, h1.get ρ2 = some t ∧ ∃ u, h2.get ρ2 = some u ∧ okD t ∧ okD u ∧ Q.ok (false, .bl (n != eqvO t.pd u.pd)) ρ2, Q.ex⟩, Q.ex⟩
theorem mn_eqQ {n : Bool} {a b : Dn Hq} (ma : Mn a) (mb : Mn b) : Mn (dEqQ n a b) := fun ρ Q Q' h k e =>
  ma _ _ _ h (fun h1 ρ1 h => mb _ _ _ h (fun h2 ρ2 ⟨t, i, u, j, o1, o2, q⟩ => ⟨t, i, u, j, o1, o2, k _ _ q⟩) e) e
theorem eqQ_run {n : Bool} {r : R2} (hr : ∀ x y H Q (d e : PyData), Dp X.K H x d → Dp X.K H y e → SeqAt.shaped d = true → SeqAt.shaped e = true → Q (.bl (n != PyData.eqv d e)) H → r x y H Q) (ma : Mn da) (mb : Mn db) (σ : L2.St) (H : Hp) (Q : VK) (h : RD X.K (relE X.K) xr Wx (dEqQ n da db) σ H Q) :
    tOp r (RD X.K (RQ X.K) nox Wx da) (RD X.K (RQ X.K) nox Wx db) σ H Q := by
  obtain ⟨W, ρ, rep, h⟩ := h
  refine rd_first ma rep h fun h1 ρ1 k1 v W1 H1 r1 rep1 st1 pn1 => ?_
  refine rd_next mb rep st1.noxx pn1 rep1 k1 fun h2 ρ2 ⟨t, i, u, j, ⟨d, ed, s1⟩, ⟨e, ee, s2⟩, q⟩ w W2 H2 r2 rep2 st12 st2 pn2 => ?_
  have r1' : RQ X.K σ ρ2 W2 H2 v h1 := r1.step rep1 st12
  have q' := q (.bl (n != PyData.eqv d e)) W2 H2 (by rw [ed, ee]; exact relE_sh (.bl _)) rep2 (by rw [xr_sh]; exact st2.noxx) pn2
  exact hr _ _ _ _ d e (r1'.dp rep2 i ed) (r2.dp rep2 j ee) s1 s2 q'
theorem xt_neQ (hu : X.A.units + 64 < cLine) (ha : XQ X Wx a da) (hb : XQ X Wx b db) (hm : behindInMarks .NotEq b = false := by first | exact nomark _ | rfl) : XT X Wx (.Compare a [.NotEq] [b] pos) (dBv (dEqQ true da db)) :=
  ⟨PT.imp (pt_cmpR (op_neD hu) ha.pe hb.pe hm) fun σ H Q q => eqQ_run (fun x y H Q d e h1 h2 s1 s2 q => ⟨d, e, h1, h2, s1, s2, by rwa [Bool.true_bne] at q⟩) ha.mn hb.mn σ H _ (tB_run (mn_eqQ ha.mn hb.mn) σ H Q q), mn_bv (mn_eqQ ha.mn hb.mn)⟩
def dRpQ (a : Dn Hq) : Dn Rv := fun ρ Q => a ρ ⟨fun h ρ1 => ∃ t, h.get ρ1 = some t ∧ (reprT t).pre ∧ Q.ok (reprT t).val ρ1, Q.ex⟩
end
end O
namespace O
open PySem PySem.Spec PyProof.Rows L2
def iSrc (K : PySem.W.Frag) (te : TE) : TI := fun σ H R => te σ H fun v H1 => (∃ a xs, v = .ref a ∧ SqL K H1 a xs ∧ R (Itl K a) H1) ∨ (∃ a xs, v = .ref a ∧ SqT K H1 a xs ∧ R (Itt K a) H1) ∨ ∃ x, v = .str x ∧ R (Its x) H1
theorem pi_src {X : Cx} {tg e : Expr} {te : TE} (he : PE X e te) : PI X tg e (iSrc X.K te) := ⟨fun pins s σ H R I h => by
  refine thn (he.run pins s σ H _ I h) ?_
  rintro v s1 ⟨x, H1, I1, r, ⟨a, xs, rfl, hx, q⟩ | ⟨a, xs, rfl, hx, q⟩ | ⟨z, rfl, q⟩⟩
  · cases r
    obtain ⟨its, rv, pl, _⟩ := I1.list hx
    exact wpAny_pyIter_list pl.isList (pi_one (tk := s1.toks) I1 _ (turn_list a _) ⟨_, Heap.get?_push_size _ rfl, rfl, rfl⟩ q)
  · cases r
    obtain ⟨its, rv, pl, _⟩ := I1.tuple hx
    exact wpAny_pyIter_tuple (show s1.heap.IsTuple a its.toArray from pl) (pi_one (tk := s1.toks) I1 _ (turn_tuple a _) ⟨_, Heap.get?_push_size _ rfl, rfl, rfl⟩ q)
  · obtain ⟨t, rfl⟩ := r
    by_cases asc : z.cps.all (· < 128) = true
    · exact wpAny_pyIter_ascii asc (pi_one (tk := s1.toks) I1 _ (turn_str _ z t "str_ascii_iterator" (.inl rfl)) ⟨_, Heap.get?_push_size _ rfl, rfl, rfl⟩ q)
    · exact wpAny_pyIter_wide (by simpa using asc) (pi_one (tk := s1.toks) I1 _ (turn_str _ z t "str_iterator" (.inr rfl)) ⟨_, Heap.get?_push_size _ rfl, rfl, rfl⟩ q)⟩
theorem yl_str {K : PySem.W.Frag} {W : Ad} {H : Hp} (l : List Nat) : Yl K W H (Its (S l)) (l.map fun c => .str [c]) := by
  intro W3 H3 lt wd
  refine ⟨?_, fun i t e => ?_⟩
  · show (S l).cps.size ≤ _
    simp [S]
  · rw [List.getElem?_map, Option.map_eq_some_iff] at e
    obtain ⟨c, e, e'⟩ := e
    subst e'
    have hi := (List.getElem?_eq_some_iff.mp e).1
    refine ⟨by show i < (S l).cps.size; simpa [S] using hi, fun v H4 ⟨eH, c', ec, ev⟩ => ?_⟩
    subst eH ev
    have : l[i]? = some c' := by simpa [S] using ec
    rw [e] at this; cases this
    exact ⟨fun _ _ z => z, .str [c]⟩
section
variable {X : Cx} {Wx : WX} {e tg : Expr} {de : Dn Rv}
theorem xi_src (h : XE X Wx e de) : XI X Wx tg e (dSrc de) := by
  refine ⟨PI.imp (pi_src h.pe) fun σ H R ⟨W, ρ, rep, q⟩ => ?_, mn_src h.mn⟩
  refine ⟨W, ρ, rep, h.mn _ _ _ q (fun r ρ1 ⟨ts, e, q⟩ v W1 H1 rl rep1 st pn => ?_) fun _ _ _ z => z⟩
  obtain ⟨W2, s, is, rp2, st2⟩ := demote rep.wd rl rep1 st
  generalize r.2 = t at e is
  cases is with
  | lst r n l => cases e; exact .inl ⟨_, _, rfl, .of r, q _ W2 H1 rp2 st2 pn (yl_list fun W3 H3 lt => ⟨.of (lt.keep _ _ r n), l.lt lt⟩)⟩
  | scr r n l => cases e; exact .inl ⟨_, _, rfl, .inl (.inr ⟨_, r⟩), q _ W2 H1 rp2 st2 pn (yl_list fun W3 H3 lt => ⟨.inl (.inr ⟨_, lt.keep _ _ r n⟩), l.lt lt⟩)⟩
  | scrK r l => cases e; exact .inl ⟨_, _, rfl, .inr r, q _ W2 H1 rp2 st2 pn (yl_list fun W3 H3 lt => ⟨.inr r, l.lt lt⟩)⟩
  | tup r n l => cases e; exact .inr (.inl ⟨_, _, rfl, .of r, q _ W2 H1 rp2 st2 pn (yl_tup fun W3 H3 lt => ⟨.of (lt.keep _ _ r n), l.lt lt⟩)⟩)
  | tupK r l => cases e; exact .inr (.inl ⟨_, _, rfl, .inr r, q _ W2 H1 rp2 st2 pn (yl_tup fun W3 H3 lt => ⟨.inr r, l.lt lt⟩)⟩)
  | str l => cases e; exact .inr (.inr ⟨_, rfl, q _ W2 H1 rp2 st2 pn (yl_str l)⟩)
  | _ => cases e
theorem xe_gint {x : Str} {i : Int} {pos : Pos} (g : ∃ t, X.mg x = some (.int i t)) (hg : Gl X x := by rfl) (hd : (x == ("__debug__" : Str)) = false := by decide) : XE X Wx (.Name x pos) (dC (.int i)) := by
  obtain ⟨t, g⟩ := g
  exact xe_glob (v := .int i) hg g ⟨t, rfl⟩ (fun _ _ => .int i) hd
theorem xe_gstr {x : Str} (l : List Nat) {pos : Pos} (g : ∃ t, X.mg x = some (.str (S l) t)) (hg : Gl X x := by rfl) (hd : (x == ("__debug__" : Str)) = false := by decide) : XE X Wx (.Name x pos) (dC (.str l)) := by
  obtain ⟨t, g⟩ := g
  exact xe_glob (v := .str (S l)) hg g ⟨t, rfl⟩ (fun _ _ => .str l) hd
theorem xe_ty (n : String) {x : Str} {pos : Pos} (hm : X.mg x = none) (hv : bootBuiltins x = some (.type n)) (hg : Gl X x := by rfl) (hn : x ≠ "__name__" := by decide) (hd : (x == ("__debug__" : Str)) = false := by decide) : XE X Wx (.Name x pos) (dC (.ty n)) :=
  xe_bltn hg hm hv (v := .ty n) rfl (fun _ _ => .ty n) hn hd
end
end O
namespace O
open PySem PySem.Spec PyProof.Rows L2
def keyT : T → Option Key
  | .int i => some (.inl i)
  | .str l => some (.inr (S l))
  | _ => none
def keysT : List T → Option (List (Key × T))
  | [] => some []
  | [_] => none
  | a :: b :: r => match keyT a, keysT r with
    | some k, some ks => some ((k, b) :: ks)
    | _, _ => none
def flat : List (V × V) → List V
  | [] => []
  | p :: r => p.1 :: p.2 :: flat r
section
variable {X : Cx} {Wx : WX} {pos : Pos} {k v : Expr} {ks : List (Option Expr)} {vs : List Expr} {dk dv : Dn Hn} {dr : Dn (List Hn)}
end
def dDict (d : Dn (List Hn)) : Dn Rv := fun ρ Q => d ρ ⟨fun hs ρ1 => ∃ ts ks, tms hs = some ts ∧ keysT ts = some ks ∧ (ks.map (·.1)).Nodup ∧ ks.length ≤ sizeLine ∧ Q.ok (true, .dK ks) ρ1, Q.ex⟩
section
variable {X : Cx} {Wx : WX} {pos : Pos} {keys : List (Option Expr)} {values : List Expr} {d : Dn (List Hn)}
def dDict0 : Dn Rv := fun ρ Q => Q.ok (true, .dK []) ρ
end
end O
namespace O
open PySem PySem.Spec PyProof.Rows L2
def keyP : Key → PyData
  | .inl i => .int i
  | .inr x => .str x
mutual
def T.pq : T → Option PyData
  | .non => some .none
  | .bl b => some (.bool b)
  | .int i => some (.int i)
  | .str l => some (.str (S l))
  | .lst ts => (T.pqL ts).map PyData.list
  | .scr ts => (T.pqL ts).map PyData.list
  | .tup ts => (T.pqL ts).map PyData.tuple
  | .dK ts => (T.pqP ts).map PyData.dict
  | _ => none
def T.pqL : List T → Option (List PyData)
  | [] => some []
  | t :: ts => (T.pq t).bind fun d => (T.pqL ts).map fun ds => d :: ds
def T.pqP : List (Key × T) → Option (List (PyData × PyData))
  | [] => some []
  | (k, t) :: ts => (T.pq t).bind fun d => (T.pqP ts).map fun ds => (keyP k, d) :: ds
end
/-- the written part holds the table of modules -/
def Sys (K : PySem.W.Frag) : Prop := ∃ o, K.lookup sysModules = some o ∧ o.cls = .type "dict"
def Tells (X : Cx) (H : Hp) (v : V) (d : PyData) : Prop := ∀ pins σ s, Inv X pins σ H s → ∀ u, RelV v u → ∃ as, Reads s.heap u d as ∧ sysModules ∉ as
def TellsA (X : Cx) (H : Hp) (vs : List V) (ds : List PyData) : Prop := ∀ pins σ s, Inv X pins σ H s → ∀ us, Vals vs us → ∃ as, ReadsAll s.heap us ds as ∧ sysModules ∉ as
theorem bind_some {α β : Type} {f : α → Option β} {o : Option α} {b : β} (h : o.bind f = some b) : ∃ a, o = some a ∧ f a = some b := Option.bind_eq_some_iff.mp h
section
variable {X : Cx} {W : Ad} {H : Hp}
theorem Sys.ne (sy : Sys X.K) {pins : List (Addr × Obj)} {σ : L2.St} {s : Shared} (I : Inv X pins σ H s) {a : Addr} {o : Obj} (e : s.heap.get? a = some o) (n : o.cls ≠ .type "dict") : sysModules ≠ a := fun z => by
  obtain ⟨q, l, c⟩ := sy
  have := I.kIn _ _ l
  rw [z, e] at this
  cases this
  exact n c
theorem TellsA.nil : TellsA X H [] [] := fun pins σ s I us r => by cases r; exact ⟨_, .nil, List.not_mem_nil⟩
theorem TellsA.cons {v : V} {vs : List V} {d : PyData} {ds : List PyData} (a : Tells X H v d) (b : TellsA X H vs ds) : TellsA X H (v :: vs) (d :: ds) := fun pins σ s I us r => by
  cases r with
  | cons r1 r2 =>
    obtain ⟨as, h1, n1⟩ := a pins σ s I _ r1
    obtain ⟨bs, h2, n2⟩ := b pins σ s I _ r2
    exact ⟨_, .cons h1 h2, fun z => (List.mem_append.mp z).elim n1 n2⟩
end
section
variable {X : Cx} {Wx : WX} {σ : L2.St} {ρ1 : Rho} {W1 : Ad} {H1 : Hp} {e : Expr} {d : Dn Hq} {pos : Pos}
end
end O
namespace O
open PySem PySem.Spec PyProof.Rows L2
def sysB (K : PySem.W.Frag) : Bool := match K.lookup sysModules with
  | some o => He.eqO (some (some o.cls)) (some (some (.type "dict")))
  | none => false
theorem sysB_sys {K : PySem.W.Frag} (h : sysB K = true) : Sys K := by
  unfold sysB at h
  cases e : K.lookup sysModules with
  | none => rw [e] at h; cases h
  | some o =>
    rw [e] at h
    have := He.eqO_ok h
    cases o
    simp at this
    exact ⟨_, e, this⟩
end O
namespace O
open PySem PySem.Spec PyProof.Rows L2
section
variable {X : Cx} {Wx : WX} {e : Expr} {db : Dn Hn} {pos pos' : Pos}
end
end O
namespace O
open PySem PySem.Spec PyProof.Rows L2
def valT (ts : List (Key × T)) (k : Key) : Option T := (ts.find? fun kv => decide (kv.1 = k)).map (·.2)
def ixD : T → T → Ot
  | .dK ts, t => match keyT t with
    | some k => ⟨(valT ts k).isSome = true, (false, (valT ts k).getD .non)⟩
    | none => .no
  | _, _ => .no
theorem IsP.val {K : PySem.W.Frag} {W : Ad} {H : Hp} {k : Key} {t : T} : ∀ {kvs : List (Key × V)} {ts : List (Key × T)}, IsP K W H Key kvs ts → valT ts k = some t → ∃ v, valV kvs k = some v ∧ Is K W H v t
  | [], [], .nil, e => by cases e
  | (j, v) :: kvs, (_, u) :: ts, .cons a b, e => by
    by_cases h : j = k
    · have e1 : valT ((j, u) :: ts) k = some u := by simp [valT, h]
      rw [e1] at e; cases e
      exact ⟨v, valV_pos h, a⟩
    · have e1 : valT ((j, u) :: ts) k = valT ts k := by simp [valT, h]
      rw [e1] at e
      obtain ⟨w, e2, e3⟩ := IsP.val b e
      exact ⟨w, by rw [valV_neg h]; exact e2, e3⟩
section
variable {X : Cx} {Wx : WX} {a b : Expr} {da db : Dn Hn} {pos : Pos}
end
end O
namespace O
open PySem PySem.Spec PyProof.Rows L2
def T.flat : T → Bool
  | .non => true
  | .bl _ => true
  | .int _ => true
  | .str _ => true
  | _ => false
def T.eqF : T → T → Bool
  | .non, .non => true
  | .bl a, .bl b => a == b
  | .bl a, .int b => (if a then 1 else 0) == b
  | .int a, .bl b => a == (if b then 1 else 0)
  | .int a, .int b => a == b
  | .str a, .str b => a == b
  | _, _ => false
def inTp (n : Bool) : T → T → Ot
  | a, .tup ts => ⟨a.flat = true ∧ ts.all T.flat = true, (false, .bl (n != ts.any fun y => y.eqF a))⟩
  | _, _ => .no
section
variable {K : PySem.W.Frag} {W : Ad} {H : Hp}
theorem Is.flat {v : V} {t : T} (h : Is K W H v t) (f : t.flat = true) : flatV v = true := by
  cases h <;> first | rfl | cases f
theorem S_beq (a b : List Nat) : (S a == S b) = (a == b) := by
  by_cases h : a = b
  · subst h; simp
  · have : S a ≠ S b := fun e => h (S_inj e)
    rw [beq_eq_false_iff_ne.mpr this, beq_eq_false_iff_ne.mpr h]
theorem Is.eqF {v w : V} {t u : T} (h : Is K W H v t) (k : Is K W H w u) (f : t.flat = true) (g : u.flat = true) : eqV v w = t.eqF u := by
  cases h <;> first | cases f | skip
  all_goals cases k <;> first | cases g | skip
  all_goals first | rfl | exact S_beq _ _
theorem IsL.flat : ∀ {xs : List V} {ts : List T}, IsL K W H xs ts → ts.all T.flat = true → xs.all flatV = true
  | _, _, .nil, _ => rfl
  | _, _, .cons a b, f => by
    rw [List.all_cons, Bool.and_eq_true] at f
    rw [List.all_cons, a.flat f.1, b.flat f.2]; rfl
end
section
variable {X : Cx}
end
end O
namespace O
open PySem PySem.Spec PyProof.Rows L2
def argL (ρ : Rho) (h : Hn) : Sl := .sh ((h.get ρ).getD .non)
def dCallL (S : Sx) (d : Dn (List Hn)) : Dn Rv := fun ρ Q => d ρ ⟨fun hs ρ1 => (∀ h ∈ hs, (h.get ρ1).isSome = true) ∧ S (hs.map (argL ρ1)) ⟨fun r _ => (r.1 = false ∧ r.2.flat = true) ∧ Q.ok r ρ1, fun C fs _ => fs = [] ∧ Q.ex C fs ρ1⟩, Q.ex⟩
section
variable {K : PySem.W.Frag} {σ : L2.St} {ρ : Rho} {W : Ad} {H H' : Hp} {vs : List V} {hs : List Hn}
/-- nothing owned -/
def noAd : Ad := fun _ => False
end
section
variable {X : Cx} {Wx : WX} {e : Expr} {es : List Expr} {ds : Dn (List Hn)} {S : Sx} {j k : Nat} {x : Str} {p pos : Pos}
end
end O
namespace O
open PySem PySem.Spec PyProof.Rows L2
structure FnAt (P : Program) (w : World) (K : PySem.W.Frag) (mg : Str → Option Value) (base : Heap) (k : Nat) (f : Addr) (S : Sx) : Prop where
  ex : ∃ (fd : FuncData) (ps : List Str), PySem.W.keepIn K (.ref f) = true ∧ FnG P w K mg base k f fd ps (spOf K ps.length S) ∧ Binds K fd ps [] ∧ ∀ ars Q, S ars Q → ars.length = ps.length
  mn : Mn S
theorem FnAt.x {P : Program} {w : World} {K : PySem.W.Frag} {mg : Str → Option Value} {base : Heap} {k : Nat} {f : Addr} {S : Sx} {x : Str} (F : FnAt P w K mg base k f S) (hm : mg x = some (.ref f)) : FnX P w K mg base k x S := by
  obtain ⟨⟨fd, ps, a, b, c, d⟩, m⟩ := F
  exact ⟨⟨f, fd, ps, hm, a, b, c, d⟩, m⟩
theorem FnAt.of {P : Program} {w : World} {K : PySem.W.Frag} {mg : Str → Option Value} {base : Heap} {k : Nat} {x : Str} {S : Sx} {qual : Str} {st : Stmt} {N ps : List Str} {f : Addr} {fd : FuncData} (d : Ds)
    (F : FunD K x qual (defArgs st) (defBody st) (defScope st) [] [] f fd) (Sc : FnScope N ps (defScope st))
    (hb : ∀ (kV doc pm : Value) (an : Option Addr) (cdv ct : Value) (us : List Value), us.length = ps.length → bindArgs (PySem.W.fnOf x qual (defArgs st) (defBody st) (defScope st) .none kV doc pm an cdv ct) ⟨us, []⟩ = pure (ps.zip us))
    (mS : Mn S) (len : ∀ ars Q, S ars Q → ars.length = ps.length)
    (body : ∀ (cdv : Value) (A : Around) (outer : List Env) (s : Shared) (H : Hp) (E : XK), RoomG k (A.deeper (envOfC qual (defScope st) s.heap.objs.size f cdv)) → XSs (cxOf (L2N.CX P w) P w K mg base N qual (defScope st) f cdv A outer s H E) (fun cls d _ H => E cls d H) (defBody st) d)
    (hS : ∀ ars Q, S ars Q → d (ars ++ List.replicate (N.length - ps.length) .no) (fwish ars Q)) : FnAt P w K mg base (k + 1) f S := by
  refine ⟨⟨fd, ps, F.kp, FnG.by F Sc (fun vs H Q E h => ?_) (fun cdv A outer s H vs Q E hr h => ?_), F.bindsN hb, len⟩, mS⟩
  · obtain ⟨W, ars, hn, rep, _⟩ := h
    rw [← hn, rep.len, List.length_map]
  · have hl : vs.length = ps.length := by obtain ⟨W, ars, hn, rep, _⟩ := h; rw [← hn, rep.len, List.length_map]
    have B := body cdv A outer s H E hr
    refine ⟨_, B.pss, ?_⟩
    show RS K _ d _ (vs.map some ++ List.replicate (N.length - vs.length) none) H
    rw [hl]
    exact body_run (C := f) mS B.mn hS h
theorem RoomG.in1 {k : Nat} {A : Around} (r : RoomG (k + 1) A) : RoomG k A.in1 := ⟨r.room.in1, r.none⟩
section
variable {X : Cx} {Wx : WX} {k : Nat} {C f : Addr} {fd : FuncData} {ps : List Str} {sp : Sp} {x : Str} {p pos : Pos} {e : Expr} {es : List Expr} {t : TA}
end
section
variable {X : Cx} {Wx : WX} {k : Nat} {C f : Addr} {fd : FuncData} {ps : List Str} {sp : Sp} {x : Str} {p pos : Pos} {e : Expr} {es : List Expr} {t : TA}
end
section
variable {K : PySem.W.Frag} {σ : L2.St} {ρ : Rho} {W : Ad} {H H1 : Hp} {x : Addr}
theorem sl_app {ρ : Rho} {s : Sl} {i : Nat} : sl_ (ρ ++ [s]) i = if i = ρ.length then s else sl_ ρ i := by
  unfold sl_
  rw [List.getD_eq_getElem?_getD, List.getD_eq_getElem?_getD]
  by_cases h : i < ρ.length
  · rw [List.getElem?_append_left h, if_neg (by omega)]
  · rw [List.getElem?_append_right (by omega)]
    by_cases e : i = ρ.length
    · rw [if_pos e, e]; simp
    · rw [if_neg e, List.getElem?_eq_none (l := ρ) (by omega)]
      rw [List.getElem?_eq_none (by simp; omega)]
theorem at_app {σ : L2.St} {o : Option V} {i : Nat} : at_ (σ ++ [o]) i = if i = σ.length then o else at_ σ i := by
  unfold at_
  rw [List.getD_eq_getElem?_getD, List.getD_eq_getElem?_getD]
  by_cases h : i < σ.length
  · rw [List.getElem?_append_left h, if_neg (by omega)]
  · rw [List.getElem?_append_right (by omega)]
    by_cases e : i = σ.length
    · rw [if_pos e, e]; simp
    · rw [if_neg e, List.getElem?_eq_none (l := σ) (by omega)]
      rw [List.getElem?_eq_none (by simp; omega)]
theorem Rep.ext {t : T} (rep : Rep K W H σ ρ) (hx : H x = none) (same : ∀ q o, H q = some o → H1 q = some o) (ho : OwnAt K (plus W x) H1 x t) : Rep K (plus W x) H1 (σ ++ [some (.ref x)]) (ρ ++ [.ow t]) := by
  have g := rep.grow same hx ho.some
  have hl := rep.len
  have nx : ∀ i, (sl_ ρ i).own → at_ σ i ≠ some (.ref x) := fun i w e => by
    obtain ⟨o, z⟩ := rep.wd x (rep.rt x ⟨i, w, e⟩)
    rw [hx] at z; cases z
  refine ⟨by simp [hl], fun i => ?_, fun i j q wi wj ei ej => ?_, g.wd⟩
  · rw [sl_app, at_app, ← hl]
    by_cases e : i = ρ.length
    · rw [if_pos e, if_pos e]; exact ⟨x, rfl, .inr rfl, ho⟩
    · rw [if_neg e, if_neg e]; exact g.sl i
  · rw [sl_app] at wi wj
    rw [at_app, ← hl] at ei ej
    by_cases e1 : i = ρ.length <;> by_cases e2 : j = ρ.length
    · rw [e1, e2]
    · rw [if_pos e1] at ei; rw [if_neg e2] at wj ej
      cases ei; exact (nx j wj ej).elim
    · rw [if_pos e2] at ej; rw [if_neg e1] at wi ei
      cases ej; exact (nx i wi ei).elim
    · rw [if_neg e1] at wi ei; rw [if_neg e2] at wj ej
      exact rep.inj i j q wi wj ei ej
end
end O
namespace O
open PySem PySem.Spec PyProof.Rows L2
section
variable {X : Cx} {Wx : WX} {ds : Dn (List Hn)} {S : Sx} {C : Addr} {n : Nat}
end
section
variable {X : Cx} {Wx : WX} {j k : Nat} {C : Addr} {S : Sx} {x : Str} {p pos : Pos} {e : Expr} {es : List Expr} {ds : Dn (List Hn)}
end
theorem IsP.look {K : PySem.W.Frag} {W : Ad} {H : Hp} {f : Str} : ∀ {xs : List (Str × V)} {ts : List (Str × T)}, IsP K W H Str xs ts → (∀ t, ts.lookup f = some t → ∃ v, xs.lookup f = some v ∧ Is K W H v t) ∧ (ts.lookup f = none → xs.lookup f = none)
  | _, _, .nil => ⟨fun t e => (by cases e), fun _ => rfl⟩
  | (k, v) :: xs, (_, t) :: ts, .cons a b => by
    have ih := IsP.look (f := f) b
    by_cases e : f == k
    · refine ⟨fun u h => ?_, fun h => ?_⟩
      · rw [List.lookup_cons, e] at h; cases h
        exact ⟨v, by rw [List.lookup_cons, e], a⟩
      · rw [List.lookup_cons, e] at h; cases h
    · have e' : (f == k) = false := by cases q : f == k; rfl; exact absurd q e
      refine ⟨fun u h => ?_, fun h => ?_⟩
      · rw [List.lookup_cons, e'] at h
        obtain ⟨w, h1, h2⟩ := ih.1 u h
        exact ⟨w, by rw [List.lookup_cons, e']; exact h1, h2⟩
      · rw [List.lookup_cons, e'] at h
        rw [List.lookup_cons, e']; exact ih.2 h
theorem IsR.ins {K : PySem.W.Frag} {W : Ad} {H : Hp} {v : V} {C : Addr} {fs : List (Str × T)} (h : IsR K W H v (.ins C fs)) : ∃ p dx xs, v = .ref p ∧ H p = some (.ins C dx xs) ∧ IsP K W H Str xs fs := by
  rcases h with h | ⟨p, e, h⟩
  · cases h with | ins kc r w l => exact ⟨_, _, _, rfl, r, l⟩
  · obtain ⟨_, dx, xs, e1, l⟩ := h; exact ⟨p, dx, xs, e, e1, l⟩
section
variable {X : Cx} {Wx : WX} {C : Addr} {f : Str} {e : Expr} {d : Dn Hn} {pos : Pos}
end
end O
namespace O
open PySem PySem.Spec PyProof.Rows L2
section
variable {X : Cx} {Wx : WX} {S : Sx} {n : Nat}
end
/-- how the def is handed its operands -/
abbrev Hand := Sx → Rho → List Hn → Po Rv → Prop
section
variable {X : Cx} {Wx : WX} {HK : Hand} {j k : Nat} {C f : Addr} {S : Sx} {m : Str} {pos apos : Pos} {o e : Expr} {es : List Expr} {da : Dn Hn} {ds : Dn (List Hn)} {fd : FuncData} {ps : List Str} {sp : Sp} {ta : TE} {t : TA}
end
section
variable {X : Cx} {Wx : WX} {HK : Hand} {j k : Nat} {C g p : Addr} {S : Sx} {f : Str} {pos : Pos} {e : Expr} {da : Dn Hn} {fd : FuncData} {ps : List Str} {sp : Sp} {ta : TE}
end
section
variable {X : Cx} {Wx : WX} {HK : Hand} {j k : Nat} {C g p : Addr} {mc : Value} {S : Sx} {m x : Str} {pos apos npos : Pos} {e : Expr} {es : List Expr} {ds : Dn (List Hn)} {fd : FuncData} {ps : List Str} {sp : Sp} {t : TA}
end
section
variable {X : Cx} {Wx : WX} {C : Addr} {f x : Str} {e : Expr} {d : Dn Rv} {pos pos' npos : Pos}
end
end O
namespace O
open PySem PySem.Spec PyProof.Rows L2
def frC (n : Nat) (g : Addr → Option Obj) : PySem.W.Frag := He.frG g (He.asD g n ++ [sysModules, cStatics])
def okC (fa : List He.Fa) (fn : List He5.DefA) (ex : List (PySem.W.Frag → Bool)) (K : PySem.W.Frag) : Bool := sysB K && (fa.all (fun f => f.ok K) && (fn.all (fun d => d.ok K) && ex.all fun b => b K))
def obsKC (fa : List He.Fa) (fn : List He5.DefA) (ex : List (PySem.W.Frag → Bool)) (K : PySem.W.Frag) : He.AlD := (okC fa fn ex K, fn.map fun d => He5.fnA K (d.at_ K))
def valC (fn : List He5.DefA) : He.AlD := (true, fn.map He5.DefA.val)
def SaysC (fa : List He.Fa) (fn : List He5.DefA) (ex : List (PySem.W.Frag → Bool)) (K : PySem.W.Frag) : Prop := obsKC fa fn ex K = valC fn
def obsC (n : Nat) (fa : List He.Fa) (fn : List He5.DefA) (ex : List (PySem.W.Frag → Bool)) (g : Addr → Option Obj) : He.AlD := obsKC fa fn ex (frC n g)
def hookC (n : Nat) (fa : List He.Fa) (fn : List He5.DefA) (ex : List (PySem.W.Frag → Bool)) : PySem.W.Hook where
  α := He.AlD
  obs := fun s => obsC n fa fn ex s.heap.get?
  val := fun _ => valC fn
  says := fun _ h => ∃ K : PySem.W.Frag, K.In h ∧ SaysC fa fn ex K
  of := fun _ _ e => ⟨_, He.frG_in, e⟩
  keeps := fun _ _ _ ⟨K, hK, c⟩ k => ⟨K, PySem.W.Frag.In.keeps hK k, c⟩
theorem obsC_eq {n : Nat} {fa : List He.Fa} {fn : List He5.DefA} {ex : List (PySem.W.Frag → Bool)} {g : Addr → Option Obj} {s : Shared} (h : ∀ a, g a = s.heap.get? a) : obsC n fa fn ex g = (hookC n fa fn ex).obs s := congrArg (obsC n fa fn ex) (funext h)
section
variable {fa : List He.Fa} {fn : List He5.DefA} {ex : List (PySem.W.Frag → Bool)} {K : PySem.W.Frag}
theorem SaysC.all (c : SaysC fa fn ex K) : sysB K = true ∧ fa.all (fun f => f.ok K) = true ∧ fn.all (fun d => d.ok K) = true ∧ ex.all (fun b => b K) = true := by
  obtain ⟨h1, h⟩ := He.ba (show okC fa fn ex K = true from congrArg (fun z : He.AlD => z.1) c)
  obtain ⟨h2, h⟩ := He.ba h
  obtain ⟨h3, h4⟩ := He.ba h
  exact ⟨h1, h2, h3, h4⟩
theorem SaysC.sys (c : SaysC fa fn ex K) : Sys K := sysB_sys c.all.1
theorem SaysC.fact (c : SaysC fa fn ex K) (i : Nat) {f : He.Fa} (h : fa[i]? = some f := by rfl) : f.ok K = true := List.all_eq_true.mp c.all.2.1 f (List.mem_of_getElem? h)
theorem SaysC.more (c : SaysC fa fn ex K) (i : Nat) {b : PySem.W.Frag → Bool} (h : ex[i]? = some b := by rfl) : b K = true := List.all_eq_true.mp c.all.2.2.2 b (List.mem_of_getElem? h)
theorem SaysC.def_ (c : SaysC fa fn ex K) (i : Nat) {d : He5.DefA} (h : fn[i]? = some d := by rfl) : ∃ fd, FunD K d.name d.qual d.params d.body d.scope (d.dvs K) (d.kws K) (d.at_ K) fd := by
  have e : fn.map (fun d => He5.fnA K (d.at_ K)) = fn.map He5.DefA.val := congrArg (fun z : He.AlD => z.2) c
  have e2 : (fn.map fun d => He5.fnA K (d.at_ K))[i]? = (fn.map He5.DefA.val)[i]? := by rw [e]
  rw [List.getElem?_map, List.getElem?_map, h] at e2
  exact He5.DefA.funD (Option.some.inj e2) (List.all_eq_true.mp c.all.2.2.1 d (List.mem_of_getElem? h))
end
end O
namespace O
open PySem PySem.Spec PyProof.Rows L2
section
variable {X : Cx} {Wx : WX} {HK : Hand} {j k : Nat} {C f : Addr} {S : Sx} {op : UnaryOp} {m : Str} {pos : Pos} {o : Expr} {da : Dn Hn} {fd : FuncData} {ps : List Str} {sp : Sp} {ta : TE}
end
end O
namespace O
open PySem PySem.Spec PyProof.Rows L2
section
variable {X : Cx} {Wx : WX}
end
end O
namespace O
open PySem PySem.Spec PyProof.Rows L2
open AutoSeq1 (wpAny_loadPart')
section
variable {X : Cx} {Wx : WX} {e : Expr} {d : Dn (List Hn)} {p pos tpos : Pos} {elts : List Expr} {kk : Nat}
end
end O
namespace O
open PySem PySem.Spec PyProof.Rows L2
section
variable {X : Cx}
end
end O
namespace O
open PySem PySem.Spec PyProof.Rows L2
def isA (D : Addr) : Ad := fun p => p = D
theorem Step.over {P W P1 W1 P2 W2 : Ad} {H H1 H2 H3 : Hp} {D : Addr} (wd : ∀ p, W p → ∃ o, H p = some o) (a : Step (rooted P (isA D)) W H (rooted P1 (isA D)) W1 H1) (b : Step P1 W1 H1 P2 W2 H2) (oD : ∀ p, p ≠ D → H3 p = H2 p) (hD : ∃ o, H3 D = some o) :
    Step (rooted P (isA D)) W H (rooted P2 (isA D)) W2 H3 where
  keep := fun p o e n => by
    have np : p ≠ D := fun z => n (.inr z)
    rw [oD p np]
    exact b.keep p o (a.keep p o e n) fun z => (a.newP p (.inl z)).elim n fun q => by rw [e] at q; cases q
  dom := fun p o e => by
    by_cases c : p = D
    · rw [c]; exact hD
    · rw [oD p c]
      obtain ⟨o', e'⟩ := a.dom p o e
      exact b.dom p o' e'
  stay := fun p w n => b.stay p (a.stay p w n) fun z => (a.newP p (.inl z)).elim n fun q => by obtain ⟨o, e⟩ := wd p w; rw [q] at e; cases e
  new := fun p z => (b.new p z).elim (a.new p) fun q => .inr (a.none_of q)
  newP := fun p z => by
    rcases z with z | z
    · exact (b.newP p z).elim (fun z => a.newP p (.inl z)) fun q => .inr (a.none_of q)
    · exact .inl (.inr z)
theorem Lt.trans {W W1 W2 : Ad} {H H1 H2 : Hp} (a : Lt W H W1 H1) (b : Lt W1 H1 W2 H2) : Lt W H W2 H2 where
  keep := fun p o e n => b.keep p o (a.keep p o e n) fun z => (a.new p z).elim n fun q => by rw [e] at q; cases q
  new := fun p z => (b.new p z).elim (a.new p) fun q => .inr (by
    cases e : H p with
    | none => rfl
    | some o => obtain ⟨o', e'⟩ := a.dom p o e; rw [q] at e'; cases e')
  dom := fun p o e => by
    obtain ⟨o', e'⟩ := a.dom p o e
    exact b.dom p o' e'
section
variable {K : PySem.W.Frag} {Wx : WX}
end
section
variable {X : Cx} {Wx : WX}
end
end O
namespace O
open PySem PySem.Spec PyProof.Rows L2
section
variable {prog : Program} {w : World} {A : Around} {E Q : Value → Shared → Prop} {s : Shared} {K : PySem.W.Frag} {x C f : Addr} {ox : Obj} {od : Option Obj} {op : Operator} {sym nm : String} {b tb : Value}
end
section
variable {X : Cx} {Wx : WX} {HK : Hand} {j k : Nat} {C f : Addr} {S : Sx} {op : Operator} {sym nm : String} {pos : Pos} {o e : Expr} {da db : Dn Hn} {fd : FuncData} {ps : List Str} {sp : Sp} {ta tb : TE}
end
end O
namespace O
open PySem PySem.Spec PyProof.Rows L2
section
variable {X : Cx} {e : Expr} {es : List Expr} {ta : TA} {x : Str} {p1 p2 pos : Pos} {D : Addr}
end
section
variable {X : Cx} {x a b m fld : Str} {j : Nat} {D : Addr} {p1 p2 p3 p4 p5 p6 p7 p8 p9 p10 : Pos}
end
section
variable {X : Cx} {Wx : WX} {x fld : Str} {C fI : Addr} {k : Nat} {fd : FuncData} {ps : List Str} {e : Expr} {te : TE} {p pos : Pos}
end
end O
namespace O
open PySem PySem.Spec PyProof.Rows L2
section
variable {X : Cx} {Wx : WX} {C : Addr} {x fld : Str} {j k : Nat} {p pos pos' : Pos} {e : Expr} {d : Dn Rv}
end
end O
namespace O
open PySem PySem.Spec PyProof.Rows L2
/-- the names of the classes; which clause takes which -/
def takesE (n m : Str) : Bool := decide (m = n) || decide (m = "PairError")
def errNames : List Str := ["InvalidRow", "InvalidCounts", "InvalidRuns", "InvalidSwap", "InvalidPattern", "InvalidNumber", "InvalidStrands", "InvalidCommand", "Different", "NothingToUndo", "TooLarge", "InvalidText", "PairError"]
/-- C is the class of errors that is named n: what the program asks of it -/
structure ErrN (K : PySem.W.Frag) (C : Addr) (n : Str) : Prop where
  mem : n ∈ errNames
  at_ : C = He.ga K n
  ec : ExcC K C
  kit : ∀ m ∈ errNames, PySem.W.kitOne K (.ref C) (.ref (He.ga K m)) = some (takesE n m)
  exm : ∀ m ∈ errNames, PySem.W.exmOne K (.ref C) (.ref (He.ga K m)) = some (takesE n m)
  ve : PySem.W.kitOne K (.ref C) (.type "ValueError") = some true
section
variable {X : Cx} {Wx : WX} {C : Addr} {x m : Str} {j : Nat} {p p2 pos pos' : Pos}
end
abbrev Er := Addr → Str → Prop
section
variable {K : PySem.W.Frag} {σ : L2.St} {ρ : Rho} {W : Ad} {H : Hp}
theorem own_clear {i j : Nat} {p : Addr} (hl : ρ.length = σ.length) (w : (sl_ (ρ.set i .no) j).own) (e : at_ (σ.set i none) j = some (.ref p)) : (sl_ ρ j).own ∧ at_ σ j = some (.ref p) := by
  rw [sl_set] at w
  rw [at_set, ← hl] at e
  by_cases c : i = j ∧ i < ρ.length
  · rw [if_pos c] at w; exact w.elim
  · rw [if_neg c] at w e; exact ⟨w, e⟩
theorem Rep.clear (rep : Rep K W H σ ρ) (i : Nat) : Rep K W H (σ.set i none) (ρ.set i .no) := by
  have hl := rep.len
  refine ⟨by rw [List.length_set, List.length_set]; exact hl, fun j => ?_, fun a b p wa wb ea eb => ?_, rep.wd⟩
  · rw [sl_set, at_set, ← hl]
    by_cases c : i = j ∧ i < ρ.length
    · rw [if_pos c, if_pos c]; trivial
    · rw [if_neg c, if_neg c]; exact rep.sl j
  · obtain ⟨a1, a2⟩ := own_clear hl wa ea
    obtain ⟨b1, b2⟩ := own_clear hl wb eb
    exact rep.inj a b p a1 b1 a2 b2
end
section
variable {X : Cx} {Wx : WX} {R : Er} {m e : Str} {i : Nat} {body suite : List Stmt} {b₀ : Stmt} {np pos pos' : Pos} {db : Ds} {ds : Addr → Addr → Option Addr → List (Str × T) → Ds}
end
end O
namespace O
open PySem PySem.Spec PyProof.Rows L2 HotX
section
variable {prog : Program} {w : World} {A : Around} {E : Value → Shared → Prop} {s : Shared} {x1 : Addr}
end
end O
namespace O
open PySem PySem.Spec PyProof.Rows L2 HotX L2H
/-- a pair within a list: its address, its name, its answer -/
abbrev Pr := Addr × V × Bool
section
variable {Y : Cx} {pins : List (Addr × Obj)} {σ : L2.St} {H : Hp} {s : Shared} {p : Addr × Obj} {i1 i2 : Nat} {scope : Scope} {own : List (Str × Nat)} {ps : List Pr} {a : Addr} {e1 e2 x q1 q2 it0 : Expr} {kk : Nat} {pt pos pos' : Pos}
end
end O
namespace O
open PySem PySem.Spec PyProof.Rows L2 HotX L2H
section
variable {Y : Cx} {Wx : WX} {p : Addr × Obj} {i1 i2 il : Nat} {scope : Scope} {e1 e2 q1 q2 : Expr} {kk : Nat} {pt pos pl py spos : Pos} {y l x1 x2 : Str}
end
end O
namespace O
open PySem PySem.Spec PyProof.Rows L2 HotX L2H
/-- what is known of the error's object -/
structure ErrAt (C : Addr) (p : Addr × Obj) (d : Option Addr) : Prop where
  zn : L2N.Zn (.ref C) d p.2
  fl : ∃ vs, p.2.data = .fields vs
section
variable {Y : Cx} {Wx : WX} {p : Addr × Obj} {C : Addr} {d : Option Addr} {fs : List (Str × T)} {n m e : Str} {q1 q2 q3 pos : Pos}
end
end O
namespace O
open PySem PySem.Spec PyProof.Rows L2 HotX L2H
/-- f(e) answers with a text that the name of e's class decides -/
structure FnHot (P : Program) (w : World) (K : PySem.W.Frag) (mg : Str → Option Value) (base : Heap) (k : Nat) (x : Str) (kd : Str → List Nat) : Prop where
  ex : ∃ (f : Addr) (fd : FuncData) (y : Str), mg x = some (.ref f) ∧ PySem.W.keepIn K (.ref f) = true ∧ Binds K fd [y] [] ∧ ∀ {A : Around} {outer : List Env} {s : Shared} {H : Hp} {as : Args} {Q : VK} {E : XK} {p : Addr × Obj} {C : Addr} {d : Option Addr} {fs : List (Str × T)} {n : Str},
    RoomH k A → Hot1 A p → PinOk outer H s p → Env0 P w K mg base A outer s H → BindsTo s fd as [(y, .ref p.1)] → ErrAt C p d → ErrN K C n → Is K noAd H (.ref p.1) (.exc p.1 C d fs) → (∀ H', (∀ q o, H q = some o → H' q = some o) → Q (.str (S (kd n))) H') →
    codeAny (model P w) A (.call (.ref f) as) (CR (L2N.CX P w) outer P w H s Q E) s
theorem FnHot.of {P : Program} {w : World} {K : PySem.W.Frag} {mg : Str → Option Value} {base : Heap} {k : Nat} {x y : Str} {kd : Str → List Nat} {qual : Str} {st : Stmt} {N : List Str} {f : Addr} {fd : FuncData} (D : T → (Str → Bool) → Ds)
    (F : FunD K x qual (defArgs st) (defBody st) (defScope st) [] [] f fd) (hm : mg x = some (.ref f)) (Sc : FnScope N [y] (defScope st))
    (hb : ∀ (kV doc pm : Value) (an : Option Addr) (cdv ct : Value) (us : List Value), us.length = 1 → bindArgs (PySem.W.fnOf x qual (defArgs st) (defBody st) (defScope st) .none kV doc pm an cdv ct) ⟨us, []⟩ = pure ([y].zip us))
    (body : ∀ (cdv : Value) (A : Around) (outer : List Env) (s : Shared) (H : Hp) (E : XK) (p : Addr × Obj) (C : Addr) (d : Option Addr) (fs : List (Str × T)) (n : Str), Hot1 A p → RoomH k (A.deeper (envOfC qual (defScope st) s.heap.objs.size f cdv)) → ErrAt C p d → ErrN K C n →
      XSs (cxH (L2N.CX P w) P w K mg base N qual (defScope st) f cdv A outer s H E p) (fun _ _ _ _ => False) (defBody st) (D (.exc p.1 C d fs) (takesE n)))
    (hS : ∀ (a C : Addr) (d : Option Addr) (fs : List (Str × T)) (n : Str), n ∈ errNames → D (.exc a C d fs) (takesE n) (.sh (.exc a C d fs) :: List.replicate (N.length - 1) .no) ⟨fun _ => False, fun r _ => r = (false, .str (kd n)), fun _ => False, fun _ => False, fun _ _ _ => False⟩) : FnHot P w K mg base (k + 1) x kd := by
  obtain ⟨_, _, _, _, _, _, _, cdv, _, _, rfl, look, code, _, _⟩ := id F.ex
  refine ⟨f, _, y, hm, F.kp, F.bindsN (ps := [y]) hb, fun {A outer s H as Q E p C d fs n} room hot pin env bd er en is q => ?_⟩
  have keep : ∀ b o, base.get? b = some o → s.heap.get? b = some o := fun b o e => (env.bs b o e).1
  have KX : K.In s.heap := env.mod.kin.keeps keep
  refine codeAny_call_function room.depth (KX _ _ look) rfl Sc.co Sc.gen rfl (PySem.W.codeRec_of KX code) (bd _ _ _ _ (wpAny_newFunctionEnv_cells Sc.kind (fun z hz => ?_) fun ev he s1 made => ?_))
  · have ez : z.1 = y := by rw [List.mem_singleton.mp hz]
    exact (Sc.par z.1 (by rw [ez]; exact List.mem_cons_self)).imp id fun c => ⟨c, PySem.W.cellsFrom_some _ _ _ (.inl c)⟩
  · cases he
    refine ⟨env.mod.nolimit.keeps fun b o e => made.toInCall.keep b o (keep b o e), codeAny_func ?_⟩
    have B := body cdv A outer s H E p C d fs n hot (room.deeper _) er en
    have I := inv_startH (CX := L2N.CX P w) (E := E) (vs := [.ref p.1]) (ps := [y]) (us := [.ref p.1]) Sc pin env rfl (.cons rfl .nil) made
    have rp : Rep K noAd H ([V.ref p.1].map some) [.sh (.exc p.1 C d fs)] := by
      refine ⟨rfl, fun i => ?_, fun i j q wi => ?_, fun q z => z.elim⟩
      · cases i with
        | zero => exact ⟨_, rfl, is⟩
        | succ i => rw [sl_cons, sl_nil]; trivial
      · cases i with
        | zero => exact wi.elim
        | succ i => rw [sl_cons, sl_nil] at wi; exact wi.elim
    have hl : N.length - [V.ref p.1].length = N.length - 1 := rfl
    have noOwn : ∀ (σ : L2.St) (q : Addr), ¬ Rt σ (Sl.sh (.exc p.1 C d fs) :: List.replicate (N.length - 1) .no) q := fun σ q ⟨i, w, _⟩ => by
      cases i with
      | zero => exact w
      | succ i =>
        rw [sl_cons] at w
        unfold sl_ at w
        rw [List.getD_eq_getElem?_getD, List.getElem?_replicate] at w
        split at w <;> exact w
    have go := B.pss.run [] s1 (L2.start N [.ref p.1]) H { nx := fun _ H' => Q .non H', rt := Q } I ⟨noAd, _, rp.start (m := N.length - 1), B.mn _ _ _ (hS p.1 C d fs n en.mem) (fun _ z => False.elim z) (fun r ρ' z v σ' W' H' rl rep st io => ?_) (fun _ z => False.elim z) (fun _ z => False.elim z) (fun _ _ _ z => False.elim z)⟩
    · refine wpAny_mono go (fun fl s' z => ?_) fun _ _ z => z
      match fl, z with
      | .ret u, ⟨v, σ', H', J, rv, q⟩ => exact ⟨v, H', J.os, J.bare, J.base, J.hok, rv, q⟩
      | .next, ⟨σ', H', J, q⟩ => exact ⟨.non, H', J.os, J.bare, J.base, J.hok, rfl, q⟩
      | .brk, ⟨_, _, _, q⟩ => exact q.elim
      | .cont, ⟨_, _, _, q⟩ => exact q.elim
    · subst z
      unfold relE at rl
      rw [if_neg (fun z : false = true => Bool.noConfusion z)] at rl
      cases rl
      exact q H' fun b o e => st.keep b o e (noOwn _ b)
section
variable {X : Cx} {Wx : WX} {a C : Addr} {d : Option Addr} {oe : Obj} {fs : List (Str × T)} {pn : List (Addr × Obj)} {R : Er} {kd : Str → List Nat} {k j : Nat} {x e : Str} {q1 q2 pos : Pos}
end
end O
namespace O
open PySem PySem.Spec PyProof.Rows L2
structure Ox where
  pre : Prop
  fine : Bool
  C : Addr
  val : Rv
def Ox.no : Ox := ⟨False, true, 0, (false, .non)⟩
section
variable {f : List T → Ox} {t u v : T} {Q : Po Rv}
end
end O
namespace O
open PySem PySem.Spec PyProof.Rows L2
section
variable {X : Cx} {Wx : WX} {Ct a C : Addr} {oe : Obj} {d : Option Addr} {fs : List (Str × T)} {pn : List (Addr × Obj)} {e fld : Str} {q pos : Pos}
end
end O
namespace O
open PySem PySem.Spec PyProof.Rows L2
section
variable {X : Cx} {Wx : WX} {k i : Nat} {f : Addr} {fd : FuncData} {ps : List Str} {sp : Sp} {x : Str} {p pos : Pos} {e : Expr} {es : List Expr} {t : TA}
end
theorem FnX.at_ {P : Program} {w : World} {K : PySem.W.Frag} {mg : Str → Option Value} {base : Heap} {k j : Nat} {f : Addr} {S : Sx} {x : Str} (F : FnX P w K mg base k x S) (hm : mg x = some (.ref f)) (h : k ≤ j) : FnAt P w K mg base j f S := by
  obtain ⟨⟨g, fd, ps, e, a, b, c, d⟩, m⟩ := F
  rw [hm] at e
  cases e
  exact ⟨⟨fd, ps, a, b.mono h, c, d⟩, m⟩
section
variable {X : Cx} {Wx : WX} {j k : Nat} {L : List (Addr × Sx)} {x : Str} {p pos : Pos} {e : Expr} {es : List Expr} {ds : Dn (List Hn)}
end
end O
namespace O
open PySem PySem.Spec PyProof.Rows L2
end O
namespace O
open PySem PySem.Spec PyProof.Rows L2
section
variable {X : Cx}
end
end O
namespace L2N.Named
open PySem PySem.Spec PyProof.Rows L2
section
variable {X : Cx} {body : List Stmt} {h₀ : ExceptHandler} {hds : List ExceptHandler} {F : Ends → WX → WX} {pos : Pos} {tb : WX → TS} {Wout : WX}
end
end L2N.Named
namespace O
open PySem PySem.Spec PyProof.Rows L2
section
variable {X : Cx} {Wx : WX} {R : Er} {m m2 e e2 : Str} {i i2 : Nat} {body suite suite2 : List Stmt} {b₀ b₂ : Stmt} {np pos pos' np2 pos2 : Pos} {db : Ds} {ds ds2 : Addr → Addr → Option Addr → List (Str × T) → Ds}
end
end O
namespace O
open PySem PySem.Spec PyProof.Rows L2
section
variable {X : Cx} {Wx : WX} {σ : L2.St} {ρ1 : Rho} {W1 : Ad} {H1 : Hp} {e : Expr} {d : Dn Hq} {pos : Pos}
end
end O
namespace O
open PySem PySem.Spec PyProof.Rows L2
section
variable {X : Cx} {Wx : WX}
end
end O
namespace O
open PySem PySem.Spec PyProof.Rows L2
section
variable {X : Cx} {Wx : WX} {o e : Expr} {es : List Expr} {d : Dn Rv} {ds : Dn (List Hn)}
end
end O
namespace O
open PySem PySem.Spec PyProof.Rows L2
section
variable {X : Cx} {Wx : WX}
end
end O
namespace O
open PySem PySem.Spec PyProof.Rows L2
section
variable {X : Cx}
end
section
variable {X : Cx} {Wx : WX}
end
end O
namespace O
open PySem PySem.Spec PyProof.Rows L2
section
variable {X : Cx}
theorem IsP.keys {K : PySem.W.Frag} {W : Ad} {H : Hp} : ∀ {kvs : List (Key × V)} {ts : List (Key × T)}, IsP K W H Key kvs ts → kvs.map (·.1) = ts.map (·.1)
  | [], [], .nil => rfl
  | (j, v) :: kvs, (_, u) :: ts, .cons a b => by rw [List.map_cons, List.map_cons, IsP.keys b]
theorem IsP.any {K : PySem.W.Frag} {W : Ad} {H : Hp} (k : Key) : ∀ {kvs : List (Key × V)} {ts : List (Key × T)}, IsP K W H Key kvs ts → (kvs.any fun kv => decide (kv.1 = k)) = (ts.any fun kv => decide (kv.1 = k))
  | [], [], .nil => rfl
  | (j, v) :: kvs, (_, u) :: ts, .cons a b => by rw [List.any_cons, List.any_cons, IsP.any k b]
theorem IsP.subst {K : PySem.W.Frag} {W : Ad} {H : Hp} {k : Key} {v : V} {t : T} (hv : Is K W H v t) : ∀ {kvs : List (Key × V)} {ts : List (Key × T)}, IsP K W H Key kvs ts → IsP K W H Key (kvs.map fun kv => if kv.1 = k then (kv.1, v) else kv) (ts.map fun kv => if kv.1 = k then (kv.1, t) else kv)
  | [], [], .nil => .nil
  | (j, v') :: kvs, (_, u) :: ts, .cons a b => by
    rw [List.map_cons, List.map_cons]
    by_cases h : j = k
    · simp only [h, if_true]
      exact .cons hv (IsP.subst hv b)
    · simp only [h, if_false]
      exact .cons a (IsP.subst hv b)
end
def leL (a b : List Nat) : Bool := decide (a ≤ b)
section
variable {X : Cx}
end
end O
namespace ZL
open PySem PySem.Calls PyProof.Rows PyProof.V PySem.Spec
theorem zip_no_len : typeLookup (.type "zip") "__len__" = pure none := am_miss_of_fast (by decide +kernel)
theorem zip_no_hint : typeLookup (.type "zip") "__length_hint__" = pure none := am_miss_of_fast (by decide +kernel)
abbrev Pr := List (Value × Value)
structure Pg (ps : Pr) (lo : Addr) (h : Heap) (as : List Addr) : Prop where
  rise : as.Pairwise (· < ·)
  above : ∀ a ∈ as, lo < a
  pairs : ∀ (j : Nat) (a : Addr), as[j]? = some a → ∃ p : Value × Value, ps[j]? = some p ∧ h.get? a = some { cls := .type "tuple", data := .seq #[p.1, p.2] }
theorem Pg.there {ps : Pr} {lo : Addr} {h : Heap} {as : List Addr} (g : Pg ps lo h as) {a : Addr} (ha : a ∈ as) : a < h.objs.size := by
  obtain ⟨j, hj⟩ := List.mem_iff_getElem?.mp ha
  obtain ⟨_, _, e⟩ := g.pairs j a hj
  exact Heap.lt_size e
theorem Pg.low {ps : Pr} {lo lo' : Addr} {h : Heap} {as : List Addr} (g : Pg ps lo h as) (hl : lo' ≤ lo) : Pg ps lo' h as := ⟨g.rise, fun a ha => Nat.lt_of_le_of_lt hl (g.above a ha), g.pairs⟩
def St (z TI TO i1 i2 l1 l2 S : Addr) (xs ys : List Value) (i : Nat) (h : Heap) : Prop :=
  IsPair h TI (.ref i1) (.ref i2) ∧ h.IsListIter i1 l1 i ∧ h.IsListIter i2 l2 i ∧ h.IsList l1 xs.toArray ∧ h.IsList l2 ys.toArray ∧
    ((IsZip h z TI TO .none ∧ ∃ a b, IsPair h TO a b) ∨ ∃ T f oT, IsZipHeld h z TI TO T f ∧ h.get? T = some oT ∧ T ≠ z ∧ T ≠ i1 ∧ T ≠ i2 ∧ T ≠ S)
/-- the addresses of a zip and of what it walks are others than S -/
structure Off (z TI TO i1 i2 l1 l2 S : Addr) : Prop where
  z : z ≠ S
  TI : TI ≠ S
  TO : TO ≠ S
  i1 : i1 ≠ S
  i2 : i2 ≠ S
  l1 : l1 ≠ S
  l2 : l2 ≠ S
section
variable {z TI TO i1 i2 l1 l2 S : Addr} {xs ys : List Value}
theorem St.keep {i : Nat} {h h' : Heap} (f : Off z TI TO i1 i2 l1 l2 S) (st : St z TI TO i1 i2 l1 l2 S xs ys i h) (hk : ∀ b o, b ≠ S → h.get? b = some o → h'.get? b = some o) : St z TI TO i1 i2 l1 l2 S xs ys i h' := by
  obtain ⟨hTI, h1, h2, hl1, hl2, hz⟩ := st
  refine ⟨hk _ _ f.TI hTI, h1.at fun o e => hk _ o f.i1 e, h2.at fun o e => hk _ o f.i2 e, hl1.at fun o e => hk _ o f.l1 e, hl2.at fun o e => hk _ o f.l2 e, ?_⟩
  rcases hz with ⟨hz, a, b, hTO⟩ | ⟨T, g, oT, hz, hT, r1, r2, r3, r4⟩
  · exact .inl ⟨hk _ _ f.z hz, a, b, hk _ _ f.TO hTO⟩
  · exact .inr ⟨T, g, oT, hk _ _ f.z hz, hk _ _ r4 hT, r1, r2, r3, r4⟩
theorem St.type {i : Nat} {s : Shared} (st : St z TI TO i1 i2 l1 l2 S xs ys i s.heap) : s.TypeIs (.ref z) "zip" := by
  obtain ⟨_, _, _, _, _, ⟨hz, _⟩ | ⟨T, g, oT, hz, _⟩⟩ := st
  · exact ⟨_, hz, rfl⟩
  · exact ⟨_, hz, rfl⟩
variable {prog : Program} {w : World} {A : Around} {E : Value → Shared → Prop} {s : Shared}
theorem St.iter {i : Nat} {Q : Value → Shared → Prop} (st : St z TI TO i1 i2 l1 l2 S xs ys i s.heap) (h : Q (.ref z) s) : wpAny (model prog w) A (pyIter (.ref z)) Q E s := by
  obtain ⟨_, _, _, _, _, ⟨hz, _⟩ | ⟨T, g, oT, hz, _⟩⟩ := st
  · exact wpAny_pyIter_zip hz h
  · refine wpAny_pyIter_slot (T := "zip") ⟨_, hz, rfl⟩ F.slot_zip_iter (wpAny_call_entry F.slot_zip_iter ⟨_, hz, rfl⟩ F.entry_zip_iter ?_ (F.args_zip_iter_1 _))
    show wpAny _ _ (ret (.ref z)) _ _ s
    exact wpAny_pure ⟨_, rfl, "zip", _, ⟨_, hz, rfl⟩, F.slot_zip_next.lookup, h⟩
theorem item {i : Nat} {x y : Value} {Q : Option Value → Shared → Prop} (D : ZipApart z TI TO i1 i2 l1 l2) (st : St z TI TO i1 i2 l1 l2 S xs ys i s.heap) (hS : S < s.heap.objs.size) (hx : xs[i]? = some x) (hy : ys[i]? = some y)
    (hQ : ∀ h', St z TI TO i1 i2 l1 l2 S xs ys (i + 1) h' → h'.get? s.heap.objs.size = some { cls := .type "tuple", data := .seq #[x, y] } → h'.objs.size = s.heap.objs.size + 1 →
      (∀ c o, c ≠ z → c ≠ TO → c ≠ i1 → c ≠ i2 → s.heap.get? c = some o → h'.get? c = some o) → Q (some (.ref s.heap.objs.size)) { s with heap := h' }) :
    wpAny (model prog w) A (pyNext (.ref z)) Q E s := by
  obtain ⟨hTI, h1, h2, hl1, hl2, hz⟩ := st
  have ex : xs.toArray[i]? = some x := by simpa using hx
  have ey : ys.toArray[i]? = some y := by simpa using hy
  have lt : ∀ {c o}, s.heap.get? c = some o → s.heap.objs.size ≠ c := fun e => Nat.ne_of_gt (Heap.lt_size e)
  have n1 : s.heap.objs.size ≠ i1 := let ⟨_, e, _⟩ := h1; lt e
  have n2 : s.heap.objs.size ≠ i2 := let ⟨_, e, _⟩ := h2; lt e
  rcases hz with ⟨hz, a, b, hTO⟩ | ⟨T, f, oT, hz, hT, r1, r2, r3, r4⟩
  · exact wpAny_pyNext_zip_item D hz hTI hTO h1 h2 hl1 hl2 ex ey fun h' a1 a2 a3 a4 a5 a6 hk =>
      hQ h' ⟨hk _ _ D.TIz D.TITO D.TIi1 D.TIi2 hTI, a3, a4, hl1.at fun o e => hk _ o D.l1z D.l1TO D.l1i1 D.l1i2 e, hl2.at fun o e => hk _ o D.l2z D.l2TO D.l2i1 D.l2i2 e,
        .inr ⟨s.heap.objs.size, false, _, a1, a5, lt hz, n1, n2, Nat.ne_of_gt hS⟩⟩ a5 a6 hk
  · exact wpAny_pyNext_zip_item_held D hz hT hTI h1 h2 hl1 hl2 ex ey fun h' a1 a3 a4 a5 a6 hk =>
      hQ h' ⟨hk _ _ D.TIz D.TIi1 D.TIi2 hTI, a3, a4, hl1.at fun o e => hk _ o D.l1z D.l1i1 D.l1i2 e, hl2.at fun o e => hk _ o D.l2z D.l2i1 D.l2i2 e,
        .inr ⟨T, true, oT, a1, hk _ _ r1 r2 r3 hT, r1, r2, r3, r4⟩⟩ a5 a6 fun c o q1 _ q3 q4 e => hk c o q1 q3 q4 e
theorem done {i : Nat} {Q : Option Value → Shared → Prop} (hh : A.handled = none) (D : ZipApart z TI TO i1 i2 l1 l2) (st : St z TI TO i1 i2 l1 l2 S xs ys i s.heap) (hend : xs[i]? = none ∨ ys[i]? = none)
    (hQ : ∀ h', (∀ c o, c ≠ z → c ≠ TO → c ≠ i1 → c ≠ i2 → s.heap.get? c = some o → h'.get? c = some o) → Q none { s with heap := h' }) :
    wpAny (model prog w) A (pyNext (.ref z)) Q E s := by
  obtain ⟨hTI, h1, h2, hl1, hl2, hz⟩ := st
  have he : xs.toArray[i]? = none ∨ ys.toArray[i]? = none := by simpa using hend
  rcases hz with ⟨hz, a, b, hTO⟩ | ⟨T, f, oT, hz, hT, r1, r2, r3, r4⟩
  · exact wpAny_pyNext_zip_end hh D hz hTI hTO h1 h2 hl1 hl2 he fun h' hk => hQ h' hk
  · exact wpAny_pyNext_zip_end_held hh D hz hT hTI h1 h2 hl1 hl2 he fun h' hk => hQ h' fun c o q1 _ q3 q4 e => hk c o q1 q3 q4 e
theorem zip_none : ∀ (xs ys : List Value) (i : Nat), (xs.zip ys).length ≤ i → xs[i]? = none ∨ ys[i]? = none := fun xs ys i h => by
  rw [List.length_zip] at h
  rcases Nat.le_total xs.length ys.length with k | k
  · exact .inl (List.getElem?_eq_none (by omega))
  · exact .inr (List.getElem?_eq_none (by omega))
/-- the loop that fills the list -/
theorem loop {R : Result → Shared → Prop} (hh : A.handled = none) (D : ZipApart z TI TO i1 i2 l1 l2) (f : Off z TI TO i1 i2 l1 l2 S) (lz : z < S) (lT : TO < S) (k1 : i1 < S) (k2 : i2 < S) (hn : (xs.zip ys).length ≤ sizeLine) (res : Value) {h₁ : Heap}
    (hR : ∀ h' tk acc c as, (∀ b o, b ≠ S → b ≠ z → b ≠ TO → b ≠ i1 → b ≠ i2 → h₁.get? b = some o → h'.get? b = some o) → h'.get? S = some { cls := .type "list", dict := none, data := .seq acc c, slots := #[] } → as.length = (xs.zip ys).length → Pg (xs.zip ys) S h' as →
      acc.toList = as.map Value.ref → R (.ok (.ret res)) { s with heap := h', toks := tk }) :
    ∀ (k i : Nat) (h : Heap) (tk c : Nat) (acc : Array Value) (as : List Addr), (xs.zip ys).length - i = k → i ≤ (xs.zip ys).length → St z TI TO i1 i2 l1 l2 S xs ys i h → (∀ b o, b ≠ S → b ≠ z → b ≠ TO → b ≠ i1 → b ≠ i2 → h₁.get? b = some o → h.get? b = some o) →
      h.get? S = some { cls := .type "list", dict := none, data := .seq acc c, slots := #[] } → acc.toList = as.map Value.ref → as.length = i → Pg (xs.zip ys) S h as →
      codeAny (model prog w) A (.builtin "list.extend.loop" ⟨[.ref S, .ref z, res], []⟩) R { s with heap := h, toks := tk } := by
  intro k
  induction k with
  | zero =>
    intro i h tk c acc as hk hi hst hkeep hS hacc hal hG
    refine codeAny_builtin PySem.F.entry_extend_loop ?_
    rw [Around.under_plainId PySem.F.plain_extend_loop _]
    show wpAny _ A.in1 (pyNext (.ref z) >>= _) _ _ _
    refine wpAny_bind (done (s := { s with heap := h, toks := tk }) (A := A.in1) hh D hst (zip_none xs ys i (by omega)) fun h' he => ?_)
    refine wpAny_pure (hR h' tk acc c as (fun b o q0 q1 q2 q3 q4 e => he b o q1 q2 q3 q4 (hkeep b o q0 q1 q2 q3 q4 e)) (he S _ f.z.symm f.TO.symm f.i1.symm f.i2.symm hS) (by omega) ⟨hG.rise, hG.above, fun j a hj => ?_⟩ hacc)
    obtain ⟨p, e1, e3⟩ := hG.pairs j a hj
    have ab := hG.above a (List.mem_of_getElem? hj)
    exact ⟨p, e1, he a _ (Nat.ne_of_gt (Nat.lt_trans lz ab)) (Nat.ne_of_gt (Nat.lt_trans lT ab)) (Nat.ne_of_gt (Nat.lt_trans k1 ab)) (Nat.ne_of_gt (Nat.lt_trans k2 ab)) e3⟩
  | succ k ih =>
    intro i h tk c acc as hk hi hst hkeep hS hacc hal hG
    have hlt : i < (xs.zip ys).length := by omega
    obtain ⟨p, hp⟩ : ∃ p, (xs.zip ys)[i]? = some p := ⟨(xs.zip ys)[i], List.getElem?_eq_getElem hlt⟩
    obtain ⟨hx, hy⟩ := List.getElem?_zip_eq_some.mp hp
    have hsz : acc.size = i := by rw [← Array.length_toList, hacc, List.length_map, hal]
    refine codeAny_builtin PySem.F.entry_extend_loop ?_
    rw [Around.under_plainId PySem.F.plain_extend_loop _]
    show wpAny _ A.in1 (pyNext (.ref z) >>= _) _ _ _
    refine wpAny_bind (item (s := { s with heap := h, toks := tk }) (S := S) D hst (Heap.lt_size hS) hx hy fun h' hst' ht hz hkp => ?_)
    dsimp only at ht hz hkp ⊢
    have hS' := hkp S _ f.z.symm f.TO.symm f.i1.symm f.i2.symm hS
    have up : ∀ b o, b ≠ S → h'.get? b = some o → (h'.update S (Obj.mapSeq (·.push (Value.ref h.objs.size)))).get? b = some o := fun b o hb e => (Heap.get?_update_other _ _ (Ne.symm hb)).trans e
    have hSl : S < h.objs.size := Heap.lt_size hS
    show wpAny _ A.in1 (updateSeq S (·.push (Value.ref h.objs.size)) >>= _) _ _ _
    refine wpAny_bind ?_
    refine wpAny_updateSeq hS' rfl (wpAny_pure ⟨plainId_quiet PySem.F.plain_extend_loop _, ih (i + 1) _ tk _ (acc.push (Value.ref h.objs.size)) (as ++ [h.objs.size]) (by omega) hlt (hst'.keep f up)
      (fun b o q0 q1 q2 q3 q4 e => up b o q0 (hkp b o q1 q2 q3 q4 (hkeep b o q0 q1 q2 q3 q4 e))) (Heap.get?_update_self _ hS' rfl) (by rw [Array.toList_push, hacc, List.map_append]; rfl) (by rw [List.length_append, hal]; rfl) ⟨?_, ?_, ?_⟩⟩) (by rw [hsz]; omega) (by show (acc.push (Value.ref h.objs.size)).size ≤ sizeLine + 1; rw [Array.size_push, hsz]; omega)
    · refine List.pairwise_append.mpr ⟨hG.rise, List.pairwise_singleton _ _, fun a ha b hb => ?_⟩
      rw [List.mem_singleton.mp hb]
      exact hG.there ha
    · intro a ha
      rcases List.mem_append.mp ha with ha | ha
      · exact hG.above a ha
      · rw [List.mem_singleton.mp ha]; exact hSl
    · intro j b hj
      rcases Nat.lt_trichotomy j as.length with h1 | h1 | h1
      · rw [List.getElem?_append_left h1] at hj
        obtain ⟨q, e1, e3⟩ := hG.pairs j b hj
        have hb := hG.above b (List.mem_of_getElem? hj)
        exact ⟨q, e1, up b _ (Nat.ne_of_gt hb) (hkp b _ (Nat.ne_of_gt (Nat.lt_trans lz hb)) (Nat.ne_of_gt (Nat.lt_trans lT hb)) (Nat.ne_of_gt (Nat.lt_trans k1 hb)) (Nat.ne_of_gt (Nat.lt_trans k2 hb)) e3)⟩
      · subst h1
        have hb : h.objs.size = b := by simpa using hj
        subst hb
        exact ⟨p, by rw [hal]; exact hp, up _ _ (Nat.ne_of_gt hSl) ht⟩
      · have hnone : (as ++ [h.objs.size])[j]? = none := List.getElem?_eq_none (by rw [List.length_append, List.length_singleton]; omega)
        rw [hnone] at hj; cases hj
theorem hint (hT : s.TypeIs (.ref z) "zip") {Q : Bool → Shared → Prop} (h : Q true s) : wpAny (model prog w) A (Builtin.List.listLengthHint (.ref z)) Q E s := by
  unfold Builtin.List.listLengthHint
  refine wpAny_bind (wpAny_specialOf hT zip_no_len ?_)
  show wpAny _ _ (specialOf (Value.ref z) (Str.ofString "__length_hint__") >>= _) _ _ _
  refine wpAny_bind (wpAny_specialOf hT zip_no_hint ?_)
  exact wpAny_pure h
theorem extend {R : Result → Shared → Prop} (hh : A.handled = none) (D : ZipApart z TI TO i1 i2 l1 l2) (f : Off z TI TO i1 i2 l1 l2 S) (lz : z < S) (lT : TO < S) (k1 : i1 < S) (k2 : i2 < S) (hn : (xs.zip ys).length ≤ sizeLine) (res : Value) (c₀ : Nat)
    (st : St z TI TO i1 i2 l1 l2 S xs ys 0 s.heap) (hS : s.heap.get? S = some { cls := .type "list", data := .seq #[] c₀ })
    (hR : ∀ h' tk acc c as, (∀ b o, b ≠ S → b ≠ z → b ≠ TO → b ≠ i1 → b ≠ i2 → s.heap.get? b = some o → h'.get? b = some o) → h'.get? S = some { cls := .type "list", dict := none, data := .seq acc c, slots := #[] } → as.length = (xs.zip ys).length → Pg (xs.zip ys) S h' as →
      acc.toList = as.map Value.ref → R (.ok (.ret res)) { s with heap := h', toks := tk }) :
    wpAny (model prog w) A.in1 (Builtin.List.listExtendWith (.ref S) (.ref z) res)
      (fun fin s' => match fin with | .done f => R (.ok f) s' | .again c' => c'.quiet = true ∧ codeAny (model prog w) A c' R s') (fun e s' => R (.error e) s') s := by
  unfold Builtin.List.listExtendWith
  refine wpAny_bind (wpAny_typeOf (T := "zip") st.type ?_)
  have h1 : Builtin.List.listSameRef (.ref S) (.ref z) = false := by simp [Builtin.List.listSameRef, f.z.symm]
  have h2 : (Value.type "zip" == Value.type "list") = false := by decide
  have h3 : (Value.type "zip" == Value.type "tuple") = false := by decide
  simp only [h1, h2, h3, Bool.or_false, Bool.false_eq_true, if_false]
  refine wpAny_bind (st.iter ?_)
  refine wpAny_bind (wpAny_holding (hint st.type ?_))
  refine wpAny_ite_split (fun _ => ?_) (fun hab => absurd rfl hab)
  refine wpAny_bind (wpAny_rule ?_)
  refine wpAny_bind ?_
  show wpAny _ _ (updateSeq S (·.push .none) >>= fun _ => updateSeq S (·.pop)) _ _ _
  refine wpAny_bind (wpAny_updateSeq hS rfl ?_)
  have hS₂ := Heap.get?_update_self (Obj.mapSeq (·.push Value.none)) hS rfl
  refine wpAny_updateSeq (hz := by seq_fits) hS₂ rfl ?_
  have hS₃ := Heap.get?_update_self (Obj.mapSeq (·.pop)) hS₂ rfl
  have oth : ∀ b o, b ≠ S → s.heap.get? b = some o → ((s.heap.update S (Obj.mapSeq (·.push Value.none))).update S (Obj.mapSeq (·.pop))).get? b = some o :=
    fun b o hb e => (Heap.get?_update_other _ _ (Ne.symm hb)).trans ((Heap.get?_update_other _ _ (Ne.symm hb)).trans e)
  refine wpAny_pure ⟨plainId_quiet PySem.F.plain_extend_loop _, ?_⟩
  exact loop (s := s) (h₁ := s.heap) hh D f lz lT k1 k2 hn res hR (xs.zip ys).length 0 _ s.toks _ #[] [] (Nat.sub_zero _) (Nat.zero_le _) (st.keep f oth) (fun b o q0 _ _ _ _ e => oth b o q0 e) hS₃ rfl rfl ⟨List.Pairwise.nil, (fun _ ha => nomatch ha), (fun j a hj => by simp at hj)⟩
theorem init {R : Result → Shared → Prop} (hh : A.handled = none) (D : ZipApart z TI TO i1 i2 l1 l2) (f : Off z TI TO i1 i2 l1 l2 S) (lz : z < S) (lT : TO < S) (k1 : i1 < S) (k2 : i2 < S) (hn : (xs.zip ys).length ≤ sizeLine)
    (st : St z TI TO i1 i2 l1 l2 S xs ys 0 s.heap) (hS : s.heap.get? S = some { cls := .type "list", data := .seq #[] })
    (hR : ∀ h' tk acc c as, (∀ b o, b ≠ S → b ≠ z → b ≠ TO → b ≠ i1 → b ≠ i2 → s.heap.get? b = some o → h'.get? b = some o) → h'.get? S = some { cls := .type "list", dict := none, data := .seq acc c, slots := #[] } → as.length = (xs.zip ys).length → Pg (xs.zip ys) S h' as →
      acc.toList = as.map Value.ref → R (.ok (.ret .none)) { s with heap := h', toks := tk }) :
    wpAny (model prog w) A.in1 (Builtin.«list.__init__» ⟨[.ref S, .ref z], []⟩)
      (fun fin s' => match fin with | .done f => R (.ok f) s' | .again c' => c'.quiet = true ∧ codeAny (model prog w) A c' R s') (fun e s' => R (.error e) s') s := by
  show wpAny _ _ (do let old ← Builtin.List.listItems (.ref S); Builtin.List.listUpdate (.ref S) (fun _ => #[]); letGo old.toList.reverse; Builtin.List.listExtendWith (.ref S) (.ref z) .none) _ _ s
  refine wpAny_bind ?_
  unfold Builtin.List.listItems
  refine wpAny_bind (wpAny_seqItems hS rfl (wpAny_pure ?_))
  show wpAny _ _ (updateSeq S (fun _ => #[]) >>= fun _ => letGo (#[] : Array Value).toList.reverse >>= fun _ => Builtin.List.listExtendWith (.ref S) (.ref z) .none) _ _ s
  refine wpAny_bind (wpAny_updateSeq hS rfl ?_)
  have hS₂ := Heap.get?_update_self (Obj.mapSeq (fun _ => (#[] : Array Value))) hS rfl
  have oth : ∀ b o, b ≠ S → s.heap.get? b = some o → (s.heap.update S (Obj.mapSeq (fun _ => (#[] : Array Value)))).get? b = some o :=
    fun b o hb e => (Heap.get?_update_other _ _ (Ne.symm hb)).trans e
  refine wpAny_bind (wpAny_letGo ?_)
  exact extend hh D f lz lT k1 k2 hn .none _ (st.keep f oth) hS₂ fun h' tk acc c as hk hS' hl hG hacc => hR h' tk acc c as (fun b o q0 q1 q2 q3 q4 e => hk b o q0 q1 q2 q3 q4 (oth b o q0 e)) hS' hl hG hacc
theorem St.off {T : Addr} (st : St z TI TO i1 i2 l1 l2 S xs ys 0 s.heap) (hTO : ∃ a b, IsPair s.heap TO a b) (e : s.heap.objs.size = T) : Off z TI TO i1 i2 l1 l2 T := by
  subst e
  have lt : ∀ {c o}, s.heap.get? c = some o → c ≠ s.heap.objs.size := fun e => Nat.ne_of_lt (Heap.lt_size e)
  obtain ⟨hTI, ⟨_, h1, _⟩, ⟨_, h2, _⟩, ⟨_, h3, _⟩, ⟨_, h4, _⟩, hz⟩ := st
  obtain ⟨a, b, hTO⟩ := hTO
  have hz' : z ≠ s.heap.objs.size := by
    rcases hz with ⟨hz, _⟩ | ⟨_, _, _, hz, _⟩
    · exact lt hz
    · exact lt hz
  exact ⟨hz', lt hTI, lt hTO, lt h1, lt h2, lt h3, lt h4⟩
/-- list(z) of a new zip of two lists -/
theorem call_list {Q : Value → Shared → Prop} (hh : A.handled = none) (D : ZipApart z TI TO i1 i2 l1 l2) (hn : (xs.zip ys).length ≤ sizeLine)
    (hz : IsZip s.heap z TI TO .none) (hTI : IsPair s.heap TI (.ref i1) (.ref i2)) (hTO : IsPair s.heap TO .none .none) (h1 : s.heap.IsListIter i1 l1 0) (h2 : s.heap.IsListIter i2 l2 0) (hl1 : s.heap.IsList l1 xs.toArray) (hl2 : s.heap.IsList l2 ys.toArray)
    (hQ : ∀ h' tk acc c as, (∀ b o, b ≠ z → b ≠ TO → b ≠ i1 → b ≠ i2 → s.heap.get? b = some o → h'.get? b = some o) → h'.get? s.heap.objs.size = some { cls := .type "list", dict := none, data := .seq acc c, slots := #[] } → as.length = (xs.zip ys).length → Pg (xs.zip ys) s.heap.objs.size h' as →
      acc.toList = as.map Value.ref → Q (.ref s.heap.objs.size) { s with heap := h', toks := tk }) :
    wpAny (model prog w) A (call (.type "list") [.ref z]) Q E s := by
  refine callType_codes (Q₁ := fun obj s₁ => obj = .ref s.heap.objs.size ∧ s₁ = { s with heap := s.heap.push { cls := .type "list", data := .seq #[] } }) PySem.F.called_list (PySem.F.typeCall_list_1 _) PySem.F.entry_list_init
    (code_list_new _ ⟨rfl, rfl⟩) fun obj s₁ h₁ => ?_
  obtain ⟨rfl, rfl⟩ := h₁
  have hS : (s.heap.push { cls := .type "list", data := .seq #[] }).get? s.heap.objs.size = some { cls := .type "list", data := .seq #[] } := Heap.get?_push_size _ rfl
  have lt : ∀ {c o}, s.heap.get? c = some o → c < s.heap.objs.size := fun e => Heap.lt_size e
  have st0 : St z TI TO i1 i2 l1 l2 s.heap.objs.size xs ys 0 s.heap := ⟨hTI, h1, h2, hl1, hl2, .inl ⟨hz, _, _, hTO⟩⟩
  have f := st0.off ⟨_, _, hTO⟩ rfl
  have st1 : St z TI TO i1 i2 l1 l2 s.heap.objs.size xs ys 0 (s.heap.push { cls := .type "list", data := .seq #[] }) := st0.keep f fun b o _ e => Heap.get?_push_of_some _ e
  refine ⟨⟨_, hS, rfl⟩, PySem.F.args_list_init_2 _ _, init (A := A.in1) hh D f (lt hz) (lt hTO) (let ⟨_, e, _⟩ := h1; lt e) (let ⟨_, e, _⟩ := h2; lt e) hn st1 hS (fun h' tk acc c as hk hS' hl hG hacc => ?_)⟩
  exact ⟨rfl, hQ h' tk acc c as (fun b o q1 q2 q3 q4 e => hk b o (Nat.ne_of_lt (Heap.lt_size e)) q1 q2 q3 q4 (Heap.get?_push_of_some _ e)) hS' hl hG hacc⟩
end
end ZL
namespace O
open PySem PySem.Spec PyProof.Rows L2
def putP : Hp → List Addr → List (V × V) → Hp
  | H, a :: as, p :: kvs => putP (upd H a (.tup [p.1, p.2])) as kvs
  | H, _, _ => H
theorem putP_off {b : Addr} : ∀ (as : List Addr) (kvs : List (V × V)) (H : Hp), b ∉ as → putP H as kvs b = H b
  | [], _, _, _ => rfl
  | _ :: _, [], _, _ => rfl
  | a :: as, p :: kvs, H, h => by
    show putP (upd H a (.tup [p.1, p.2])) as kvs b = H b
    rw [putP_off as kvs _ (fun z => h (List.mem_cons_of_mem _ z)), upd_ne (fun z => h (by rw [z]; exact List.mem_cons_self))]
theorem putP_at : ∀ (as : List Addr) (kvs : List (V × V)) (H : Hp), as.length = kvs.length → as.Nodup → Paired (fun (t : Addr) (p : V × V) => putP H as kvs t = some (.tup [p.1, p.2])) as kvs
  | [], [], _, _, _ => .nil
  | [], _ :: _, _, h, _ => by cases h
  | _ :: _, [], _, h, _ => by cases h
  | a :: as, p :: kvs, H, h, hn => by
    have hn' := List.nodup_cons.mp hn
    have ih := putP_at as kvs (upd H a (.tup [p.1, p.2])) (Nat.succ.inj h) hn'.2
    refine .cons ?_ ih
    show putP (upd H a (.tup [p.1, p.2])) as kvs a = some (.tup [p.1, p.2])
    rw [putP_off as kvs _ hn'.1, upd_same]
def RelP (p : V × V) (q : Value × Value) : Prop := RelV p.1 q.1 ∧ RelV p.2 q.2
theorem zip_rel : ∀ {xs ys : List V} {us vs : List Value}, Vals xs us → Vals ys vs → Paired RelP (xs.zip ys) (us.zip vs)
  | [], _, [], _, .nil, _ => .nil
  | _ :: _, [], _ :: _, [], .cons _ _, .nil => .nil
  | _ :: _, _ :: _, _ :: _, _ :: _, .cons a b, .cons c d => .cons ⟨a, c⟩ (zip_rel b d)
section
variable {X : Cx}
theorem zip_laid {pins : List (Addr × Obj)} {σ : L2.St} {H : Hp} {s : Shared} {h' : Heap} {tk : Nat} {kvs : List (V × V)} {vs : List (Value × Value)} {acc : Array Value} {c : Nat} {as : List Addr} {S : Addr} (I : Inv X pins σ H s) (hz : kvs.length ≤ sizeLine) (kv : Paired RelP kvs vs)
    (hS0 : s.heap.objs.size ≤ S) (hk : ∀ b o, s.heap.get? b = some o → h'.get? b = some o) (hS : h'.get? S = some { cls := .type "list", dict := none, data := .seq acc c, slots := #[] }) (hl : as.length = vs.length) (hG : ZL.Pg vs S h' as) (hacc : acc.toList = as.map Value.ref) :
    ∃ H' : Hp, (∀ b o, H b = some o → H' b = some o) ∧ H S = none ∧ (∀ t ∈ as, H t = none) ∧ S ∉ as ∧ H' S = some (.lst (as.map V.ref)) ∧ Paired (fun (t : Addr) (q : V × V) => H' t = some (.tup [q.1, q.2])) as kvs ∧ Inv X pins σ H' { s with heap := h', toks := tk } := by
  have lk : kvs.length = vs.length := Paired.length kv
  have hSn : S ∉ as := fun z => Nat.lt_irrefl _ (hG.above _ z)
  have nd : as.Nodup := List.Pairwise.imp (fun {a b} (h : a < b) => Nat.ne_of_lt h) hG.rise
  have new : ∀ t ∈ as, H t = none := fun t ht => I.hok.fresh (Nat.le_trans hS0 (Nat.le_of_lt (hG.above t ht)))
  have newS : H S = none := I.hok.fresh hS0
  have atP := putP_at as kvs (upd H S (.lst (as.map V.ref))) (by omega) nd
  have off : ∀ b, b ∉ as → b ≠ S → putP (upd H S (.lst (as.map V.ref))) as kvs b = H b := fun b h1 h2 => by rw [putP_off as kvs _ h1, upd_ne h2]
  have low : ∀ b o, s.heap.get? b = some o → b ∉ as ∧ b ≠ S := fun b o e => ⟨fun z => absurd (Nat.lt_of_lt_of_le (Heap.lt_size e) hS0) (Nat.not_lt.mpr (Nat.le_of_lt (hG.above b z))), Nat.ne_of_lt (Nat.lt_of_lt_of_le (Heap.lt_size e) hS0)⟩
  have kp : ∀ b u, H b = some u → (putP (upd H S (.lst (as.map V.ref))) as kvs) b = some u := fun b u e => by
    rw [off b (fun z => by rw [new b z] at e; cases e) (fun z => by rw [z, newS] at e; cases e)]
    exact e
  have eS : putP (upd H S (.lst (as.map V.ref))) as kvs S = some (.lst (as.map V.ref)) := by rw [putP_off as kvs _ hSn, upd_same]
  refine ⟨putP (upd H S (.lst (as.map V.ref))) as kvs, kp, newS, new, hSn, eS, atP, ?_⟩
  refine I.call' (ch := []) rfl ⟨fun b o q _ _ _ => hk b o q, fun b o q _ _ _ => ⟨o.slots, hk b o q⟩, fun b o q n _ => ?_, fun b o q _ => ⟨o, hk b o q⟩, fun b xs q => kp b _ q, fun b o u q => kp b _ q, fun b ps q => ⟨#[], by rw [kp b _ q]; simp⟩⟩ (fun b u q => ?_) I.bare fun b z => by simp at z
  · obtain ⟨z1, z2⟩ := low b o q
    rw [off b z1 z2]
    exact n
  · by_cases hb : b ∈ as
    · obtain ⟨j, pk, e1, e2, e3⟩ := LiI.paired_ix atP hb
      rw [e3] at q
      cases q
      obtain ⟨pv, f1, f3⟩ := hG.pairs j b e1
      obtain ⟨qv, g1, g2⟩ := LiI.paired_get kv e2
      rw [f1] at g1
      cases g1
      exact ⟨by show 2 ≤ sizeLine; decide, [pv.1, pv.2], .cons g2.1 (.cons g2.2 .nil), ⟨_, f3, rfl, _, rfl⟩⟩
    · by_cases hb2 : b = S
      · rw [hb2] at q ⊢
        rw [eS] at q
        cases q
        refine ⟨by rw [List.length_map]; omega, acc.toList, c, by rw [hacc]; exact LiI.vals_refs as, ?_⟩
        rw [Array.toArray_toList]
        exact hS
      · rw [off b hb hb2] at q
        exact (I.hok b u q).stay (fun d v _ y => hk d v y) (fun d y => kp d _ y) fun d xs y => kp d _ y
def rListZip (K : PySem.W.Frag) : List V → Hp → VK → Prop := fun vs H Q => ∃ a b xs ys, vs = [.ref a, .ref b] ∧ SqL K H a xs ∧ SqL K H b ys ∧
  ∀ (H' : Hp) (p : Addr) (ts : List Addr), (∀ b o, H b = some o → H' b = some o) → H p = none → (∀ t ∈ ts, H t = none) → p ∉ ts → H' p = some (.lst (ts.map V.ref)) → Paired (fun (t : Addr) (q : V × V) => H' t = some (.tup [q.1, q.2])) ts (xs.zip ys) → Q (.ref p) H'
variable {e e2 : Expr} {ta : TA} {p p2 zpos pos : Pos}
theorem pe_listZip (hc : X.calm = true) (hg : Gl X "list") (hm : X.mg "list" = none) (hg2 : Gl X "zip") (hm2 : X.mg "zip" = none) (ha : PA X [e, e2] ta)
    (hs2 : starEach [e, e2] X.env = (false, eval e X.env) :: starEach [e2] X.env := by rfl) (hpl : (backTo zpos (starEach [e2] X.env)).any (·.1) = false := by rfl)
    (hs : starEach [.Call (.Name "zip" p2) [e, e2] [] zpos] X.env = (false, eval (.Call (.Name "zip" p2) [e, e2] [] zpos) X.env) :: starEach [] X.env := by rfl) :
    PE X (.Call (.Name "list" p) [.Call (.Name "zip" p2) [e, e2] [] zpos] [] pos) (fun σ H Q => ta σ H fun vs H1 => rListZip X.K vs H1 Q) := by
  refine ⟨fun pins s σ H Q I hq => ?_⟩
  refine wpAny_Call_Name_kw (ld_blt I hg hm (by decide +kernel : bootBuiltins "list" = some (.type "list")) ?_)
  refine PyProof.Rows.callWith_type1 ?_ hs rfl
  rw [hs]
  show wpAny _ _ (spliced ((false, eval (.Call (.Name "zip" p2) [e, e2] [] zpos) X.env) :: backTo pos (starEach [] X.env))) _ _ s
  refine Calls.spliced_cons ?_
  refine Call_ (ld_blt I hg2 hm2 PyProof.Rows.boot_zip (PyProof.Rows.callWith_type1 (thn (ha.run zpos pins s σ H _ I hq) fun us s1 ⟨vs, H1, I1, r1, q1⟩ => ?_) hs2 hpl))
  obtain ⟨a, b, xs, ys, ex, hqx, hqy, q⟩ := q1
  subst ex
  cases r1 with
  | cons r rr =>
    cases rr with
    | cons r' rr =>
      cases rr
      cases r
      cases r'
      obtain ⟨its, rv, p1, lx⟩ := I1.list hqx
      obtain ⟨its2, rv2, p2, ly⟩ := I1.list hqy
      have la : a < s1.heap.objs.size := p1.lt
      have lb : b < s1.heap.objs.size := p2.lt
      refine call_zip_2 p1.isList p2.isList fun h' hz hTI hTO h1 h2 hsz hk => ?_
      refine Calls.spliced_nil ?_
      have kr := zip_rel rv rv2
      have lk := Paired.length kr
      refine ZL.call_list (s := { s1 with heap := h' }) (xs := its) (ys := its2) (I1.ok.hd hc) (PySem.W.ktu_apart s1.heap.objs.size a b la lb) (by rw [← lk, List.length_zip]; omega) hz hTI hTO h1 h2 (p1.isList.at fun o e => hk _ _ e) (p2.isList.at fun o e => hk _ _ e) fun h'' tk acc c as hk2 hS' hl hG hacc => ?_
      have ne : ∀ b, b < s1.heap.objs.size → ∀ n, b ≠ s1.heap.objs.size + n := fun b hb n => by omega
      obtain ⟨H', k1, k2, k3, k4, k5, k6, J⟩ := zip_laid (tk := tk) (h' := h'') (S := h'.objs.size) I1 (by rw [List.length_zip]; omega) kr (by rw [hsz]; omega) (fun b o e => hk2 b o (ne b (Heap.lt_size e) 4) (ne b (Heap.lt_size e) 3) (ne b (Heap.lt_size e) 0) (ne b (Heap.lt_size e) 1) (hk b o e)) hS' hl hG hacc
      exact ⟨.ref _, H', J, rfl, q H' _ as k1 k2 k3 k4 k5 k6⟩
theorem lz_is {K : PySem.W.Frag} {W : Ad} {H : Hp} : ∀ {as : List Addr} {xs ys : List V} {ts us : List T}, Paired (fun (t : Addr) (q : V × V) => H t = some (.tup [q.1, q.2])) as (xs.zip ys) → IsL K W H xs ts → IsL K W H ys us → (∀ t ∈ as, ¬ W t) → IsL K W H (as.map V.ref) (zipT ts us)
  | _, [], _, [], _, .nil, .nil, _, _ => .nil
  | _, _ :: _, [], _ :: _, [], .nil, .cons _ _, .nil, _ => .nil
  | _, _ :: _, _ :: _, _ :: _, _ :: _, .cons a b, .cons c d, .cons e f, n => .cons (.tup a (n _ List.mem_cons_self) (.cons c (.cons e .nil))) (lz_is b d f fun t m => n t (List.mem_cons_of_mem _ m))
def lzT (t u : T) : Ot := match t.lists, u.lists with
  | some ts, some us => .new True (.lst (zipT ts us))
  | _, _ => .no
theorem p_lz {K : PySem.W.Frag} : PureN K (rListZip K) (f2 lzT) := PureC2.n fun W H v u a b Q wd ha hb pre k => by
  revert pre k
  unfold lzT
  cases ea : a.lists with
  | none => intro pre; exact pre.elim
  | some ts =>
    cases eb : b.lists with
    | none => intro pre; exact pre.elim
    | some us =>
      intro pre k
      obtain ⟨p, xs, rfl, hp, lx⟩ := ha.lists ea
      obtain ⟨q, ys, rfl, hq, ly⟩ := hb.lists eb
      refine ⟨p, q, xs, ys, rfl, hp, hq, fun H' r as k1 k2 k3 k4 k5 k6 => k _ _ ?_⟩
      have fin : (∃ p, V.ref r = .ref p ∧ H p = none ∧ OwnAt K (plus W p) H' p (.lst (zipT ts us))) → Res K W H (true, .lst (zipT ts us)) (.ref r) H' := fun h => ⟨k1, by rw [if_pos rfl]; exact h⟩
      have hA : ∀ q o, H q = some o → ¬ (fun _ : Addr => False) q → H' q = some o := fun q o e _ => k1 q o e
      have hW : ∀ q, plus W r q → W q ∨ H q = none := fun q z => z.elim .inl fun e => .inr (by rw [e]; exact k2)
      refine fin ⟨r, rfl, k2, as.map V.ref, k5, lz_is k6 (lx.keep hA (fun _ z => z.elim) hW) (ly.keep hA (fun _ z => z.elim) hW) fun t m z => ?_⟩
      rcases z with z | z
      · obtain ⟨o, e⟩ := wd t z
        rw [k3 t m] at e
        cases e
      · exact k4 (by rw [← z]; exact m)
variable {Wx : WX} {ds : Dn (List Hn)}
theorem xe_listZip (hc : X.calm = true) (hg : Gl X "list") (hm : X.mg "list" = none) (hg2 : Gl X "zip") (hm2 : X.mg "zip" = none) (ha : XA X Wx [e, e2] ds)
    (hs2 : starEach [e, e2] X.env = (false, eval e X.env) :: starEach [e2] X.env := by rfl) (hpl : (backTo zpos (starEach [e2] X.env)).any (·.1) = false := by rfl)
    (hs : starEach [.Call (.Name "zip" p2) [e, e2] [] zpos] X.env = (false, eval (.Call (.Name "zip" p2) [e, e2] [] zpos) X.env) :: starEach [] X.env := by rfl) :
    XE X Wx (.Call (.Name "list" p) [.Call (.Name "zip" p2) [e, e2] [] zpos] [] pos) (dOpN (f2 lzT) ds) :=
  ⟨PE.imp (pe_listZip hc hg hm hg2 hm2 ha.pa hs2 hpl hs) fun σ H Q h => opN_run p_lz ha.mn σ H Q h, mn_opN ha.mn⟩
end
end O
namespace O
open PySem PySem.Spec PyProof.Rows L2
def D_is_row : Ds :=
    (sRet (dAndV (dOpN (f2 isiT) (dCons (dNm 0) (dCons (dTm (dC (.ty "str"))) dNil))) (dAndV (dOp2 leT (dTm (dOpN (f1 lenT) (dCons (dNm 0) dNil))) (dTm (dC (.int 200)))) (dOpN (f1 allT) (dCons (dTm (dComp [1] (dSrc (dVar 0)) (.one 1) dYes (dOp2 (inT false) (dNm 1) (dTm (dC (.str [97, 98])))))) dNil)))))
def D_check_row (S_is_row : Sx) : Ds :=
    (sIf (dNotT (dBv (dCall S_is_row (dCons (dTm (dVar 0)) dNil)))) sDead sNext)
end O
namespace O
open PySem PySem.Spec PyProof.Rows L2
def D_is_integer : Ds :=
    (sSeq (sIf (dOrT (dNotT (dBv (dOpN (f2 isiT) (dCons (dNm 0) (dCons (dTm (dC (.ty "int"))) dNil))))) (dBv (dOpN (f2 isiT) (dCons (dNm 0) (dCons (dTm (dC (.ty "bool"))) dNil))))) (sRet (dC (.bl false))) sNext)
    (sRet (dAndV (dOp2 leT (dNm 1) (dNm 0)) (dOrV (dOp2 (isT false) (dNm 2) (dTm (dC .non))) (dOp2 leT (dNm 0) (dNm 2))))))
def D_is_swap_of (S_is_integer : Sx) : Ds :=
    (sSeq (sIf (dOrT (dNotT (dBv (dOpN (f2 isiT) (dCons (dNm 1) (dCons (dTm (dC (.ty "tuple"))) dNil))))) (dBv (dOp2 (eqT true) (dTm (dOpN (f1 lenT) (dCons (dNm 1) dNil))) (dTm (dC (.int 2)))))) (sRet (dC (.bl false))) sNext)
    (sSeq (sIf (dNotT (dBv (dOpN (f1 allT) (dCons (dTm (dComp [2] (dSrc (dVar 1)) (.one 2) dYes (dCall S_is_integer (dCons (dTm (dVar 2)) (dCons (dTm (dC (.int 0))) (dCons (dTm (dOp2 subT (dTm (dOpN (f1 lenT) (dCons (dNm 0) dNil))) (dTm (dC (.int 2))))) dNil)))))) dNil)))) (sRet (dC (.bl false))) sNext)
    (sSeq (sAsg (dVar 1) (gTp 2 (gCn (gNm 3) (gCn (gNm 4) gNi))))
    (sRet (dAndV (dOp2 (eqT false) (dTm (dSl slT (dNm 0) (dPrt (dVar 3)) (dPrt (dOp2 addT (dNm 3) (dTm (dC (.int 2))))))) (dTm (dC (.str [97, 98])))) (dAndV (dOp2 (eqT false) (dTm (dSl slT (dNm 0) (dPrt (dVar 4)) (dPrt (dOp2 addT (dNm 4) (dTm (dC (.int 2))))))) (dTm (dC (.str [98, 97])))) (dOp2 gtT (dTm (dOpN (f1 absT) (dCons (dTm (dOp2 subT (dNm 3) (dNm 4))) dNil))) (dTm (dC (.int 1))))))))))
def B_after_swap_1 : Ds :=
    (sAsg (dTup (dCons (dTm (dOp2 ixT (dNm 2) (dTm (dOp2 addT (dNm 3) (dTm (dC (.int 1))))))) (dCons (dTm (dOp2 ixT (dNm 2) (dNm 3))) dNil))) (gTp 2 (gCn (gIt 2 setL (dNm 3)) (gCn (gIt 2 setL (dTm (dOp2 addT (dNm 3) (dTm (dC (.int 1)))))) gNi))))
def D_after_swap : Ds :=
    (sSeq (sSet 2 (dOpN (f1 listT) (dCons (dNm 0) dNil)))
    (sSeq (sFor (dSrc (dVar 1)) (gNm 3) B_after_swap_1)
    (sRet (dMt "str" joinT (dTm (dC (.str []))) (dCons (dNm 2) dNil)))))
def B__law_bag_1 : Ds :=
    (sSet 1 (dOp2 modT (dTm (dOp2 addT (dTm (dOp2 addT (dTm (dOp2 mulT (dNm 1) (dTm (dC (.int 1000003))))) (dTm (dOp2 modT (dNm 2) (dTm (dC (.int 2305843009213693951))))))) (dTm (dC (.int 1))))) (dTm (dC (.int 2305843009213693951)))))
def D__law_bag : Ds :=
    (sSeq (sSet 1 (dC (.int 1)))
    (sSeq (sFor (dSrc (dVar 0)) (gNm 2) B__law_bag_1)
    (sRet (dLst (dCons (dTm (dOpN (f1 listT) (dCons (dNm 0) dNil))) (dCons (dTm (dC (.int 0))) (dCons (dTm (dC (.int 0))) (dCons (dTm (dC (.int 0))) (dCons (dTm (dVar 1)) dNil)))))))))
def D__law_stir : Ds :=
    (sSeq (sSet 2 (dOp2 modT (dTm (dOp2 addT (dTm (dOp2 addT (dTm (dOp2 mulT (dNm 0) (dTm (dC (.int 998244353))))) (dTm (dOp2 mulT (dNm 1) (dTm (dC (.int 1000000007))))))) (dTm (dC (.int 5))))) (dTm (dC (.int 2305843009213693951)))))
    (sSeq (sSet 3 (dOp2 modT (dTm (dOp2 mulT (dNm 2) (dNm 2))) (dTm (dC (.int 2305843009213693951)))))
    (sRet (dOp2 fdivT (dTm (dOp2 modT (dTm (dOp2 addT (dTm (dOp2 addT (dTm (dOp2 mulT (dNm 3) (dTm (dC (.int 2860486313))))) (dTm (dOp2 mulT (dTm (dOp2 mulT (dNm 1) (dNm 1))) (dTm (dC (.int 48271))))))) (dTm (dOp2 fdivT (dNm 2) (dTm (dC (.int 3))))))) (dTm (dC (.int 2305843009213693921))))) (dTm (dC (.int 1024)))))))
def D__law_draw_2 (S__law_stir : Sx) : Ds :=
    (sSeq (sIf (dBv (dOp2 (eqT false) (dNm 1) (dTm (dC (.int 1))))) (sRet (dC (.int 0))) sNext)
    (sSeq (sAsg (dOp2 addT (dTm (dOp2 ixT (dNm 0) (dTm (dC (.int 3))))) (dTm (dC (.int 1)))) (gIt 0 setL (dTm (dC (.int 3)))))
    (sSeq (sIf (dAndT (dBv (dOp2 ltT (dTm (dOp2 ixT (dNm 0) (dTm (dC (.int 2))))) (dTm (dC (.int 2))))) (dBv (dOp2 (eqT false) (dTm (dOp2 ixT (dNm 0) (dTm (dC (.int 1))))) (dTm (dOpN (f1 lenT) (dCons (dTm (dOp2 ixT (dNm 0) (dTm (dC (.int 0))))) dNil)))))) (sRet (dOp2 modT (dTm (dCall S__law_stir (dCons (dTm (dOp2 ixT (dNm 0) (dTm (dC (.int 4))))) (dCons (dTm (dOp2 ixT (dNm 0) (dTm (dC (.int 3))))) dNil)))) (dNm 1))) sNext)
    (sSeq (sIf (dBv (dOp2 ltT (dTm (dOp2 ixT (dNm 0) (dTm (dC (.int 2))))) (dTm (dC (.int 2))))) (sSeq (sSet 2 (dOp2 ixT (dTm (dOp2 ixT (dNm 0) (dTm (dC (.int 0))))) (dTm (dOp2 ixT (dNm 0) (dTm (dC (.int 1)))))))
    (sSeq (sAsg (dOp2 addT (dTm (dOp2 ixT (dNm 0) (dTm (dC (.int 1))))) (dTm (dC (.int 1)))) (gIt 0 setL (dTm (dC (.int 1)))))
    (sSeq (sIf (dBv (dOp2 ltT (dNm 2) (dTm (dOp2 powT (dTm (dC (.int 10))) (dTm (dC (.int 18))))))) (sRet (dOp2 modT (dTm (dCall S__law_stir (dCons (dTm (dOp2 modT (dNm 2) (dTm (dC (.int 2305843009213693951))))) (dCons (dTm (dOp2 ixT (dNm 0) (dTm (dC (.int 3))))) dNil)))) (dNm 1))) sNext)
    (sAsg (dOp2 subT (dNm 2) (dTm (dOp2 powT (dTm (dC (.int 10))) (dTm (dC (.int 18)))))) (gIt 0 setL (dTm (dC (.int 2)))))))) sNext)
    (sSeq (sSet 3 (dOp2 modT (dTm (dOp2 ixT (dNm 0) (dTm (dC (.int 2))))) (dNm 1)))
    (sSeq (sAsg (dOp2 fdivT (dTm (dOp2 ixT (dNm 0) (dTm (dC (.int 2))))) (dNm 1)) (gIt 0 setL (dTm (dC (.int 2)))))
    (sRet (dMove 3))))))))
def D__law_letters (S__law_draw : Sx) : Ds :=
    (sSeq (sPar [2, 3] (dVc (dOp2 ixT (dTm (dLst (dCons (dTm (dCall S__law_draw (dCons (dNm 0) (dCons (dTm (dOp2 addT (dNm 1) (dTm (dC (.int 1))))) dNil)))) (dCons (dTm (dVar 1)) dNil)))) (dTm (dOpN (f1 intT) (dCons (dTm (dOp2 (eqT false) (dTm (dCall S__law_draw (dCons (dNm 0) (dCons (dTm (dC (.int 4))) dNil)))) (dTm (dC (.int 0))))) dNil)))) (dVc (dCall S__law_draw (dCons (dNm 0) (dCons (dTm (dC (.int 7))) dNil))) dVn)))
    (sSeq (sSet 4 (dOp2 ixT (dTm (dLst (dCons (dTm (dC (.int 2))) (dCons (dTm (dC (.int 2))) (dCons (dTm (dC (.int 9))) (dCons (dTm (dC (.int 30))) (dCons (dTm (dC (.int 2))) (dCons (dTm (dC (.int 2))) (dCons (dTm (dC (.int 2))) dNil))))))))) (dNm 3)))
    (sSeq (sSet 5 (dMt "str" joinT (dTm (dC (.str []))) (dCons (dTm (dComp [6] (dRng1 (dCons (dTm (dVar 2)) dNil)) (.one 6) dYes (dOp2 ixT (dTm (dC (.str [97, 98]))) (dTm (dOpN (f1 intT) (dCons (dTm (dOp2 gtT (dTm (dCall S__law_draw (dCons (dNm 0) (dCons (dTm (dVar 4)) dNil)))) (dTm (dC (.int 0))))) dNil)))))) dNil)))
    (sSeq (sIf (dAndT (dBv (dOp2 (eqT false) (dNm 3) (dTm (dC (.int 3))))) (dBv (dOp2 (eqT false) (dTm (dCall S__law_draw (dCons (dNm 0) (dCons (dTm (dC (.int 2))) dNil)))) (dTm (dC (.int 0)))))) (sSet 5 (dMt "str" joinT (dTm (dC (.str []))) (dCons (dTm (dComp [7] (dSrc (dVar 5)) (.one 7) dYes (dOp2 ixT (dTm (dC (.str [98, 97]))) (dTm (dOpN (f1 intT) (dCons (dTm (dOp2 (eqT false) (dNm 7) (dTm (dC (.str [98]))))) dNil)))))) dNil))) sNext)
    (sSeq (sIf (dBv (dOp2 (eqT false) (dNm 3) (dTm (dC (.int 4))))) (sSet 5 (dMt "str" joinT (dTm (dC (.str []))) (dCons (dTm (dComp [7] (dSrc (dVar 5)) (.one 7) dYes (dOp2 mulT (dNm 7) (dTm (dOp2 addT (dTm (dC (.int 1))) (dTm (dCall S__law_draw (dCons (dNm 0) (dCons (dTm (dC (.int 9))) dNil))))))))) dNil))) sNext)
    (sSeq (sIf (dBv (dOp2 (eqT false) (dNm 3) (dTm (dC (.int 5))))) (sSet 5 (dSl3 (dTm (dMt "str" joinT (dTm (dC (.str []))) (dCons (dTm (dOpN (f1 sortT) (dCons (dNm 5) dNil))) dNil))) dNoP dNoP (dPrt (dOp2 subT (dTm (dC (.int 1))) (dTm (dOp2 mulT (dTm (dC (.int 2))) (dTm (dCall S__law_draw (dCons (dNm 0) (dCons (dTm (dC (.int 2))) dNil)))))))))) sNext)
    (sSeq (sIf (dBv (dOp2 (eqT false) (dNm 3) (dTm (dC (.int 6))))) (sSet 5 (dOp2 mulT (dTm (dSl slT (dNm 5) dNoP (dPrt (dOp2 addT (dTm (dC (.int 1))) (dTm (dCall S__law_draw (dCons (dNm 0) (dCons (dTm (dC (.int 4))) dNil)))))))) (dTm (dOp2 addT (dNm 2) (dTm (dC (.int 1))))))) sNext)
    (sRet (dSl slT (dNm 5) dNoP (dPrt (dVar 2)))))))))))
def B__law_pairs_1 : Ds :=
    (sSeq (sSet 2 (dOp2 addT (dNm 2) (dTm (dOpN (f1 intT) (dCons (dTm (dOp2 (eqT false) (dNm 3) (dTm (dC (.str [97]))))) dNil)))))
    (sSet 1 (dOp2 addT (dNm 1) (dTm (dOp2 mulT (dNm 2) (dTm (dOpN (f1 intT) (dCons (dTm (dOp2 (eqT false) (dNm 3) (dTm (dC (.str [98]))))) dNil))))))))
def D__law_pairs : Ds :=
    (sSeq (sAsg (dTup (dCons (dTm (dC (.int 0))) (dCons (dTm (dC (.int 0))) dNil))) (gTp 2 (gCn (gNm 1) (gCn (gNm 2) gNi))))
    (sSeq (sFor (dSrc (dVar 0)) (gNm 3) B__law_pairs_1)
    (sRet (dMove 1))))
def D__law_prefix : Ds :=
    (sRet (dComp [1] (dRng1 (dCons (dTm (dOp2 addT (dTm (dOpN (f1 lenT) (dCons (dNm 0) dNil))) (dTm (dC (.int 1))))) dNil)) (.one 1) dYes (dMt "str" countT (dTm (dSl slT (dNm 0) dNoP (dPrt (dVar 1)))) (dCons (dTm (dC (.str [97]))) dNil))))
def D__law_counts_2 (S__law_pairs : Sx) : Ds :=
    (sRet (dTup (dCons (dTm (dMt "str" countT (dNm 0) (dCons (dTm (dC (.str [97]))) dNil))) (dCons (dTm (dMt "str" countT (dNm 0) (dCons (dTm (dC (.str [98]))) dNil))) (dCons (dTm (dCall S__law_pairs (dCons (dTm (dVar 0)) dNil))) dNil)))))
def B__law_all_2_1 : Ds :=
    (sDrop (dMut 4 "list" extM (dCons (dTm (dComp [6] (dSrc (dVar 3)) (.one 6) (dBv (dOp2 (inT true) (dNm 6) (dTm (dLst (dCons (dTm (dOp2 subT (dNm 5) (dTm (dC (.int 1))))) (dCons (dTm (dOp2 addT (dNm 5) (dTm (dC (.int 1))))) dNil)))))) (dTup (dCons (dTm (dVar 5)) (dCons (dTm (dVar 6)) dNil))))) dNil)))
def D__law_all_2 : Ds :=
    (sSeq (sSet 1 (dComp [2] (dRng1 (dCons (dTm (dOpN (f1 lenT) (dCons (dNm 0) dNil))) dNil)) (.one 2) (dBv (dOp2 (eqT false) (dTm (dSl slT (dNm 0) (dPrt (dVar 2)) (dPrt (dOp2 addT (dNm 2) (dTm (dC (.int 2))))))) (dTm (dC (.str [97, 98]))))) (dVar 2)))
    (sSeq (sSet 3 (dComp [2] (dRng1 (dCons (dTm (dOpN (f1 lenT) (dCons (dNm 0) dNil))) dNil)) (.one 2) (dBv (dOp2 (eqT false) (dTm (dSl slT (dNm 0) (dPrt (dVar 2)) (dPrt (dOp2 addT (dNm 2) (dTm (dC (.int 2))))))) (dTm (dC (.str [98, 97]))))) (dVar 2)))
    (sSeq (sSet 4 (dLst dNil))
    (sSeq (sFor (dSrc (dVar 1)) (gNm 5) B__law_all_2_1)
    (sRet (dMove 4))))))
def B__law_after_1 : Ds :=
    (sSeq (sSet 3 (dSl slT (dNm 0) (dPrt (dVar 2)) (dPrt (dOp2 addT (dNm 2) (dTm (dC (.int 2)))))))
    (sSet 0 (dOp2 addT (dTm (dOp2 addT (dTm (dSl slT (dNm 0) dNoP (dPrt (dVar 2)))) (dTm (dSl3 (dNm 3) dNoP dNoP (dPrt (dOp1 negT (dTm (dC (.int 1))))))))) (dTm (dSl slT (dNm 0) (dPrt (dOp2 addT (dNm 2) (dTm (dC (.int 2))))) dNoP)))))
def D__law_after : Ds :=
    (sSeq (sFor (dSrc (dVar 1)) (gNm 2) B__law_after_1)
    (sRet (dMove 0)))
end O
namespace O
open PySem PySem.Spec PyProof.Rows L2
end O
namespace O
open PySem PySem.Spec PyProof.Rows L2
end O
namespace O
open PySem PySem.Spec PyProof.Rows L2
end O
namespace O
open PySem PySem.Spec PyProof.Rows L2
end O
namespace O
open PySem PySem.Spec PyProof.Rows L2
def D_is_swap (S_check_row : Sx) (S_is_swap_of : Sx) : Ds :=
    (sSeq (sDrop (dCall S_check_row (dCons (dTm (dVar 0)) dNil)))
    (sRet (dCall S_is_swap_of (dCons (dTm (dVar 0)) (dCons (dTm (dVar 1)) dNil)))))
end O
namespace O
open PySem PySem.Spec PyProof.Rows L2
end O
namespace O
open PySem PySem.Spec PyProof.Rows L2
def D_swapped (S_is_swap : Sx) (S_after_swap : Sx) : Ds :=
    (sSeq (sIf (dNotT (dBv (dCall S_is_swap (dCons (dTm (dVar 0)) (dCons (dTm (dVar 1)) dNil))))) sDead sNext)
    (sRet (dCall S_after_swap (dCons (dTm (dVar 0)) (dCons (dTm (dVar 1)) dNil)))))
def D__law_right_5 (S_swapped : Sx) (S__law_after : Sx) (S__law_counts : Sx) (S__law_prefix : Sx) : Ds :=
    (sSeq (sSet 2 (dCall S_swapped (dCons (dTm (dVar 0)) (dCons (dTm (dVar 1)) dNil))))
    (sSeq (sIf (dOrT (dBv (dOp2 (eqT true) (dNm 2) (dTm (dCall S__law_after (dCons (dTm (dVar 0)) (dCons (dTm (dVar 1)) dNil)))))) (dBv (dOp2 (eqT true) (dTm (dCall S__law_counts (dCons (dTm (dVar 2)) dNil))) (dTm (dCall S__law_counts (dCons (dTm (dVar 0)) dNil)))))) (sRet (dC (.bl false))) sNext)
    (sSeq (sSet 3 (dComp [4, 5] (dSrc (dOpN (f2 lzT) (dCons (dTm (dCall S__law_prefix (dCons (dTm (dVar 0)) dNil))) (dCons (dTm (dCall S__law_prefix (dCons (dTm (dVar 2)) dNil))) dNil)))) (.tup [4, 5]) dYes (dOp2 subT (dNm 5) (dNm 4))))
    (sSeq (sSet 6 (dComp [7, 8] (dEnum (dCons (dTm (dVar 3)) dNil)) (.tup [7, 8]) (dBv (dOp2 (eqT true) (dNm 8) (dTm (dC (.int 0))))) (dTup (dCons (dTm (dOp2 subT (dNm 7) (dTm (dC (.int 1))))) (dCons (dTm (dVar 8)) dNil)))))
    (sSeq (sIf (dBv (dOp2 (eqT true) (dTm (dOpN (f1 sortT) (dCons (dNm 6) dNil))) (dTm (dOpN (f1 sortT) (dCons (dTm (dLst (dCons (dTm (dTup (dCons (dTm (dOp2 ixT (dNm 1) (dTm (dC (.int 0))))) (dCons (dTm (dOp1 negT (dTm (dC (.int 1))))) dNil)))) (dCons (dTm (dTup (dCons (dTm (dOp2 ixT (dNm 1) (dTm (dC (.int 1))))) (dCons (dTm (dC (.int 1))) dNil)))) dNil)))) dNil))))) (sRet (dC (.bl false))) sNext)
    (sRet (dOp2 (eqT false) (dTm (dCall S_swapped (dCons (dTm (dVar 2)) (dCons (dTm (dTup (dCons (dTm (dOp2 ixT (dNm 1) (dTm (dC (.int 1))))) (dCons (dTm (dOp2 ixT (dNm 1) (dTm (dC (.int 0))))) dNil)))) dNil)))) (dNm 0))))))))
def B_law_14_1 (S__law_all : Sx) (S__law_right : Sx) (S__law_draw : Sx) (S_swapped : Sx) : Ds :=
    (sSeq (sSet 6 (dCall S__law_all (dCons (dTm (dVar 3)) dNil)))
    (sIf (dBv (dEqQ true (qOp (dNm 6)) (qLs qNil))) (sSeq (sSet 4 (dOp2 ixT (dNm 6) (dTm (dCall S__law_draw (dCons (dNm 1) (dCons (dTm (dOpN (f1 lenT) (dCons (dNm 6) dNil))) dNil))))))
    (sSeq (sIf (dNotT (dBv (dCall S__law_right (dCons (dTm (dVar 3)) (dCons (dTm (dVar 4)) dNil))))) (sRet (dC (.bl false))) sNext)
    (sSet 3 (dCall S_swapped (dCons (dTm (dVar 3)) (dCons (dTm (dVar 4)) dNil)))))) sNext))
def B_law_14_2 (S__law_letters : Sx) (S__law_all : Sx) (S__law_right : Sx) (S__law_draw : Sx) (S_swapped : Sx) : Ds :=
    (sSeq (sSet 3 (dCall S__law_letters (dCons (dNm 1) (dCons (dTm (dC (.int 9))) dNil))))
    (sSeq (sIf (dBv (dEqQ true (qOp (dTm (dComp [4] (dSrc (dCall S__law_all (dCons (dTm (dVar 3)) dNil))) (.one 4) (dNotT (dBv (dCall S__law_right (dCons (dTm (dVar 3)) (dCons (dTm (dVar 4)) dNil))))) (dVar 4)))) (qLs qNil))) (sRet (dC (.bl false))) sNext)
    (sSeq (sSet 3 (dCall S__law_letters (dCons (dNm 1) (dCons (dTm (dOp2 ixT (dTm (dLst (dCons (dTm (dC (.int 30))) (dCons (dTm (dC (.int 200))) dNil)))) (dTm (dCall S__law_draw (dCons (dNm 1) (dCons (dTm (dC (.int 2))) dNil)))))) dNil))))
    (sFor (dRng1 (dCons (dTm (dC (.int 12))) dNil)) (gNm 5) (B_law_14_1 S__law_all S__law_right S__law_draw S_swapped)))))
def D_law_14 (S__law_bag : Sx) (S__law_letters : Sx) (S__law_all : Sx) (S__law_right : Sx) (S__law_draw : Sx) (S_swapped : Sx) : Ds :=
    (sSeq (sSet 1 (dCall S__law_bag (dCons (dTm (dVar 0)) dNil)))
    (sSeq (sFor (dRng1 (dCons (dTm (dOp2 addT (dTm (dC (.int 4))) (dTm (dOpN (f2 min2T) (dCons (dTm (dC (.int 6))) (dCons (dTm (dOpN (f1 lenT) (dCons (dNm 0) dNil))) dNil)))))) dNil)) (gNm 2) (B_law_14_2 S__law_letters S__law_all S__law_right S__law_draw S_swapped))
    (sRet (dAndV (dOp2 (eqT false) (dTm (dCall S_swapped (dCons (dTm (dC (.str [97, 98, 98, 97]))) (dCons (dTm (dTup (dCons (dTm (dC (.int 0))) (dCons (dTm (dC (.int 2))) dNil)))) dNil)))) (dTm (dC (.str [98, 97, 97, 98])))) (dOp2 (eqT false) (dTm (dCall S_swapped (dCons (dTm (dC (.str [98, 97, 97, 98]))) (dCons (dTm (dTup (dCons (dTm (dC (.int 2))) (dCons (dTm (dC (.int 0))) dNil)))) dNil)))) (dTm (dC (.str [97, 98, 98, 97]))))))))
end O
namespace O
open PySem PySem.Spec PyProof.Rows L2
theorem forD_step {g : Dg} {b : Ds} {Q : PoS} {ρ : Rho} {t : T} {ts : List T} (h : ∀ K : Rho → Prop, (∀ ρ', forD g b Q ts ρ' → K ρ') → g t ρ ⟨fun _ ρ1 => b ρ1 { Q with nx := K, ct := K, bk := Q.nx }, Q.ex⟩) : forD g b Q (t :: ts) ρ := h _ fun _ z => z
theorem compD_nil {vs : List Nat} {g : Tg} {tt : Dn Bool} {te : Dn Rv} {k : List T → Rho → Prop} {acc : List T} {ρ : Rho} : compD vs g tt te k [] acc ρ = k acc ρ := rfl
theorem compD_step {vs : List Nat} {g : Tg} {tt : Dn Bool} {te : Dn Rv} {k : List T → Rho → Prop} {acc : List T} {ρ : Rho} {t : T} {ts : List T} (h : ∀ K : List T → Rho → Prop, (∀ a ρ', compD vs g tt te k ts a ρ' → K a ρ') →
  cTg g t ρ fun ρ1 => tt ρ1 ⟨fun b ρ2 => ifB b (te ρ2 ⟨fun r ρ3 => acc.length < sizeLine ∧ K (acc ++ [r.2]) (wipeR ρ3 vs), noex⟩) (K acc (wipeR ρ2 vs)), noex⟩) : compD vs g tt te k (t :: ts) acc ρ := h _ fun _ _ z => z
/-- the same over a list of given things -/
theorem comp_on {α : Type} {vs : List Nat} {g : Tg} {tt : Dn Bool} {te : Dn Rv} {k : List T → Rho → Prop} (w : α → T) (F : α → Option T) {ρ : Rho} : ∀ {xs : List α} {acc : List T},
    (∀ x ∈ xs, ∀ (A : T → Rho → Prop) (B : Rho → Prop), (match F x with | some u => A u ρ | none => B ρ) → cTg g (w x) ρ fun ρ1 => tt ρ1 ⟨fun b ρ2 => ifB b (te ρ2 ⟨fun r ρ3 => A r.2 (wipeR ρ3 vs), noex⟩) (B (wipeR ρ2 vs)), noex⟩) →
    acc.length + xs.length ≤ sizeLine → k (acc ++ xs.filterMap F) ρ → compD vs g tt te k (xs.map w) acc ρ
  | [], acc, _, _, h => by rw [List.map_nil, compD_nil]; simpa using h
  | x :: xs, acc, st, hl, h => by
    rw [List.map_cons]
    rw [List.length_cons] at hl
    refine compD_step fun K hK => st x List.mem_cons_self (fun u ρ' => acc.length < sizeLine ∧ K (acc ++ [u]) ρ') (fun ρ' => K acc ρ') ?_
    cases e : F x with
    | some u =>
      refine ⟨by omega, hK _ _ (comp_on w F (fun t m => st t (List.mem_cons_of_mem _ m)) (by rw [List.length_append]; simp; omega) ?_)⟩
      rw [List.filterMap_cons, e] at h
      simpa using h
    | none =>
      refine hK _ _ (comp_on w F (fun t m => st t (List.mem_cons_of_mem _ m)) (by omega) ?_)
      rw [List.filterMap_cons, e] at h
      exact h
theorem comp_all {α : Type} {vs : List Nat} {g : Tg} {tt : Dn Bool} {te : Dn Rv} {k : List T → Rho → Prop} {w : α → T} (G : α → T) {ρ : Rho} {xs : List α}
    (st : ∀ x ∈ xs, ∀ (A : T → Rho → Prop) (B : Rho → Prop), A (G x) ρ → cTg g (w x) ρ fun ρ1 => tt ρ1 ⟨fun b ρ2 => ifB b (te ρ2 ⟨fun r ρ3 => A r.2 (wipeR ρ3 vs), noex⟩) (B (wipeR ρ2 vs)), noex⟩) (hl : xs.length ≤ sizeLine) (h : k (xs.map G) ρ) : compD vs g tt te k (xs.map w) [] ρ := by
  refine comp_on w (fun x => some (G x)) (fun x m A B hA => st x m A B hA) (by simpa using hl) ?_
  rw [List.nil_append, List.filterMap_eq_map']
  exact h
theorem comp_if {α : Type} {vs : List Nat} {g : Tg} {tt : Dn Bool} {te : Dn Rv} {k : List T → Rho → Prop} {w : α → T} (p : α → Bool) (G : α → T) {ρ : Rho} {xs : List α}
    (st : ∀ x ∈ xs, ∀ (A : T → Rho → Prop) (B : Rho → Prop), ifB (p x) (A (G x) ρ) (B ρ) → cTg g (w x) ρ fun ρ1 => tt ρ1 ⟨fun b ρ2 => ifB b (te ρ2 ⟨fun r ρ3 => A r.2 (wipeR ρ3 vs), noex⟩) (B (wipeR ρ2 vs)), noex⟩) (hl : xs.length ≤ sizeLine) (h : k ((xs.filter p).map G) ρ) : compD vs g tt te k (xs.map w) [] ρ := by
  refine comp_on w (fun x => if p x then some (G x) else none) (fun x m A B hA => st x m A B ?_) (by simpa using hl) ?_
  · cases hp : p x with
    | true => rw [hp] at hA; exact ifB_t.mpr hA
    | false => rw [hp] at hA; exact ifB_f.mpr hA
  · have e : xs.filterMap (fun x => if p x then some (G x) else none) = (xs.filter p).map G := by
      clear st hl h
      induction xs with
      | nil => rfl
      | cons x xs ih =>
        rw [List.filterMap_cons, List.filter_cons]
        cases p x with
        | true => simp only [if_true, List.map_cons, ih]
        | false => simpa using ih
    rw [List.nil_append, e]
    exact h
def SP (f : List T → Ot) : Sx := fun ars Q => ∃ ts, ars = ts.map Sl.sh ∧ (f ts).pre ∧ Q.ok (f ts).val (ts.map fun _ => Sl.no)
theorem mn_SP (f : List T → Ot) : Mn (SP f) := fun ρ Q Q' ⟨ts, e, p, q⟩ k _ => ⟨ts, e, p, k _ _ q⟩
theorem len_SP {f : List T → Ot} {n : Nat} (h : ∀ ts, (f ts).pre → ts.length = n) : ∀ ars Q, SP f ars Q → ars.length = n := fun ars Q ⟨ts, e, p, _⟩ => by rw [e, List.length_map]; exact h ts p
theorem atI_nat {α : Type} (xs : List α) (i : Nat) : L2.atI xs (i : Int) = xs[i]? := by
  unfold L2.atI ixN
  rw [if_pos (by omega)]
  by_cases h : (i : Int) < xs.length
  · rw [if_pos h]; simp
  · rw [if_neg h, List.getElem?_eq_none (by omega)]; rfl
def varS (i : Nat) (ρ : Rho) (Q : Po Rv) : Sl → Prop
  | .no => False
  | .sh t => Q.ok (false, t) ρ
  | .sd t => Q.ok (false, t) ρ
  | .ow t => Q.ok (false, t) (ρ.set i (.sh t))
  | .io t => Q.ok (false, t) (ρ.set i (.sd t))
def movS (i : Nat) (ρ : Rho) (Q : Po Rv) : Sl → Prop
  | .no => False
  | .sh t => Q.ok (false, t) ρ
  | .sd t => Q.ok (false, t) ρ
  | .ow t => Q.ok (true, t) (ρ.set i .no)
  | .io t => Q.ok (false, t) (ρ.set i (.sd t))
section
variable {ρ : Rho} {i j : Nat} {t u : T} {Q : Po Rv} {a b : Int} {s s' : Sl}
theorem e_var : dVar i ρ Q = varS i ρ Q (sl_ ρ i) := by unfold dVar varS; cases sl_ ρ i <;> rfl
theorem e_var1 : varS i ρ Q (.sh t) = Q.ok (false, t) ρ := rfl
theorem e_var2 : varS i ρ Q (.sd t) = Q.ok (false, t) ρ := rfl
theorem e_var3 : varS i ρ Q (.ow t) = Q.ok (false, t) (ρ.set i (.sh t)) := rfl
theorem e_var4 : varS i ρ Q (.io t) = Q.ok (false, t) (ρ.set i (.sd t)) := rfl
theorem e_mov : dMove i ρ Q = movS i ρ Q (sl_ ρ i) := by unfold dMove movS; cases sl_ ρ i <;> rfl
theorem e_mov1 : movS i ρ Q (.sh t) = Q.ok (false, t) ρ := rfl
theorem e_mov2 : movS i ρ Q (.sd t) = Q.ok (false, t) ρ := rfl
theorem e_mov3 : movS i ρ Q (.ow t) = Q.ok (true, t) (ρ.set i .no) := rfl
theorem e_mov4 : movS i ρ Q (.io t) = Q.ok (false, t) (ρ.set i (.sd t)) := rfl
theorem e_tr1 : Sl.tr (.sh t) = some t := rfl
theorem e_tr2 : Sl.tr (.sd t) = some t := rfl
theorem e_tr3 : Sl.tr (.ow t) = some t := rfl
theorem e_tr4 : Sl.tr (.io t) = some t := rfl
theorem e_tr5 : Sl.tr .no = none := rfl
theorem e_own1 : ownT (.ow t) = some t := rfl
theorem e_own2 : ownT (.io t) = some t := rfl
theorem e_reo1 : reown (.ow t) u = .ow u := rfl
theorem e_reo2 : reown (.io t) u = .io u := rfl
theorem e_of1 : Sl.of (true, t) = .ow t := rfl
theorem e_of2 : Sl.of (false, t) = .sh t := rfl
theorem e_pin1 : Sl.pin (.sh t) = false := rfl
theorem e_pin2 : Sl.pin (.ow t) = false := rfl
theorem e_pin3 : Sl.pin .no = false := rfl
theorem e_arg1 : argS (.sh t) = .sh t := rfl
theorem e_arg2 : argS (.ow t) = .io t := rfl
theorem e_arg3 : argS (.io t) = .io t := rfl
theorem e_arg4 : argS (.sd t) = .sh t := rfl
theorem e_isarg1 : Sl.arg (.sh t) = true := rfl
theorem e_isarg2 : Sl.arg (.io t) = true := rfl
theorem e_conv1 : conv (.ow t) (.io u) = .ow u := rfl
theorem e_conv2 : conv (.ow t) (.sd u) = .sh u := rfl
theorem e_conv3 : conv (.io t) (.io u) = .io u := rfl
theorem e_conv4 : conv (.io t) (.sd u) = .sd u := rfl
theorem e_conv5 : conv (.sh t) s = .sh t := by cases s <;> rfl
theorem e_conv6 : conv (.sd t) s = .sd t := by cases s <;> rfl
theorem e_sown1 : Sl.own (.ow t) = True := rfl
theorem e_sown2 : Sl.own (.io t) = True := rfl
theorem e_sown3 : Sl.own (.sh t) = False := rfl
theorem e_sown4 : Sl.own (.sd t) = False := rfl
theorem e_put1 {r : Rv} {is : List Nat} {rs : List Rv} : putAll ρ (i :: is) (r :: rs) = putAll (ρ.set i (Sl.of r)) is rs := rfl
theorem e_put2 : putAll ρ [] [] = ρ := rfl
theorem e_po1 {h : Hn} {hs : List Hn} {o : Sl} {os : Rho} : putOut ρ (h :: hs) (o :: os) = putOut (put1 ρ h o) hs os := rfl
theorem e_po2 : putOut ρ [] [] = ρ := rfl
theorem e_p1 {o : Sl} : put1 ρ (.tm t) o = ρ := rfl
theorem e_p2 {o : Sl} : put1 ρ (.sl i) o = ρ.set i (conv (sl_ ρ i) o) := rfl
theorem e_ao1 : argOf ρ (.tm t) = .sh t := rfl
theorem e_ao2 : argOf ρ (.sl i) = argS (sl_ ρ i) := rfl
theorem e_nd0 : ndOwn ρ [] = True := rfl
theorem e_nd1 {hs : List Hn} : ndOwn ρ (.tm t :: hs) = ndOwn ρ hs := rfl
theorem e_nd2 {hs : List Hn} : ndOwn ρ (.sl i :: hs) = (((sl_ ρ i).own → Hn.sl i ∉ hs) ∧ ndOwn ρ hs) := rfl
theorem e_sl {l : List Sl} : sl_ l i = l.getD i .no := rfl
theorem e_get1 : Hn.get ρ (.tm t) = some t := rfl
theorem e_get2 : Hn.get ρ (.sl i) = (sl_ ρ i).tr := rfl
theorem e_is {h : Hn} : Hn.is ρ h t = (h.get ρ = some t) := rfl
theorem e_all {hs : List Hn} {ts : List T} : Hn.all ρ hs ts = (Hn.gets ρ hs = some ts) := rfl
theorem e_gets0 : Hn.gets ρ [] = some [] := rfl
theorem e_gets1 {hs : List Hn} : Hn.gets ρ (.tm t :: hs) = (Hn.gets ρ hs).map (t :: ·) := by show (match some t, Hn.gets ρ hs with | some t, some ts => some (t :: ts) | _, _ => none) = _; cases Hn.gets ρ hs <;> rfl
theorem e_gets2 {hs : List Hn} : Hn.gets ρ (.sl i :: hs) = (sl_ ρ i).tr.bind fun t => (Hn.gets ρ hs).map (t :: ·) := by show (match (sl_ ρ i).tr, Hn.gets ρ hs with | some t, some ts => some (t :: ts) | _, _ => none) = _; cases (sl_ ρ i).tr <;> cases Hn.gets ρ hs <;> rfl
theorem e_tms0 : tms [] = some [] := rfl
theorem e_tms1 {hs : List Hn} : tms (.tm t :: hs) = (tms hs).map (t :: ·) := by show (match tms hs with | some ts => some (t :: ts) | none => none) = _; cases tms hs <;> rfl
theorem e_qg1 {h : Hn} : Hq.get ρ (.op h) = h.get ρ := rfl
theorem e_qg2 {hs : List Hq} : Hq.get ρ (.ls hs) = (Hq.gets ρ hs).map T.lst := rfl
theorem e_qg3 {hs : List Hq} : Hq.get ρ (.tp hs) = (Hq.gets ρ hs).map T.tup := rfl
theorem e_qgs0 : Hq.gets ρ [] = some [] := rfl
theorem e_qgs1 {h : Hq} {hs : List Hq} : Hq.gets ρ (h :: hs) = (h.get ρ).bind fun t => (Hq.gets ρ hs).map (t :: ·) := by show (match h.get ρ, Hq.gets ρ hs with | some t, some ts => some (t :: ts) | _, _ => none) = _; cases h.get ρ <;> cases Hq.gets ρ hs <;> rfl
variable {l m : List Nat} {ts us : List T} {p q : Bool}
theorem e_its1 : T.its (.lst ts) = some ts := rfl
theorem e_its2 : T.its (.scr ts) = some ts := rfl
theorem e_its3 : T.its (.tup ts) = some ts := rfl
theorem e_its4 : T.its (.str l) = some (l.map fun c => .str [c]) := rfl
theorem e_jts1 : T.its2 (.lst ts) = some ts := rfl
theorem e_jts2 : T.its2 (.scr ts) = some ts := rfl
theorem e_jts4 : T.its2 (.str l) = some (l.map fun c => .str [c]) := rfl
theorem e_mt1 {s : String} : T.isMt s (.str l) = (s = "str") := rfl
theorem e_mt2 {s : String} : T.isMt s (.lst ts) = (s = "list") := rfl
theorem e_ty1 {s : String} : T.isTy s (.lst ts) = (s = "list") := rfl
theorem e_add1 : addT (.int a) (.int b) = .sh (.int (a + b)) := rfl
theorem e_add2 : addT (.str l) (.str m) = .when (l.length + m.length ≤ sizeLine) (.str (l ++ m)) := rfl
theorem e_add3 : addT (.lst ts) (.lst us) = .new (ts.length + us.length ≤ sizeLine) (.lst (ts ++ us)) := rfl
theorem e_sub : subT (.int a) (.int b) = .sh (.int (a - b)) := rfl
theorem e_mul1 : mulT (.int a) (.int b) = .when (CMul a b ∨ CMulW a b) (.int (a * b)) := rfl
theorem e_mul2 : mulT (.str l) (.int b) = .when (-(2 ^ 63) ≤ b ∧ b < 2 ^ 63 ∧ l.length * b.toNat ≤ sizeLine) (.str (List.replicate b.toNat l).flatten) := rfl
theorem e_mul3 : mulT (.lst ts) (.int b) = .new (-(2 ^ 63) ≤ b ∧ b < 2 ^ 63 ∧ ts.length * b.toNat ≤ sizeLine) (.lst (List.replicate b.toNat ts).flatten) := rfl
theorem e_fdiv : fdivT (.int a) (.int b) = .when (CDivW a b) (.int (a / b)) := rfl
theorem e_mod : modT (.int a) (.int b) = .when (0 < b) (.int (a % b)) := rfl
theorem e_pow : powT (.int a) (.int b) = .when (CPow a b) (.int (a ^ b.toNat)) := rfl
theorem e_neg : negT (.int a) = .sh (.int (-a)) := rfl
theorem e_len1 : lenT (.str l) = .when (l.length ≤ sizeLine) (.int l.length) := rfl
theorem e_len2 : lenT (.lst ts) = .sh (.int ts.length) := rfl
theorem e_len3 : lenT (.scr ts) = .sh (.int ts.length) := rfl
theorem e_len4 : lenT (.tup ts) = .sh (.int ts.length) := rfl
theorem e_int1 : intT (.int a) = .sh (.int a) := rfl
theorem e_int2 : intT (.bl p) = .sh (.int (if p then 1 else 0)) := rfl
theorem e_abs : absT (.int a) = .sh (.int (if a < 0 then -a else a)) := rfl
theorem e_max : max2T (.int a) (.int b) = .sh (.int (if b > a then b else a)) := rfl
theorem e_min : min2T (.int a) (.int b) = .sh (.int (if b < a then b else a)) := rfl
theorem e_ix1 : ixT (.lst ts) (.int a) = ⟨(L2.atI ts a).isSome = true, (false, (L2.atI ts a).getD .non)⟩ := rfl
theorem e_ix2 : ixT (.scr ts) (.int a) = ⟨(L2.atI ts a).isSome = true, (false, (L2.atI ts a).getD .non)⟩ := rfl
theorem e_ix3 : ixT (.tup ts) (.int a) = ⟨(L2.atI ts a).isSome = true, (false, (L2.atI ts a).getD .non)⟩ := rfl
theorem e_ix4 : ixT (.str l) (.int a) = ⟨l.length ≤ sizeLine ∧ (L2.atI l a).isSome = true, (false, .str [(L2.atI l a).getD 0])⟩ := rfl
theorem e_eq1 {n : Bool} : eqT n (.int a) (.int b) = .sh (.bl (n != decide (a = b))) := rfl
theorem e_eq2 {n : Bool} : eqT n (.str l) (.str m) = .sh (.bl (n != decide (l = m))) := rfl
theorem e_eq3 {n : Bool} : eqT n (.bl p) (.bl q) = .sh (.bl (n != decide (p = q))) := rfl
theorem e_lt1 : ltT (.int a) (.int b) = .sh (.bl (decide (a < b))) := rfl
theorem e_le1 : leT (.int a) (.int b) = .sh (.bl (decide (a ≤ b))) := rfl
theorem e_gt1 : gtT (.int a) (.int b) = .sh (.bl (decide (b < a))) := rfl
theorem e_ge1 : geT (.int a) (.int b) = .sh (.bl (decide (b ≤ a))) := rfl
theorem e_lt2 : ltT (.str l) (.str m) = .sh (.bl (decide (l < m))) := rfl
theorem e_in1 {n : Bool} {c : Nat} : inT n (.str [c]) (.str l) = .sh (.bl (n != decide (c ∈ l))) := rfl
theorem e_app : appM (.lst ts) [t] = ⟨ts.length < sizeLine, .lst (ts ++ [t]), .non⟩ := rfl
theorem e_ext : extM (.lst ts) [.lst us] = ⟨ts.length + us.length ≤ sizeLine, .lst (ts ++ us), .non⟩ := rfl
theorem e_rev : revM (.lst ts) [] = ⟨True, .lst ts.reverse, .non⟩ := rfl
theorem e_clr : clrM (.lst ts) [] = ⟨True, .lst [], .non⟩ := rfl
theorem e_set : setL (.lst ts) (.int a) t = ⟨(ixN ts.length a).isSome = true, .lst (ts.set ((ixN ts.length a).getD 0) t), .non⟩ := rfl
theorem e_sl1 {lo hi : Option Int} : slT (.lst ts) lo hi = .new True (.lst (cutL ts lo hi)) := rfl
theorem e_sl2 {lo hi : Option Int} : slT (.scr ts) lo hi = .new True (.lst (cutL ts lo hi)) := rfl
theorem e_sl3 {lo hi : Option Int} : slT (.tup ts) lo hi = .sh (.tup (cutL ts lo hi)) := rfl
theorem e_sl4 {lo hi : Option Int} : slT (.str l) lo hi = .when (l.length ≤ sizeLine) (.str (cutL l lo hi)) := rfl
theorem e_count {c : Nat} : countT (.str l) [.str [c]] = .sh (.int (l.count c)) := rfl
theorem e_f1 {f : T → Ot} : f1 f [t] = f t := rfl
theorem e_f2 {f : T → T → Ot} : f2 f [t, u] = f t u := rfl
theorem e_osh : Ot.sh t = ⟨True, (false, t)⟩ := rfl
theorem e_owh {P : Prop} : Ot.when P t = ⟨P, (false, t)⟩ := rfl
theorem e_one {P : Prop} : Ot.new P t = ⟨P, (true, t)⟩ := rfl
theorem e_tt1 {k : Bool} : T.truth (.bl p) k = (k = p) := rfl
theorem e_tt2 {k : Bool} : T.truth (.int a) k = (k = (a != 0)) := rfl
theorem e_ctg1 {R : Rho → Prop} : cTg (.one i) t ρ R = ((sl_ ρ i).pin = false ∧ R (ρ.set i (.sh t))) := rfl
theorem e_ctg2 {is : List Nat} {R : Rho → Prop} : cTg (.tup is) (.tup ts) ρ R = (ts.length = is.length ∧ cNms is ts ρ R) := by
  show (∃ us, T.tup ts = .tup us ∧ us.length = is.length ∧ cNms is us ρ R) = _
  simp
theorem e_cn0 {R : Rho → Prop} : cNms [] [] ρ R = R ρ := by show ([] = [] ∧ R ρ) = _; simp
theorem e_cn1 {is : List Nat} {R : Rho → Prop} : cNms (i :: is) (t :: ts) ρ R = ((sl_ ρ i).pin = false ∧ cNms is ts (ρ.set i (.sh t)) R) :=
  propext ⟨fun ⟨u, r, e, h⟩ => by cases e; exact h, fun h => ⟨t, ts, rfl, h⟩⟩
theorem e_wi0 : wipeR ρ [] = ρ := rfl
theorem e_wi1 {vs : List Nat} : wipeR ρ (i :: vs) = (wipeR ρ vs).set i .no := rfl
theorem e_re0 {σ : Rho} : restore ρ σ [] = σ := rfl
theorem e_re1 {σ : Rho} {vs : List Nat} : restore ρ σ (i :: vs) = (restore ρ σ vs).set i (sl_ ρ i) := rfl
theorem e_ifb1 {A B : Prop} : ifB true A B = A := propext ifB_t
theorem e_ifb2 {A B : Prop} : ifB false A B = B := propext ifB_f
theorem e_nm0 {h : Hn} : (h ∉ ([] : List Hn)) = True := by simp
theorem e_nm1 {hs : List Hn} : (Hn.sl i ∉ (Hn.tm t :: hs)) = (Hn.sl i ∉ hs) := by simp
theorem e_nm2 {hs : List Hn} : (Hn.sl i ∉ (Hn.sl j :: hs)) = (i ≠ j ∧ Hn.sl i ∉ hs) := by simp
theorem e_fa0 {α : Type} {P : α → Prop} : (∀ h ∈ ([] : List α), P h) = True := by simp
theorem e_fa1 {α : Type} {P : α → Prop} {h : α} {hs : List α} : (∀ x ∈ h :: hs, P x) = (P h ∧ ∀ x ∈ hs, P x) := by simp
theorem e_sum {ns : List Int} : sumT (.lst (ns.map T.int)) = ⟨True, (false, .int ns.sum)⟩ := by show (⟨(T.ints (ns.map T.int)).isSome = true, (false, .int ((T.ints (ns.map T.int)).getD []).sum)⟩ : Ot) = _; rw [ints_of]; simp
theorem e_allb {bs : List Bool} : allT (.lst (bs.map T.bl)) = ⟨True, (false, .bl (bs.all id))⟩ := by show (⟨(T.bools (bs.map T.bl)).isSome = true, (false, .bl (((T.bools (bs.map T.bl)).getD []).all id))⟩ : Ot) = _; rw [bools_of]; simp
theorem e_anyb {bs : List Bool} : anyT (.lst (bs.map T.bl)) = ⟨True, (false, .bl (bs.any id))⟩ := by show (⟨(T.bools (bs.map T.bl)).isSome = true, (false, .bl (((T.bools (bs.map T.bl)).getD []).any id))⟩ : Ot) = _; rw [bools_of]; simp
theorem e_sp1 {f : List T → Ot} : SP f [.sh t] Q = ((f [t]).pre ∧ Q.ok (f [t]).val [.no]) := propext ⟨fun ⟨ts, e, h⟩ => by
  match ts, e with
  | [a], e => cases e; exact h, fun h => ⟨[t], rfl, h⟩⟩
theorem e_sp2 {f : List T → Ot} : SP f [.sh t, .sh u] Q = ((f [t, u]).pre ∧ Q.ok (f [t, u]).val [.no, .no]) := propext ⟨fun ⟨ts, e, h⟩ => by
  match ts, e with
  | [a, b], e => cases e; exact h, fun h => ⟨[t, u], rfl, h⟩⟩
theorem e_sp3 {f : List T → Ot} {v : T} : SP f [.sh t, .sh u, .sh v] Q = ((f [t, u, v]).pre ∧ Q.ok (f [t, u, v]).val [.no, .no, .no]) := propext ⟨fun ⟨ts, e, h⟩ => by
  match ts, e with
  | [a, b, c], e => cases e; exact h, fun h => ⟨[t, u, v], rfl, h⟩⟩
theorem e_at0 {α : Type} {x : α} {xs : List α} : L2.atI (x :: xs) 0 = some x := by have := atI_nat (x :: xs) 0; simpa using this
theorem e_at1 {α : Type} {x y : α} {xs : List α} : L2.atI (x :: y :: xs) 1 = some y := by have := atI_nat (x :: y :: xs) 1; simpa using this
theorem e_at2 {α : Type} {x y z : α} {xs : List α} : L2.atI (x :: y :: z :: xs) 2 = some z := by have := atI_nat (x :: y :: z :: xs) 2; simpa using this
theorem e_at3 {α : Type} {x y z v : α} {xs : List α} : L2.atI (x :: y :: z :: v :: xs) 3 = some v := by have := atI_nat (x :: y :: z :: v :: xs) 3; simpa using this
theorem e_at4 {α : Type} {x y z v w : α} {xs : List α} : L2.atI (x :: y :: z :: v :: w :: xs) 4 = some w := by have := atI_nat (x :: y :: z :: v :: w :: xs) 4; simpa using this
theorem e_at5 {α : Type} {x y z v w o : α} {xs : List α} : L2.atI (x :: y :: z :: v :: w :: o :: xs) 5 = some o := by have := atI_nat (x :: y :: z :: v :: w :: o :: xs) 5; simpa using this
theorem e_ixn40 : ixN 4 0 = some 0 := rfl
theorem e_ixn41 : ixN 4 1 = some 1 := rfl
theorem e_ixn42 : ixN 4 2 = some 2 := rfl
theorem e_ixn43 : ixN 4 3 = some 3 := rfl
theorem e_cp1 : CPow 2 64 = True := eq_true (by unfold CPow; decide)
theorem e_cp2 : CPow 2 63 = True := eq_true (by unfold CPow; decide)
theorem e_cp3 : CPow 2 45 = True := eq_true (by unfold CPow; decide)
theorem e_cp4 : CPow 10 18 = True := eq_true (by unfold CPow; decide)
theorem e_cp5 : CPow 37 24 = True := eq_true (by unfold CPow; decide)
end
theorem atI_map {α β : Type} (f : α → β) (xs : List α) (i : Int) : L2.atI (xs.map f) i = (L2.atI xs i).map f := by
  unfold L2.atI
  rw [List.length_map]
  cases ixN xs.length i with
  | none => rfl
  | some j => show (xs.map f)[j]? = _; rw [List.getElem?_map]; rfl
theorem atI_in {α : Type} {xs : List α} {i : Int} (h0 : 0 ≤ i) (h1 : i < xs.length) : ∃ x ∈ xs, L2.atI xs i = some x := by
  obtain ⟨k, rfl⟩ := Int.eq_ofNat_of_zero_le h0
  have hk : k < xs.length := by omega
  exact ⟨xs[k], List.getElem_mem hk, by rw [atI_nat]; exact List.getElem?_eq_getElem hk⟩
theorem cut_to {α : Type} (xs : List α) (n : Nat) : cutL xs none (some (n : Int)) = xs.take n := by
  unfold cutL
  rw [HT.sIx_nat, HT.sIx_none, List.drop_zero, Nat.sub_zero]
  rcases Nat.le_total n xs.length with h | h
  · rw [Nat.min_eq_left h]
  · rw [Nat.min_eq_right h, List.take_length, List.take_of_length_le h]
theorem cut_from {α : Type} (xs : List α) (n : Nat) : cutL xs (some (n : Int)) none = xs.drop n := by
  unfold cutL
  rw [HT.sIx_nat, HT.sIx_none]
  rcases Nat.le_total n xs.length with h | h
  · rw [Nat.min_eq_left h, List.take_of_length_le (by rw [List.length_drop]; exact Nat.le_refl _)]
  · rw [Nat.min_eq_right h, List.drop_length, List.take_nil, List.drop_of_length_le h]
theorem cut_toI {α : Type} (xs : List α) {i : Int} (h : 0 ≤ i) : cutL xs none (some i) = xs.take i.toNat := by
  obtain ⟨k, rfl⟩ := Int.eq_ofNat_of_zero_le h
  rw [cut_to]
  rfl
theorem cut_fromI {α : Type} (xs : List α) {i : Int} (h : 0 ≤ i) : cutL xs (some i) none = xs.drop i.toNat := by
  obtain ⟨k, rfl⟩ := Int.eq_ofNat_of_zero_le h
  rw [cut_from]
  rfl
theorem cut_mid {α : Type} (xs : List α) (m n : Nat) : cutL xs (some (m : Int)) (some (n : Int)) = (xs.drop m).take (n - m) := by
  unfold cutL
  rw [HT.sIx_nat, HT.sIx_nat]
  rcases Nat.le_total m xs.length with h | h
  · rw [Nat.min_eq_left h]
    rcases Nat.le_total n xs.length with h2 | h2
    · rw [Nat.min_eq_left h2]
    · rw [Nat.min_eq_right h2, List.take_of_length_le (by rw [List.length_drop]; exact Nat.le_refl _), List.take_of_length_le (by rw [List.length_drop]; omega)]
  · rw [Nat.min_eq_right h, List.drop_length, List.take_nil, List.drop_of_length_le h, List.take_nil]
theorem pdL_ints (ns : List Int) : T.pdL (ns.map T.int) = some (ns.map PyData.int) := by
  induction ns with
  | nil => rfl
  | cons n ns ih => show (match T.pd (.int n), T.pdL (ns.map T.int) with | some d, some ds => some (d :: ds) | _, _ => none) = _; rw [ih]; rfl
theorem pd_ints (ns : List Int) : (T.lst (ns.map T.int)).pd = some (.list (ns.map PyData.int)) := by show (T.pdL (ns.map T.int)).map PyData.list = _; rw [pdL_ints]; rfl
theorem canLay_ints (ns : List Int) : PyData.canLayAll0 (ns.map PyData.int) = true := by
  induction ns with
  | nil => rfl
  | cons n ns ih => show (PyData.canLay0 (.int n) && PyData.canLayAll0 (ns.map PyData.int)) = true; rw [ih]; rfl
theorem depth_ints (ns : List Int) : PyData.depthAll (ns.map PyData.int) = 0 := PySem.W.depth_ints ns
theorem shaped_ints (ns : List Int) : SeqAt.shaped (.list (ns.map PyData.int)) = true := by
  unfold SeqAt.shaped
  rw [Bool.and_eq_true]
  refine ⟨canLay_ints ns, decide_eq_true ?_⟩
  show PyData.depthAll (ns.map PyData.int) + 1 ≤ 64
  rw [depth_ints]
  decide
theorem okD_ints (ns : List Int) : okD (.lst (ns.map T.int)) := ⟨_, pd_ints ns, shaped_ints ns⟩
end O
namespace O
open PySem PySem.Spec PyProof.Rows L2
/-- prefix counts behind n -/
def prefs (n : Int) : List Nat → List Int
  | [] => []
  | c :: l => (n + if c = 97 then 1 else 0) :: prefs (n + if c = 97 then 1 else 0) l
def prefL (l : List Nat) : List Int := 0 :: prefs 0 l
def abS (l : List Nat) : Prop := ∀ c ∈ l, c = 97 ∨ c = 98
def rowB (l : List Nat) : Bool := decide (l.length ≤ 200) && l.all fun c => decide (c ∈ [97, 98])
theorem rowB_iff {l : List Nat} : rowB l = true ↔ l.length ≤ 200 ∧ abS l := by
  unfold rowB abS
  simp
def fIsRow : List T → Ot
  | [.str l] => .when (l.length ≤ sizeLine) (.bl (rowB l))
  | [t] => ⟨∃ c, t.cls = some c ∧ kitB c "str" = some false, (false, .bl false)⟩
  | _ => .no
theorem h_is_row (ars : Rho) (Q : Po Rv) (h : SP fIsRow ars Q) : D_is_row (ars ++ List.replicate 1 .no) (fwish ars Q) := by
  obtain ⟨ts, rfl, pre, q⟩ := h
  revert pre q
  unfold fIsRow
  split
  · rename_i l
    intro pre q
    have pre : l.length ≤ sizeLine := pre
    show D_is_row [.sh (.str l), .no] _
    have k1 : kitB "str" "str" = some true := rfl
    simp only [sSeq, sSet, sPar, sIf, sRet, sRetN, sDrop, sNext, sDead, sBrk, sCnt, sAsg, sFor, dNm, dTm, dC, dOp1, dOp2, dOpN, dMt, dMut, dCall, dLst, dTup, dNil, dCons, dVn, dVc, dSl, dSl3, dNoP, dPrt, dIf, dAndV, dOrV, dNotV, dBv, dTru, dNotT, dAndT, dOrT, dChn, dEqQ, dRpQ, qOp, qNil, qCons, qLs, qTp, dSrc, dRng1, dRng2, dZip2, dEnum, dComp, dYes, gNm, gTp, gCn, gNi, gIt, e_var, e_var1, e_var2, e_var3, e_var4, e_mov, e_mov1, e_mov2, e_mov3, e_mov4, e_tr1, e_tr2, e_tr3, e_tr4, e_tr5, e_own1, e_own2, e_reo1, e_reo2, e_of1, e_of2, e_pin1, e_pin2, e_pin3, e_arg1, e_arg2, e_arg3, e_arg4, e_isarg1, e_isarg2, e_conv1, e_conv2, e_conv3, e_conv4, e_conv5, e_conv6, e_sown1, e_sown2, e_sown3, e_sown4, e_put1, e_put2, e_po1, e_po2, e_p1, e_p2, e_ao1, e_ao2, e_nd0, e_nd1, e_nd2, e_sl, e_get1, e_get2, e_is, e_all, e_gets0, e_gets1, e_gets2, e_tms0, e_tms1, e_qg1, e_qg2, e_qg3, e_qgs0, e_qgs1, e_its1, e_its2, e_its3, e_its4, e_jts1, e_jts2, e_jts4, e_mt1, e_mt2, e_ty1, e_add1, e_add2, e_add3, e_sub, e_mul1, e_mul2, e_mul3, e_fdiv, e_mod, e_pow, e_neg, e_len1, e_len2, e_len3, e_len4, e_int1, e_int2, e_abs, e_max, e_min, e_ix1, e_ix2, e_ix3, e_ix4, e_eq1, e_eq2, e_eq3, e_lt1, e_le1, e_gt1, e_ge1, e_lt2, e_in1, e_app, e_ext, e_rev, e_clr, e_set, e_sl1, e_sl2, e_sl3, e_sl4, e_count, e_f1, e_f2, e_osh, e_owh, e_one, e_tt1, e_tt2, e_ctg1, e_ctg2, e_cn0, e_cn1, e_wi0, e_wi1, e_re0, e_re1, e_ifb1, e_ifb2, e_nm0, e_nm1, e_nm2, e_fa0, e_fa1, e_sum, e_allb, e_anyb, e_sp1, e_sp2, e_sp3, e_at0, e_at1, e_at2, e_at3, e_at4, e_at5, e_ixn40, e_ixn41, e_ixn42, e_ixn43, e_cp1, e_cp2, e_cp3, e_cp4, e_cp5, forall_eq, List.getD_cons_zero, List.getD_cons_succ, List.getD_nil, List.set_cons_zero, List.set_cons_succ, List.map_cons, List.map_nil, Option.map_some, Option.map_none, Option.bind_some, Option.bind_none, Option.getD_some, Option.some.injEq, exists_eq_left', exists_eq_left, exists_eq', exists_eq, decide_eq_true_eq, List.length_map, exists_eq_right, exists_and_left, exists_and_right, Option.isSome_some, T.int.injEq, T.str.injEq, T.lst.injEq, T.tup.injEq, T.bl.injEq, List.cons.injEq, Prod.mk.injEq, Hn.tm.injEq, true_and, and_true, and_assoc, and_self, ne_eq, not_false_eq_true, not_true_eq_false, ite_true, ite_false, if_true, if_false, reduceIte, reduceCtorEq, Bool.false_eq_true, false_and, and_false, imp_self, forall_const, implies_true, List.length_cons, List.length_nil, Nat.reduceAdd, Nat.reduceEqDiff, Bool.false_bne, Bool.true_bne, Bool.not_false, Bool.not_true, List.nil_append, List.cons_append, Int.reduceToNat, Int.reducePow, Int.reduceMul, Int.reduceSub, Int.reduceAdd, Int.reduceNeg, D_is_row, isiT, T.cls, k1, pre]
    by_cases h2 : l.length ≤ 200
    · have h3 : (l.length : Int) ≤ 200 := by omega
      simp only [sSeq, sSet, sPar, sIf, sRet, sRetN, sDrop, sNext, sDead, sBrk, sCnt, sAsg, sFor, dNm, dTm, dC, dOp1, dOp2, dOpN, dMt, dMut, dCall, dLst, dTup, dNil, dCons, dVn, dVc, dSl, dSl3, dNoP, dPrt, dIf, dAndV, dOrV, dNotV, dBv, dTru, dNotT, dAndT, dOrT, dChn, dEqQ, dRpQ, qOp, qNil, qCons, qLs, qTp, dSrc, dRng1, dRng2, dZip2, dEnum, dComp, dYes, gNm, gTp, gCn, gNi, gIt, e_var, e_var1, e_var2, e_var3, e_var4, e_mov, e_mov1, e_mov2, e_mov3, e_mov4, e_tr1, e_tr2, e_tr3, e_tr4, e_tr5, e_own1, e_own2, e_reo1, e_reo2, e_of1, e_of2, e_pin1, e_pin2, e_pin3, e_arg1, e_arg2, e_arg3, e_arg4, e_isarg1, e_isarg2, e_conv1, e_conv2, e_conv3, e_conv4, e_conv5, e_conv6, e_sown1, e_sown2, e_sown3, e_sown4, e_put1, e_put2, e_po1, e_po2, e_p1, e_p2, e_ao1, e_ao2, e_nd0, e_nd1, e_nd2, e_sl, e_get1, e_get2, e_is, e_all, e_gets0, e_gets1, e_gets2, e_tms0, e_tms1, e_qg1, e_qg2, e_qg3, e_qgs0, e_qgs1, e_its1, e_its2, e_its3, e_its4, e_jts1, e_jts2, e_jts4, e_mt1, e_mt2, e_ty1, e_add1, e_add2, e_add3, e_sub, e_mul1, e_mul2, e_mul3, e_fdiv, e_mod, e_pow, e_neg, e_len1, e_len2, e_len3, e_len4, e_int1, e_int2, e_abs, e_max, e_min, e_ix1, e_ix2, e_ix3, e_ix4, e_eq1, e_eq2, e_eq3, e_lt1, e_le1, e_gt1, e_ge1, e_lt2, e_in1, e_app, e_ext, e_rev, e_clr, e_set, e_sl1, e_sl2, e_sl3, e_sl4, e_count, e_f1, e_f2, e_osh, e_owh, e_one, e_tt1, e_tt2, e_ctg1, e_ctg2, e_cn0, e_cn1, e_wi0, e_wi1, e_re0, e_re1, e_ifb1, e_ifb2, e_nm0, e_nm1, e_nm2, e_fa0, e_fa1, e_sum, e_allb, e_anyb, e_sp1, e_sp2, e_sp3, e_at0, e_at1, e_at2, e_at3, e_at4, e_at5, e_ixn40, e_ixn41, e_ixn42, e_ixn43, e_cp1, e_cp2, e_cp3, e_cp4, e_cp5, forall_eq, List.getD_cons_zero, List.getD_cons_succ, List.getD_nil, List.set_cons_zero, List.set_cons_succ, List.map_cons, List.map_nil, Option.map_some, Option.map_none, Option.bind_some, Option.bind_none, Option.getD_some, Option.some.injEq, exists_eq_left', exists_eq_left, exists_eq', exists_eq, decide_eq_true_eq, List.length_map, exists_eq_right, exists_and_left, exists_and_right, Option.isSome_some, T.int.injEq, T.str.injEq, T.lst.injEq, T.tup.injEq, T.bl.injEq, List.cons.injEq, Prod.mk.injEq, Hn.tm.injEq, true_and, and_true, and_assoc, and_self, ne_eq, not_false_eq_true, not_true_eq_false, ite_true, ite_false, if_true, if_false, reduceIte, reduceCtorEq, Bool.false_eq_true, false_and, and_false, imp_self, forall_const, implies_true, List.length_cons, List.length_nil, Nat.reduceAdd, Nat.reduceEqDiff, Bool.false_bne, Bool.true_bne, Bool.not_false, Bool.not_true, List.nil_append, List.cons_append, Int.reduceToNat, Int.reducePow, Int.reduceMul, Int.reduceSub, Int.reduceAdd, Int.reduceNeg, h3, decide_true]
      refine comp_all (fun c => .bl (decide (c ∈ [97, 98]))) (fun c _ A B hA => ?_) (by omega) ?_
      · simp only [sSeq, sSet, sPar, sIf, sRet, sRetN, sDrop, sNext, sDead, sBrk, sCnt, sAsg, sFor, dNm, dTm, dC, dOp1, dOp2, dOpN, dMt, dMut, dCall, dLst, dTup, dNil, dCons, dVn, dVc, dSl, dSl3, dNoP, dPrt, dIf, dAndV, dOrV, dNotV, dBv, dTru, dNotT, dAndT, dOrT, dChn, dEqQ, dRpQ, qOp, qNil, qCons, qLs, qTp, dSrc, dRng1, dRng2, dZip2, dEnum, dComp, dYes, gNm, gTp, gCn, gNi, gIt, e_var, e_var1, e_var2, e_var3, e_var4, e_mov, e_mov1, e_mov2, e_mov3, e_mov4, e_tr1, e_tr2, e_tr3, e_tr4, e_tr5, e_own1, e_own2, e_reo1, e_reo2, e_of1, e_of2, e_pin1, e_pin2, e_pin3, e_arg1, e_arg2, e_arg3, e_arg4, e_isarg1, e_isarg2, e_conv1, e_conv2, e_conv3, e_conv4, e_conv5, e_conv6, e_sown1, e_sown2, e_sown3, e_sown4, e_put1, e_put2, e_po1, e_po2, e_p1, e_p2, e_ao1, e_ao2, e_nd0, e_nd1, e_nd2, e_sl, e_get1, e_get2, e_is, e_all, e_gets0, e_gets1, e_gets2, e_tms0, e_tms1, e_qg1, e_qg2, e_qg3, e_qgs0, e_qgs1, e_its1, e_its2, e_its3, e_its4, e_jts1, e_jts2, e_jts4, e_mt1, e_mt2, e_ty1, e_add1, e_add2, e_add3, e_sub, e_mul1, e_mul2, e_mul3, e_fdiv, e_mod, e_pow, e_neg, e_len1, e_len2, e_len3, e_len4, e_int1, e_int2, e_abs, e_max, e_min, e_ix1, e_ix2, e_ix3, e_ix4, e_eq1, e_eq2, e_eq3, e_lt1, e_le1, e_gt1, e_ge1, e_lt2, e_in1, e_app, e_ext, e_rev, e_clr, e_set, e_sl1, e_sl2, e_sl3, e_sl4, e_count, e_f1, e_f2, e_osh, e_owh, e_one, e_tt1, e_tt2, e_ctg1, e_ctg2, e_cn0, e_cn1, e_wi0, e_wi1, e_re0, e_re1, e_ifb1, e_ifb2, e_nm0, e_nm1, e_nm2, e_fa0, e_fa1, e_sum, e_allb, e_anyb, e_sp1, e_sp2, e_sp3, e_at0, e_at1, e_at2, e_at3, e_at4, e_at5, e_ixn40, e_ixn41, e_ixn42, e_ixn43, e_cp1, e_cp2, e_cp3, e_cp4, e_cp5, forall_eq, List.getD_cons_zero, List.getD_cons_succ, List.getD_nil, List.set_cons_zero, List.set_cons_succ, List.map_cons, List.map_nil, Option.map_some, Option.map_none, Option.bind_some, Option.bind_none, Option.getD_some, Option.some.injEq, exists_eq_left', exists_eq_left, exists_eq', exists_eq, decide_eq_true_eq, List.length_map, exists_eq_right, exists_and_left, exists_and_right, Option.isSome_some, T.int.injEq, T.str.injEq, T.lst.injEq, T.tup.injEq, T.bl.injEq, List.cons.injEq, Prod.mk.injEq, Hn.tm.injEq, true_and, and_true, and_assoc, and_self, ne_eq, not_false_eq_true, not_true_eq_false, ite_true, ite_false, if_true, if_false, reduceIte, reduceCtorEq, Bool.false_eq_true, false_and, and_false, imp_self, forall_const, implies_true, List.length_cons, List.length_nil, Nat.reduceAdd, Nat.reduceEqDiff, Bool.false_bne, Bool.true_bne, Bool.not_false, Bool.not_true, List.nil_append, List.cons_append, Int.reduceToNat, Int.reducePow, Int.reduceMul, Int.reduceSub, Int.reduceAdd, Int.reduceNeg]
        exact hA
      · have e : (l.map fun c => T.bl (decide (c ∈ [97, 98]))) = (l.map fun c => decide (c ∈ [97, 98])).map T.bl := by rw [List.map_map]; rfl
        rw [e]
        simp only [sSeq, sSet, sPar, sIf, sRet, sRetN, sDrop, sNext, sDead, sBrk, sCnt, sAsg, sFor, dNm, dTm, dC, dOp1, dOp2, dOpN, dMt, dMut, dCall, dLst, dTup, dNil, dCons, dVn, dVc, dSl, dSl3, dNoP, dPrt, dIf, dAndV, dOrV, dNotV, dBv, dTru, dNotT, dAndT, dOrT, dChn, dEqQ, dRpQ, qOp, qNil, qCons, qLs, qTp, dSrc, dRng1, dRng2, dZip2, dEnum, dComp, dYes, gNm, gTp, gCn, gNi, gIt, e_var, e_var1, e_var2, e_var3, e_var4, e_mov, e_mov1, e_mov2, e_mov3, e_mov4, e_tr1, e_tr2, e_tr3, e_tr4, e_tr5, e_own1, e_own2, e_reo1, e_reo2, e_of1, e_of2, e_pin1, e_pin2, e_pin3, e_arg1, e_arg2, e_arg3, e_arg4, e_isarg1, e_isarg2, e_conv1, e_conv2, e_conv3, e_conv4, e_conv5, e_conv6, e_sown1, e_sown2, e_sown3, e_sown4, e_put1, e_put2, e_po1, e_po2, e_p1, e_p2, e_ao1, e_ao2, e_nd0, e_nd1, e_nd2, e_sl, e_get1, e_get2, e_is, e_all, e_gets0, e_gets1, e_gets2, e_tms0, e_tms1, e_qg1, e_qg2, e_qg3, e_qgs0, e_qgs1, e_its1, e_its2, e_its3, e_its4, e_jts1, e_jts2, e_jts4, e_mt1, e_mt2, e_ty1, e_add1, e_add2, e_add3, e_sub, e_mul1, e_mul2, e_mul3, e_fdiv, e_mod, e_pow, e_neg, e_len1, e_len2, e_len3, e_len4, e_int1, e_int2, e_abs, e_max, e_min, e_ix1, e_ix2, e_ix3, e_ix4, e_eq1, e_eq2, e_eq3, e_lt1, e_le1, e_gt1, e_ge1, e_lt2, e_in1, e_app, e_ext, e_rev, e_clr, e_set, e_sl1, e_sl2, e_sl3, e_sl4, e_count, e_f1, e_f2, e_osh, e_owh, e_one, e_tt1, e_tt2, e_ctg1, e_ctg2, e_cn0, e_cn1, e_wi0, e_wi1, e_re0, e_re1, e_ifb1, e_ifb2, e_nm0, e_nm1, e_nm2, e_fa0, e_fa1, e_sum, e_allb, e_anyb, e_sp1, e_sp2, e_sp3, e_at0, e_at1, e_at2, e_at3, e_at4, e_at5, e_ixn40, e_ixn41, e_ixn42, e_ixn43, e_cp1, e_cp2, e_cp3, e_cp4, e_cp5, forall_eq, List.getD_cons_zero, List.getD_cons_succ, List.getD_nil, List.set_cons_zero, List.set_cons_succ, List.map_cons, List.map_nil, Option.map_some, Option.map_none, Option.bind_some, Option.bind_none, Option.getD_some, Option.some.injEq, exists_eq_left', exists_eq_left, exists_eq', exists_eq, decide_eq_true_eq, List.length_map, exists_eq_right, exists_and_left, exists_and_right, Option.isSome_some, T.int.injEq, T.str.injEq, T.lst.injEq, T.tup.injEq, T.bl.injEq, List.cons.injEq, Prod.mk.injEq, Hn.tm.injEq, true_and, and_true, and_assoc, and_self, ne_eq, not_false_eq_true, not_true_eq_false, ite_true, ite_false, if_true, if_false, reduceIte, reduceCtorEq, Bool.false_eq_true, false_and, and_false, imp_self, forall_const, implies_true, List.length_cons, List.length_nil, Nat.reduceAdd, Nat.reduceEqDiff, Bool.false_bne, Bool.true_bne, Bool.not_false, Bool.not_true, List.nil_append, List.cons_append, Int.reduceToNat, Int.reducePow, Int.reduceMul, Int.reduceSub, Int.reduceAdd, Int.reduceNeg]
        have : rowB l = (l.map fun c => decide (c ∈ [97, 98])).all id := by
          unfold rowB
          rw [decide_eq_true h2, Bool.true_and, List.all_map]
          rfl
        rw [this] at q
        exact q
    · have h3 : ¬ (l.length : Int) ≤ 200 := by omega
      simp only [sSeq, sSet, sPar, sIf, sRet, sRetN, sDrop, sNext, sDead, sBrk, sCnt, sAsg, sFor, dNm, dTm, dC, dOp1, dOp2, dOpN, dMt, dMut, dCall, dLst, dTup, dNil, dCons, dVn, dVc, dSl, dSl3, dNoP, dPrt, dIf, dAndV, dOrV, dNotV, dBv, dTru, dNotT, dAndT, dOrT, dChn, dEqQ, dRpQ, qOp, qNil, qCons, qLs, qTp, dSrc, dRng1, dRng2, dZip2, dEnum, dComp, dYes, gNm, gTp, gCn, gNi, gIt, e_var, e_var1, e_var2, e_var3, e_var4, e_mov, e_mov1, e_mov2, e_mov3, e_mov4, e_tr1, e_tr2, e_tr3, e_tr4, e_tr5, e_own1, e_own2, e_reo1, e_reo2, e_of1, e_of2, e_pin1, e_pin2, e_pin3, e_arg1, e_arg2, e_arg3, e_arg4, e_isarg1, e_isarg2, e_conv1, e_conv2, e_conv3, e_conv4, e_conv5, e_conv6, e_sown1, e_sown2, e_sown3, e_sown4, e_put1, e_put2, e_po1, e_po2, e_p1, e_p2, e_ao1, e_ao2, e_nd0, e_nd1, e_nd2, e_sl, e_get1, e_get2, e_is, e_all, e_gets0, e_gets1, e_gets2, e_tms0, e_tms1, e_qg1, e_qg2, e_qg3, e_qgs0, e_qgs1, e_its1, e_its2, e_its3, e_its4, e_jts1, e_jts2, e_jts4, e_mt1, e_mt2, e_ty1, e_add1, e_add2, e_add3, e_sub, e_mul1, e_mul2, e_mul3, e_fdiv, e_mod, e_pow, e_neg, e_len1, e_len2, e_len3, e_len4, e_int1, e_int2, e_abs, e_max, e_min, e_ix1, e_ix2, e_ix3, e_ix4, e_eq1, e_eq2, e_eq3, e_lt1, e_le1, e_gt1, e_ge1, e_lt2, e_in1, e_app, e_ext, e_rev, e_clr, e_set, e_sl1, e_sl2, e_sl3, e_sl4, e_count, e_f1, e_f2, e_osh, e_owh, e_one, e_tt1, e_tt2, e_ctg1, e_ctg2, e_cn0, e_cn1, e_wi0, e_wi1, e_re0, e_re1, e_ifb1, e_ifb2, e_nm0, e_nm1, e_nm2, e_fa0, e_fa1, e_sum, e_allb, e_anyb, e_sp1, e_sp2, e_sp3, e_at0, e_at1, e_at2, e_at3, e_at4, e_at5, e_ixn40, e_ixn41, e_ixn42, e_ixn43, e_cp1, e_cp2, e_cp3, e_cp4, e_cp5, forall_eq, List.getD_cons_zero, List.getD_cons_succ, List.getD_nil, List.set_cons_zero, List.set_cons_succ, List.map_cons, List.map_nil, Option.map_some, Option.map_none, Option.bind_some, Option.bind_none, Option.getD_some, Option.some.injEq, exists_eq_left', exists_eq_left, exists_eq', exists_eq, decide_eq_true_eq, List.length_map, exists_eq_right, exists_and_left, exists_and_right, Option.isSome_some, T.int.injEq, T.str.injEq, T.lst.injEq, T.tup.injEq, T.bl.injEq, List.cons.injEq, Prod.mk.injEq, Hn.tm.injEq, true_and, and_true, and_assoc, and_self, ne_eq, not_false_eq_true, not_true_eq_false, ite_true, ite_false, if_true, if_false, reduceIte, reduceCtorEq, Bool.false_eq_true, false_and, and_false, imp_self, forall_const, implies_true, List.length_cons, List.length_nil, Nat.reduceAdd, Nat.reduceEqDiff, Bool.false_bne, Bool.true_bne, Bool.not_false, Bool.not_true, List.nil_append, List.cons_append, Int.reduceToNat, Int.reducePow, Int.reduceMul, Int.reduceSub, Int.reduceAdd, Int.reduceNeg, h3, decide_false]
      have : rowB l = false := by unfold rowB; rw [decide_eq_false h2]; rfl
      rw [this] at q
      exact q
  · rename_i t _
    intro pre q
    obtain ⟨c, e1, e2⟩ := pre
    show D_is_row [.sh t, .no] _
    simp only [sSeq, sSet, sPar, sIf, sRet, sRetN, sDrop, sNext, sDead, sBrk, sCnt, sAsg, sFor, dNm, dTm, dC, dOp1, dOp2, dOpN, dMt, dMut, dCall, dLst, dTup, dNil, dCons, dVn, dVc, dSl, dSl3, dNoP, dPrt, dIf, dAndV, dOrV, dNotV, dBv, dTru, dNotT, dAndT, dOrT, dChn, dEqQ, dRpQ, qOp, qNil, qCons, qLs, qTp, dSrc, dRng1, dRng2, dZip2, dEnum, dComp, dYes, gNm, gTp, gCn, gNi, gIt, e_var, e_var1, e_var2, e_var3, e_var4, e_mov, e_mov1, e_mov2, e_mov3, e_mov4, e_tr1, e_tr2, e_tr3, e_tr4, e_tr5, e_own1, e_own2, e_reo1, e_reo2, e_of1, e_of2, e_pin1, e_pin2, e_pin3, e_arg1, e_arg2, e_arg3, e_arg4, e_isarg1, e_isarg2, e_conv1, e_conv2, e_conv3, e_conv4, e_conv5, e_conv6, e_sown1, e_sown2, e_sown3, e_sown4, e_put1, e_put2, e_po1, e_po2, e_p1, e_p2, e_ao1, e_ao2, e_nd0, e_nd1, e_nd2, e_sl, e_get1, e_get2, e_is, e_all, e_gets0, e_gets1, e_gets2, e_tms0, e_tms1, e_qg1, e_qg2, e_qg3, e_qgs0, e_qgs1, e_its1, e_its2, e_its3, e_its4, e_jts1, e_jts2, e_jts4, e_mt1, e_mt2, e_ty1, e_add1, e_add2, e_add3, e_sub, e_mul1, e_mul2, e_mul3, e_fdiv, e_mod, e_pow, e_neg, e_len1, e_len2, e_len3, e_len4, e_int1, e_int2, e_abs, e_max, e_min, e_ix1, e_ix2, e_ix3, e_ix4, e_eq1, e_eq2, e_eq3, e_lt1, e_le1, e_gt1, e_ge1, e_lt2, e_in1, e_app, e_ext, e_rev, e_clr, e_set, e_sl1, e_sl2, e_sl3, e_sl4, e_count, e_f1, e_f2, e_osh, e_owh, e_one, e_tt1, e_tt2, e_ctg1, e_ctg2, e_cn0, e_cn1, e_wi0, e_wi1, e_re0, e_re1, e_ifb1, e_ifb2, e_nm0, e_nm1, e_nm2, e_fa0, e_fa1, e_sum, e_allb, e_anyb, e_sp1, e_sp2, e_sp3, e_at0, e_at1, e_at2, e_at3, e_at4, e_at5, e_ixn40, e_ixn41, e_ixn42, e_ixn43, e_cp1, e_cp2, e_cp3, e_cp4, e_cp5, forall_eq, List.getD_cons_zero, List.getD_cons_succ, List.getD_nil, List.set_cons_zero, List.set_cons_succ, List.map_cons, List.map_nil, Option.map_some, Option.map_none, Option.bind_some, Option.bind_none, Option.getD_some, Option.some.injEq, exists_eq_left', exists_eq_left, exists_eq', exists_eq, decide_eq_true_eq, List.length_map, exists_eq_right, exists_and_left, exists_and_right, Option.isSome_some, T.int.injEq, T.str.injEq, T.lst.injEq, T.tup.injEq, T.bl.injEq, List.cons.injEq, Prod.mk.injEq, Hn.tm.injEq, true_and, and_true, and_assoc, and_self, ne_eq, not_false_eq_true, not_true_eq_false, ite_true, ite_false, if_true, if_false, reduceIte, reduceCtorEq, Bool.false_eq_true, false_and, and_false, imp_self, forall_const, implies_true, List.length_cons, List.length_nil, Nat.reduceAdd, Nat.reduceEqDiff, Bool.false_bne, Bool.true_bne, Bool.not_false, Bool.not_true, List.nil_append, List.cons_append, Int.reduceToNat, Int.reducePow, Int.reduceMul, Int.reduceSub, Int.reduceAdd, Int.reduceNeg, D_is_row, isiT, e1, e2]
    exact q
  · intro pre; exact pre.elim
def fChk : List T → Ot
  | [.str l] => .when (rowB l = true) .non
  | _ => .no
theorem row_len {l : List Nat} (h : rowB l = true) : l.length ≤ 200 := (rowB_iff.mp h).1
theorem line200 : 200 < sizeLine := by rw [sizeLine_eq]; decide
theorem h_check_row (ars : Rho) (Q : Po Rv) (h : SP fChk ars Q) : D_check_row (SP fIsRow) (ars ++ List.replicate 0 .no) (fwish ars Q) := by
  obtain ⟨ts, rfl, pre, q⟩ := h
  revert pre q
  unfold fChk
  split
  · rename_i l
    intro pre q
    have pre : rowB l = true := pre
    have h2 := row_len pre
    have h3 := line200
    show D_check_row (SP fIsRow) [.sh (.str l)] _
    simp only [sSeq, sSet, sPar, sIf, sRet, sRetN, sDrop, sNext, sDead, sBrk, sCnt, sAsg, sFor, dNm, dTm, dC, dOp1, dOp2, dOpN, dMt, dMut, dCall, dLst, dTup, dNil, dCons, dVn, dVc, dSl, dSl3, dNoP, dPrt, dIf, dAndV, dOrV, dNotV, dBv, dTru, dNotT, dAndT, dOrT, dChn, dEqQ, dRpQ, qOp, qNil, qCons, qLs, qTp, dSrc, dRng1, dRng2, dZip2, dEnum, dComp, dYes, gNm, gTp, gCn, gNi, gIt, e_var, e_var1, e_var2, e_var3, e_var4, e_mov, e_mov1, e_mov2, e_mov3, e_mov4, e_tr1, e_tr2, e_tr3, e_tr4, e_tr5, e_own1, e_own2, e_reo1, e_reo2, e_of1, e_of2, e_pin1, e_pin2, e_pin3, e_arg1, e_arg2, e_arg3, e_arg4, e_isarg1, e_isarg2, e_conv1, e_conv2, e_conv3, e_conv4, e_conv5, e_conv6, e_sown1, e_sown2, e_sown3, e_sown4, e_put1, e_put2, e_po1, e_po2, e_p1, e_p2, e_ao1, e_ao2, e_nd0, e_nd1, e_nd2, e_sl, e_get1, e_get2, e_is, e_all, e_gets0, e_gets1, e_gets2, e_tms0, e_tms1, e_qg1, e_qg2, e_qg3, e_qgs0, e_qgs1, e_its1, e_its2, e_its3, e_its4, e_jts1, e_jts2, e_jts4, e_mt1, e_mt2, e_ty1, e_add1, e_add2, e_add3, e_sub, e_mul1, e_mul2, e_mul3, e_fdiv, e_mod, e_pow, e_neg, e_len1, e_len2, e_len3, e_len4, e_int1, e_int2, e_abs, e_max, e_min, e_ix1, e_ix2, e_ix3, e_ix4, e_eq1, e_eq2, e_eq3, e_lt1, e_le1, e_gt1, e_ge1, e_lt2, e_in1, e_app, e_ext, e_rev, e_clr, e_set, e_sl1, e_sl2, e_sl3, e_sl4, e_count, e_f1, e_f2, e_osh, e_owh, e_one, e_tt1, e_tt2, e_ctg1, e_ctg2, e_cn0, e_cn1, e_wi0, e_wi1, e_re0, e_re1, e_ifb1, e_ifb2, e_nm0, e_nm1, e_nm2, e_fa0, e_fa1, e_sum, e_allb, e_anyb, e_sp1, e_sp2, e_sp3, e_at0, e_at1, e_at2, e_at3, e_at4, e_at5, e_ixn40, e_ixn41, e_ixn42, e_ixn43, e_cp1, e_cp2, e_cp3, e_cp4, e_cp5, forall_eq, List.getD_cons_zero, List.getD_cons_succ, List.getD_nil, List.set_cons_zero, List.set_cons_succ, List.map_cons, List.map_nil, Option.map_some, Option.map_none, Option.bind_some, Option.bind_none, Option.getD_some, Option.some.injEq, exists_eq_left', exists_eq_left, exists_eq', exists_eq, decide_eq_true_eq, List.length_map, exists_eq_right, exists_and_left, exists_and_right, Option.isSome_some, T.int.injEq, T.str.injEq, T.lst.injEq, T.tup.injEq, T.bl.injEq, List.cons.injEq, Prod.mk.injEq, Hn.tm.injEq, true_and, and_true, and_assoc, and_self, ne_eq, not_false_eq_true, not_true_eq_false, ite_true, ite_false, if_true, if_false, reduceIte, reduceCtorEq, Bool.false_eq_true, false_and, and_false, imp_self, forall_const, implies_true, List.length_cons, List.length_nil, Nat.reduceAdd, Nat.reduceEqDiff, Bool.false_bne, Bool.true_bne, Bool.not_false, Bool.not_true, List.nil_append, List.cons_append, Int.reduceToNat, Int.reducePow, Int.reduceMul, Int.reduceSub, Int.reduceAdd, Int.reduceNeg, D_check_row, fIsRow, pre]
    exact ⟨by omega, q⟩
  · intro pre; exact pre.elim
def pairsL (l : List Nat) : Int := ((((prefL l).zip l).filter fun p => decide (p.2 = 98)).map (·.1)).sum
theorem zipT_maps {α β : Type} (f : α → T) (g : β → T) (xs : List α) (ys : List β) : zipT (xs.map f) (ys.map g) = (xs.zip ys).map fun p => .tup [f p.1, g p.2] := by
  unfold zipT
  rw [List.zip_map, List.map_map]
  rfl
end O
namespace O
open PySem PySem.Spec PyProof.Rows L2
theorem e_mulI {i j : Int} (h : -(2 ^ 64) < j ∧ j < 2 ^ 64) : (CMul i j ∨ CMulW i j) = True := eq_true (.inl (.inr h))
theorem log_lt {i : Int} {k : Nat} (h : i.natAbs < 2 ^ (k + 1)) : i.natAbs.log2 ≤ k := by
  rcases Nat.eq_zero_or_pos i.natAbs with z | z
  · rw [z]; simp
  · exact Nat.le_of_lt_succ ((Nat.log2_lt (by omega)).mpr h)
end O
namespace O
open PySem PySem.Spec PyProof.Rows L2
theorem joinL_one : ∀ l : List Nat, joinL [] (l.map fun c => [c]) = l
  | [] => rfl
  | [c] => rfl
  | c :: d :: l => by
    show [c] ++ [] ++ joinL [] ((d :: l).map fun c => [c]) = _
    rw [joinL_one (d :: l)]
    rfl
theorem join_signs (l : List Nat) : joinT (.str []) [.lst (l.map fun c => .str [c])] = ⟨l.length ≤ 16777216, (false, .str l)⟩ := by
  have e : T.strs (l.map fun c => T.str [c]) = some (l.map fun c => [c]) := by
    have := strs_of (l.map fun c => [c])
    rw [List.map_map] at this
    exact this
  have e2 : ((l.map fun c => [c]).map fun x : List Nat => x.length).sum = l.length := by
    clear e
    induction l with
    | nil => rfl
    | cons c l ih => rw [List.map_cons, List.map_cons, List.sum_cons, ih, List.length_singleton, List.length_cons, Nat.add_comm]
  show (⟨∃ ls, T.strs (l.map fun c => T.str [c]) = some ls ∧ (ls.map (·.length)).sum + ls.length * ([] : List Nat).length ≤ 16777216, (false, .str (joinL [] ((T.strs (l.map fun c => T.str [c])).getD [])))⟩ : Ot) = _
  rw [e]
  simp only [Option.some.injEq, exists_eq_left', Option.getD_some, joinL_one, e2, List.length_nil, Nat.mul_zero, Nat.add_zero]
theorem rangeT_eq (lo : Int) (n : Nat) : rangeT lo n = ((List.range n).map fun i : Nat => lo + (i : Int)).map T.int := by
  unfold rangeT
  rw [List.map_map]
  rfl
theorem log_small {i : Int} (h0 : 0 ≤ i) (h1 : i < 2 ^ 64) : i.natAbs.log2 < 9000 := by
  have : i.natAbs.log2 ≤ 63 := log_lt (by omega)
  omega
theorem abS_rep {c : Nat} (h : c = 97 ∨ c = 98) (n : Nat) : abS (List.replicate n [c]).flatten := fun d m => by
  obtain ⟨x, hx, hd⟩ := List.mem_flatten.mp m
  rw [List.eq_of_mem_replicate hx] at hd
  rw [List.mem_singleton.mp hd]
  exact h
theorem abS_take {a : List Nat} (h : abS a) (n : Nat) : abS (a.take n) := fun c m => h c (List.mem_of_mem_take m)
theorem len_rep {c : Nat} (n : Nat) : (List.replicate n [c]).flatten.length = n := by simp
end O
namespace O
open PySem PySem.Spec PyProof.Rows L2
def Sh (d : PyData) (a m : Nat) : Prop := d.showable = true ∧ d.depth ≤ a ∧ d.shown.length ≤ m
theorem Sh.ok {d : PyData} {a m : Nat} (h : Sh d a m) (ha : a ≤ 64) (hm : m ≤ sizeLine) : shOk d := ⟨h.1, Nat.le_trans h.2.1 ha, Nat.le_trans h.2.2 hm⟩
theorem Sh.int {i : Int} (h : i.natAbs < 10 ^ 12) : Sh (.int i) 0 13 := by
  refine ⟨?_, Nat.le_refl _, PyData.shown_int_le h⟩
  show decide (i.natAbs.log2 < 1920) = true
  refine decide_eq_true ?_
  have : i.natAbs.log2 ≤ 63 := log_lt (Nat.lt_of_lt_of_le h (by decide))
  omega
theorem Sh.all {a m : Nat} : ∀ {ds : List PyData}, (∀ d ∈ ds, Sh d a m) → PyData.showableAll ds = true ∧ PyData.depthAll ds ≤ a ∧ ((PyData.shownAll ds).map (·.length)).sum ≤ m * ds.length
  | [], _ => ⟨rfl, Nat.zero_le _, Nat.le_of_eq rfl⟩
  | d :: ds, h => by
    obtain ⟨h1, h2, h3⟩ := h d List.mem_cons_self
    obtain ⟨k1, k2, k3⟩ := Sh.all (ds := ds) fun e m => h e (List.mem_cons_of_mem _ m)
    refine ⟨by show (d.showable && PyData.showableAll ds) = true; rw [h1, k1]; rfl, Nat.max_le.mpr ⟨h2, k2⟩, ?_⟩
    show (d.shown.length :: (PyData.shownAll ds).map (·.length)).sum ≤ m * (ds.length + 1)
    rw [List.sum_cons, Nat.mul_succ]
    omega
theorem Sh.list {ds : List PyData} {a m : Nat} (h : ∀ d ∈ ds, Sh d a m) : Sh (.list ds) (a + 1) ((m + 2) * ds.length + 3) := by
  obtain ⟨k1, k2, k3⟩ := Sh.all h
  refine ⟨k1, Nat.succ_le_succ k2, ?_⟩
  have := listText_len_le (PyData.shownAll ds)
  rw [PyData.shownAll_length] at this
  refine Nat.le_trans this ?_
  rw [Nat.add_mul]
  omega
theorem Sh.more {d : PyData} {a m b n : Nat} (h : Sh d a m) (h1 : a ≤ b) (h2 : m ≤ n) : Sh d b n := ⟨h.1, Nat.le_trans h.2.1 h1, Nat.le_trans h.2.2 h2⟩
def cntB (l : List Nat) : Int := ((l.filter fun d => decide (d = 98)).length : Nat)
def P2 : List Nat → Int
  | [] => 0
  | c :: l => (if c = 97 then cntB l else 0) + P2 l
end O
namespace O
open PySem PySem.Spec PyProof.Rows L2
/-- depth at most a, text at most m -/
def Nt (t : T) (a m : Nat) : Prop := ∃ d, t.pq = some d ∧ Sh d a m
def NtL (ts : List T) (a m : Nat) : Prop := ∃ ds, T.pqL ts = some ds ∧ ds.length = ts.length ∧ ∀ d ∈ ds, Sh d a m
theorem Nt.more {t : T} {a m b n : Nat} (h : Nt t a m) (h1 : a ≤ b) (h2 : m ≤ n) : Nt t b n := by obtain ⟨d, e, s⟩ := h; exact ⟨d, e, s.more h1 h2⟩
theorem Nt.non : Nt .non 0 4 := ⟨_, rfl, rfl, Nat.le_refl _, by decide⟩
theorem Nt.bl (b : Bool) : Nt (.bl b) 0 5 := ⟨_, rfl, rfl, Nat.le_refl _, by cases b <;> decide⟩
theorem Nt.int {i : Int} {k : Nat} (hk : 0 < k) (h : i.natAbs < 10 ^ k) (h2 : i.natAbs.log2 < 1920) : Nt (.int i) 0 (k + 1) := by
  refine ⟨_, rfl, decide_eq_true h2, Nat.le_refl _, ?_⟩
  have e := int_text_length_le10 hk h
  show (Str.ofString (toString i)).length ≤ k + 1
  rw [PySem.ofString_length]; exact e
theorem Nt.str {l : List Nat} (h : ∀ c ∈ l, c < 16 ^ 8) : Nt (.str l) 0 (10 * l.length + 8) := by
  refine ⟨_, rfl, rfl, Nat.le_refl _, ?_⟩
  have := PyData.shown_le 8 (by decide) (.str (S l)) (by
    have h' : ∀ c ∈ (S l).cps.toList, c < 16 ^ 8 := h
    simpa only [PyData.leavesShort, List.all_eq_true, decide_eq_true_eq] using h')
  have e : (PyData.str (S l)).weight = l.length := by show (S l).cps.size = _; simp [S]
  rw [e] at this
  exact this
theorem NtL.nil (a m : Nat) : NtL [] a m := ⟨[], rfl, rfl, fun d h => by cases h⟩
theorem NtL.cons {t : T} {ts : List T} {a m : Nat} (h : Nt t a m) (k : NtL ts a m) : NtL (t :: ts) a m := by
  obtain ⟨d, e, s⟩ := h
  obtain ⟨ds, e2, hl, s2⟩ := k
  refine ⟨d :: ds, ?_, by rw [List.length_cons, List.length_cons, hl], fun x hx => ?_⟩
  · show (T.pq t).bind _ = _
    rw [e]
    show (T.pqL ts).map _ = _
    rw [e2]; rfl
  · rcases List.mem_cons.mp hx with z | z
    · rw [z]; exact s
    · exact s2 x z
theorem NtL.of {a m : Nat} : ∀ {ts : List T}, (∀ t ∈ ts, Nt t a m) → NtL ts a m
  | [], _ => .nil a m
  | t :: ts, h => .cons (h t List.mem_cons_self) (NtL.of fun x hx => h x (List.mem_cons_of_mem _ hx))
theorem NtL.lst {ts : List T} {a m : Nat} (h : NtL ts a m) : Nt (.lst ts) (a + 1) ((m + 2) * ts.length + 3) := by
  obtain ⟨ds, e, hl, s⟩ := h
  refine ⟨.list ds, by show (T.pqL ts).map _ = _; rw [e]; rfl, ?_⟩
  rw [← hl]
  exact Sh.list s
theorem Sh.tuple {ds : List PyData} {a m : Nat} (h : ∀ d ∈ ds, Sh d a m) : Sh (.tuple ds) (a + 1) ((m + 2) * ds.length + 3) := by
  obtain ⟨k1, k2, k3⟩ := Sh.all h
  refine ⟨k1, Nat.succ_le_succ k2, ?_⟩
  have := tupleText_len_le (PyData.shownAll ds)
  rw [PyData.shownAll_length] at this
  refine Nat.le_trans this ?_
  rw [Nat.add_mul]
  omega
theorem NtL.tup {ts : List T} {a m : Nat} (h : NtL ts a m) : Nt (.tup ts) (a + 1) ((m + 2) * ts.length + 3) := by
  obtain ⟨ds, e, hl, s⟩ := h
  refine ⟨.tuple ds, by show (T.pqL ts).map _ = _; rw [e]; rfl, ?_⟩
  rw [← hl]
  exact Sh.tuple s
theorem Nt.lst {ts : List T} {a m : Nat} (h : ∀ t ∈ ts, Nt t a m) : Nt (.lst ts) (a + 1) ((m + 2) * ts.length + 3) := (NtL.of h).lst
theorem Nt.tup {ts : List T} {a m : Nat} (h : ∀ t ∈ ts, Nt t a m) : Nt (.tup ts) (a + 1) ((m + 2) * ts.length + 3) := (NtL.of h).tup
end O
namespace O
open PySem PySem.Spec PyProof.Rows L2
def stirI (n p : Int) : Int :=
  let one := (n * 998244353 + p * 1000000007 + 5) % 2305843009213693951
  let two := (one * one) % 2305843009213693951
  ((two * 2860486313 + p * p * 48271 + one / 3) % 2305843009213693921) / 1024
def fStir : List T → Ot
  | [.int n, .int p] => ⟨0 ≤ n ∧ n < 2305843009213693951 ∧ 0 ≤ p ∧ p < 2 ^ 60, (false, .int (stirI n p))⟩
  | _ => .no
theorem h__law_stir (ars : Rho) (Q : Po Rv) (h : SP fStir ars Q) : D__law_stir (ars ++ List.replicate 2 .no) (fwish ars Q) := by
  obtain ⟨ts, rfl, pre, q⟩ := h
  revert pre q
  unfold fStir
  split
  · rename_i n p
    intro pre q
    obtain ⟨n0, n1, p0, p1⟩ := pre
    show D__law_stir [.sh (.int n), .sh (.int p), .no, .no] _
    simp only [sSeq, sSet, sPar, sIf, sRet, sRetN, sDrop, sNext, sDead, sBrk, sCnt, sAsg, sFor, dNm, dTm, dC, dOp1, dOp2, dOpN, dMt, dMut, dCall, dLst, dTup, dNil, dCons, dVn, dVc, dSl, dSl3, dNoP, dPrt, dIf, dAndV, dOrV, dNotV, dBv, dTru, dNotT, dAndT, dOrT, dChn, dEqQ, dRpQ, qOp, qNil, qCons, qLs, qTp, dSrc, dRng1, dRng2, dZip2, dEnum, dComp, dYes, gNm, gTp, gCn, gNi, gIt, e_var, e_var1, e_var2, e_var3, e_var4, e_mov, e_mov1, e_mov2, e_mov3, e_mov4, e_tr1, e_tr2, e_tr3, e_tr4, e_tr5, e_own1, e_own2, e_reo1, e_reo2, e_of1, e_of2, e_pin1, e_pin2, e_pin3, e_arg1, e_arg2, e_arg3, e_arg4, e_isarg1, e_isarg2, e_conv1, e_conv2, e_conv3, e_conv4, e_conv5, e_conv6, e_sown1, e_sown2, e_sown3, e_sown4, e_put1, e_put2, e_po1, e_po2, e_p1, e_p2, e_ao1, e_ao2, e_nd0, e_nd1, e_nd2, e_sl, e_get1, e_get2, e_is, e_all, e_gets0, e_gets1, e_gets2, e_tms0, e_tms1, e_qg1, e_qg2, e_qg3, e_qgs0, e_qgs1, e_its1, e_its2, e_its3, e_its4, e_jts1, e_jts2, e_jts4, e_mt1, e_mt2, e_ty1, e_add1, e_add2, e_add3, e_sub, e_mul1, e_mul2, e_mul3, e_fdiv, e_mod, e_pow, e_neg, e_len1, e_len2, e_len3, e_len4, e_int1, e_int2, e_abs, e_max, e_min, e_ix1, e_ix2, e_ix3, e_ix4, e_eq1, e_eq2, e_eq3, e_lt1, e_le1, e_gt1, e_ge1, e_lt2, e_in1, e_app, e_ext, e_rev, e_clr, e_set, e_sl1, e_sl2, e_sl3, e_sl4, e_count, e_f1, e_f2, e_osh, e_owh, e_one, e_tt1, e_tt2, e_ctg1, e_ctg2, e_cn0, e_cn1, e_wi0, e_wi1, e_re0, e_re1, e_ifb1, e_ifb2, e_nm0, e_nm1, e_nm2, e_fa0, e_fa1, e_sum, e_allb, e_anyb, e_sp1, e_sp2, e_sp3, e_at0, e_at1, e_at2, e_at3, e_at4, e_at5, e_ixn40, e_ixn41, e_ixn42, e_ixn43, e_cp1, e_cp2, e_cp3, e_cp4, e_cp5, forall_eq, List.getD_cons_zero, List.getD_cons_succ, List.getD_nil, List.set_cons_zero, List.set_cons_succ, List.map_cons, List.map_nil, Option.map_some, Option.map_none, Option.bind_some, Option.bind_none, Option.getD_some, Option.some.injEq, exists_eq_left', exists_eq_left, exists_eq', exists_eq, decide_eq_true_eq, List.length_map, exists_eq_right, exists_and_left, exists_and_right, Option.isSome_some, T.int.injEq, T.str.injEq, T.lst.injEq, T.tup.injEq, T.bl.injEq, List.cons.injEq, Prod.mk.injEq, Hn.tm.injEq, true_and, and_true, and_assoc, and_self, ne_eq, not_false_eq_true, not_true_eq_false, ite_true, ite_false, if_true, if_false, reduceIte, reduceCtorEq, Bool.false_eq_true, false_and, and_false, imp_self, forall_const, implies_true, List.length_cons, List.length_nil, Nat.reduceAdd, Nat.reduceEqDiff, Bool.false_bne, Bool.true_bne, Bool.not_false, Bool.not_true, List.nil_append, List.cons_append, Int.reduceToNat, Int.reducePow, Int.reduceMul, Int.reduceSub, Int.reduceAdd, Int.reduceNeg, D__law_stir]
    have q : Q.ok (false, .int (stirI n p)) [.no, .no] := q
    unfold stirI at q
    have o0 := Int.emod_nonneg (n * 998244353 + p * 1000000007 + 5) (show (2305843009213693951 : Int) ≠ 0 by decide)
    have o1 := Int.emod_lt_of_pos (n * 998244353 + p * 1000000007 + 5) (show (0 : Int) < 2305843009213693951 by decide)
    generalize (n * 998244353 + p * 1000000007 + 5) % 2305843009213693951 = one at o0 o1 q ⊢
    exact ⟨.inl (.inr (by decide)), .inl (.inr (by decide)), by decide, .inl (.inr ⟨by omega, by omega⟩), by decide, .inl (.inr (by decide)), .inl (.inr ⟨by omega, by omega⟩), .inl (.inr (by decide)), ⟨by decide, by decide⟩, by decide, ⟨by decide, by decide⟩, q⟩
  · intro pre; exact pre.elim
def bagT (ns : List Int) (pos rest count total : Int) : T := .lst [.lst (ns.map T.int), .int pos, .int rest, .int count, .int total]
/-- a bag from which b more draws may come -/
def IsBag (b : Nat) (t : T) : Prop := ∃ (ns : List Int) (pos rest count total : Int), t = bagT ns pos rest count total ∧ ns.length ≤ sizeLine ∧ 0 ≤ pos ∧ pos ≤ ns.length ∧ 0 ≤ count ∧ count + b < 2 ^ 60 ∧ 0 ≤ total ∧ total < 2305843009213693951
theorem IsBag.less {b c : Nat} {t : T} (h : IsBag b t) (l : c ≤ b) : IsBag c t := by
  obtain ⟨ns, pos, rest, count, total, e, h1, h2, h3, h4, h5, h6, h7⟩ := h
  exact ⟨ns, pos, rest, count, total, e, h1, h2, h3, h4, by omega, h6, h7⟩
def SBag : Sx := fun ars Q => ∃ b t bound, ars = [.io t, .sh (.int bound)] ∧ IsBag (b + 1) t ∧ 0 < bound ∧ bound.natAbs.log2 < 9000 ∧ ∀ t' r, IsBag b t' → 0 ≤ r → r < bound → Q.ok (false, .int r) [.io t', .no]
theorem mn_SBag : Mn SBag := fun ρ Q Q' ⟨b, t, m, e, h1, h2, h3, q⟩ k _ => ⟨b, t, m, e, h1, h2, h3, fun t' r x y z => k _ _ (q t' r x y z)⟩
theorem sbag {b : Nat} {t : T} {bound : Int} {Q : Po Rv} (h1 : IsBag (b + 1) t) (h2 : 0 < bound) (h3 : bound.natAbs.log2 < 9000) (q : ∀ t' r, IsBag b t' → 0 ≤ r → r < bound → Q.ok (false, .int r) [.io t', .no]) : SBag [.io t, .sh (.int bound)] Q := ⟨b, t, bound, rfl, h1, h2, h3, q⟩
theorem e_ixn50 : ixN 5 0 = some 0 := rfl
theorem e_ixn51 : ixN 5 1 = some 1 := rfl
theorem e_ixn52 : ixN 5 2 = some 2 := rfl
theorem e_ixn53 : ixN 5 3 = some 3 := rfl
theorem e_ixn54 : ixN 5 4 = some 4 := rfl
theorem h__law_draw_2 (ars : Rho) (Q : Po Rv) (h : SBag ars Q) : D__law_draw_2 (SP fStir) (ars ++ List.replicate 2 .no) (fwish ars Q) := by
  obtain ⟨b, t, m, rfl, ⟨ns, pos, rest, count, total, rfl, h1, h2, h3, h4, h5, h6, h7⟩, m0, m1, q⟩ := h
  show D__law_draw_2 (SP fStir) [.io (bagT ns pos rest count total), .sh (.int m), .no, .no] _
  have md : ∀ i, CDivW i m = True := fun i => eq_true ⟨m0, m1⟩
  have r0 : ∀ i : Int, 0 ≤ i % m := fun i => Int.emod_nonneg _ (by omega)
  have r1 : ∀ i : Int, i % m < m := fun i => Int.emod_lt_of_pos _ m0
  by_cases hm : m = 1
  · subst hm
    simp only [sSeq, sSet, sPar, sIf, sRet, sRetN, sDrop, sNext, sDead, sBrk, sCnt, sAsg, sFor, dNm, dTm, dC, dOp1, dOp2, dOpN, dMt, dMut, dCall, dLst, dTup, dNil, dCons, dVn, dVc, dSl, dSl3, dNoP, dPrt, dIf, dAndV, dOrV, dNotV, dBv, dTru, dNotT, dAndT, dOrT, dChn, dEqQ, dRpQ, qOp, qNil, qCons, qLs, qTp, dSrc, dRng1, dRng2, dZip2, dEnum, dComp, dYes, gNm, gTp, gCn, gNi, gIt, e_var, e_var1, e_var2, e_var3, e_var4, e_mov, e_mov1, e_mov2, e_mov3, e_mov4, e_tr1, e_tr2, e_tr3, e_tr4, e_tr5, e_own1, e_own2, e_reo1, e_reo2, e_of1, e_of2, e_pin1, e_pin2, e_pin3, e_arg1, e_arg2, e_arg3, e_arg4, e_isarg1, e_isarg2, e_conv1, e_conv2, e_conv3, e_conv4, e_conv5, e_conv6, e_sown1, e_sown2, e_sown3, e_sown4, e_put1, e_put2, e_po1, e_po2, e_p1, e_p2, e_ao1, e_ao2, e_nd0, e_nd1, e_nd2, e_sl, e_get1, e_get2, e_is, e_all, e_gets0, e_gets1, e_gets2, e_tms0, e_tms1, e_qg1, e_qg2, e_qg3, e_qgs0, e_qgs1, e_its1, e_its2, e_its3, e_its4, e_jts1, e_jts2, e_jts4, e_mt1, e_mt2, e_ty1, e_add1, e_add2, e_add3, e_sub, e_mul1, e_mul2, e_mul3, e_fdiv, e_mod, e_pow, e_neg, e_len1, e_len2, e_len3, e_len4, e_int1, e_int2, e_abs, e_max, e_min, e_ix1, e_ix2, e_ix3, e_ix4, e_eq1, e_eq2, e_eq3, e_lt1, e_le1, e_gt1, e_ge1, e_lt2, e_in1, e_app, e_ext, e_rev, e_clr, e_set, e_sl1, e_sl2, e_sl3, e_sl4, e_count, e_f1, e_f2, e_osh, e_owh, e_one, e_tt1, e_tt2, e_ctg1, e_ctg2, e_cn0, e_cn1, e_wi0, e_wi1, e_re0, e_re1, e_ifb1, e_ifb2, e_nm0, e_nm1, e_nm2, e_fa0, e_fa1, e_sum, e_allb, e_anyb, e_sp1, e_sp2, e_sp3, e_at0, e_at1, e_at2, e_at3, e_at4, e_at5, e_ixn40, e_ixn41, e_ixn42, e_ixn43, e_cp1, e_cp2, e_cp3, e_cp4, e_cp5, forall_eq, List.getD_cons_zero, List.getD_cons_succ, List.getD_nil, List.set_cons_zero, List.set_cons_succ, List.map_cons, List.map_nil, Option.map_some, Option.map_none, Option.bind_some, Option.bind_none, Option.getD_some, Option.some.injEq, exists_eq_left', exists_eq_left, exists_eq', exists_eq, decide_eq_true_eq, List.length_map, exists_eq_right, exists_and_left, exists_and_right, Option.isSome_some, T.int.injEq, T.str.injEq, T.lst.injEq, T.tup.injEq, T.bl.injEq, List.cons.injEq, Prod.mk.injEq, Hn.tm.injEq, true_and, and_true, and_assoc, and_self, ne_eq, not_false_eq_true, not_true_eq_false, ite_true, ite_false, if_true, if_false, reduceIte, reduceCtorEq, Bool.false_eq_true, false_and, and_false, imp_self, forall_const, implies_true, List.length_cons, List.length_nil, Nat.reduceAdd, Nat.reduceEqDiff, Bool.false_bne, Bool.true_bne, Bool.not_false, Bool.not_true, List.nil_append, List.cons_append, Int.reduceToNat, Int.reducePow, Int.reduceMul, Int.reduceSub, Int.reduceAdd, Int.reduceNeg, D__law_draw_2, bagT, decide_true]
    exact q _ 0 (IsBag.less (b := b + 1) ⟨ns, pos, rest, count, total, rfl, h1, h2, h3, h4, h5, h6, h7⟩ (Nat.le_succ b)) (by decide) (by decide)
  · by_cases hr : rest < 2
    · by_cases hp : pos = ns.length
      · subst hp
        simp only [sSeq, sSet, sPar, sIf, sRet, sRetN, sDrop, sNext, sDead, sBrk, sCnt, sAsg, sFor, dNm, dTm, dC, dOp1, dOp2, dOpN, dMt, dMut, dCall, dLst, dTup, dNil, dCons, dVn, dVc, dSl, dSl3, dNoP, dPrt, dIf, dAndV, dOrV, dNotV, dBv, dTru, dNotT, dAndT, dOrT, dChn, dEqQ, dRpQ, qOp, qNil, qCons, qLs, qTp, dSrc, dRng1, dRng2, dZip2, dEnum, dComp, dYes, gNm, gTp, gCn, gNi, gIt, e_var, e_var1, e_var2, e_var3, e_var4, e_mov, e_mov1, e_mov2, e_mov3, e_mov4, e_tr1, e_tr2, e_tr3, e_tr4, e_tr5, e_own1, e_own2, e_reo1, e_reo2, e_of1, e_of2, e_pin1, e_pin2, e_pin3, e_arg1, e_arg2, e_arg3, e_arg4, e_isarg1, e_isarg2, e_conv1, e_conv2, e_conv3, e_conv4, e_conv5, e_conv6, e_sown1, e_sown2, e_sown3, e_sown4, e_put1, e_put2, e_po1, e_po2, e_p1, e_p2, e_ao1, e_ao2, e_nd0, e_nd1, e_nd2, e_sl, e_get1, e_get2, e_is, e_all, e_gets0, e_gets1, e_gets2, e_tms0, e_tms1, e_qg1, e_qg2, e_qg3, e_qgs0, e_qgs1, e_its1, e_its2, e_its3, e_its4, e_jts1, e_jts2, e_jts4, e_mt1, e_mt2, e_ty1, e_add1, e_add2, e_add3, e_sub, e_mul1, e_mul2, e_mul3, e_fdiv, e_mod, e_pow, e_neg, e_len1, e_len2, e_len3, e_len4, e_int1, e_int2, e_abs, e_max, e_min, e_ix1, e_ix2, e_ix3, e_ix4, e_eq1, e_eq2, e_eq3, e_lt1, e_le1, e_gt1, e_ge1, e_lt2, e_in1, e_app, e_ext, e_rev, e_clr, e_set, e_sl1, e_sl2, e_sl3, e_sl4, e_count, e_f1, e_f2, e_osh, e_owh, e_one, e_tt1, e_tt2, e_ctg1, e_ctg2, e_cn0, e_cn1, e_wi0, e_wi1, e_re0, e_re1, e_ifb1, e_ifb2, e_nm0, e_nm1, e_nm2, e_fa0, e_fa1, e_sum, e_allb, e_anyb, e_sp1, e_sp2, e_sp3, e_at0, e_at1, e_at2, e_at3, e_at4, e_at5, e_ixn40, e_ixn41, e_ixn42, e_ixn43, e_cp1, e_cp2, e_cp3, e_cp4, e_cp5, forall_eq, List.getD_cons_zero, List.getD_cons_succ, List.getD_nil, List.set_cons_zero, List.set_cons_succ, List.map_cons, List.map_nil, Option.map_some, Option.map_none, Option.bind_some, Option.bind_none, Option.getD_some, Option.some.injEq, exists_eq_left', exists_eq_left, exists_eq', exists_eq, decide_eq_true_eq, List.length_map, exists_eq_right, exists_and_left, exists_and_right, Option.isSome_some, T.int.injEq, T.str.injEq, T.lst.injEq, T.tup.injEq, T.bl.injEq, List.cons.injEq, Prod.mk.injEq, Hn.tm.injEq, true_and, and_true, and_assoc, and_self, ne_eq, not_false_eq_true, not_true_eq_false, ite_true, ite_false, if_true, if_false, reduceIte, reduceCtorEq, Bool.false_eq_true, false_and, and_false, imp_self, forall_const, implies_true, List.length_cons, List.length_nil, Nat.reduceAdd, Nat.reduceEqDiff, Bool.false_bne, Bool.true_bne, Bool.not_false, Bool.not_true, List.nil_append, List.cons_append, Int.reduceToNat, Int.reducePow, Int.reduceMul, Int.reduceSub, Int.reduceAdd, Int.reduceNeg, D__law_draw_2, bagT, fStir, md, e_ixn50, e_ixn51, e_ixn52, e_ixn53, e_ixn54, hm, hr, decide_true, decide_false]
        exact ⟨by omega, by omega, by omega, by omega, m0, q (bagT ns _ rest (count + 1) total) _ ⟨ns, _, rest, count + 1, total, rfl, h1, h2, h3, by omega, by omega, h6, h7⟩ (r0 _) (r1 _)⟩
      · have lp : pos < (ns.length : Int) := by omega
        obtain ⟨c, cm, ec⟩ := atI_in (xs := ns) h2 lp
        have ec2 : L2.atI (ns.map T.int) pos = some (.int c) := by rw [atI_map, ec]; rfl
        have c0 := Int.emod_nonneg c (show (2305843009213693951 : Int) ≠ 0 by decide)
        have c1 := Int.emod_lt_of_pos c (show (0 : Int) < 2305843009213693951 by decide)
        have b1 : IsBag b (bagT ns (pos + 1) rest (count + 1) total) := ⟨ns, pos + 1, rest, count + 1, total, rfl, h1, by omega, by omega, by omega, by omega, h6, h7⟩
        have b2 : IsBag b (bagT ns (pos + 1) ((c - 1000000000000000000) / m) (count + 1) total) := ⟨ns, pos + 1, _, count + 1, total, rfl, h1, by omega, by omega, by omega, by omega, h6, h7⟩
        by_cases hc : c < 1000000000000000000
        · simp only [sSeq, sSet, sPar, sIf, sRet, sRetN, sDrop, sNext, sDead, sBrk, sCnt, sAsg, sFor, dNm, dTm, dC, dOp1, dOp2, dOpN, dMt, dMut, dCall, dLst, dTup, dNil, dCons, dVn, dVc, dSl, dSl3, dNoP, dPrt, dIf, dAndV, dOrV, dNotV, dBv, dTru, dNotT, dAndT, dOrT, dChn, dEqQ, dRpQ, qOp, qNil, qCons, qLs, qTp, dSrc, dRng1, dRng2, dZip2, dEnum, dComp, dYes, gNm, gTp, gCn, gNi, gIt, e_var, e_var1, e_var2, e_var3, e_var4, e_mov, e_mov1, e_mov2, e_mov3, e_mov4, e_tr1, e_tr2, e_tr3, e_tr4, e_tr5, e_own1, e_own2, e_reo1, e_reo2, e_of1, e_of2, e_pin1, e_pin2, e_pin3, e_arg1, e_arg2, e_arg3, e_arg4, e_isarg1, e_isarg2, e_conv1, e_conv2, e_conv3, e_conv4, e_conv5, e_conv6, e_sown1, e_sown2, e_sown3, e_sown4, e_put1, e_put2, e_po1, e_po2, e_p1, e_p2, e_ao1, e_ao2, e_nd0, e_nd1, e_nd2, e_sl, e_get1, e_get2, e_is, e_all, e_gets0, e_gets1, e_gets2, e_tms0, e_tms1, e_qg1, e_qg2, e_qg3, e_qgs0, e_qgs1, e_its1, e_its2, e_its3, e_its4, e_jts1, e_jts2, e_jts4, e_mt1, e_mt2, e_ty1, e_add1, e_add2, e_add3, e_sub, e_mul1, e_mul2, e_mul3, e_fdiv, e_mod, e_pow, e_neg, e_len1, e_len2, e_len3, e_len4, e_int1, e_int2, e_abs, e_max, e_min, e_ix1, e_ix2, e_ix3, e_ix4, e_eq1, e_eq2, e_eq3, e_lt1, e_le1, e_gt1, e_ge1, e_lt2, e_in1, e_app, e_ext, e_rev, e_clr, e_set, e_sl1, e_sl2, e_sl3, e_sl4, e_count, e_f1, e_f2, e_osh, e_owh, e_one, e_tt1, e_tt2, e_ctg1, e_ctg2, e_cn0, e_cn1, e_wi0, e_wi1, e_re0, e_re1, e_ifb1, e_ifb2, e_nm0, e_nm1, e_nm2, e_fa0, e_fa1, e_sum, e_allb, e_anyb, e_sp1, e_sp2, e_sp3, e_at0, e_at1, e_at2, e_at3, e_at4, e_at5, e_ixn40, e_ixn41, e_ixn42, e_ixn43, e_cp1, e_cp2, e_cp3, e_cp4, e_cp5, forall_eq, List.getD_cons_zero, List.getD_cons_succ, List.getD_nil, List.set_cons_zero, List.set_cons_succ, List.map_cons, List.map_nil, Option.map_some, Option.map_none, Option.bind_some, Option.bind_none, Option.getD_some, Option.some.injEq, exists_eq_left', exists_eq_left, exists_eq', exists_eq, decide_eq_true_eq, List.length_map, exists_eq_right, exists_and_left, exists_and_right, Option.isSome_some, T.int.injEq, T.str.injEq, T.lst.injEq, T.tup.injEq, T.bl.injEq, List.cons.injEq, Prod.mk.injEq, Hn.tm.injEq, true_and, and_true, and_assoc, and_self, ne_eq, not_false_eq_true, not_true_eq_false, ite_true, ite_false, if_true, if_false, reduceIte, reduceCtorEq, Bool.false_eq_true, false_and, and_false, imp_self, forall_const, implies_true, List.length_cons, List.length_nil, Nat.reduceAdd, Nat.reduceEqDiff, Bool.false_bne, Bool.true_bne, Bool.not_false, Bool.not_true, List.nil_append, List.cons_append, Int.reduceToNat, Int.reducePow, Int.reduceMul, Int.reduceSub, Int.reduceAdd, Int.reduceNeg, D__law_draw_2, bagT, fStir, md, e_ixn50, e_ixn51, e_ixn52, e_ixn53, e_ixn54, hm, hr, hp, decide_true, decide_false, ec2, hc]
          exact ⟨by decide, c0, c1, by omega, by omega, m0, q _ _ b1 (r0 _) (r1 _)⟩
        · simp only [sSeq, sSet, sPar, sIf, sRet, sRetN, sDrop, sNext, sDead, sBrk, sCnt, sAsg, sFor, dNm, dTm, dC, dOp1, dOp2, dOpN, dMt, dMut, dCall, dLst, dTup, dNil, dCons, dVn, dVc, dSl, dSl3, dNoP, dPrt, dIf, dAndV, dOrV, dNotV, dBv, dTru, dNotT, dAndT, dOrT, dChn, dEqQ, dRpQ, qOp, qNil, qCons, qLs, qTp, dSrc, dRng1, dRng2, dZip2, dEnum, dComp, dYes, gNm, gTp, gCn, gNi, gIt, e_var, e_var1, e_var2, e_var3, e_var4, e_mov, e_mov1, e_mov2, e_mov3, e_mov4, e_tr1, e_tr2, e_tr3, e_tr4, e_tr5, e_own1, e_own2, e_reo1, e_reo2, e_of1, e_of2, e_pin1, e_pin2, e_pin3, e_arg1, e_arg2, e_arg3, e_arg4, e_isarg1, e_isarg2, e_conv1, e_conv2, e_conv3, e_conv4, e_conv5, e_conv6, e_sown1, e_sown2, e_sown3, e_sown4, e_put1, e_put2, e_po1, e_po2, e_p1, e_p2, e_ao1, e_ao2, e_nd0, e_nd1, e_nd2, e_sl, e_get1, e_get2, e_is, e_all, e_gets0, e_gets1, e_gets2, e_tms0, e_tms1, e_qg1, e_qg2, e_qg3, e_qgs0, e_qgs1, e_its1, e_its2, e_its3, e_its4, e_jts1, e_jts2, e_jts4, e_mt1, e_mt2, e_ty1, e_add1, e_add2, e_add3, e_sub, e_mul1, e_mul2, e_mul3, e_fdiv, e_mod, e_pow, e_neg, e_len1, e_len2, e_len3, e_len4, e_int1, e_int2, e_abs, e_max, e_min, e_ix1, e_ix2, e_ix3, e_ix4, e_eq1, e_eq2, e_eq3, e_lt1, e_le1, e_gt1, e_ge1, e_lt2, e_in1, e_app, e_ext, e_rev, e_clr, e_set, e_sl1, e_sl2, e_sl3, e_sl4, e_count, e_f1, e_f2, e_osh, e_owh, e_one, e_tt1, e_tt2, e_ctg1, e_ctg2, e_cn0, e_cn1, e_wi0, e_wi1, e_re0, e_re1, e_ifb1, e_ifb2, e_nm0, e_nm1, e_nm2, e_fa0, e_fa1, e_sum, e_allb, e_anyb, e_sp1, e_sp2, e_sp3, e_at0, e_at1, e_at2, e_at3, e_at4, e_at5, e_ixn40, e_ixn41, e_ixn42, e_ixn43, e_cp1, e_cp2, e_cp3, e_cp4, e_cp5, forall_eq, List.getD_cons_zero, List.getD_cons_succ, List.getD_nil, List.set_cons_zero, List.set_cons_succ, List.map_cons, List.map_nil, Option.map_some, Option.map_none, Option.bind_some, Option.bind_none, Option.getD_some, Option.some.injEq, exists_eq_left', exists_eq_left, exists_eq', exists_eq, decide_eq_true_eq, List.length_map, exists_eq_right, exists_and_left, exists_and_right, Option.isSome_some, T.int.injEq, T.str.injEq, T.lst.injEq, T.tup.injEq, T.bl.injEq, List.cons.injEq, Prod.mk.injEq, Hn.tm.injEq, true_and, and_true, and_assoc, and_self, ne_eq, not_false_eq_true, not_true_eq_false, ite_true, ite_false, if_true, if_false, reduceIte, reduceCtorEq, Bool.false_eq_true, false_and, and_false, imp_self, forall_const, implies_true, List.length_cons, List.length_nil, Nat.reduceAdd, Nat.reduceEqDiff, Bool.false_bne, Bool.true_bne, Bool.not_false, Bool.not_true, List.nil_append, List.cons_append, Int.reduceToNat, Int.reducePow, Int.reduceMul, Int.reduceSub, Int.reduceAdd, Int.reduceNeg, D__law_draw_2, bagT, fStir, md, e_ixn50, e_ixn51, e_ixn52, e_ixn53, e_ixn54, hm, hr, hp, decide_true, decide_false, ec2, hc]
          exact ⟨m0, q _ _ b2 (r0 _) (r1 _)⟩
    · simp only [sSeq, sSet, sPar, sIf, sRet, sRetN, sDrop, sNext, sDead, sBrk, sCnt, sAsg, sFor, dNm, dTm, dC, dOp1, dOp2, dOpN, dMt, dMut, dCall, dLst, dTup, dNil, dCons, dVn, dVc, dSl, dSl3, dNoP, dPrt, dIf, dAndV, dOrV, dNotV, dBv, dTru, dNotT, dAndT, dOrT, dChn, dEqQ, dRpQ, qOp, qNil, qCons, qLs, qTp, dSrc, dRng1, dRng2, dZip2, dEnum, dComp, dYes, gNm, gTp, gCn, gNi, gIt, e_var, e_var1, e_var2, e_var3, e_var4, e_mov, e_mov1, e_mov2, e_mov3, e_mov4, e_tr1, e_tr2, e_tr3, e_tr4, e_tr5, e_own1, e_own2, e_reo1, e_reo2, e_of1, e_of2, e_pin1, e_pin2, e_pin3, e_arg1, e_arg2, e_arg3, e_arg4, e_isarg1, e_isarg2, e_conv1, e_conv2, e_conv3, e_conv4, e_conv5, e_conv6, e_sown1, e_sown2, e_sown3, e_sown4, e_put1, e_put2, e_po1, e_po2, e_p1, e_p2, e_ao1, e_ao2, e_nd0, e_nd1, e_nd2, e_sl, e_get1, e_get2, e_is, e_all, e_gets0, e_gets1, e_gets2, e_tms0, e_tms1, e_qg1, e_qg2, e_qg3, e_qgs0, e_qgs1, e_its1, e_its2, e_its3, e_its4, e_jts1, e_jts2, e_jts4, e_mt1, e_mt2, e_ty1, e_add1, e_add2, e_add3, e_sub, e_mul1, e_mul2, e_mul3, e_fdiv, e_mod, e_pow, e_neg, e_len1, e_len2, e_len3, e_len4, e_int1, e_int2, e_abs, e_max, e_min, e_ix1, e_ix2, e_ix3, e_ix4, e_eq1, e_eq2, e_eq3, e_lt1, e_le1, e_gt1, e_ge1, e_lt2, e_in1, e_app, e_ext, e_rev, e_clr, e_set, e_sl1, e_sl2, e_sl3, e_sl4, e_count, e_f1, e_f2, e_osh, e_owh, e_one, e_tt1, e_tt2, e_ctg1, e_ctg2, e_cn0, e_cn1, e_wi0, e_wi1, e_re0, e_re1, e_ifb1, e_ifb2, e_nm0, e_nm1, e_nm2, e_fa0, e_fa1, e_sum, e_allb, e_anyb, e_sp1, e_sp2, e_sp3, e_at0, e_at1, e_at2, e_at3, e_at4, e_at5, e_ixn40, e_ixn41, e_ixn42, e_ixn43, e_cp1, e_cp2, e_cp3, e_cp4, e_cp5, forall_eq, List.getD_cons_zero, List.getD_cons_succ, List.getD_nil, List.set_cons_zero, List.set_cons_succ, List.map_cons, List.map_nil, Option.map_some, Option.map_none, Option.bind_some, Option.bind_none, Option.getD_some, Option.some.injEq, exists_eq_left', exists_eq_left, exists_eq', exists_eq, decide_eq_true_eq, List.length_map, exists_eq_right, exists_and_left, exists_and_right, Option.isSome_some, T.int.injEq, T.str.injEq, T.lst.injEq, T.tup.injEq, T.bl.injEq, List.cons.injEq, Prod.mk.injEq, Hn.tm.injEq, true_and, and_true, and_assoc, and_self, ne_eq, not_false_eq_true, not_true_eq_false, ite_true, ite_false, if_true, if_false, reduceIte, reduceCtorEq, Bool.false_eq_true, false_and, and_false, imp_self, forall_const, implies_true, List.length_cons, List.length_nil, Nat.reduceAdd, Nat.reduceEqDiff, Bool.false_bne, Bool.true_bne, Bool.not_false, Bool.not_true, List.nil_append, List.cons_append, Int.reduceToNat, Int.reducePow, Int.reduceMul, Int.reduceSub, Int.reduceAdd, Int.reduceNeg, D__law_draw_2, bagT, fStir, md, e_ixn50, e_ixn51, e_ixn52, e_ixn53, e_ixn54, hm, hr, decide_true, decide_false]
      exact ⟨m0, q (bagT ns pos (rest / m) (count + 1) total) _ ⟨ns, pos, _, count + 1, total, rfl, h1, h2, h3, by omega, by omega, h6, h7⟩ (r0 _) (r1 _)⟩
def SMake : Sx := fun ars Q => ∃ ns : List Int, ars = [.sh (.scr (ns.map T.int))] ∧ ns.length ≤ 63 ∧ ∀ b t, b = 2 ^ 58 → IsBag b t → Q.ok (true, t) [.no]
theorem mn_SMake : Mn SMake := fun ρ Q Q' ⟨ns, a, b, q⟩ k _ => ⟨ns, a, b, fun b t x y => k _ _ (q b t x y)⟩
theorem smake {ns : List Int} {Q : Po Rv} (h : ns.length ≤ 63) (q : ∀ b t, b = 2 ^ 58 → IsBag b t → Q.ok (true, t) [.no]) : SMake [.sh (.scr (ns.map T.int))] Q := ⟨ns, rfl, h, q⟩
theorem loop__law_bag (a : T) (Q : PoS) : ∀ (l : List Int) (total : Int) (s : Sl), s.pin = false → 0 ≤ total → total < 2305843009213693951 → (∀ total' s', 0 ≤ total' → total' < 2305843009213693951 → Q.nx [.sh a, .sh (.int total'), s']) →
    forD (gNm 2) B__law_bag_1 Q (l.map T.int) [.sh a, .sh (.int total), s] := by
  intro l
  induction l with
  | nil => intro total s h h0 h1 q; exact q total s h0 h1
  | cons c l ih =>
    intro total s h h0 h1 q
    refine forD_step fun K hK => ?_
    simp only [sSeq, sSet, sPar, sIf, sRet, sRetN, sDrop, sNext, sDead, sBrk, sCnt, sAsg, sFor, dNm, dTm, dC, dOp1, dOp2, dOpN, dMt, dMut, dCall, dLst, dTup, dNil, dCons, dVn, dVc, dSl, dSl3, dNoP, dPrt, dIf, dAndV, dOrV, dNotV, dBv, dTru, dNotT, dAndT, dOrT, dChn, dEqQ, dRpQ, qOp, qNil, qCons, qLs, qTp, dSrc, dRng1, dRng2, dZip2, dEnum, dComp, dYes, gNm, gTp, gCn, gNi, gIt, e_var, e_var1, e_var2, e_var3, e_var4, e_mov, e_mov1, e_mov2, e_mov3, e_mov4, e_tr1, e_tr2, e_tr3, e_tr4, e_tr5, e_own1, e_own2, e_reo1, e_reo2, e_of1, e_of2, e_pin1, e_pin2, e_pin3, e_arg1, e_arg2, e_arg3, e_arg4, e_isarg1, e_isarg2, e_conv1, e_conv2, e_conv3, e_conv4, e_conv5, e_conv6, e_sown1, e_sown2, e_sown3, e_sown4, e_put1, e_put2, e_po1, e_po2, e_p1, e_p2, e_ao1, e_ao2, e_nd0, e_nd1, e_nd2, e_sl, e_get1, e_get2, e_is, e_all, e_gets0, e_gets1, e_gets2, e_tms0, e_tms1, e_qg1, e_qg2, e_qg3, e_qgs0, e_qgs1, e_its1, e_its2, e_its3, e_its4, e_jts1, e_jts2, e_jts4, e_mt1, e_mt2, e_ty1, e_add1, e_add2, e_add3, e_sub, e_mul1, e_mul2, e_mul3, e_fdiv, e_mod, e_pow, e_neg, e_len1, e_len2, e_len3, e_len4, e_int1, e_int2, e_abs, e_max, e_min, e_ix1, e_ix2, e_ix3, e_ix4, e_eq1, e_eq2, e_eq3, e_lt1, e_le1, e_gt1, e_ge1, e_lt2, e_in1, e_app, e_ext, e_rev, e_clr, e_set, e_sl1, e_sl2, e_sl3, e_sl4, e_count, e_f1, e_f2, e_osh, e_owh, e_one, e_tt1, e_tt2, e_ctg1, e_ctg2, e_cn0, e_cn1, e_wi0, e_wi1, e_re0, e_re1, e_ifb1, e_ifb2, e_nm0, e_nm1, e_nm2, e_fa0, e_fa1, e_sum, e_allb, e_anyb, e_sp1, e_sp2, e_sp3, e_at0, e_at1, e_at2, e_at3, e_at4, e_at5, e_ixn40, e_ixn41, e_ixn42, e_ixn43, e_cp1, e_cp2, e_cp3, e_cp4, e_cp5, forall_eq, List.getD_cons_zero, List.getD_cons_succ, List.getD_nil, List.set_cons_zero, List.set_cons_succ, List.map_cons, List.map_nil, Option.map_some, Option.map_none, Option.bind_some, Option.bind_none, Option.getD_some, Option.some.injEq, exists_eq_left', exists_eq_left, exists_eq', exists_eq, decide_eq_true_eq, List.length_map, exists_eq_right, exists_and_left, exists_and_right, Option.isSome_some, T.int.injEq, T.str.injEq, T.lst.injEq, T.tup.injEq, T.bl.injEq, List.cons.injEq, Prod.mk.injEq, Hn.tm.injEq, true_and, and_true, and_assoc, and_self, ne_eq, not_false_eq_true, not_true_eq_false, ite_true, ite_false, if_true, if_false, reduceIte, reduceCtorEq, Bool.false_eq_true, false_and, and_false, imp_self, forall_const, implies_true, List.length_cons, List.length_nil, Nat.reduceAdd, Nat.reduceEqDiff, Bool.false_bne, Bool.true_bne, Bool.not_false, Bool.not_true, List.nil_append, List.cons_append, Int.reduceToNat, Int.reducePow, Int.reduceMul, Int.reduceSub, Int.reduceAdd, Int.reduceNeg, B__law_bag_1, h]
    exact ⟨.inl (.inr (by decide)), by decide, by decide, hK _ (ih _ _ rfl (Int.emod_nonneg _ (by decide)) (Int.emod_lt_of_pos _ (by decide)) q)⟩
theorem h__law_bag (ars : Rho) (Q : Po Rv) (h : SMake ars Q) : D__law_bag (ars ++ List.replicate 2 .no) (fwish ars Q) := by
  obtain ⟨ns, rfl, hl, q⟩ := h
  have hs := sizeLine_eq
  show D__law_bag [.sh (.scr (ns.map T.int)), .no, .no] _
  simp only [sSeq, sSet, sPar, sIf, sRet, sRetN, sDrop, sNext, sDead, sBrk, sCnt, sAsg, sFor, dNm, dTm, dC, dOp1, dOp2, dOpN, dMt, dMut, dCall, dLst, dTup, dNil, dCons, dVn, dVc, dSl, dSl3, dNoP, dPrt, dIf, dAndV, dOrV, dNotV, dBv, dTru, dNotT, dAndT, dOrT, dChn, dEqQ, dRpQ, qOp, qNil, qCons, qLs, qTp, dSrc, dRng1, dRng2, dZip2, dEnum, dComp, dYes, gNm, gTp, gCn, gNi, gIt, e_var, e_var1, e_var2, e_var3, e_var4, e_mov, e_mov1, e_mov2, e_mov3, e_mov4, e_tr1, e_tr2, e_tr3, e_tr4, e_tr5, e_own1, e_own2, e_reo1, e_reo2, e_of1, e_of2, e_pin1, e_pin2, e_pin3, e_arg1, e_arg2, e_arg3, e_arg4, e_isarg1, e_isarg2, e_conv1, e_conv2, e_conv3, e_conv4, e_conv5, e_conv6, e_sown1, e_sown2, e_sown3, e_sown4, e_put1, e_put2, e_po1, e_po2, e_p1, e_p2, e_ao1, e_ao2, e_nd0, e_nd1, e_nd2, e_sl, e_get1, e_get2, e_is, e_all, e_gets0, e_gets1, e_gets2, e_tms0, e_tms1, e_qg1, e_qg2, e_qg3, e_qgs0, e_qgs1, e_its1, e_its2, e_its3, e_its4, e_jts1, e_jts2, e_jts4, e_mt1, e_mt2, e_ty1, e_add1, e_add2, e_add3, e_sub, e_mul1, e_mul2, e_mul3, e_fdiv, e_mod, e_pow, e_neg, e_len1, e_len2, e_len3, e_len4, e_int1, e_int2, e_abs, e_max, e_min, e_ix1, e_ix2, e_ix3, e_ix4, e_eq1, e_eq2, e_eq3, e_lt1, e_le1, e_gt1, e_ge1, e_lt2, e_in1, e_app, e_ext, e_rev, e_clr, e_set, e_sl1, e_sl2, e_sl3, e_sl4, e_count, e_f1, e_f2, e_osh, e_owh, e_one, e_tt1, e_tt2, e_ctg1, e_ctg2, e_cn0, e_cn1, e_wi0, e_wi1, e_re0, e_re1, e_ifb1, e_ifb2, e_nm0, e_nm1, e_nm2, e_fa0, e_fa1, e_sum, e_allb, e_anyb, e_sp1, e_sp2, e_sp3, e_at0, e_at1, e_at2, e_at3, e_at4, e_at5, e_ixn40, e_ixn41, e_ixn42, e_ixn43, e_cp1, e_cp2, e_cp3, e_cp4, e_cp5, forall_eq, List.getD_cons_zero, List.getD_cons_succ, List.getD_nil, List.set_cons_zero, List.set_cons_succ, List.map_cons, List.map_nil, Option.map_some, Option.map_none, Option.bind_some, Option.bind_none, Option.getD_some, Option.some.injEq, exists_eq_left', exists_eq_left, exists_eq', exists_eq, decide_eq_true_eq, List.length_map, exists_eq_right, exists_and_left, exists_and_right, Option.isSome_some, T.int.injEq, T.str.injEq, T.lst.injEq, T.tup.injEq, T.bl.injEq, List.cons.injEq, Prod.mk.injEq, Hn.tm.injEq, true_and, and_true, and_assoc, and_self, ne_eq, not_false_eq_true, not_true_eq_false, ite_true, ite_false, if_true, if_false, reduceIte, reduceCtorEq, Bool.false_eq_true, false_and, and_false, imp_self, forall_const, implies_true, List.length_cons, List.length_nil, Nat.reduceAdd, Nat.reduceEqDiff, Bool.false_bne, Bool.true_bne, Bool.not_false, Bool.not_true, List.nil_append, List.cons_append, Int.reduceToNat, Int.reducePow, Int.reduceMul, Int.reduceSub, Int.reduceAdd, Int.reduceNeg, D__law_bag]
  refine loop__law_bag _ _ _ _ _ rfl (by decide) (by decide) fun total s h0 h1 => ?_
  simp only [sSeq, sSet, sPar, sIf, sRet, sRetN, sDrop, sNext, sDead, sBrk, sCnt, sAsg, sFor, dNm, dTm, dC, dOp1, dOp2, dOpN, dMt, dMut, dCall, dLst, dTup, dNil, dCons, dVn, dVc, dSl, dSl3, dNoP, dPrt, dIf, dAndV, dOrV, dNotV, dBv, dTru, dNotT, dAndT, dOrT, dChn, dEqQ, dRpQ, qOp, qNil, qCons, qLs, qTp, dSrc, dRng1, dRng2, dZip2, dEnum, dComp, dYes, gNm, gTp, gCn, gNi, gIt, e_var, e_var1, e_var2, e_var3, e_var4, e_mov, e_mov1, e_mov2, e_mov3, e_mov4, e_tr1, e_tr2, e_tr3, e_tr4, e_tr5, e_own1, e_own2, e_reo1, e_reo2, e_of1, e_of2, e_pin1, e_pin2, e_pin3, e_arg1, e_arg2, e_arg3, e_arg4, e_isarg1, e_isarg2, e_conv1, e_conv2, e_conv3, e_conv4, e_conv5, e_conv6, e_sown1, e_sown2, e_sown3, e_sown4, e_put1, e_put2, e_po1, e_po2, e_p1, e_p2, e_ao1, e_ao2, e_nd0, e_nd1, e_nd2, e_sl, e_get1, e_get2, e_is, e_all, e_gets0, e_gets1, e_gets2, e_tms0, e_tms1, e_qg1, e_qg2, e_qg3, e_qgs0, e_qgs1, e_its1, e_its2, e_its3, e_its4, e_jts1, e_jts2, e_jts4, e_mt1, e_mt2, e_ty1, e_add1, e_add2, e_add3, e_sub, e_mul1, e_mul2, e_mul3, e_fdiv, e_mod, e_pow, e_neg, e_len1, e_len2, e_len3, e_len4, e_int1, e_int2, e_abs, e_max, e_min, e_ix1, e_ix2, e_ix3, e_ix4, e_eq1, e_eq2, e_eq3, e_lt1, e_le1, e_gt1, e_ge1, e_lt2, e_in1, e_app, e_ext, e_rev, e_clr, e_set, e_sl1, e_sl2, e_sl3, e_sl4, e_count, e_f1, e_f2, e_osh, e_owh, e_one, e_tt1, e_tt2, e_ctg1, e_ctg2, e_cn0, e_cn1, e_wi0, e_wi1, e_re0, e_re1, e_ifb1, e_ifb2, e_nm0, e_nm1, e_nm2, e_fa0, e_fa1, e_sum, e_allb, e_anyb, e_sp1, e_sp2, e_sp3, e_at0, e_at1, e_at2, e_at3, e_at4, e_at5, e_ixn40, e_ixn41, e_ixn42, e_ixn43, e_cp1, e_cp2, e_cp3, e_cp4, e_cp5, forall_eq, List.getD_cons_zero, List.getD_cons_succ, List.getD_nil, List.set_cons_zero, List.set_cons_succ, List.map_cons, List.map_nil, Option.map_some, Option.map_none, Option.bind_some, Option.bind_none, Option.getD_some, Option.some.injEq, exists_eq_left', exists_eq_left, exists_eq', exists_eq, decide_eq_true_eq, List.length_map, exists_eq_right, exists_and_left, exists_and_right, Option.isSome_some, T.int.injEq, T.str.injEq, T.lst.injEq, T.tup.injEq, T.bl.injEq, List.cons.injEq, Prod.mk.injEq, Hn.tm.injEq, true_and, and_true, and_assoc, and_self, ne_eq, not_false_eq_true, not_true_eq_false, ite_true, ite_false, if_true, if_false, reduceIte, reduceCtorEq, Bool.false_eq_true, false_and, and_false, imp_self, forall_const, implies_true, List.length_cons, List.length_nil, Nat.reduceAdd, Nat.reduceEqDiff, Bool.false_bne, Bool.true_bne, Bool.not_false, Bool.not_true, List.nil_append, List.cons_append, Int.reduceToNat, Int.reducePow, Int.reduceMul, Int.reduceSub, Int.reduceAdd, Int.reduceNeg, listT]
  refine ⟨by omega, q (2 ^ 58) (bagT ns 0 0 0 total) rfl ⟨ns, 0, 0, 0, total, rfl, by omega, by decide, by omega, by decide, by decide, h0, h1⟩⟩
end O
namespace O
open PySem PySem.Spec PyProof.Rows L2
theorem seq_inv {a b : Ds} {Q : PoS} {ρ : Rho} (I : Rho → Prop) (h1 : ∀ K : Rho → Prop, (∀ ρ', I ρ' → K ρ') → a ρ { Q with nx := K }) (h2 : ∀ ρ', I ρ' → b ρ' Q) : sSeq a b ρ Q := h1 _ h2
theorem comp_bag {α : Type} {w : α → T} {vs : List Nat} {k : List T → Rho → Prop} {tt : Dn Bool} {te : Dn Rv} {g : Tg} (m : Nat) (mk : T → Rho) (b : Nat) : ∀ (xs : List α) (acc : List (List Nat)) (t : T),
    (∀ x ∈ xs, ∀ n t, IsBag (n + 1) t → ∀ (A : T → Rho → Prop) (B : Rho → Prop), (∀ t' l, IsBag n t' → abS l → l.length ≤ m → A (.str l) (mk t')) →
      cTg g (w x) (mk t) fun ρ1 => tt ρ1 ⟨fun b ρ2 => ifB b (te ρ2 ⟨fun r ρ3 => A r.2 (wipeR ρ3 vs), noex⟩) (B (wipeR ρ2 vs)), noex⟩) →
    IsBag (b + xs.length) t → (∀ l ∈ acc, abS l ∧ l.length ≤ m) → acc.length + xs.length ≤ sizeLine → (∀ (t' : T) (ls : List (List Nat)), IsBag b t' → (∀ l ∈ ls, abS l ∧ l.length ≤ m) → ls.length = acc.length + xs.length → k (ls.map T.str) (mk t')) →
    compD vs g tt te k (xs.map w) (acc.map T.str) (mk t)
  | [], acc, t, st, ib, ha, hl, q => by rw [List.map_nil, compD_nil]; exact q t acc ib ha (by simp)
  | x :: xs, acc, t, st, ib, ha, hl, q => by
    rw [List.length_cons] at hl ib
    refine compD_step fun K hK => st x List.mem_cons_self (b + xs.length) t ib (fun u ρ' => (acc.map T.str).length < sizeLine ∧ K (acc.map T.str ++ [u]) ρ') (fun ρ' => K (acc.map T.str) ρ') (fun t' l i' al hm => ?_)
    refine ⟨by rw [List.length_map]; omega, hK _ _ ?_⟩
    have := comp_bag (w := w) (vs := vs) (k := k) (tt := tt) (te := te) (g := g) m mk b xs (acc ++ [l]) t' (fun y hy => st y (List.mem_cons_of_mem _ hy)) i' (fun z hz => by
      rcases List.mem_append.mp hz with z' | z'
      · exact ha z z'
      · rw [List.mem_singleton.mp z']; exact ⟨al, hm⟩) (by simp; omega) (fun t' ls a b e => q t' ls a b (by rw [e]; simp; omega))
    rw [List.map_append] at this
    exact this
theorem joinL_nil : ∀ ls : List (List Nat), joinL [] ls = ls.flatten
  | [] => rfl
  | [x] => by show x = x ++ []; rw [List.append_nil]
  | x :: y :: r => by
    show x ++ [] ++ joinL [] (y :: r) = x ++ (y :: r).flatten
    rw [joinL_nil (y :: r), List.append_nil]
theorem join_strs (ls : List (List Nat)) : joinT (.str []) [.lst (ls.map T.str)] = ⟨(ls.map (·.length)).sum ≤ 16777216, (false, .str ls.flatten)⟩ := by
  show (⟨∃ l2, T.strs (ls.map T.str) = some l2 ∧ (l2.map (·.length)).sum + l2.length * ([] : List Nat).length ≤ 16777216, (false, .str (joinL [] ((T.strs (ls.map T.str)).getD [])))⟩ : Ot) = _
  rw [strs_of]
  simp only [Option.some.injEq, exists_eq_left', Option.getD_some, joinL_nil, List.length_nil, Nat.mul_zero, Nat.add_zero]
theorem sum_le {m : Nat} : ∀ {ls : List (List Nat)}, (∀ l ∈ ls, abS l ∧ l.length ≤ m) → (ls.map (·.length)).sum ≤ m * ls.length
  | [], _ => Nat.zero_le _
  | l :: ls, h => by
    rw [List.map_cons, List.sum_cons, List.length_cons, Nat.mul_succ]
    have := (h l List.mem_cons_self).2
    have := sum_le (ls := ls) fun x hx => h x (List.mem_cons_of_mem _ hx)
    omega
theorem abS_flat {m : Nat} {ls : List (List Nat)} (h : ∀ l ∈ ls, abS l ∧ l.length ≤ m) : abS ls.flatten := fun d z => by
  obtain ⟨l, hl, hd⟩ := List.mem_flatten.mp z
  exact (h l hl).1 d hd
theorem flat_len (ls : List (List Nat)) : ls.flatten.length = (ls.map fun l => l.length).sum := List.length_flatten
theorem fw_txt (l : List Nat) : sl3T (.str l) none none 1 = ⟨l.length ≤ sizeLine, (false, .str l)⟩ := by
  show (⟨(1 : Int) ≠ 0 ∧ l.length ≤ sizeLine ∧ (pick l none none 1).length ≤ sizeLine, (false, .str (pick l none none 1))⟩ : Ot) = _
  rw [pick_one]
  congr 1
  exact propext ⟨fun h => h.2.1, fun h => ⟨by decide, h, h⟩⟩
theorem bw_txt (l : List Nat) : sl3T (.str l) none none (-1) = ⟨l.length ≤ sizeLine, (false, .str l.reverse)⟩ := by
  show (⟨(-1 : Int) ≠ 0 ∧ l.length ≤ sizeLine ∧ (pick l none none (-1)).length ≤ sizeLine, (false, .str (pick l none none (-1)))⟩ : Ot) = _
  rw [pick_rev, List.length_reverse]
  congr 1
  exact propext ⟨fun h => h.2.1, fun h => ⟨by decide, h, h⟩⟩
def SLet : Sx := fun ars Q => ∃ b t most, ars = [.io t, .sh (.int most)] ∧ IsBag (b + 5000) t ∧ 0 ≤ most ∧ most ≤ 200 ∧ ∀ t' l, IsBag b t' → abS l → (l.length : Int) ≤ most → Q.ok (false, .str l) [.io t', .no]
theorem mn_SLet : Mn SLet := fun ρ Q Q' ⟨b, t, m, e, h1, h2, h3, q⟩ k _ => ⟨b, t, m, e, h1, h2, h3, fun t' r x y z => k _ _ (q t' r x y z)⟩
theorem slet {b : Nat} {t : T} {most : Int} {Q : Po Rv} (h1 : IsBag (b + 5000) t) (h2 : 0 ≤ most) (h3 : most ≤ 200) (q : ∀ t' l, IsBag b t' → abS l → (l.length : Int) ≤ most → Q.ok (false, .str l) [.io t', .no]) : SLet [.io t, .sh (.int most)] Q := ⟨b, t, most, rfl, h1, h2, h3, q⟩
theorem h__law_letters (ars : Rho) (Q : Po Rv) (h : SLet ars Q) : D__law_letters SBag (ars ++ List.replicate 6 .no) (fwish ars Q) := by
  obtain ⟨b, t, most, rfl, ib, m0, m1, q⟩ := h
  have hs := sizeLine_eq
  show D__law_letters SBag [.io t, .sh (.int most), .no, .no, .no, .no, .no, .no] _
  unfold D__law_letters
  refine seq_inv (fun ρ' => ∃ t count way, ρ' = [.io t, .sh (.int most), .sh (.int count), .sh (.int way), .no, .no, .no, .no] ∧ IsBag (b + 4990) t ∧ 0 ≤ count ∧ count ≤ most ∧ 0 ≤ way ∧ way < 7) (fun K hK => ?_) (fun ρ' ⟨t, count, way, e, ib, c0, c1, w0, w1⟩ => ?_)
  · simp only [sSeq, sSet, sPar, sIf, sRet, sRetN, sDrop, sNext, sDead, sBrk, sCnt, sAsg, sFor, dNm, dTm, dC, dOp1, dOp2, dOpN, dMt, dMut, dCall, dLst, dTup, dNil, dCons, dVn, dVc, dSl, dSl3, dNoP, dPrt, dIf, dAndV, dOrV, dNotV, dBv, dTru, dNotT, dAndT, dOrT, dChn, dEqQ, dRpQ, qOp, qNil, qCons, qLs, qTp, dSrc, dRng1, dRng2, dZip2, dEnum, dComp, dYes, gNm, gTp, gCn, gNi, gIt, e_var, e_var1, e_var2, e_var3, e_var4, e_mov, e_mov1, e_mov2, e_mov3, e_mov4, e_tr1, e_tr2, e_tr3, e_tr4, e_tr5, e_own1, e_own2, e_reo1, e_reo2, e_of1, e_of2, e_pin1, e_pin2, e_pin3, e_arg1, e_arg2, e_arg3, e_arg4, e_isarg1, e_isarg2, e_conv1, e_conv2, e_conv3, e_conv4, e_conv5, e_conv6, e_sown1, e_sown2, e_sown3, e_sown4, e_put1, e_put2, e_po1, e_po2, e_p1, e_p2, e_ao1, e_ao2, e_nd0, e_nd1, e_nd2, e_sl, e_get1, e_get2, e_is, e_all, e_gets0, e_gets1, e_gets2, e_tms0, e_tms1, e_qg1, e_qg2, e_qg3, e_qgs0, e_qgs1, e_its1, e_its2, e_its3, e_its4, e_jts1, e_jts2, e_jts4, e_mt1, e_mt2, e_ty1, e_add1, e_add2, e_add3, e_sub, e_mul1, e_mul2, e_mul3, e_fdiv, e_mod, e_pow, e_neg, e_len1, e_len2, e_len3, e_len4, e_int1, e_int2, e_abs, e_max, e_min, e_ix1, e_ix2, e_ix3, e_ix4, e_eq1, e_eq2, e_eq3, e_lt1, e_le1, e_gt1, e_ge1, e_lt2, e_in1, e_app, e_ext, e_rev, e_clr, e_set, e_sl1, e_sl2, e_sl3, e_sl4, e_count, e_f1, e_f2, e_osh, e_owh, e_one, e_tt1, e_tt2, e_ctg1, e_ctg2, e_cn0, e_cn1, e_wi0, e_wi1, e_re0, e_re1, e_ifb1, e_ifb2, e_nm0, e_nm1, e_nm2, e_fa0, e_fa1, e_sum, e_allb, e_anyb, e_sp1, e_sp2, e_sp3, e_at0, e_at1, e_at2, e_at3, e_at4, e_at5, e_ixn40, e_ixn41, e_ixn42, e_ixn43, e_cp1, e_cp2, e_cp3, e_cp4, e_cp5, forall_eq, List.getD_cons_zero, List.getD_cons_succ, List.getD_nil, List.set_cons_zero, List.set_cons_succ, List.map_cons, List.map_nil, Option.map_some, Option.map_none, Option.bind_some, Option.bind_none, Option.getD_some, Option.some.injEq, exists_eq_left', exists_eq_left, exists_eq', exists_eq, decide_eq_true_eq, List.length_map, exists_eq_right, exists_and_left, exists_and_right, Option.isSome_some, T.int.injEq, T.str.injEq, T.lst.injEq, T.tup.injEq, T.bl.injEq, List.cons.injEq, Prod.mk.injEq, Hn.tm.injEq, true_and, and_true, and_assoc, and_self, ne_eq, not_false_eq_true, not_true_eq_false, ite_true, ite_false, if_true, if_false, reduceIte, reduceCtorEq, Bool.false_eq_true, false_and, and_false, imp_self, forall_const, implies_true, List.length_cons, List.length_nil, Nat.reduceAdd, Nat.reduceEqDiff, Bool.false_bne, Bool.true_bne, Bool.not_false, Bool.not_true, List.nil_append, List.cons_append, Int.reduceToNat, Int.reducePow, Int.reduceMul, Int.reduceSub, Int.reduceAdd, Int.reduceNeg]
    refine sbag (b := b + 4999) ib (by omega) (log_small (by omega) (by omega)) fun t1 r1 i1 a0 a1 => ?_
    simp only [sSeq, sSet, sPar, sIf, sRet, sRetN, sDrop, sNext, sDead, sBrk, sCnt, sAsg, sFor, dNm, dTm, dC, dOp1, dOp2, dOpN, dMt, dMut, dCall, dLst, dTup, dNil, dCons, dVn, dVc, dSl, dSl3, dNoP, dPrt, dIf, dAndV, dOrV, dNotV, dBv, dTru, dNotT, dAndT, dOrT, dChn, dEqQ, dRpQ, qOp, qNil, qCons, qLs, qTp, dSrc, dRng1, dRng2, dZip2, dEnum, dComp, dYes, gNm, gTp, gCn, gNi, gIt, e_var, e_var1, e_var2, e_var3, e_var4, e_mov, e_mov1, e_mov2, e_mov3, e_mov4, e_tr1, e_tr2, e_tr3, e_tr4, e_tr5, e_own1, e_own2, e_reo1, e_reo2, e_of1, e_of2, e_pin1, e_pin2, e_pin3, e_arg1, e_arg2, e_arg3, e_arg4, e_isarg1, e_isarg2, e_conv1, e_conv2, e_conv3, e_conv4, e_conv5, e_conv6, e_sown1, e_sown2, e_sown3, e_sown4, e_put1, e_put2, e_po1, e_po2, e_p1, e_p2, e_ao1, e_ao2, e_nd0, e_nd1, e_nd2, e_sl, e_get1, e_get2, e_is, e_all, e_gets0, e_gets1, e_gets2, e_tms0, e_tms1, e_qg1, e_qg2, e_qg3, e_qgs0, e_qgs1, e_its1, e_its2, e_its3, e_its4, e_jts1, e_jts2, e_jts4, e_mt1, e_mt2, e_ty1, e_add1, e_add2, e_add3, e_sub, e_mul1, e_mul2, e_mul3, e_fdiv, e_mod, e_pow, e_neg, e_len1, e_len2, e_len3, e_len4, e_int1, e_int2, e_abs, e_max, e_min, e_ix1, e_ix2, e_ix3, e_ix4, e_eq1, e_eq2, e_eq3, e_lt1, e_le1, e_gt1, e_ge1, e_lt2, e_in1, e_app, e_ext, e_rev, e_clr, e_set, e_sl1, e_sl2, e_sl3, e_sl4, e_count, e_f1, e_f2, e_osh, e_owh, e_one, e_tt1, e_tt2, e_ctg1, e_ctg2, e_cn0, e_cn1, e_wi0, e_wi1, e_re0, e_re1, e_ifb1, e_ifb2, e_nm0, e_nm1, e_nm2, e_fa0, e_fa1, e_sum, e_allb, e_anyb, e_sp1, e_sp2, e_sp3, e_at0, e_at1, e_at2, e_at3, e_at4, e_at5, e_ixn40, e_ixn41, e_ixn42, e_ixn43, e_cp1, e_cp2, e_cp3, e_cp4, e_cp5, forall_eq, List.getD_cons_zero, List.getD_cons_succ, List.getD_nil, List.set_cons_zero, List.set_cons_succ, List.map_cons, List.map_nil, Option.map_some, Option.map_none, Option.bind_some, Option.bind_none, Option.getD_some, Option.some.injEq, exists_eq_left', exists_eq_left, exists_eq', exists_eq, decide_eq_true_eq, List.length_map, exists_eq_right, exists_and_left, exists_and_right, Option.isSome_some, T.int.injEq, T.str.injEq, T.lst.injEq, T.tup.injEq, T.bl.injEq, List.cons.injEq, Prod.mk.injEq, Hn.tm.injEq, true_and, and_true, and_assoc, and_self, ne_eq, not_false_eq_true, not_true_eq_false, ite_true, ite_false, if_true, if_false, reduceIte, reduceCtorEq, Bool.false_eq_true, false_and, and_false, imp_self, forall_const, implies_true, List.length_cons, List.length_nil, Nat.reduceAdd, Nat.reduceEqDiff, Bool.false_bne, Bool.true_bne, Bool.not_false, Bool.not_true, List.nil_append, List.cons_append, Int.reduceToNat, Int.reducePow, Int.reduceMul, Int.reduceSub, Int.reduceAdd, Int.reduceNeg]
    refine ⟨by omega, sbag (b := b + 4998) (bound := 4) i1 (by decide) (by decide) fun t2 r2 i2 b0 b1 => ?_⟩
    by_cases hz : r2 = 0
    · simp only [sSeq, sSet, sPar, sIf, sRet, sRetN, sDrop, sNext, sDead, sBrk, sCnt, sAsg, sFor, dNm, dTm, dC, dOp1, dOp2, dOpN, dMt, dMut, dCall, dLst, dTup, dNil, dCons, dVn, dVc, dSl, dSl3, dNoP, dPrt, dIf, dAndV, dOrV, dNotV, dBv, dTru, dNotT, dAndT, dOrT, dChn, dEqQ, dRpQ, qOp, qNil, qCons, qLs, qTp, dSrc, dRng1, dRng2, dZip2, dEnum, dComp, dYes, gNm, gTp, gCn, gNi, gIt, e_var, e_var1, e_var2, e_var3, e_var4, e_mov, e_mov1, e_mov2, e_mov3, e_mov4, e_tr1, e_tr2, e_tr3, e_tr4, e_tr5, e_own1, e_own2, e_reo1, e_reo2, e_of1, e_of2, e_pin1, e_pin2, e_pin3, e_arg1, e_arg2, e_arg3, e_arg4, e_isarg1, e_isarg2, e_conv1, e_conv2, e_conv3, e_conv4, e_conv5, e_conv6, e_sown1, e_sown2, e_sown3, e_sown4, e_put1, e_put2, e_po1, e_po2, e_p1, e_p2, e_ao1, e_ao2, e_nd0, e_nd1, e_nd2, e_sl, e_get1, e_get2, e_is, e_all, e_gets0, e_gets1, e_gets2, e_tms0, e_tms1, e_qg1, e_qg2, e_qg3, e_qgs0, e_qgs1, e_its1, e_its2, e_its3, e_its4, e_jts1, e_jts2, e_jts4, e_mt1, e_mt2, e_ty1, e_add1, e_add2, e_add3, e_sub, e_mul1, e_mul2, e_mul3, e_fdiv, e_mod, e_pow, e_neg, e_len1, e_len2, e_len3, e_len4, e_int1, e_int2, e_abs, e_max, e_min, e_ix1, e_ix2, e_ix3, e_ix4, e_eq1, e_eq2, e_eq3, e_lt1, e_le1, e_gt1, e_ge1, e_lt2, e_in1, e_app, e_ext, e_rev, e_clr, e_set, e_sl1, e_sl2, e_sl3, e_sl4, e_count, e_f1, e_f2, e_osh, e_owh, e_one, e_tt1, e_tt2, e_ctg1, e_ctg2, e_cn0, e_cn1, e_wi0, e_wi1, e_re0, e_re1, e_ifb1, e_ifb2, e_nm0, e_nm1, e_nm2, e_fa0, e_fa1, e_sum, e_allb, e_anyb, e_sp1, e_sp2, e_sp3, e_at0, e_at1, e_at2, e_at3, e_at4, e_at5, e_ixn40, e_ixn41, e_ixn42, e_ixn43, e_cp1, e_cp2, e_cp3, e_cp4, e_cp5, forall_eq, List.getD_cons_zero, List.getD_cons_succ, List.getD_nil, List.set_cons_zero, List.set_cons_succ, List.map_cons, List.map_nil, Option.map_some, Option.map_none, Option.bind_some, Option.bind_none, Option.getD_some, Option.some.injEq, exists_eq_left', exists_eq_left, exists_eq', exists_eq, decide_eq_true_eq, List.length_map, exists_eq_right, exists_and_left, exists_and_right, Option.isSome_some, T.int.injEq, T.str.injEq, T.lst.injEq, T.tup.injEq, T.bl.injEq, List.cons.injEq, Prod.mk.injEq, Hn.tm.injEq, true_and, and_true, and_assoc, and_self, ne_eq, not_false_eq_true, not_true_eq_false, ite_true, ite_false, if_true, if_false, reduceIte, reduceCtorEq, Bool.false_eq_true, false_and, and_false, imp_self, forall_const, implies_true, List.length_cons, List.length_nil, Nat.reduceAdd, Nat.reduceEqDiff, Bool.false_bne, Bool.true_bne, Bool.not_false, Bool.not_true, List.nil_append, List.cons_append, Int.reduceToNat, Int.reducePow, Int.reduceMul, Int.reduceSub, Int.reduceAdd, Int.reduceNeg, hz, decide_true]
      refine sbag (b := b + 4997) (bound := 7) i2 (by decide) (by decide) fun t3 r3 i3 c0 c1 => ?_
      simp only [sSeq, sSet, sPar, sIf, sRet, sRetN, sDrop, sNext, sDead, sBrk, sCnt, sAsg, sFor, dNm, dTm, dC, dOp1, dOp2, dOpN, dMt, dMut, dCall, dLst, dTup, dNil, dCons, dVn, dVc, dSl, dSl3, dNoP, dPrt, dIf, dAndV, dOrV, dNotV, dBv, dTru, dNotT, dAndT, dOrT, dChn, dEqQ, dRpQ, qOp, qNil, qCons, qLs, qTp, dSrc, dRng1, dRng2, dZip2, dEnum, dComp, dYes, gNm, gTp, gCn, gNi, gIt, e_var, e_var1, e_var2, e_var3, e_var4, e_mov, e_mov1, e_mov2, e_mov3, e_mov4, e_tr1, e_tr2, e_tr3, e_tr4, e_tr5, e_own1, e_own2, e_reo1, e_reo2, e_of1, e_of2, e_pin1, e_pin2, e_pin3, e_arg1, e_arg2, e_arg3, e_arg4, e_isarg1, e_isarg2, e_conv1, e_conv2, e_conv3, e_conv4, e_conv5, e_conv6, e_sown1, e_sown2, e_sown3, e_sown4, e_put1, e_put2, e_po1, e_po2, e_p1, e_p2, e_ao1, e_ao2, e_nd0, e_nd1, e_nd2, e_sl, e_get1, e_get2, e_is, e_all, e_gets0, e_gets1, e_gets2, e_tms0, e_tms1, e_qg1, e_qg2, e_qg3, e_qgs0, e_qgs1, e_its1, e_its2, e_its3, e_its4, e_jts1, e_jts2, e_jts4, e_mt1, e_mt2, e_ty1, e_add1, e_add2, e_add3, e_sub, e_mul1, e_mul2, e_mul3, e_fdiv, e_mod, e_pow, e_neg, e_len1, e_len2, e_len3, e_len4, e_int1, e_int2, e_abs, e_max, e_min, e_ix1, e_ix2, e_ix3, e_ix4, e_eq1, e_eq2, e_eq3, e_lt1, e_le1, e_gt1, e_ge1, e_lt2, e_in1, e_app, e_ext, e_rev, e_clr, e_set, e_sl1, e_sl2, e_sl3, e_sl4, e_count, e_f1, e_f2, e_osh, e_owh, e_one, e_tt1, e_tt2, e_ctg1, e_ctg2, e_cn0, e_cn1, e_wi0, e_wi1, e_re0, e_re1, e_ifb1, e_ifb2, e_nm0, e_nm1, e_nm2, e_fa0, e_fa1, e_sum, e_allb, e_anyb, e_sp1, e_sp2, e_sp3, e_at0, e_at1, e_at2, e_at3, e_at4, e_at5, e_ixn40, e_ixn41, e_ixn42, e_ixn43, e_cp1, e_cp2, e_cp3, e_cp4, e_cp5, forall_eq, List.getD_cons_zero, List.getD_cons_succ, List.getD_nil, List.set_cons_zero, List.set_cons_succ, List.map_cons, List.map_nil, Option.map_some, Option.map_none, Option.bind_some, Option.bind_none, Option.getD_some, Option.some.injEq, exists_eq_left', exists_eq_left, exists_eq', exists_eq, decide_eq_true_eq, List.length_map, exists_eq_right, exists_and_left, exists_and_right, Option.isSome_some, T.int.injEq, T.str.injEq, T.lst.injEq, T.tup.injEq, T.bl.injEq, List.cons.injEq, Prod.mk.injEq, Hn.tm.injEq, true_and, and_true, and_assoc, and_self, ne_eq, not_false_eq_true, not_true_eq_false, ite_true, ite_false, if_true, if_false, reduceIte, reduceCtorEq, Bool.false_eq_true, false_and, and_false, imp_self, forall_const, implies_true, List.length_cons, List.length_nil, Nat.reduceAdd, Nat.reduceEqDiff, Bool.false_bne, Bool.true_bne, Bool.not_false, Bool.not_true, List.nil_append, List.cons_append, Int.reduceToNat, Int.reducePow, Int.reduceMul, Int.reduceSub, Int.reduceAdd, Int.reduceNeg]
      exact hK _ ⟨t3, most, r3, rfl, i3.less (by omega), m0, by omega, c0, c1⟩
    · simp only [sSeq, sSet, sPar, sIf, sRet, sRetN, sDrop, sNext, sDead, sBrk, sCnt, sAsg, sFor, dNm, dTm, dC, dOp1, dOp2, dOpN, dMt, dMut, dCall, dLst, dTup, dNil, dCons, dVn, dVc, dSl, dSl3, dNoP, dPrt, dIf, dAndV, dOrV, dNotV, dBv, dTru, dNotT, dAndT, dOrT, dChn, dEqQ, dRpQ, qOp, qNil, qCons, qLs, qTp, dSrc, dRng1, dRng2, dZip2, dEnum, dComp, dYes, gNm, gTp, gCn, gNi, gIt, e_var, e_var1, e_var2, e_var3, e_var4, e_mov, e_mov1, e_mov2, e_mov3, e_mov4, e_tr1, e_tr2, e_tr3, e_tr4, e_tr5, e_own1, e_own2, e_reo1, e_reo2, e_of1, e_of2, e_pin1, e_pin2, e_pin3, e_arg1, e_arg2, e_arg3, e_arg4, e_isarg1, e_isarg2, e_conv1, e_conv2, e_conv3, e_conv4, e_conv5, e_conv6, e_sown1, e_sown2, e_sown3, e_sown4, e_put1, e_put2, e_po1, e_po2, e_p1, e_p2, e_ao1, e_ao2, e_nd0, e_nd1, e_nd2, e_sl, e_get1, e_get2, e_is, e_all, e_gets0, e_gets1, e_gets2, e_tms0, e_tms1, e_qg1, e_qg2, e_qg3, e_qgs0, e_qgs1, e_its1, e_its2, e_its3, e_its4, e_jts1, e_jts2, e_jts4, e_mt1, e_mt2, e_ty1, e_add1, e_add2, e_add3, e_sub, e_mul1, e_mul2, e_mul3, e_fdiv, e_mod, e_pow, e_neg, e_len1, e_len2, e_len3, e_len4, e_int1, e_int2, e_abs, e_max, e_min, e_ix1, e_ix2, e_ix3, e_ix4, e_eq1, e_eq2, e_eq3, e_lt1, e_le1, e_gt1, e_ge1, e_lt2, e_in1, e_app, e_ext, e_rev, e_clr, e_set, e_sl1, e_sl2, e_sl3, e_sl4, e_count, e_f1, e_f2, e_osh, e_owh, e_one, e_tt1, e_tt2, e_ctg1, e_ctg2, e_cn0, e_cn1, e_wi0, e_wi1, e_re0, e_re1, e_ifb1, e_ifb2, e_nm0, e_nm1, e_nm2, e_fa0, e_fa1, e_sum, e_allb, e_anyb, e_sp1, e_sp2, e_sp3, e_at0, e_at1, e_at2, e_at3, e_at4, e_at5, e_ixn40, e_ixn41, e_ixn42, e_ixn43, e_cp1, e_cp2, e_cp3, e_cp4, e_cp5, forall_eq, List.getD_cons_zero, List.getD_cons_succ, List.getD_nil, List.set_cons_zero, List.set_cons_succ, List.map_cons, List.map_nil, Option.map_some, Option.map_none, Option.bind_some, Option.bind_none, Option.getD_some, Option.some.injEq, exists_eq_left', exists_eq_left, exists_eq', exists_eq, decide_eq_true_eq, List.length_map, exists_eq_right, exists_and_left, exists_and_right, Option.isSome_some, T.int.injEq, T.str.injEq, T.lst.injEq, T.tup.injEq, T.bl.injEq, List.cons.injEq, Prod.mk.injEq, Hn.tm.injEq, true_and, and_true, and_assoc, and_self, ne_eq, not_false_eq_true, not_true_eq_false, ite_true, ite_false, if_true, if_false, reduceIte, reduceCtorEq, Bool.false_eq_true, false_and, and_false, imp_self, forall_const, implies_true, List.length_cons, List.length_nil, Nat.reduceAdd, Nat.reduceEqDiff, Bool.false_bne, Bool.true_bne, Bool.not_false, Bool.not_true, List.nil_append, List.cons_append, Int.reduceToNat, Int.reducePow, Int.reduceMul, Int.reduceSub, Int.reduceAdd, Int.reduceNeg, hz, decide_false]
      refine sbag (b := b + 4997) (bound := 7) i2 (by decide) (by decide) fun t3 r3 i3 c0 c1 => ?_
      simp only [sSeq, sSet, sPar, sIf, sRet, sRetN, sDrop, sNext, sDead, sBrk, sCnt, sAsg, sFor, dNm, dTm, dC, dOp1, dOp2, dOpN, dMt, dMut, dCall, dLst, dTup, dNil, dCons, dVn, dVc, dSl, dSl3, dNoP, dPrt, dIf, dAndV, dOrV, dNotV, dBv, dTru, dNotT, dAndT, dOrT, dChn, dEqQ, dRpQ, qOp, qNil, qCons, qLs, qTp, dSrc, dRng1, dRng2, dZip2, dEnum, dComp, dYes, gNm, gTp, gCn, gNi, gIt, e_var, e_var1, e_var2, e_var3, e_var4, e_mov, e_mov1, e_mov2, e_mov3, e_mov4, e_tr1, e_tr2, e_tr3, e_tr4, e_tr5, e_own1, e_own2, e_reo1, e_reo2, e_of1, e_of2, e_pin1, e_pin2, e_pin3, e_arg1, e_arg2, e_arg3, e_arg4, e_isarg1, e_isarg2, e_conv1, e_conv2, e_conv3, e_conv4, e_conv5, e_conv6, e_sown1, e_sown2, e_sown3, e_sown4, e_put1, e_put2, e_po1, e_po2, e_p1, e_p2, e_ao1, e_ao2, e_nd0, e_nd1, e_nd2, e_sl, e_get1, e_get2, e_is, e_all, e_gets0, e_gets1, e_gets2, e_tms0, e_tms1, e_qg1, e_qg2, e_qg3, e_qgs0, e_qgs1, e_its1, e_its2, e_its3, e_its4, e_jts1, e_jts2, e_jts4, e_mt1, e_mt2, e_ty1, e_add1, e_add2, e_add3, e_sub, e_mul1, e_mul2, e_mul3, e_fdiv, e_mod, e_pow, e_neg, e_len1, e_len2, e_len3, e_len4, e_int1, e_int2, e_abs, e_max, e_min, e_ix1, e_ix2, e_ix3, e_ix4, e_eq1, e_eq2, e_eq3, e_lt1, e_le1, e_gt1, e_ge1, e_lt2, e_in1, e_app, e_ext, e_rev, e_clr, e_set, e_sl1, e_sl2, e_sl3, e_sl4, e_count, e_f1, e_f2, e_osh, e_owh, e_one, e_tt1, e_tt2, e_ctg1, e_ctg2, e_cn0, e_cn1, e_wi0, e_wi1, e_re0, e_re1, e_ifb1, e_ifb2, e_nm0, e_nm1, e_nm2, e_fa0, e_fa1, e_sum, e_allb, e_anyb, e_sp1, e_sp2, e_sp3, e_at0, e_at1, e_at2, e_at3, e_at4, e_at5, e_ixn40, e_ixn41, e_ixn42, e_ixn43, e_cp1, e_cp2, e_cp3, e_cp4, e_cp5, forall_eq, List.getD_cons_zero, List.getD_cons_succ, List.getD_nil, List.set_cons_zero, List.set_cons_succ, List.map_cons, List.map_nil, Option.map_some, Option.map_none, Option.bind_some, Option.bind_none, Option.getD_some, Option.some.injEq, exists_eq_left', exists_eq_left, exists_eq', exists_eq, decide_eq_true_eq, List.length_map, exists_eq_right, exists_and_left, exists_and_right, Option.isSome_some, T.int.injEq, T.str.injEq, T.lst.injEq, T.tup.injEq, T.bl.injEq, List.cons.injEq, Prod.mk.injEq, Hn.tm.injEq, true_and, and_true, and_assoc, and_self, ne_eq, not_false_eq_true, not_true_eq_false, ite_true, ite_false, if_true, if_false, reduceIte, reduceCtorEq, Bool.false_eq_true, false_and, and_false, imp_self, forall_const, implies_true, List.length_cons, List.length_nil, Nat.reduceAdd, Nat.reduceEqDiff, Bool.false_bne, Bool.true_bne, Bool.not_false, Bool.not_true, List.nil_append, List.cons_append, Int.reduceToNat, Int.reducePow, Int.reduceMul, Int.reduceSub, Int.reduceAdd, Int.reduceNeg]
      exact hK _ ⟨t3, r1, r3, rfl, i3.less (by omega), a0, by omega, c0, c1⟩
  subst e
  refine seq_inv (fun ρ' => ∃ share, ρ' = [.io t, .sh (.int most), .sh (.int count), .sh (.int way), .sh (.int share), .no, .no, .no] ∧ 2 ≤ share ∧ share ≤ 30) (fun K hK => ?_) (fun ρ' ⟨share, e, s0, s1⟩ => ?_)
  · obtain ⟨y, ym, ey⟩ := atI_in (xs := [(2 : Int), 2, 9, 30, 2, 2, 2]) w0 w1
    have ey2 : L2.atI [T.int 2, T.int 2, T.int 9, T.int 30, T.int 2, T.int 2, T.int 2] way = some (.int y) := by
      have := atI_map T.int [(2 : Int), 2, 9, 30, 2, 2, 2] way
      rw [ey] at this
      exact this
    have hy : y = 2 ∨ y = 9 ∨ y = 30 := by simp at ym; omega
    simp only [sSeq, sSet, sPar, sIf, sRet, sRetN, sDrop, sNext, sDead, sBrk, sCnt, sAsg, sFor, dNm, dTm, dC, dOp1, dOp2, dOpN, dMt, dMut, dCall, dLst, dTup, dNil, dCons, dVn, dVc, dSl, dSl3, dNoP, dPrt, dIf, dAndV, dOrV, dNotV, dBv, dTru, dNotT, dAndT, dOrT, dChn, dEqQ, dRpQ, qOp, qNil, qCons, qLs, qTp, dSrc, dRng1, dRng2, dZip2, dEnum, dComp, dYes, gNm, gTp, gCn, gNi, gIt, e_var, e_var1, e_var2, e_var3, e_var4, e_mov, e_mov1, e_mov2, e_mov3, e_mov4, e_tr1, e_tr2, e_tr3, e_tr4, e_tr5, e_own1, e_own2, e_reo1, e_reo2, e_of1, e_of2, e_pin1, e_pin2, e_pin3, e_arg1, e_arg2, e_arg3, e_arg4, e_isarg1, e_isarg2, e_conv1, e_conv2, e_conv3, e_conv4, e_conv5, e_conv6, e_sown1, e_sown2, e_sown3, e_sown4, e_put1, e_put2, e_po1, e_po2, e_p1, e_p2, e_ao1, e_ao2, e_nd0, e_nd1, e_nd2, e_sl, e_get1, e_get2, e_is, e_all, e_gets0, e_gets1, e_gets2, e_tms0, e_tms1, e_qg1, e_qg2, e_qg3, e_qgs0, e_qgs1, e_its1, e_its2, e_its3, e_its4, e_jts1, e_jts2, e_jts4, e_mt1, e_mt2, e_ty1, e_add1, e_add2, e_add3, e_sub, e_mul1, e_mul2, e_mul3, e_fdiv, e_mod, e_pow, e_neg, e_len1, e_len2, e_len3, e_len4, e_int1, e_int2, e_abs, e_max, e_min, e_ix1, e_ix2, e_ix3, e_ix4, e_eq1, e_eq2, e_eq3, e_lt1, e_le1, e_gt1, e_ge1, e_lt2, e_in1, e_app, e_ext, e_rev, e_clr, e_set, e_sl1, e_sl2, e_sl3, e_sl4, e_count, e_f1, e_f2, e_osh, e_owh, e_one, e_tt1, e_tt2, e_ctg1, e_ctg2, e_cn0, e_cn1, e_wi0, e_wi1, e_re0, e_re1, e_ifb1, e_ifb2, e_nm0, e_nm1, e_nm2, e_fa0, e_fa1, e_sum, e_allb, e_anyb, e_sp1, e_sp2, e_sp3, e_at0, e_at1, e_at2, e_at3, e_at4, e_at5, e_ixn40, e_ixn41, e_ixn42, e_ixn43, e_cp1, e_cp2, e_cp3, e_cp4, e_cp5, forall_eq, List.getD_cons_zero, List.getD_cons_succ, List.getD_nil, List.set_cons_zero, List.set_cons_succ, List.map_cons, List.map_nil, Option.map_some, Option.map_none, Option.bind_some, Option.bind_none, Option.getD_some, Option.some.injEq, exists_eq_left', exists_eq_left, exists_eq', exists_eq, decide_eq_true_eq, List.length_map, exists_eq_right, exists_and_left, exists_and_right, Option.isSome_some, T.int.injEq, T.str.injEq, T.lst.injEq, T.tup.injEq, T.bl.injEq, List.cons.injEq, Prod.mk.injEq, Hn.tm.injEq, true_and, and_true, and_assoc, and_self, ne_eq, not_false_eq_true, not_true_eq_false, ite_true, ite_false, if_true, if_false, reduceIte, reduceCtorEq, Bool.false_eq_true, false_and, and_false, imp_self, forall_const, implies_true, List.length_cons, List.length_nil, Nat.reduceAdd, Nat.reduceEqDiff, Bool.false_bne, Bool.true_bne, Bool.not_false, Bool.not_true, List.nil_append, List.cons_append, Int.reduceToNat, Int.reducePow, Int.reduceMul, Int.reduceSub, Int.reduceAdd, Int.reduceNeg, ey2]
    exact ⟨by omega, hK _ ⟨y, rfl, by omega, by omega⟩⟩
  subst e
  refine seq_inv (fun ρ' => ∃ t f, ρ' = [.io t, .sh (.int most), .sh (.int count), .sh (.int way), .sh (.int share), .sh (.str f), .no, .no] ∧ IsBag (b + 4700) t ∧ abS f ∧ f.length ≤ 200) (fun K hK => ?_) (fun ρ' ⟨t, f, e, ib, ab, fl⟩ => ?_)
  · simp only [sSeq, sSet, sPar, sIf, sRet, sRetN, sDrop, sNext, sDead, sBrk, sCnt, sAsg, sFor, dNm, dTm, dC, dOp1, dOp2, dOpN, dMt, dMut, dCall, dLst, dTup, dNil, dCons, dVn, dVc, dSl, dSl3, dNoP, dPrt, dIf, dAndV, dOrV, dNotV, dBv, dTru, dNotT, dAndT, dOrT, dChn, dEqQ, dRpQ, qOp, qNil, qCons, qLs, qTp, dSrc, dRng1, dRng2, dZip2, dEnum, dComp, dYes, gNm, gTp, gCn, gNi, gIt, e_var, e_var1, e_var2, e_var3, e_var4, e_mov, e_mov1, e_mov2, e_mov3, e_mov4, e_tr1, e_tr2, e_tr3, e_tr4, e_tr5, e_own1, e_own2, e_reo1, e_reo2, e_of1, e_of2, e_pin1, e_pin2, e_pin3, e_arg1, e_arg2, e_arg3, e_arg4, e_isarg1, e_isarg2, e_conv1, e_conv2, e_conv3, e_conv4, e_conv5, e_conv6, e_sown1, e_sown2, e_sown3, e_sown4, e_put1, e_put2, e_po1, e_po2, e_p1, e_p2, e_ao1, e_ao2, e_nd0, e_nd1, e_nd2, e_sl, e_get1, e_get2, e_is, e_all, e_gets0, e_gets1, e_gets2, e_tms0, e_tms1, e_qg1, e_qg2, e_qg3, e_qgs0, e_qgs1, e_its1, e_its2, e_its3, e_its4, e_jts1, e_jts2, e_jts4, e_mt1, e_mt2, e_ty1, e_add1, e_add2, e_add3, e_sub, e_mul1, e_mul2, e_mul3, e_fdiv, e_mod, e_pow, e_neg, e_len1, e_len2, e_len3, e_len4, e_int1, e_int2, e_abs, e_max, e_min, e_ix1, e_ix2, e_ix3, e_ix4, e_eq1, e_eq2, e_eq3, e_lt1, e_le1, e_gt1, e_ge1, e_lt2, e_in1, e_app, e_ext, e_rev, e_clr, e_set, e_sl1, e_sl2, e_sl3, e_sl4, e_count, e_f1, e_f2, e_osh, e_owh, e_one, e_tt1, e_tt2, e_ctg1, e_ctg2, e_cn0, e_cn1, e_wi0, e_wi1, e_re0, e_re1, e_ifb1, e_ifb2, e_nm0, e_nm1, e_nm2, e_fa0, e_fa1, e_sum, e_allb, e_anyb, e_sp1, e_sp2, e_sp3, e_at0, e_at1, e_at2, e_at3, e_at4, e_at5, e_ixn40, e_ixn41, e_ixn42, e_ixn43, e_cp1, e_cp2, e_cp3, e_cp4, e_cp5, forall_eq, List.getD_cons_zero, List.getD_cons_succ, List.getD_nil, List.set_cons_zero, List.set_cons_succ, List.map_cons, List.map_nil, Option.map_some, Option.map_none, Option.bind_some, Option.bind_none, Option.getD_some, Option.some.injEq, exists_eq_left', exists_eq_left, exists_eq', exists_eq, decide_eq_true_eq, List.length_map, exists_eq_right, exists_and_left, exists_and_right, Option.isSome_some, T.int.injEq, T.str.injEq, T.lst.injEq, T.tup.injEq, T.bl.injEq, List.cons.injEq, Prod.mk.injEq, Hn.tm.injEq, true_and, and_true, and_assoc, and_self, ne_eq, not_false_eq_true, not_true_eq_false, ite_true, ite_false, if_true, if_false, reduceIte, reduceCtorEq, Bool.false_eq_true, false_and, and_false, imp_self, forall_const, implies_true, List.length_cons, List.length_nil, Nat.reduceAdd, Nat.reduceEqDiff, Bool.false_bne, Bool.true_bne, Bool.not_false, Bool.not_true, List.nil_append, List.cons_append, Int.reduceToNat, Int.reducePow, Int.reduceMul, Int.reduceSub, Int.reduceAdd, Int.reduceNeg]
    refine ⟨⟨by omega, by omega⟩, ?_⟩
    rw [rangeT_eq]
    refine comp_bag (w := T.int) 1 (fun t' => [.io t', .sh (.int most), .sh (.int count), .sh (.int way), .sh (.int share), .no, .no, .no]) (b + 4700) _ [] t (fun x hx n t ib A B hA => ?_) (ib.less (by simp; omega)) (fun l z => by cases z) (by simp; omega) (fun t' ls i' hls hl => ?_)
    · simp only [sSeq, sSet, sPar, sIf, sRet, sRetN, sDrop, sNext, sDead, sBrk, sCnt, sAsg, sFor, dNm, dTm, dC, dOp1, dOp2, dOpN, dMt, dMut, dCall, dLst, dTup, dNil, dCons, dVn, dVc, dSl, dSl3, dNoP, dPrt, dIf, dAndV, dOrV, dNotV, dBv, dTru, dNotT, dAndT, dOrT, dChn, dEqQ, dRpQ, qOp, qNil, qCons, qLs, qTp, dSrc, dRng1, dRng2, dZip2, dEnum, dComp, dYes, gNm, gTp, gCn, gNi, gIt, e_var, e_var1, e_var2, e_var3, e_var4, e_mov, e_mov1, e_mov2, e_mov3, e_mov4, e_tr1, e_tr2, e_tr3, e_tr4, e_tr5, e_own1, e_own2, e_reo1, e_reo2, e_of1, e_of2, e_pin1, e_pin2, e_pin3, e_arg1, e_arg2, e_arg3, e_arg4, e_isarg1, e_isarg2, e_conv1, e_conv2, e_conv3, e_conv4, e_conv5, e_conv6, e_sown1, e_sown2, e_sown3, e_sown4, e_put1, e_put2, e_po1, e_po2, e_p1, e_p2, e_ao1, e_ao2, e_nd0, e_nd1, e_nd2, e_sl, e_get1, e_get2, e_is, e_all, e_gets0, e_gets1, e_gets2, e_tms0, e_tms1, e_qg1, e_qg2, e_qg3, e_qgs0, e_qgs1, e_its1, e_its2, e_its3, e_its4, e_jts1, e_jts2, e_jts4, e_mt1, e_mt2, e_ty1, e_add1, e_add2, e_add3, e_sub, e_mul1, e_mul2, e_mul3, e_fdiv, e_mod, e_pow, e_neg, e_len1, e_len2, e_len3, e_len4, e_int1, e_int2, e_abs, e_max, e_min, e_ix1, e_ix2, e_ix3, e_ix4, e_eq1, e_eq2, e_eq3, e_lt1, e_le1, e_gt1, e_ge1, e_lt2, e_in1, e_app, e_ext, e_rev, e_clr, e_set, e_sl1, e_sl2, e_sl3, e_sl4, e_count, e_f1, e_f2, e_osh, e_owh, e_one, e_tt1, e_tt2, e_ctg1, e_ctg2, e_cn0, e_cn1, e_wi0, e_wi1, e_re0, e_re1, e_ifb1, e_ifb2, e_nm0, e_nm1, e_nm2, e_fa0, e_fa1, e_sum, e_allb, e_anyb, e_sp1, e_sp2, e_sp3, e_at0, e_at1, e_at2, e_at3, e_at4, e_at5, e_ixn40, e_ixn41, e_ixn42, e_ixn43, e_cp1, e_cp2, e_cp3, e_cp4, e_cp5, forall_eq, List.getD_cons_zero, List.getD_cons_succ, List.getD_nil, List.set_cons_zero, List.set_cons_succ, List.map_cons, List.map_nil, Option.map_some, Option.map_none, Option.bind_some, Option.bind_none, Option.getD_some, Option.some.injEq, exists_eq_left', exists_eq_left, exists_eq', exists_eq, decide_eq_true_eq, List.length_map, exists_eq_right, exists_and_left, exists_and_right, Option.isSome_some, T.int.injEq, T.str.injEq, T.lst.injEq, T.tup.injEq, T.bl.injEq, List.cons.injEq, Prod.mk.injEq, Hn.tm.injEq, true_and, and_true, and_assoc, and_self, ne_eq, not_false_eq_true, not_true_eq_false, ite_true, ite_false, if_true, if_false, reduceIte, reduceCtorEq, Bool.false_eq_true, false_and, and_false, imp_self, forall_const, implies_true, List.length_cons, List.length_nil, Nat.reduceAdd, Nat.reduceEqDiff, Bool.false_bne, Bool.true_bne, Bool.not_false, Bool.not_true, List.nil_append, List.cons_append, Int.reduceToNat, Int.reducePow, Int.reduceMul, Int.reduceSub, Int.reduceAdd, Int.reduceNeg]
      refine sbag ib (by omega) (log_small (by omega) (by omega)) fun t' r i' a0 a1 => ?_
      simp only [sSeq, sSet, sPar, sIf, sRet, sRetN, sDrop, sNext, sDead, sBrk, sCnt, sAsg, sFor, dNm, dTm, dC, dOp1, dOp2, dOpN, dMt, dMut, dCall, dLst, dTup, dNil, dCons, dVn, dVc, dSl, dSl3, dNoP, dPrt, dIf, dAndV, dOrV, dNotV, dBv, dTru, dNotT, dAndT, dOrT, dChn, dEqQ, dRpQ, qOp, qNil, qCons, qLs, qTp, dSrc, dRng1, dRng2, dZip2, dEnum, dComp, dYes, gNm, gTp, gCn, gNi, gIt, e_var, e_var1, e_var2, e_var3, e_var4, e_mov, e_mov1, e_mov2, e_mov3, e_mov4, e_tr1, e_tr2, e_tr3, e_tr4, e_tr5, e_own1, e_own2, e_reo1, e_reo2, e_of1, e_of2, e_pin1, e_pin2, e_pin3, e_arg1, e_arg2, e_arg3, e_arg4, e_isarg1, e_isarg2, e_conv1, e_conv2, e_conv3, e_conv4, e_conv5, e_conv6, e_sown1, e_sown2, e_sown3, e_sown4, e_put1, e_put2, e_po1, e_po2, e_p1, e_p2, e_ao1, e_ao2, e_nd0, e_nd1, e_nd2, e_sl, e_get1, e_get2, e_is, e_all, e_gets0, e_gets1, e_gets2, e_tms0, e_tms1, e_qg1, e_qg2, e_qg3, e_qgs0, e_qgs1, e_its1, e_its2, e_its3, e_its4, e_jts1, e_jts2, e_jts4, e_mt1, e_mt2, e_ty1, e_add1, e_add2, e_add3, e_sub, e_mul1, e_mul2, e_mul3, e_fdiv, e_mod, e_pow, e_neg, e_len1, e_len2, e_len3, e_len4, e_int1, e_int2, e_abs, e_max, e_min, e_ix1, e_ix2, e_ix3, e_ix4, e_eq1, e_eq2, e_eq3, e_lt1, e_le1, e_gt1, e_ge1, e_lt2, e_in1, e_app, e_ext, e_rev, e_clr, e_set, e_sl1, e_sl2, e_sl3, e_sl4, e_count, e_f1, e_f2, e_osh, e_owh, e_one, e_tt1, e_tt2, e_ctg1, e_ctg2, e_cn0, e_cn1, e_wi0, e_wi1, e_re0, e_re1, e_ifb1, e_ifb2, e_nm0, e_nm1, e_nm2, e_fa0, e_fa1, e_sum, e_allb, e_anyb, e_sp1, e_sp2, e_sp3, e_at0, e_at1, e_at2, e_at3, e_at4, e_at5, e_ixn40, e_ixn41, e_ixn42, e_ixn43, e_cp1, e_cp2, e_cp3, e_cp4, e_cp5, forall_eq, List.getD_cons_zero, List.getD_cons_succ, List.getD_nil, List.set_cons_zero, List.set_cons_succ, List.map_cons, List.map_nil, Option.map_some, Option.map_none, Option.bind_some, Option.bind_none, Option.getD_some, Option.some.injEq, exists_eq_left', exists_eq_left, exists_eq', exists_eq, decide_eq_true_eq, List.length_map, exists_eq_right, exists_and_left, exists_and_right, Option.isSome_some, T.int.injEq, T.str.injEq, T.lst.injEq, T.tup.injEq, T.bl.injEq, List.cons.injEq, Prod.mk.injEq, Hn.tm.injEq, true_and, and_true, and_assoc, and_self, ne_eq, not_false_eq_true, not_true_eq_false, ite_true, ite_false, if_true, if_false, reduceIte, reduceCtorEq, Bool.false_eq_true, false_and, and_false, imp_self, forall_const, implies_true, List.length_cons, List.length_nil, Nat.reduceAdd, Nat.reduceEqDiff, Bool.false_bne, Bool.true_bne, Bool.not_false, Bool.not_true, List.nil_append, List.cons_append, Int.reduceToNat, Int.reducePow, Int.reduceMul, Int.reduceSub, Int.reduceAdd, Int.reduceNeg]
      obtain ⟨c, cm, ec⟩ := atI_in (xs := [97, 98]) (i := if 0 < r then 1 else 0) (by split <;> omega) (by split <;> simp)
      have hc : c = 97 ∨ c = 98 := by simpa using cm
      rw [ec]
      exact ⟨by omega, rfl, hA t' [c] i' (fun d z => by rw [List.mem_singleton.mp z]; exact hc) (Nat.le_refl _)⟩
    · simp only [sSeq, sSet, sPar, sIf, sRet, sRetN, sDrop, sNext, sDead, sBrk, sCnt, sAsg, sFor, dNm, dTm, dC, dOp1, dOp2, dOpN, dMt, dMut, dCall, dLst, dTup, dNil, dCons, dVn, dVc, dSl, dSl3, dNoP, dPrt, dIf, dAndV, dOrV, dNotV, dBv, dTru, dNotT, dAndT, dOrT, dChn, dEqQ, dRpQ, qOp, qNil, qCons, qLs, qTp, dSrc, dRng1, dRng2, dZip2, dEnum, dComp, dYes, gNm, gTp, gCn, gNi, gIt, e_var, e_var1, e_var2, e_var3, e_var4, e_mov, e_mov1, e_mov2, e_mov3, e_mov4, e_tr1, e_tr2, e_tr3, e_tr4, e_tr5, e_own1, e_own2, e_reo1, e_reo2, e_of1, e_of2, e_pin1, e_pin2, e_pin3, e_arg1, e_arg2, e_arg3, e_arg4, e_isarg1, e_isarg2, e_conv1, e_conv2, e_conv3, e_conv4, e_conv5, e_conv6, e_sown1, e_sown2, e_sown3, e_sown4, e_put1, e_put2, e_po1, e_po2, e_p1, e_p2, e_ao1, e_ao2, e_nd0, e_nd1, e_nd2, e_sl, e_get1, e_get2, e_is, e_all, e_gets0, e_gets1, e_gets2, e_tms0, e_tms1, e_qg1, e_qg2, e_qg3, e_qgs0, e_qgs1, e_its1, e_its2, e_its3, e_its4, e_jts1, e_jts2, e_jts4, e_mt1, e_mt2, e_ty1, e_add1, e_add2, e_add3, e_sub, e_mul1, e_mul2, e_mul3, e_fdiv, e_mod, e_pow, e_neg, e_len1, e_len2, e_len3, e_len4, e_int1, e_int2, e_abs, e_max, e_min, e_ix1, e_ix2, e_ix3, e_ix4, e_eq1, e_eq2, e_eq3, e_lt1, e_le1, e_gt1, e_ge1, e_lt2, e_in1, e_app, e_ext, e_rev, e_clr, e_set, e_sl1, e_sl2, e_sl3, e_sl4, e_count, e_f1, e_f2, e_osh, e_owh, e_one, e_tt1, e_tt2, e_ctg1, e_ctg2, e_cn0, e_cn1, e_wi0, e_wi1, e_re0, e_re1, e_ifb1, e_ifb2, e_nm0, e_nm1, e_nm2, e_fa0, e_fa1, e_sum, e_allb, e_anyb, e_sp1, e_sp2, e_sp3, e_at0, e_at1, e_at2, e_at3, e_at4, e_at5, e_ixn40, e_ixn41, e_ixn42, e_ixn43, e_cp1, e_cp2, e_cp3, e_cp4, e_cp5, forall_eq, List.getD_cons_zero, List.getD_cons_succ, List.getD_nil, List.set_cons_zero, List.set_cons_succ, List.map_cons, List.map_nil, Option.map_some, Option.map_none, Option.bind_some, Option.bind_none, Option.getD_some, Option.some.injEq, exists_eq_left', exists_eq_left, exists_eq', exists_eq, decide_eq_true_eq, List.length_map, exists_eq_right, exists_and_left, exists_and_right, Option.isSome_some, T.int.injEq, T.str.injEq, T.lst.injEq, T.tup.injEq, T.bl.injEq, List.cons.injEq, Prod.mk.injEq, Hn.tm.injEq, true_and, and_true, and_assoc, and_self, ne_eq, not_false_eq_true, not_true_eq_false, ite_true, ite_false, if_true, if_false, reduceIte, reduceCtorEq, Bool.false_eq_true, false_and, and_false, imp_self, forall_const, implies_true, List.length_cons, List.length_nil, Nat.reduceAdd, Nat.reduceEqDiff, Bool.false_bne, Bool.true_bne, Bool.not_false, Bool.not_true, List.nil_append, List.cons_append, Int.reduceToNat, Int.reducePow, Int.reduceMul, Int.reduceSub, Int.reduceAdd, Int.reduceNeg, join_strs]
      have h9 := sum_le hls
      have h8 : ls.length ≤ 200 := by rw [hl]; simp; omega
      exact ⟨by omega, hK _ ⟨t', _, rfl, i', abS_flat hls, by rw [flat_len]; omega⟩⟩
  subst e
  refine seq_inv (fun ρ' => ∃ t f, ρ' = [.io t, .sh (.int most), .sh (.int count), .sh (.int way), .sh (.int share), .sh (.str f), .no, .no] ∧ IsBag (b + 4600) t ∧ abS f ∧ f.length ≤ 200) (fun K hK => ?_) (fun ρ' ⟨t, f, e, ib, ab, fl⟩ => ?_)
  · by_cases hw : way = 3
    · simp only [sSeq, sSet, sPar, sIf, sRet, sRetN, sDrop, sNext, sDead, sBrk, sCnt, sAsg, sFor, dNm, dTm, dC, dOp1, dOp2, dOpN, dMt, dMut, dCall, dLst, dTup, dNil, dCons, dVn, dVc, dSl, dSl3, dNoP, dPrt, dIf, dAndV, dOrV, dNotV, dBv, dTru, dNotT, dAndT, dOrT, dChn, dEqQ, dRpQ, qOp, qNil, qCons, qLs, qTp, dSrc, dRng1, dRng2, dZip2, dEnum, dComp, dYes, gNm, gTp, gCn, gNi, gIt, e_var, e_var1, e_var2, e_var3, e_var4, e_mov, e_mov1, e_mov2, e_mov3, e_mov4, e_tr1, e_tr2, e_tr3, e_tr4, e_tr5, e_own1, e_own2, e_reo1, e_reo2, e_of1, e_of2, e_pin1, e_pin2, e_pin3, e_arg1, e_arg2, e_arg3, e_arg4, e_isarg1, e_isarg2, e_conv1, e_conv2, e_conv3, e_conv4, e_conv5, e_conv6, e_sown1, e_sown2, e_sown3, e_sown4, e_put1, e_put2, e_po1, e_po2, e_p1, e_p2, e_ao1, e_ao2, e_nd0, e_nd1, e_nd2, e_sl, e_get1, e_get2, e_is, e_all, e_gets0, e_gets1, e_gets2, e_tms0, e_tms1, e_qg1, e_qg2, e_qg3, e_qgs0, e_qgs1, e_its1, e_its2, e_its3, e_its4, e_jts1, e_jts2, e_jts4, e_mt1, e_mt2, e_ty1, e_add1, e_add2, e_add3, e_sub, e_mul1, e_mul2, e_mul3, e_fdiv, e_mod, e_pow, e_neg, e_len1, e_len2, e_len3, e_len4, e_int1, e_int2, e_abs, e_max, e_min, e_ix1, e_ix2, e_ix3, e_ix4, e_eq1, e_eq2, e_eq3, e_lt1, e_le1, e_gt1, e_ge1, e_lt2, e_in1, e_app, e_ext, e_rev, e_clr, e_set, e_sl1, e_sl2, e_sl3, e_sl4, e_count, e_f1, e_f2, e_osh, e_owh, e_one, e_tt1, e_tt2, e_ctg1, e_ctg2, e_cn0, e_cn1, e_wi0, e_wi1, e_re0, e_re1, e_ifb1, e_ifb2, e_nm0, e_nm1, e_nm2, e_fa0, e_fa1, e_sum, e_allb, e_anyb, e_sp1, e_sp2, e_sp3, e_at0, e_at1, e_at2, e_at3, e_at4, e_at5, e_ixn40, e_ixn41, e_ixn42, e_ixn43, e_cp1, e_cp2, e_cp3, e_cp4, e_cp5, forall_eq, List.getD_cons_zero, List.getD_cons_succ, List.getD_nil, List.set_cons_zero, List.set_cons_succ, List.map_cons, List.map_nil, Option.map_some, Option.map_none, Option.bind_some, Option.bind_none, Option.getD_some, Option.some.injEq, exists_eq_left', exists_eq_left, exists_eq', exists_eq, decide_eq_true_eq, List.length_map, exists_eq_right, exists_and_left, exists_and_right, Option.isSome_some, T.int.injEq, T.str.injEq, T.lst.injEq, T.tup.injEq, T.bl.injEq, List.cons.injEq, Prod.mk.injEq, Hn.tm.injEq, true_and, and_true, and_assoc, and_self, ne_eq, not_false_eq_true, not_true_eq_false, ite_true, ite_false, if_true, if_false, reduceIte, reduceCtorEq, Bool.false_eq_true, false_and, and_false, imp_self, forall_const, implies_true, List.length_cons, List.length_nil, Nat.reduceAdd, Nat.reduceEqDiff, Bool.false_bne, Bool.true_bne, Bool.not_false, Bool.not_true, List.nil_append, List.cons_append, Int.reduceToNat, Int.reducePow, Int.reduceMul, Int.reduceSub, Int.reduceAdd, Int.reduceNeg, hw, decide_true]
      refine sbag (b := b + 4699) (bound := 2) ib (by decide) (by decide) fun t' r i' a0 a1 => ?_
      by_cases hr : r = 0
      · simp only [sSeq, sSet, sPar, sIf, sRet, sRetN, sDrop, sNext, sDead, sBrk, sCnt, sAsg, sFor, dNm, dTm, dC, dOp1, dOp2, dOpN, dMt, dMut, dCall, dLst, dTup, dNil, dCons, dVn, dVc, dSl, dSl3, dNoP, dPrt, dIf, dAndV, dOrV, dNotV, dBv, dTru, dNotT, dAndT, dOrT, dChn, dEqQ, dRpQ, qOp, qNil, qCons, qLs, qTp, dSrc, dRng1, dRng2, dZip2, dEnum, dComp, dYes, gNm, gTp, gCn, gNi, gIt, e_var, e_var1, e_var2, e_var3, e_var4, e_mov, e_mov1, e_mov2, e_mov3, e_mov4, e_tr1, e_tr2, e_tr3, e_tr4, e_tr5, e_own1, e_own2, e_reo1, e_reo2, e_of1, e_of2, e_pin1, e_pin2, e_pin3, e_arg1, e_arg2, e_arg3, e_arg4, e_isarg1, e_isarg2, e_conv1, e_conv2, e_conv3, e_conv4, e_conv5, e_conv6, e_sown1, e_sown2, e_sown3, e_sown4, e_put1, e_put2, e_po1, e_po2, e_p1, e_p2, e_ao1, e_ao2, e_nd0, e_nd1, e_nd2, e_sl, e_get1, e_get2, e_is, e_all, e_gets0, e_gets1, e_gets2, e_tms0, e_tms1, e_qg1, e_qg2, e_qg3, e_qgs0, e_qgs1, e_its1, e_its2, e_its3, e_its4, e_jts1, e_jts2, e_jts4, e_mt1, e_mt2, e_ty1, e_add1, e_add2, e_add3, e_sub, e_mul1, e_mul2, e_mul3, e_fdiv, e_mod, e_pow, e_neg, e_len1, e_len2, e_len3, e_len4, e_int1, e_int2, e_abs, e_max, e_min, e_ix1, e_ix2, e_ix3, e_ix4, e_eq1, e_eq2, e_eq3, e_lt1, e_le1, e_gt1, e_ge1, e_lt2, e_in1, e_app, e_ext, e_rev, e_clr, e_set, e_sl1, e_sl2, e_sl3, e_sl4, e_count, e_f1, e_f2, e_osh, e_owh, e_one, e_tt1, e_tt2, e_ctg1, e_ctg2, e_cn0, e_cn1, e_wi0, e_wi1, e_re0, e_re1, e_ifb1, e_ifb2, e_nm0, e_nm1, e_nm2, e_fa0, e_fa1, e_sum, e_allb, e_anyb, e_sp1, e_sp2, e_sp3, e_at0, e_at1, e_at2, e_at3, e_at4, e_at5, e_ixn40, e_ixn41, e_ixn42, e_ixn43, e_cp1, e_cp2, e_cp3, e_cp4, e_cp5, forall_eq, List.getD_cons_zero, List.getD_cons_succ, List.getD_nil, List.set_cons_zero, List.set_cons_succ, List.map_cons, List.map_nil, Option.map_some, Option.map_none, Option.bind_some, Option.bind_none, Option.getD_some, Option.some.injEq, exists_eq_left', exists_eq_left, exists_eq', exists_eq, decide_eq_true_eq, List.length_map, exists_eq_right, exists_and_left, exists_and_right, Option.isSome_some, T.int.injEq, T.str.injEq, T.lst.injEq, T.tup.injEq, T.bl.injEq, List.cons.injEq, Prod.mk.injEq, Hn.tm.injEq, true_and, and_true, and_assoc, and_self, ne_eq, not_false_eq_true, not_true_eq_false, ite_true, ite_false, if_true, if_false, reduceIte, reduceCtorEq, Bool.false_eq_true, false_and, and_false, imp_self, forall_const, implies_true, List.length_cons, List.length_nil, Nat.reduceAdd, Nat.reduceEqDiff, Bool.false_bne, Bool.true_bne, Bool.not_false, Bool.not_true, List.nil_append, List.cons_append, Int.reduceToNat, Int.reducePow, Int.reduceMul, Int.reduceSub, Int.reduceAdd, Int.reduceNeg, hr, decide_true]
        refine comp_all (w := fun c => T.str [c]) (fun c => .str [if c = 98 then 97 else 98]) (fun c hc A B hA => ?_) (by omega) ?_
        · simp only [sSeq, sSet, sPar, sIf, sRet, sRetN, sDrop, sNext, sDead, sBrk, sCnt, sAsg, sFor, dNm, dTm, dC, dOp1, dOp2, dOpN, dMt, dMut, dCall, dLst, dTup, dNil, dCons, dVn, dVc, dSl, dSl3, dNoP, dPrt, dIf, dAndV, dOrV, dNotV, dBv, dTru, dNotT, dAndT, dOrT, dChn, dEqQ, dRpQ, qOp, qNil, qCons, qLs, qTp, dSrc, dRng1, dRng2, dZip2, dEnum, dComp, dYes, gNm, gTp, gCn, gNi, gIt, e_var, e_var1, e_var2, e_var3, e_var4, e_mov, e_mov1, e_mov2, e_mov3, e_mov4, e_tr1, e_tr2, e_tr3, e_tr4, e_tr5, e_own1, e_own2, e_reo1, e_reo2, e_of1, e_of2, e_pin1, e_pin2, e_pin3, e_arg1, e_arg2, e_arg3, e_arg4, e_isarg1, e_isarg2, e_conv1, e_conv2, e_conv3, e_conv4, e_conv5, e_conv6, e_sown1, e_sown2, e_sown3, e_sown4, e_put1, e_put2, e_po1, e_po2, e_p1, e_p2, e_ao1, e_ao2, e_nd0, e_nd1, e_nd2, e_sl, e_get1, e_get2, e_is, e_all, e_gets0, e_gets1, e_gets2, e_tms0, e_tms1, e_qg1, e_qg2, e_qg3, e_qgs0, e_qgs1, e_its1, e_its2, e_its3, e_its4, e_jts1, e_jts2, e_jts4, e_mt1, e_mt2, e_ty1, e_add1, e_add2, e_add3, e_sub, e_mul1, e_mul2, e_mul3, e_fdiv, e_mod, e_pow, e_neg, e_len1, e_len2, e_len3, e_len4, e_int1, e_int2, e_abs, e_max, e_min, e_ix1, e_ix2, e_ix3, e_ix4, e_eq1, e_eq2, e_eq3, e_lt1, e_le1, e_gt1, e_ge1, e_lt2, e_in1, e_app, e_ext, e_rev, e_clr, e_set, e_sl1, e_sl2, e_sl3, e_sl4, e_count, e_f1, e_f2, e_osh, e_owh, e_one, e_tt1, e_tt2, e_ctg1, e_ctg2, e_cn0, e_cn1, e_wi0, e_wi1, e_re0, e_re1, e_ifb1, e_ifb2, e_nm0, e_nm1, e_nm2, e_fa0, e_fa1, e_sum, e_allb, e_anyb, e_sp1, e_sp2, e_sp3, e_at0, e_at1, e_at2, e_at3, e_at4, e_at5, e_ixn40, e_ixn41, e_ixn42, e_ixn43, e_cp1, e_cp2, e_cp3, e_cp4, e_cp5, forall_eq, List.getD_cons_zero, List.getD_cons_succ, List.getD_nil, List.set_cons_zero, List.set_cons_succ, List.map_cons, List.map_nil, Option.map_some, Option.map_none, Option.bind_some, Option.bind_none, Option.getD_some, Option.some.injEq, exists_eq_left', exists_eq_left, exists_eq', exists_eq, decide_eq_true_eq, List.length_map, exists_eq_right, exists_and_left, exists_and_right, Option.isSome_some, T.int.injEq, T.str.injEq, T.lst.injEq, T.tup.injEq, T.bl.injEq, List.cons.injEq, Prod.mk.injEq, Hn.tm.injEq, true_and, and_true, and_assoc, and_self, ne_eq, not_false_eq_true, not_true_eq_false, ite_true, ite_false, if_true, if_false, reduceIte, reduceCtorEq, Bool.false_eq_true, false_and, and_false, imp_self, forall_const, implies_true, List.length_cons, List.length_nil, Nat.reduceAdd, Nat.reduceEqDiff, Bool.false_bne, Bool.true_bne, Bool.not_false, Bool.not_true, List.nil_append, List.cons_append, Int.reduceToNat, Int.reducePow, Int.reduceMul, Int.reduceSub, Int.reduceAdd, Int.reduceNeg]
          by_cases h : c = 98
          · rw [if_pos h] at hA
            rw [if_pos h]
            exact ⟨by omega, by rw [e_at1]; rfl, by rw [e_at1]; exact hA⟩
          · rw [if_neg h] at hA
            rw [if_neg h]
            exact ⟨by omega, by rw [e_at0]; rfl, by rw [e_at0]; exact hA⟩
        · have e : (f.map fun c => T.str [if c = 98 then 97 else 98]) = (f.map fun c => if c = 98 then 97 else 98).map fun c => T.str [c] := by rw [List.map_map]; rfl
          rw [e]
          simp only [sSeq, sSet, sPar, sIf, sRet, sRetN, sDrop, sNext, sDead, sBrk, sCnt, sAsg, sFor, dNm, dTm, dC, dOp1, dOp2, dOpN, dMt, dMut, dCall, dLst, dTup, dNil, dCons, dVn, dVc, dSl, dSl3, dNoP, dPrt, dIf, dAndV, dOrV, dNotV, dBv, dTru, dNotT, dAndT, dOrT, dChn, dEqQ, dRpQ, qOp, qNil, qCons, qLs, qTp, dSrc, dRng1, dRng2, dZip2, dEnum, dComp, dYes, gNm, gTp, gCn, gNi, gIt, e_var, e_var1, e_var2, e_var3, e_var4, e_mov, e_mov1, e_mov2, e_mov3, e_mov4, e_tr1, e_tr2, e_tr3, e_tr4, e_tr5, e_own1, e_own2, e_reo1, e_reo2, e_of1, e_of2, e_pin1, e_pin2, e_pin3, e_arg1, e_arg2, e_arg3, e_arg4, e_isarg1, e_isarg2, e_conv1, e_conv2, e_conv3, e_conv4, e_conv5, e_conv6, e_sown1, e_sown2, e_sown3, e_sown4, e_put1, e_put2, e_po1, e_po2, e_p1, e_p2, e_ao1, e_ao2, e_nd0, e_nd1, e_nd2, e_sl, e_get1, e_get2, e_is, e_all, e_gets0, e_gets1, e_gets2, e_tms0, e_tms1, e_qg1, e_qg2, e_qg3, e_qgs0, e_qgs1, e_its1, e_its2, e_its3, e_its4, e_jts1, e_jts2, e_jts4, e_mt1, e_mt2, e_ty1, e_add1, e_add2, e_add3, e_sub, e_mul1, e_mul2, e_mul3, e_fdiv, e_mod, e_pow, e_neg, e_len1, e_len2, e_len3, e_len4, e_int1, e_int2, e_abs, e_max, e_min, e_ix1, e_ix2, e_ix3, e_ix4, e_eq1, e_eq2, e_eq3, e_lt1, e_le1, e_gt1, e_ge1, e_lt2, e_in1, e_app, e_ext, e_rev, e_clr, e_set, e_sl1, e_sl2, e_sl3, e_sl4, e_count, e_f1, e_f2, e_osh, e_owh, e_one, e_tt1, e_tt2, e_ctg1, e_ctg2, e_cn0, e_cn1, e_wi0, e_wi1, e_re0, e_re1, e_ifb1, e_ifb2, e_nm0, e_nm1, e_nm2, e_fa0, e_fa1, e_sum, e_allb, e_anyb, e_sp1, e_sp2, e_sp3, e_at0, e_at1, e_at2, e_at3, e_at4, e_at5, e_ixn40, e_ixn41, e_ixn42, e_ixn43, e_cp1, e_cp2, e_cp3, e_cp4, e_cp5, forall_eq, List.getD_cons_zero, List.getD_cons_succ, List.getD_nil, List.set_cons_zero, List.set_cons_succ, List.map_cons, List.map_nil, Option.map_some, Option.map_none, Option.bind_some, Option.bind_none, Option.getD_some, Option.some.injEq, exists_eq_left', exists_eq_left, exists_eq', exists_eq, decide_eq_true_eq, List.length_map, exists_eq_right, exists_and_left, exists_and_right, Option.isSome_some, T.int.injEq, T.str.injEq, T.lst.injEq, T.tup.injEq, T.bl.injEq, List.cons.injEq, Prod.mk.injEq, Hn.tm.injEq, true_and, and_true, and_assoc, and_self, ne_eq, not_false_eq_true, not_true_eq_false, ite_true, ite_false, if_true, if_false, reduceIte, reduceCtorEq, Bool.false_eq_true, false_and, and_false, imp_self, forall_const, implies_true, List.length_cons, List.length_nil, Nat.reduceAdd, Nat.reduceEqDiff, Bool.false_bne, Bool.true_bne, Bool.not_false, Bool.not_true, List.nil_append, List.cons_append, Int.reduceToNat, Int.reducePow, Int.reduceMul, Int.reduceSub, Int.reduceAdd, Int.reduceNeg, join_signs]
          refine ⟨by omega, hK _ ⟨t', _, by rw [← hw], i'.less (by omega), fun d z => ?_, by rw [List.length_map]; exact fl⟩⟩
          obtain ⟨c, _, rfl⟩ := List.mem_map.mp z
          by_cases h : c = 98 <;> simp [h]
      · simp only [sSeq, sSet, sPar, sIf, sRet, sRetN, sDrop, sNext, sDead, sBrk, sCnt, sAsg, sFor, dNm, dTm, dC, dOp1, dOp2, dOpN, dMt, dMut, dCall, dLst, dTup, dNil, dCons, dVn, dVc, dSl, dSl3, dNoP, dPrt, dIf, dAndV, dOrV, dNotV, dBv, dTru, dNotT, dAndT, dOrT, dChn, dEqQ, dRpQ, qOp, qNil, qCons, qLs, qTp, dSrc, dRng1, dRng2, dZip2, dEnum, dComp, dYes, gNm, gTp, gCn, gNi, gIt, e_var, e_var1, e_var2, e_var3, e_var4, e_mov, e_mov1, e_mov2, e_mov3, e_mov4, e_tr1, e_tr2, e_tr3, e_tr4, e_tr5, e_own1, e_own2, e_reo1, e_reo2, e_of1, e_of2, e_pin1, e_pin2, e_pin3, e_arg1, e_arg2, e_arg3, e_arg4, e_isarg1, e_isarg2, e_conv1, e_conv2, e_conv3, e_conv4, e_conv5, e_conv6, e_sown1, e_sown2, e_sown3, e_sown4, e_put1, e_put2, e_po1, e_po2, e_p1, e_p2, e_ao1, e_ao2, e_nd0, e_nd1, e_nd2, e_sl, e_get1, e_get2, e_is, e_all, e_gets0, e_gets1, e_gets2, e_tms0, e_tms1, e_qg1, e_qg2, e_qg3, e_qgs0, e_qgs1, e_its1, e_its2, e_its3, e_its4, e_jts1, e_jts2, e_jts4, e_mt1, e_mt2, e_ty1, e_add1, e_add2, e_add3, e_sub, e_mul1, e_mul2, e_mul3, e_fdiv, e_mod, e_pow, e_neg, e_len1, e_len2, e_len3, e_len4, e_int1, e_int2, e_abs, e_max, e_min, e_ix1, e_ix2, e_ix3, e_ix4, e_eq1, e_eq2, e_eq3, e_lt1, e_le1, e_gt1, e_ge1, e_lt2, e_in1, e_app, e_ext, e_rev, e_clr, e_set, e_sl1, e_sl2, e_sl3, e_sl4, e_count, e_f1, e_f2, e_osh, e_owh, e_one, e_tt1, e_tt2, e_ctg1, e_ctg2, e_cn0, e_cn1, e_wi0, e_wi1, e_re0, e_re1, e_ifb1, e_ifb2, e_nm0, e_nm1, e_nm2, e_fa0, e_fa1, e_sum, e_allb, e_anyb, e_sp1, e_sp2, e_sp3, e_at0, e_at1, e_at2, e_at3, e_at4, e_at5, e_ixn40, e_ixn41, e_ixn42, e_ixn43, e_cp1, e_cp2, e_cp3, e_cp4, e_cp5, forall_eq, List.getD_cons_zero, List.getD_cons_succ, List.getD_nil, List.set_cons_zero, List.set_cons_succ, List.map_cons, List.map_nil, Option.map_some, Option.map_none, Option.bind_some, Option.bind_none, Option.getD_some, Option.some.injEq, exists_eq_left', exists_eq_left, exists_eq', exists_eq, decide_eq_true_eq, List.length_map, exists_eq_right, exists_and_left, exists_and_right, Option.isSome_some, T.int.injEq, T.str.injEq, T.lst.injEq, T.tup.injEq, T.bl.injEq, List.cons.injEq, Prod.mk.injEq, Hn.tm.injEq, true_and, and_true, and_assoc, and_self, ne_eq, not_false_eq_true, not_true_eq_false, ite_true, ite_false, if_true, if_false, reduceIte, reduceCtorEq, Bool.false_eq_true, false_and, and_false, imp_self, forall_const, implies_true, List.length_cons, List.length_nil, Nat.reduceAdd, Nat.reduceEqDiff, Bool.false_bne, Bool.true_bne, Bool.not_false, Bool.not_true, List.nil_append, List.cons_append, Int.reduceToNat, Int.reducePow, Int.reduceMul, Int.reduceSub, Int.reduceAdd, Int.reduceNeg, hr, decide_false]
        exact hK _ ⟨t', f, by rw [← hw], i'.less (by omega), ab, fl⟩
    · simp only [sSeq, sSet, sPar, sIf, sRet, sRetN, sDrop, sNext, sDead, sBrk, sCnt, sAsg, sFor, dNm, dTm, dC, dOp1, dOp2, dOpN, dMt, dMut, dCall, dLst, dTup, dNil, dCons, dVn, dVc, dSl, dSl3, dNoP, dPrt, dIf, dAndV, dOrV, dNotV, dBv, dTru, dNotT, dAndT, dOrT, dChn, dEqQ, dRpQ, qOp, qNil, qCons, qLs, qTp, dSrc, dRng1, dRng2, dZip2, dEnum, dComp, dYes, gNm, gTp, gCn, gNi, gIt, e_var, e_var1, e_var2, e_var3, e_var4, e_mov, e_mov1, e_mov2, e_mov3, e_mov4, e_tr1, e_tr2, e_tr3, e_tr4, e_tr5, e_own1, e_own2, e_reo1, e_reo2, e_of1, e_of2, e_pin1, e_pin2, e_pin3, e_arg1, e_arg2, e_arg3, e_arg4, e_isarg1, e_isarg2, e_conv1, e_conv2, e_conv3, e_conv4, e_conv5, e_conv6, e_sown1, e_sown2, e_sown3, e_sown4, e_put1, e_put2, e_po1, e_po2, e_p1, e_p2, e_ao1, e_ao2, e_nd0, e_nd1, e_nd2, e_sl, e_get1, e_get2, e_is, e_all, e_gets0, e_gets1, e_gets2, e_tms0, e_tms1, e_qg1, e_qg2, e_qg3, e_qgs0, e_qgs1, e_its1, e_its2, e_its3, e_its4, e_jts1, e_jts2, e_jts4, e_mt1, e_mt2, e_ty1, e_add1, e_add2, e_add3, e_sub, e_mul1, e_mul2, e_mul3, e_fdiv, e_mod, e_pow, e_neg, e_len1, e_len2, e_len3, e_len4, e_int1, e_int2, e_abs, e_max, e_min, e_ix1, e_ix2, e_ix3, e_ix4, e_eq1, e_eq2, e_eq3, e_lt1, e_le1, e_gt1, e_ge1, e_lt2, e_in1, e_app, e_ext, e_rev, e_clr, e_set, e_sl1, e_sl2, e_sl3, e_sl4, e_count, e_f1, e_f2, e_osh, e_owh, e_one, e_tt1, e_tt2, e_ctg1, e_ctg2, e_cn0, e_cn1, e_wi0, e_wi1, e_re0, e_re1, e_ifb1, e_ifb2, e_nm0, e_nm1, e_nm2, e_fa0, e_fa1, e_sum, e_allb, e_anyb, e_sp1, e_sp2, e_sp3, e_at0, e_at1, e_at2, e_at3, e_at4, e_at5, e_ixn40, e_ixn41, e_ixn42, e_ixn43, e_cp1, e_cp2, e_cp3, e_cp4, e_cp5, forall_eq, List.getD_cons_zero, List.getD_cons_succ, List.getD_nil, List.set_cons_zero, List.set_cons_succ, List.map_cons, List.map_nil, Option.map_some, Option.map_none, Option.bind_some, Option.bind_none, Option.getD_some, Option.some.injEq, exists_eq_left', exists_eq_left, exists_eq', exists_eq, decide_eq_true_eq, List.length_map, exists_eq_right, exists_and_left, exists_and_right, Option.isSome_some, T.int.injEq, T.str.injEq, T.lst.injEq, T.tup.injEq, T.bl.injEq, List.cons.injEq, Prod.mk.injEq, Hn.tm.injEq, true_and, and_true, and_assoc, and_self, ne_eq, not_false_eq_true, not_true_eq_false, ite_true, ite_false, if_true, if_false, reduceIte, reduceCtorEq, Bool.false_eq_true, false_and, and_false, imp_self, forall_const, implies_true, List.length_cons, List.length_nil, Nat.reduceAdd, Nat.reduceEqDiff, Bool.false_bne, Bool.true_bne, Bool.not_false, Bool.not_true, List.nil_append, List.cons_append, Int.reduceToNat, Int.reducePow, Int.reduceMul, Int.reduceSub, Int.reduceAdd, Int.reduceNeg, hw, decide_false]
      exact hK _ ⟨t, f, rfl, ib.less (by omega), ab, fl⟩
  subst e
  refine seq_inv (fun ρ' => ∃ t f, ρ' = [.io t, .sh (.int most), .sh (.int count), .sh (.int way), .sh (.int share), .sh (.str f), .no, .no] ∧ IsBag (b + 4000) t ∧ abS f ∧ f.length ≤ 2000) (fun K hK => ?_) (fun ρ' ⟨t, f, e, ib, ab, fl⟩ => ?_)
  · by_cases hw : way = 4
    · simp only [sSeq, sSet, sPar, sIf, sRet, sRetN, sDrop, sNext, sDead, sBrk, sCnt, sAsg, sFor, dNm, dTm, dC, dOp1, dOp2, dOpN, dMt, dMut, dCall, dLst, dTup, dNil, dCons, dVn, dVc, dSl, dSl3, dNoP, dPrt, dIf, dAndV, dOrV, dNotV, dBv, dTru, dNotT, dAndT, dOrT, dChn, dEqQ, dRpQ, qOp, qNil, qCons, qLs, qTp, dSrc, dRng1, dRng2, dZip2, dEnum, dComp, dYes, gNm, gTp, gCn, gNi, gIt, e_var, e_var1, e_var2, e_var3, e_var4, e_mov, e_mov1, e_mov2, e_mov3, e_mov4, e_tr1, e_tr2, e_tr3, e_tr4, e_tr5, e_own1, e_own2, e_reo1, e_reo2, e_of1, e_of2, e_pin1, e_pin2, e_pin3, e_arg1, e_arg2, e_arg3, e_arg4, e_isarg1, e_isarg2, e_conv1, e_conv2, e_conv3, e_conv4, e_conv5, e_conv6, e_sown1, e_sown2, e_sown3, e_sown4, e_put1, e_put2, e_po1, e_po2, e_p1, e_p2, e_ao1, e_ao2, e_nd0, e_nd1, e_nd2, e_sl, e_get1, e_get2, e_is, e_all, e_gets0, e_gets1, e_gets2, e_tms0, e_tms1, e_qg1, e_qg2, e_qg3, e_qgs0, e_qgs1, e_its1, e_its2, e_its3, e_its4, e_jts1, e_jts2, e_jts4, e_mt1, e_mt2, e_ty1, e_add1, e_add2, e_add3, e_sub, e_mul1, e_mul2, e_mul3, e_fdiv, e_mod, e_pow, e_neg, e_len1, e_len2, e_len3, e_len4, e_int1, e_int2, e_abs, e_max, e_min, e_ix1, e_ix2, e_ix3, e_ix4, e_eq1, e_eq2, e_eq3, e_lt1, e_le1, e_gt1, e_ge1, e_lt2, e_in1, e_app, e_ext, e_rev, e_clr, e_set, e_sl1, e_sl2, e_sl3, e_sl4, e_count, e_f1, e_f2, e_osh, e_owh, e_one, e_tt1, e_tt2, e_ctg1, e_ctg2, e_cn0, e_cn1, e_wi0, e_wi1, e_re0, e_re1, e_ifb1, e_ifb2, e_nm0, e_nm1, e_nm2, e_fa0, e_fa1, e_sum, e_allb, e_anyb, e_sp1, e_sp2, e_sp3, e_at0, e_at1, e_at2, e_at3, e_at4, e_at5, e_ixn40, e_ixn41, e_ixn42, e_ixn43, e_cp1, e_cp2, e_cp3, e_cp4, e_cp5, forall_eq, List.getD_cons_zero, List.getD_cons_succ, List.getD_nil, List.set_cons_zero, List.set_cons_succ, List.map_cons, List.map_nil, Option.map_some, Option.map_none, Option.bind_some, Option.bind_none, Option.getD_some, Option.some.injEq, exists_eq_left', exists_eq_left, exists_eq', exists_eq, decide_eq_true_eq, List.length_map, exists_eq_right, exists_and_left, exists_and_right, Option.isSome_some, T.int.injEq, T.str.injEq, T.lst.injEq, T.tup.injEq, T.bl.injEq, List.cons.injEq, Prod.mk.injEq, Hn.tm.injEq, true_and, and_true, and_assoc, and_self, ne_eq, not_false_eq_true, not_true_eq_false, ite_true, ite_false, if_true, if_false, reduceIte, reduceCtorEq, Bool.false_eq_true, false_and, and_false, imp_self, forall_const, implies_true, List.length_cons, List.length_nil, Nat.reduceAdd, Nat.reduceEqDiff, Bool.false_bne, Bool.true_bne, Bool.not_false, Bool.not_true, List.nil_append, List.cons_append, Int.reduceToNat, Int.reducePow, Int.reduceMul, Int.reduceSub, Int.reduceAdd, Int.reduceNeg, hw, decide_true]
      refine comp_bag (w := fun c => T.str [c]) 9 (fun t' => [.io t', .sh (.int most), .sh (.int count), .sh (.int 4), .sh (.int share), .sh (.str f), .no, .no]) (b + 4000) f [] t (fun x hx n t ib A B hA => ?_) (ib.less (by omega)) (fun l z => by cases z) (by simp; omega) (fun t' ls i' hls hl => ?_)
      · simp only [sSeq, sSet, sPar, sIf, sRet, sRetN, sDrop, sNext, sDead, sBrk, sCnt, sAsg, sFor, dNm, dTm, dC, dOp1, dOp2, dOpN, dMt, dMut, dCall, dLst, dTup, dNil, dCons, dVn, dVc, dSl, dSl3, dNoP, dPrt, dIf, dAndV, dOrV, dNotV, dBv, dTru, dNotT, dAndT, dOrT, dChn, dEqQ, dRpQ, qOp, qNil, qCons, qLs, qTp, dSrc, dRng1, dRng2, dZip2, dEnum, dComp, dYes, gNm, gTp, gCn, gNi, gIt, e_var, e_var1, e_var2, e_var3, e_var4, e_mov, e_mov1, e_mov2, e_mov3, e_mov4, e_tr1, e_tr2, e_tr3, e_tr4, e_tr5, e_own1, e_own2, e_reo1, e_reo2, e_of1, e_of2, e_pin1, e_pin2, e_pin3, e_arg1, e_arg2, e_arg3, e_arg4, e_isarg1, e_isarg2, e_conv1, e_conv2, e_conv3, e_conv4, e_conv5, e_conv6, e_sown1, e_sown2, e_sown3, e_sown4, e_put1, e_put2, e_po1, e_po2, e_p1, e_p2, e_ao1, e_ao2, e_nd0, e_nd1, e_nd2, e_sl, e_get1, e_get2, e_is, e_all, e_gets0, e_gets1, e_gets2, e_tms0, e_tms1, e_qg1, e_qg2, e_qg3, e_qgs0, e_qgs1, e_its1, e_its2, e_its3, e_its4, e_jts1, e_jts2, e_jts4, e_mt1, e_mt2, e_ty1, e_add1, e_add2, e_add3, e_sub, e_mul1, e_mul2, e_mul3, e_fdiv, e_mod, e_pow, e_neg, e_len1, e_len2, e_len3, e_len4, e_int1, e_int2, e_abs, e_max, e_min, e_ix1, e_ix2, e_ix3, e_ix4, e_eq1, e_eq2, e_eq3, e_lt1, e_le1, e_gt1, e_ge1, e_lt2, e_in1, e_app, e_ext, e_rev, e_clr, e_set, e_sl1, e_sl2, e_sl3, e_sl4, e_count, e_f1, e_f2, e_osh, e_owh, e_one, e_tt1, e_tt2, e_ctg1, e_ctg2, e_cn0, e_cn1, e_wi0, e_wi1, e_re0, e_re1, e_ifb1, e_ifb2, e_nm0, e_nm1, e_nm2, e_fa0, e_fa1, e_sum, e_allb, e_anyb, e_sp1, e_sp2, e_sp3, e_at0, e_at1, e_at2, e_at3, e_at4, e_at5, e_ixn40, e_ixn41, e_ixn42, e_ixn43, e_cp1, e_cp2, e_cp3, e_cp4, e_cp5, forall_eq, List.getD_cons_zero, List.getD_cons_succ, List.getD_nil, List.set_cons_zero, List.set_cons_succ, List.map_cons, List.map_nil, Option.map_some, Option.map_none, Option.bind_some, Option.bind_none, Option.getD_some, Option.some.injEq, exists_eq_left', exists_eq_left, exists_eq', exists_eq, decide_eq_true_eq, List.length_map, exists_eq_right, exists_and_left, exists_and_right, Option.isSome_some, T.int.injEq, T.str.injEq, T.lst.injEq, T.tup.injEq, T.bl.injEq, List.cons.injEq, Prod.mk.injEq, Hn.tm.injEq, true_and, and_true, and_assoc, and_self, ne_eq, not_false_eq_true, not_true_eq_false, ite_true, ite_false, if_true, if_false, reduceIte, reduceCtorEq, Bool.false_eq_true, false_and, and_false, imp_self, forall_const, implies_true, List.length_cons, List.length_nil, Nat.reduceAdd, Nat.reduceEqDiff, Bool.false_bne, Bool.true_bne, Bool.not_false, Bool.not_true, List.nil_append, List.cons_append, Int.reduceToNat, Int.reducePow, Int.reduceMul, Int.reduceSub, Int.reduceAdd, Int.reduceNeg]
        refine sbag (bound := 9) ib (by decide) (by decide) fun t' r i' a0 a1 => ?_
        simp only [sSeq, sSet, sPar, sIf, sRet, sRetN, sDrop, sNext, sDead, sBrk, sCnt, sAsg, sFor, dNm, dTm, dC, dOp1, dOp2, dOpN, dMt, dMut, dCall, dLst, dTup, dNil, dCons, dVn, dVc, dSl, dSl3, dNoP, dPrt, dIf, dAndV, dOrV, dNotV, dBv, dTru, dNotT, dAndT, dOrT, dChn, dEqQ, dRpQ, qOp, qNil, qCons, qLs, qTp, dSrc, dRng1, dRng2, dZip2, dEnum, dComp, dYes, gNm, gTp, gCn, gNi, gIt, e_var, e_var1, e_var2, e_var3, e_var4, e_mov, e_mov1, e_mov2, e_mov3, e_mov4, e_tr1, e_tr2, e_tr3, e_tr4, e_tr5, e_own1, e_own2, e_reo1, e_reo2, e_of1, e_of2, e_pin1, e_pin2, e_pin3, e_arg1, e_arg2, e_arg3, e_arg4, e_isarg1, e_isarg2, e_conv1, e_conv2, e_conv3, e_conv4, e_conv5, e_conv6, e_sown1, e_sown2, e_sown3, e_sown4, e_put1, e_put2, e_po1, e_po2, e_p1, e_p2, e_ao1, e_ao2, e_nd0, e_nd1, e_nd2, e_sl, e_get1, e_get2, e_is, e_all, e_gets0, e_gets1, e_gets2, e_tms0, e_tms1, e_qg1, e_qg2, e_qg3, e_qgs0, e_qgs1, e_its1, e_its2, e_its3, e_its4, e_jts1, e_jts2, e_jts4, e_mt1, e_mt2, e_ty1, e_add1, e_add2, e_add3, e_sub, e_mul1, e_mul2, e_mul3, e_fdiv, e_mod, e_pow, e_neg, e_len1, e_len2, e_len3, e_len4, e_int1, e_int2, e_abs, e_max, e_min, e_ix1, e_ix2, e_ix3, e_ix4, e_eq1, e_eq2, e_eq3, e_lt1, e_le1, e_gt1, e_ge1, e_lt2, e_in1, e_app, e_ext, e_rev, e_clr, e_set, e_sl1, e_sl2, e_sl3, e_sl4, e_count, e_f1, e_f2, e_osh, e_owh, e_one, e_tt1, e_tt2, e_ctg1, e_ctg2, e_cn0, e_cn1, e_wi0, e_wi1, e_re0, e_re1, e_ifb1, e_ifb2, e_nm0, e_nm1, e_nm2, e_fa0, e_fa1, e_sum, e_allb, e_anyb, e_sp1, e_sp2, e_sp3, e_at0, e_at1, e_at2, e_at3, e_at4, e_at5, e_ixn40, e_ixn41, e_ixn42, e_ixn43, e_cp1, e_cp2, e_cp3, e_cp4, e_cp5, forall_eq, List.getD_cons_zero, List.getD_cons_succ, List.getD_nil, List.set_cons_zero, List.set_cons_succ, List.map_cons, List.map_nil, Option.map_some, Option.map_none, Option.bind_some, Option.bind_none, Option.getD_some, Option.some.injEq, exists_eq_left', exists_eq_left, exists_eq', exists_eq, decide_eq_true_eq, List.length_map, exists_eq_right, exists_and_left, exists_and_right, Option.isSome_some, T.int.injEq, T.str.injEq, T.lst.injEq, T.tup.injEq, T.bl.injEq, List.cons.injEq, Prod.mk.injEq, Hn.tm.injEq, true_and, and_true, and_assoc, and_self, ne_eq, not_false_eq_true, not_true_eq_false, ite_true, ite_false, if_true, if_false, reduceIte, reduceCtorEq, Bool.false_eq_true, false_and, and_false, imp_self, forall_const, implies_true, List.length_cons, List.length_nil, Nat.reduceAdd, Nat.reduceEqDiff, Bool.false_bne, Bool.true_bne, Bool.not_false, Bool.not_true, List.nil_append, List.cons_append, Int.reduceToNat, Int.reducePow, Int.reduceMul, Int.reduceSub, Int.reduceAdd, Int.reduceNeg]
        exact ⟨by omega, by omega, by omega, hA t' _ i' (abS_rep (ab x hx) _) (by rw [len_rep]; omega)⟩
      · simp only [sSeq, sSet, sPar, sIf, sRet, sRetN, sDrop, sNext, sDead, sBrk, sCnt, sAsg, sFor, dNm, dTm, dC, dOp1, dOp2, dOpN, dMt, dMut, dCall, dLst, dTup, dNil, dCons, dVn, dVc, dSl, dSl3, dNoP, dPrt, dIf, dAndV, dOrV, dNotV, dBv, dTru, dNotT, dAndT, dOrT, dChn, dEqQ, dRpQ, qOp, qNil, qCons, qLs, qTp, dSrc, dRng1, dRng2, dZip2, dEnum, dComp, dYes, gNm, gTp, gCn, gNi, gIt, e_var, e_var1, e_var2, e_var3, e_var4, e_mov, e_mov1, e_mov2, e_mov3, e_mov4, e_tr1, e_tr2, e_tr3, e_tr4, e_tr5, e_own1, e_own2, e_reo1, e_reo2, e_of1, e_of2, e_pin1, e_pin2, e_pin3, e_arg1, e_arg2, e_arg3, e_arg4, e_isarg1, e_isarg2, e_conv1, e_conv2, e_conv3, e_conv4, e_conv5, e_conv6, e_sown1, e_sown2, e_sown3, e_sown4, e_put1, e_put2, e_po1, e_po2, e_p1, e_p2, e_ao1, e_ao2, e_nd0, e_nd1, e_nd2, e_sl, e_get1, e_get2, e_is, e_all, e_gets0, e_gets1, e_gets2, e_tms0, e_tms1, e_qg1, e_qg2, e_qg3, e_qgs0, e_qgs1, e_its1, e_its2, e_its3, e_its4, e_jts1, e_jts2, e_jts4, e_mt1, e_mt2, e_ty1, e_add1, e_add2, e_add3, e_sub, e_mul1, e_mul2, e_mul3, e_fdiv, e_mod, e_pow, e_neg, e_len1, e_len2, e_len3, e_len4, e_int1, e_int2, e_abs, e_max, e_min, e_ix1, e_ix2, e_ix3, e_ix4, e_eq1, e_eq2, e_eq3, e_lt1, e_le1, e_gt1, e_ge1, e_lt2, e_in1, e_app, e_ext, e_rev, e_clr, e_set, e_sl1, e_sl2, e_sl3, e_sl4, e_count, e_f1, e_f2, e_osh, e_owh, e_one, e_tt1, e_tt2, e_ctg1, e_ctg2, e_cn0, e_cn1, e_wi0, e_wi1, e_re0, e_re1, e_ifb1, e_ifb2, e_nm0, e_nm1, e_nm2, e_fa0, e_fa1, e_sum, e_allb, e_anyb, e_sp1, e_sp2, e_sp3, e_at0, e_at1, e_at2, e_at3, e_at4, e_at5, e_ixn40, e_ixn41, e_ixn42, e_ixn43, e_cp1, e_cp2, e_cp3, e_cp4, e_cp5, forall_eq, List.getD_cons_zero, List.getD_cons_succ, List.getD_nil, List.set_cons_zero, List.set_cons_succ, List.map_cons, List.map_nil, Option.map_some, Option.map_none, Option.bind_some, Option.bind_none, Option.getD_some, Option.some.injEq, exists_eq_left', exists_eq_left, exists_eq', exists_eq, decide_eq_true_eq, List.length_map, exists_eq_right, exists_and_left, exists_and_right, Option.isSome_some, T.int.injEq, T.str.injEq, T.lst.injEq, T.tup.injEq, T.bl.injEq, List.cons.injEq, Prod.mk.injEq, Hn.tm.injEq, true_and, and_true, and_assoc, and_self, ne_eq, not_false_eq_true, not_true_eq_false, ite_true, ite_false, if_true, if_false, reduceIte, reduceCtorEq, Bool.false_eq_true, false_and, and_false, imp_self, forall_const, implies_true, List.length_cons, List.length_nil, Nat.reduceAdd, Nat.reduceEqDiff, Bool.false_bne, Bool.true_bne, Bool.not_false, Bool.not_true, List.nil_append, List.cons_append, Int.reduceToNat, Int.reducePow, Int.reduceMul, Int.reduceSub, Int.reduceAdd, Int.reduceNeg, join_strs]
        have h9 := sum_le hls
        have h8 : ls.length ≤ 200 := by rw [hl]; simp; omega
        exact ⟨by omega, hK _ ⟨t', _, by rw [← hw], i', abS_flat hls, by rw [flat_len]; omega⟩⟩
    · simp only [sSeq, sSet, sPar, sIf, sRet, sRetN, sDrop, sNext, sDead, sBrk, sCnt, sAsg, sFor, dNm, dTm, dC, dOp1, dOp2, dOpN, dMt, dMut, dCall, dLst, dTup, dNil, dCons, dVn, dVc, dSl, dSl3, dNoP, dPrt, dIf, dAndV, dOrV, dNotV, dBv, dTru, dNotT, dAndT, dOrT, dChn, dEqQ, dRpQ, qOp, qNil, qCons, qLs, qTp, dSrc, dRng1, dRng2, dZip2, dEnum, dComp, dYes, gNm, gTp, gCn, gNi, gIt, e_var, e_var1, e_var2, e_var3, e_var4, e_mov, e_mov1, e_mov2, e_mov3, e_mov4, e_tr1, e_tr2, e_tr3, e_tr4, e_tr5, e_own1, e_own2, e_reo1, e_reo2, e_of1, e_of2, e_pin1, e_pin2, e_pin3, e_arg1, e_arg2, e_arg3, e_arg4, e_isarg1, e_isarg2, e_conv1, e_conv2, e_conv3, e_conv4, e_conv5, e_conv6, e_sown1, e_sown2, e_sown3, e_sown4, e_put1, e_put2, e_po1, e_po2, e_p1, e_p2, e_ao1, e_ao2, e_nd0, e_nd1, e_nd2, e_sl, e_get1, e_get2, e_is, e_all, e_gets0, e_gets1, e_gets2, e_tms0, e_tms1, e_qg1, e_qg2, e_qg3, e_qgs0, e_qgs1, e_its1, e_its2, e_its3, e_its4, e_jts1, e_jts2, e_jts4, e_mt1, e_mt2, e_ty1, e_add1, e_add2, e_add3, e_sub, e_mul1, e_mul2, e_mul3, e_fdiv, e_mod, e_pow, e_neg, e_len1, e_len2, e_len3, e_len4, e_int1, e_int2, e_abs, e_max, e_min, e_ix1, e_ix2, e_ix3, e_ix4, e_eq1, e_eq2, e_eq3, e_lt1, e_le1, e_gt1, e_ge1, e_lt2, e_in1, e_app, e_ext, e_rev, e_clr, e_set, e_sl1, e_sl2, e_sl3, e_sl4, e_count, e_f1, e_f2, e_osh, e_owh, e_one, e_tt1, e_tt2, e_ctg1, e_ctg2, e_cn0, e_cn1, e_wi0, e_wi1, e_re0, e_re1, e_ifb1, e_ifb2, e_nm0, e_nm1, e_nm2, e_fa0, e_fa1, e_sum, e_allb, e_anyb, e_sp1, e_sp2, e_sp3, e_at0, e_at1, e_at2, e_at3, e_at4, e_at5, e_ixn40, e_ixn41, e_ixn42, e_ixn43, e_cp1, e_cp2, e_cp3, e_cp4, e_cp5, forall_eq, List.getD_cons_zero, List.getD_cons_succ, List.getD_nil, List.set_cons_zero, List.set_cons_succ, List.map_cons, List.map_nil, Option.map_some, Option.map_none, Option.bind_some, Option.bind_none, Option.getD_some, Option.some.injEq, exists_eq_left', exists_eq_left, exists_eq', exists_eq, decide_eq_true_eq, List.length_map, exists_eq_right, exists_and_left, exists_and_right, Option.isSome_some, T.int.injEq, T.str.injEq, T.lst.injEq, T.tup.injEq, T.bl.injEq, List.cons.injEq, Prod.mk.injEq, Hn.tm.injEq, true_and, and_true, and_assoc, and_self, ne_eq, not_false_eq_true, not_true_eq_false, ite_true, ite_false, if_true, if_false, reduceIte, reduceCtorEq, Bool.false_eq_true, false_and, and_false, imp_self, forall_const, implies_true, List.length_cons, List.length_nil, Nat.reduceAdd, Nat.reduceEqDiff, Bool.false_bne, Bool.true_bne, Bool.not_false, Bool.not_true, List.nil_append, List.cons_append, Int.reduceToNat, Int.reducePow, Int.reduceMul, Int.reduceSub, Int.reduceAdd, Int.reduceNeg, hw, decide_false]
      exact hK _ ⟨t, f, rfl, ib.less (by omega), ab, by omega⟩
  subst e
  refine seq_inv (fun ρ' => ∃ t f, ρ' = [.io t, .sh (.int most), .sh (.int count), .sh (.int way), .sh (.int share), .sh (.str f), .no, .no] ∧ IsBag (b + 3000) t ∧ abS f ∧ f.length ≤ 2000) (fun K hK => ?_) (fun ρ' ⟨t, f, e, ib, ab, fl⟩ => ?_)
  · by_cases hw : way = 5
    · simp only [sSeq, sSet, sPar, sIf, sRet, sRetN, sDrop, sNext, sDead, sBrk, sCnt, sAsg, sFor, dNm, dTm, dC, dOp1, dOp2, dOpN, dMt, dMut, dCall, dLst, dTup, dNil, dCons, dVn, dVc, dSl, dSl3, dNoP, dPrt, dIf, dAndV, dOrV, dNotV, dBv, dTru, dNotT, dAndT, dOrT, dChn, dEqQ, dRpQ, qOp, qNil, qCons, qLs, qTp, dSrc, dRng1, dRng2, dZip2, dEnum, dComp, dYes, gNm, gTp, gCn, gNi, gIt, e_var, e_var1, e_var2, e_var3, e_var4, e_mov, e_mov1, e_mov2, e_mov3, e_mov4, e_tr1, e_tr2, e_tr3, e_tr4, e_tr5, e_own1, e_own2, e_reo1, e_reo2, e_of1, e_of2, e_pin1, e_pin2, e_pin3, e_arg1, e_arg2, e_arg3, e_arg4, e_isarg1, e_isarg2, e_conv1, e_conv2, e_conv3, e_conv4, e_conv5, e_conv6, e_sown1, e_sown2, e_sown3, e_sown4, e_put1, e_put2, e_po1, e_po2, e_p1, e_p2, e_ao1, e_ao2, e_nd0, e_nd1, e_nd2, e_sl, e_get1, e_get2, e_is, e_all, e_gets0, e_gets1, e_gets2, e_tms0, e_tms1, e_qg1, e_qg2, e_qg3, e_qgs0, e_qgs1, e_its1, e_its2, e_its3, e_its4, e_jts1, e_jts2, e_jts4, e_mt1, e_mt2, e_ty1, e_add1, e_add2, e_add3, e_sub, e_mul1, e_mul2, e_mul3, e_fdiv, e_mod, e_pow, e_neg, e_len1, e_len2, e_len3, e_len4, e_int1, e_int2, e_abs, e_max, e_min, e_ix1, e_ix2, e_ix3, e_ix4, e_eq1, e_eq2, e_eq3, e_lt1, e_le1, e_gt1, e_ge1, e_lt2, e_in1, e_app, e_ext, e_rev, e_clr, e_set, e_sl1, e_sl2, e_sl3, e_sl4, e_count, e_f1, e_f2, e_osh, e_owh, e_one, e_tt1, e_tt2, e_ctg1, e_ctg2, e_cn0, e_cn1, e_wi0, e_wi1, e_re0, e_re1, e_ifb1, e_ifb2, e_nm0, e_nm1, e_nm2, e_fa0, e_fa1, e_sum, e_allb, e_anyb, e_sp1, e_sp2, e_sp3, e_at0, e_at1, e_at2, e_at3, e_at4, e_at5, e_ixn40, e_ixn41, e_ixn42, e_ixn43, e_cp1, e_cp2, e_cp3, e_cp4, e_cp5, forall_eq, List.getD_cons_zero, List.getD_cons_succ, List.getD_nil, List.set_cons_zero, List.set_cons_succ, List.map_cons, List.map_nil, Option.map_some, Option.map_none, Option.bind_some, Option.bind_none, Option.getD_some, Option.some.injEq, exists_eq_left', exists_eq_left, exists_eq', exists_eq, decide_eq_true_eq, List.length_map, exists_eq_right, exists_and_left, exists_and_right, Option.isSome_some, T.int.injEq, T.str.injEq, T.lst.injEq, T.tup.injEq, T.bl.injEq, List.cons.injEq, Prod.mk.injEq, Hn.tm.injEq, true_and, and_true, and_assoc, and_self, ne_eq, not_false_eq_true, not_true_eq_false, ite_true, ite_false, if_true, if_false, reduceIte, reduceCtorEq, Bool.false_eq_true, false_and, and_false, imp_self, forall_const, implies_true, List.length_cons, List.length_nil, Nat.reduceAdd, Nat.reduceEqDiff, Bool.false_bne, Bool.true_bne, Bool.not_false, Bool.not_true, List.nil_append, List.cons_append, Int.reduceToNat, Int.reducePow, Int.reduceMul, Int.reduceSub, Int.reduceAdd, Int.reduceNeg, hw, decide_true, sortT, join_signs]
      have ls : (f.mergeSort fun a b => decide (a ≤ b)).length = f.length := List.length_mergeSort f
      have as : abS (f.mergeSort fun a b => decide (a ≤ b)) := fun d z => ab d (List.mem_mergeSort.mp z)
      refine ⟨by omega, by omega, sbag (b := b + 3999) (bound := 2) ib (by decide) (by decide) fun t' r i' a0 a1 => ?_⟩
      have hr : r = 0 ∨ r = 1 := by omega
      rcases hr with rfl | rfl
      · simp only [sSeq, sSet, sPar, sIf, sRet, sRetN, sDrop, sNext, sDead, sBrk, sCnt, sAsg, sFor, dNm, dTm, dC, dOp1, dOp2, dOpN, dMt, dMut, dCall, dLst, dTup, dNil, dCons, dVn, dVc, dSl, dSl3, dNoP, dPrt, dIf, dAndV, dOrV, dNotV, dBv, dTru, dNotT, dAndT, dOrT, dChn, dEqQ, dRpQ, qOp, qNil, qCons, qLs, qTp, dSrc, dRng1, dRng2, dZip2, dEnum, dComp, dYes, gNm, gTp, gCn, gNi, gIt, e_var, e_var1, e_var2, e_var3, e_var4, e_mov, e_mov1, e_mov2, e_mov3, e_mov4, e_tr1, e_tr2, e_tr3, e_tr4, e_tr5, e_own1, e_own2, e_reo1, e_reo2, e_of1, e_of2, e_pin1, e_pin2, e_pin3, e_arg1, e_arg2, e_arg3, e_arg4, e_isarg1, e_isarg2, e_conv1, e_conv2, e_conv3, e_conv4, e_conv5, e_conv6, e_sown1, e_sown2, e_sown3, e_sown4, e_put1, e_put2, e_po1, e_po2, e_p1, e_p2, e_ao1, e_ao2, e_nd0, e_nd1, e_nd2, e_sl, e_get1, e_get2, e_is, e_all, e_gets0, e_gets1, e_gets2, e_tms0, e_tms1, e_qg1, e_qg2, e_qg3, e_qgs0, e_qgs1, e_its1, e_its2, e_its3, e_its4, e_jts1, e_jts2, e_jts4, e_mt1, e_mt2, e_ty1, e_add1, e_add2, e_add3, e_sub, e_mul1, e_mul2, e_mul3, e_fdiv, e_mod, e_pow, e_neg, e_len1, e_len2, e_len3, e_len4, e_int1, e_int2, e_abs, e_max, e_min, e_ix1, e_ix2, e_ix3, e_ix4, e_eq1, e_eq2, e_eq3, e_lt1, e_le1, e_gt1, e_ge1, e_lt2, e_in1, e_app, e_ext, e_rev, e_clr, e_set, e_sl1, e_sl2, e_sl3, e_sl4, e_count, e_f1, e_f2, e_osh, e_owh, e_one, e_tt1, e_tt2, e_ctg1, e_ctg2, e_cn0, e_cn1, e_wi0, e_wi1, e_re0, e_re1, e_ifb1, e_ifb2, e_nm0, e_nm1, e_nm2, e_fa0, e_fa1, e_sum, e_allb, e_anyb, e_sp1, e_sp2, e_sp3, e_at0, e_at1, e_at2, e_at3, e_at4, e_at5, e_ixn40, e_ixn41, e_ixn42, e_ixn43, e_cp1, e_cp2, e_cp3, e_cp4, e_cp5, forall_eq, List.getD_cons_zero, List.getD_cons_succ, List.getD_nil, List.set_cons_zero, List.set_cons_succ, List.map_cons, List.map_nil, Option.map_some, Option.map_none, Option.bind_some, Option.bind_none, Option.getD_some, Option.some.injEq, exists_eq_left', exists_eq_left, exists_eq', exists_eq, decide_eq_true_eq, List.length_map, exists_eq_right, exists_and_left, exists_and_right, Option.isSome_some, T.int.injEq, T.str.injEq, T.lst.injEq, T.tup.injEq, T.bl.injEq, List.cons.injEq, Prod.mk.injEq, Hn.tm.injEq, true_and, and_true, and_assoc, and_self, ne_eq, not_false_eq_true, not_true_eq_false, ite_true, ite_false, if_true, if_false, reduceIte, reduceCtorEq, Bool.false_eq_true, false_and, and_false, imp_self, forall_const, implies_true, List.length_cons, List.length_nil, Nat.reduceAdd, Nat.reduceEqDiff, Bool.false_bne, Bool.true_bne, Bool.not_false, Bool.not_true, List.nil_append, List.cons_append, Int.reduceToNat, Int.reducePow, Int.reduceMul, Int.reduceSub, Int.reduceAdd, Int.reduceNeg, fw_txt]
        exact ⟨.inl (.inr (by decide)), by omega, hK _ ⟨t', _, by rw [← hw], i'.less (by omega), as, by omega⟩⟩
      · simp only [sSeq, sSet, sPar, sIf, sRet, sRetN, sDrop, sNext, sDead, sBrk, sCnt, sAsg, sFor, dNm, dTm, dC, dOp1, dOp2, dOpN, dMt, dMut, dCall, dLst, dTup, dNil, dCons, dVn, dVc, dSl, dSl3, dNoP, dPrt, dIf, dAndV, dOrV, dNotV, dBv, dTru, dNotT, dAndT, dOrT, dChn, dEqQ, dRpQ, qOp, qNil, qCons, qLs, qTp, dSrc, dRng1, dRng2, dZip2, dEnum, dComp, dYes, gNm, gTp, gCn, gNi, gIt, e_var, e_var1, e_var2, e_var3, e_var4, e_mov, e_mov1, e_mov2, e_mov3, e_mov4, e_tr1, e_tr2, e_tr3, e_tr4, e_tr5, e_own1, e_own2, e_reo1, e_reo2, e_of1, e_of2, e_pin1, e_pin2, e_pin3, e_arg1, e_arg2, e_arg3, e_arg4, e_isarg1, e_isarg2, e_conv1, e_conv2, e_conv3, e_conv4, e_conv5, e_conv6, e_sown1, e_sown2, e_sown3, e_sown4, e_put1, e_put2, e_po1, e_po2, e_p1, e_p2, e_ao1, e_ao2, e_nd0, e_nd1, e_nd2, e_sl, e_get1, e_get2, e_is, e_all, e_gets0, e_gets1, e_gets2, e_tms0, e_tms1, e_qg1, e_qg2, e_qg3, e_qgs0, e_qgs1, e_its1, e_its2, e_its3, e_its4, e_jts1, e_jts2, e_jts4, e_mt1, e_mt2, e_ty1, e_add1, e_add2, e_add3, e_sub, e_mul1, e_mul2, e_mul3, e_fdiv, e_mod, e_pow, e_neg, e_len1, e_len2, e_len3, e_len4, e_int1, e_int2, e_abs, e_max, e_min, e_ix1, e_ix2, e_ix3, e_ix4, e_eq1, e_eq2, e_eq3, e_lt1, e_le1, e_gt1, e_ge1, e_lt2, e_in1, e_app, e_ext, e_rev, e_clr, e_set, e_sl1, e_sl2, e_sl3, e_sl4, e_count, e_f1, e_f2, e_osh, e_owh, e_one, e_tt1, e_tt2, e_ctg1, e_ctg2, e_cn0, e_cn1, e_wi0, e_wi1, e_re0, e_re1, e_ifb1, e_ifb2, e_nm0, e_nm1, e_nm2, e_fa0, e_fa1, e_sum, e_allb, e_anyb, e_sp1, e_sp2, e_sp3, e_at0, e_at1, e_at2, e_at3, e_at4, e_at5, e_ixn40, e_ixn41, e_ixn42, e_ixn43, e_cp1, e_cp2, e_cp3, e_cp4, e_cp5, forall_eq, List.getD_cons_zero, List.getD_cons_succ, List.getD_nil, List.set_cons_zero, List.set_cons_succ, List.map_cons, List.map_nil, Option.map_some, Option.map_none, Option.bind_some, Option.bind_none, Option.getD_some, Option.some.injEq, exists_eq_left', exists_eq_left, exists_eq', exists_eq, decide_eq_true_eq, List.length_map, exists_eq_right, exists_and_left, exists_and_right, Option.isSome_some, T.int.injEq, T.str.injEq, T.lst.injEq, T.tup.injEq, T.bl.injEq, List.cons.injEq, Prod.mk.injEq, Hn.tm.injEq, true_and, and_true, and_assoc, and_self, ne_eq, not_false_eq_true, not_true_eq_false, ite_true, ite_false, if_true, if_false, reduceIte, reduceCtorEq, Bool.false_eq_true, false_and, and_false, imp_self, forall_const, implies_true, List.length_cons, List.length_nil, Nat.reduceAdd, Nat.reduceEqDiff, Bool.false_bne, Bool.true_bne, Bool.not_false, Bool.not_true, List.nil_append, List.cons_append, Int.reduceToNat, Int.reducePow, Int.reduceMul, Int.reduceSub, Int.reduceAdd, Int.reduceNeg, bw_txt]
        exact ⟨.inl (.inr (by decide)), by omega, hK _ ⟨t', _, by rw [← hw], i'.less (by omega), fun d z => as d (List.mem_reverse.mp z), by rw [List.length_reverse]; omega⟩⟩
    · simp only [sSeq, sSet, sPar, sIf, sRet, sRetN, sDrop, sNext, sDead, sBrk, sCnt, sAsg, sFor, dNm, dTm, dC, dOp1, dOp2, dOpN, dMt, dMut, dCall, dLst, dTup, dNil, dCons, dVn, dVc, dSl, dSl3, dNoP, dPrt, dIf, dAndV, dOrV, dNotV, dBv, dTru, dNotT, dAndT, dOrT, dChn, dEqQ, dRpQ, qOp, qNil, qCons, qLs, qTp, dSrc, dRng1, dRng2, dZip2, dEnum, dComp, dYes, gNm, gTp, gCn, gNi, gIt, e_var, e_var1, e_var2, e_var3, e_var4, e_mov, e_mov1, e_mov2, e_mov3, e_mov4, e_tr1, e_tr2, e_tr3, e_tr4, e_tr5, e_own1, e_own2, e_reo1, e_reo2, e_of1, e_of2, e_pin1, e_pin2, e_pin3, e_arg1, e_arg2, e_arg3, e_arg4, e_isarg1, e_isarg2, e_conv1, e_conv2, e_conv3, e_conv4, e_conv5, e_conv6, e_sown1, e_sown2, e_sown3, e_sown4, e_put1, e_put2, e_po1, e_po2, e_p1, e_p2, e_ao1, e_ao2, e_nd0, e_nd1, e_nd2, e_sl, e_get1, e_get2, e_is, e_all, e_gets0, e_gets1, e_gets2, e_tms0, e_tms1, e_qg1, e_qg2, e_qg3, e_qgs0, e_qgs1, e_its1, e_its2, e_its3, e_its4, e_jts1, e_jts2, e_jts4, e_mt1, e_mt2, e_ty1, e_add1, e_add2, e_add3, e_sub, e_mul1, e_mul2, e_mul3, e_fdiv, e_mod, e_pow, e_neg, e_len1, e_len2, e_len3, e_len4, e_int1, e_int2, e_abs, e_max, e_min, e_ix1, e_ix2, e_ix3, e_ix4, e_eq1, e_eq2, e_eq3, e_lt1, e_le1, e_gt1, e_ge1, e_lt2, e_in1, e_app, e_ext, e_rev, e_clr, e_set, e_sl1, e_sl2, e_sl3, e_sl4, e_count, e_f1, e_f2, e_osh, e_owh, e_one, e_tt1, e_tt2, e_ctg1, e_ctg2, e_cn0, e_cn1, e_wi0, e_wi1, e_re0, e_re1, e_ifb1, e_ifb2, e_nm0, e_nm1, e_nm2, e_fa0, e_fa1, e_sum, e_allb, e_anyb, e_sp1, e_sp2, e_sp3, e_at0, e_at1, e_at2, e_at3, e_at4, e_at5, e_ixn40, e_ixn41, e_ixn42, e_ixn43, e_cp1, e_cp2, e_cp3, e_cp4, e_cp5, forall_eq, List.getD_cons_zero, List.getD_cons_succ, List.getD_nil, List.set_cons_zero, List.set_cons_succ, List.map_cons, List.map_nil, Option.map_some, Option.map_none, Option.bind_some, Option.bind_none, Option.getD_some, Option.some.injEq, exists_eq_left', exists_eq_left, exists_eq', exists_eq, decide_eq_true_eq, List.length_map, exists_eq_right, exists_and_left, exists_and_right, Option.isSome_some, T.int.injEq, T.str.injEq, T.lst.injEq, T.tup.injEq, T.bl.injEq, List.cons.injEq, Prod.mk.injEq, Hn.tm.injEq, true_and, and_true, and_assoc, and_self, ne_eq, not_false_eq_true, not_true_eq_false, ite_true, ite_false, if_true, if_false, reduceIte, reduceCtorEq, Bool.false_eq_true, false_and, and_false, imp_self, forall_const, implies_true, List.length_cons, List.length_nil, Nat.reduceAdd, Nat.reduceEqDiff, Bool.false_bne, Bool.true_bne, Bool.not_false, Bool.not_true, List.nil_append, List.cons_append, Int.reduceToNat, Int.reducePow, Int.reduceMul, Int.reduceSub, Int.reduceAdd, Int.reduceNeg, hw, decide_false]
      exact hK _ ⟨t, f, rfl, ib.less (by omega), ab, by omega⟩
  subst e
  refine seq_inv (fun ρ' => ∃ t f, ρ' = [.io t, .sh (.int most), .sh (.int count), .sh (.int way), .sh (.int share), .sh (.str f), .no, .no] ∧ IsBag (b + 2000) t ∧ abS f ∧ f.length ≤ 1000000) (fun K hK => ?_) (fun ρ' ⟨t, f, e, ib, ab, fl⟩ => ?_)
  · by_cases hw : way = 6
    · simp only [sSeq, sSet, sPar, sIf, sRet, sRetN, sDrop, sNext, sDead, sBrk, sCnt, sAsg, sFor, dNm, dTm, dC, dOp1, dOp2, dOpN, dMt, dMut, dCall, dLst, dTup, dNil, dCons, dVn, dVc, dSl, dSl3, dNoP, dPrt, dIf, dAndV, dOrV, dNotV, dBv, dTru, dNotT, dAndT, dOrT, dChn, dEqQ, dRpQ, qOp, qNil, qCons, qLs, qTp, dSrc, dRng1, dRng2, dZip2, dEnum, dComp, dYes, gNm, gTp, gCn, gNi, gIt, e_var, e_var1, e_var2, e_var3, e_var4, e_mov, e_mov1, e_mov2, e_mov3, e_mov4, e_tr1, e_tr2, e_tr3, e_tr4, e_tr5, e_own1, e_own2, e_reo1, e_reo2, e_of1, e_of2, e_pin1, e_pin2, e_pin3, e_arg1, e_arg2, e_arg3, e_arg4, e_isarg1, e_isarg2, e_conv1, e_conv2, e_conv3, e_conv4, e_conv5, e_conv6, e_sown1, e_sown2, e_sown3, e_sown4, e_put1, e_put2, e_po1, e_po2, e_p1, e_p2, e_ao1, e_ao2, e_nd0, e_nd1, e_nd2, e_sl, e_get1, e_get2, e_is, e_all, e_gets0, e_gets1, e_gets2, e_tms0, e_tms1, e_qg1, e_qg2, e_qg3, e_qgs0, e_qgs1, e_its1, e_its2, e_its3, e_its4, e_jts1, e_jts2, e_jts4, e_mt1, e_mt2, e_ty1, e_add1, e_add2, e_add3, e_sub, e_mul1, e_mul2, e_mul3, e_fdiv, e_mod, e_pow, e_neg, e_len1, e_len2, e_len3, e_len4, e_int1, e_int2, e_abs, e_max, e_min, e_ix1, e_ix2, e_ix3, e_ix4, e_eq1, e_eq2, e_eq3, e_lt1, e_le1, e_gt1, e_ge1, e_lt2, e_in1, e_app, e_ext, e_rev, e_clr, e_set, e_sl1, e_sl2, e_sl3, e_sl4, e_count, e_f1, e_f2, e_osh, e_owh, e_one, e_tt1, e_tt2, e_ctg1, e_ctg2, e_cn0, e_cn1, e_wi0, e_wi1, e_re0, e_re1, e_ifb1, e_ifb2, e_nm0, e_nm1, e_nm2, e_fa0, e_fa1, e_sum, e_allb, e_anyb, e_sp1, e_sp2, e_sp3, e_at0, e_at1, e_at2, e_at3, e_at4, e_at5, e_ixn40, e_ixn41, e_ixn42, e_ixn43, e_cp1, e_cp2, e_cp3, e_cp4, e_cp5, forall_eq, List.getD_cons_zero, List.getD_cons_succ, List.getD_nil, List.set_cons_zero, List.set_cons_succ, List.map_cons, List.map_nil, Option.map_some, Option.map_none, Option.bind_some, Option.bind_none, Option.getD_some, Option.some.injEq, exists_eq_left', exists_eq_left, exists_eq', exists_eq, decide_eq_true_eq, List.length_map, exists_eq_right, exists_and_left, exists_and_right, Option.isSome_some, T.int.injEq, T.str.injEq, T.lst.injEq, T.tup.injEq, T.bl.injEq, List.cons.injEq, Prod.mk.injEq, Hn.tm.injEq, true_and, and_true, and_assoc, and_self, ne_eq, not_false_eq_true, not_true_eq_false, ite_true, ite_false, if_true, if_false, reduceIte, reduceCtorEq, Bool.false_eq_true, false_and, and_false, imp_self, forall_const, implies_true, List.length_cons, List.length_nil, Nat.reduceAdd, Nat.reduceEqDiff, Bool.false_bne, Bool.true_bne, Bool.not_false, Bool.not_true, List.nil_append, List.cons_append, Int.reduceToNat, Int.reducePow, Int.reduceMul, Int.reduceSub, Int.reduceAdd, Int.reduceNeg, hw, decide_true]
      refine sbag (b := b + 2999) (bound := 4) ib (by decide) (by decide) fun t' r i' a0 a1 => ?_
      have ct : cutL f none (some (1 + r)) = f.take (1 + r).toNat := cut_toI f (by omega)
      have tl : (f.take (1 + r).toNat).length ≤ 4 := by rw [List.length_take]; omega
      simp only [sSeq, sSet, sPar, sIf, sRet, sRetN, sDrop, sNext, sDead, sBrk, sCnt, sAsg, sFor, dNm, dTm, dC, dOp1, dOp2, dOpN, dMt, dMut, dCall, dLst, dTup, dNil, dCons, dVn, dVc, dSl, dSl3, dNoP, dPrt, dIf, dAndV, dOrV, dNotV, dBv, dTru, dNotT, dAndT, dOrT, dChn, dEqQ, dRpQ, qOp, qNil, qCons, qLs, qTp, dSrc, dRng1, dRng2, dZip2, dEnum, dComp, dYes, gNm, gTp, gCn, gNi, gIt, e_var, e_var1, e_var2, e_var3, e_var4, e_mov, e_mov1, e_mov2, e_mov3, e_mov4, e_tr1, e_tr2, e_tr3, e_tr4, e_tr5, e_own1, e_own2, e_reo1, e_reo2, e_of1, e_of2, e_pin1, e_pin2, e_pin3, e_arg1, e_arg2, e_arg3, e_arg4, e_isarg1, e_isarg2, e_conv1, e_conv2, e_conv3, e_conv4, e_conv5, e_conv6, e_sown1, e_sown2, e_sown3, e_sown4, e_put1, e_put2, e_po1, e_po2, e_p1, e_p2, e_ao1, e_ao2, e_nd0, e_nd1, e_nd2, e_sl, e_get1, e_get2, e_is, e_all, e_gets0, e_gets1, e_gets2, e_tms0, e_tms1, e_qg1, e_qg2, e_qg3, e_qgs0, e_qgs1, e_its1, e_its2, e_its3, e_its4, e_jts1, e_jts2, e_jts4, e_mt1, e_mt2, e_ty1, e_add1, e_add2, e_add3, e_sub, e_mul1, e_mul2, e_mul3, e_fdiv, e_mod, e_pow, e_neg, e_len1, e_len2, e_len3, e_len4, e_int1, e_int2, e_abs, e_max, e_min, e_ix1, e_ix2, e_ix3, e_ix4, e_eq1, e_eq2, e_eq3, e_lt1, e_le1, e_gt1, e_ge1, e_lt2, e_in1, e_app, e_ext, e_rev, e_clr, e_set, e_sl1, e_sl2, e_sl3, e_sl4, e_count, e_f1, e_f2, e_osh, e_owh, e_one, e_tt1, e_tt2, e_ctg1, e_ctg2, e_cn0, e_cn1, e_wi0, e_wi1, e_re0, e_re1, e_ifb1, e_ifb2, e_nm0, e_nm1, e_nm2, e_fa0, e_fa1, e_sum, e_allb, e_anyb, e_sp1, e_sp2, e_sp3, e_at0, e_at1, e_at2, e_at3, e_at4, e_at5, e_ixn40, e_ixn41, e_ixn42, e_ixn43, e_cp1, e_cp2, e_cp3, e_cp4, e_cp5, forall_eq, List.getD_cons_zero, List.getD_cons_succ, List.getD_nil, List.set_cons_zero, List.set_cons_succ, List.map_cons, List.map_nil, Option.map_some, Option.map_none, Option.bind_some, Option.bind_none, Option.getD_some, Option.some.injEq, exists_eq_left', exists_eq_left, exists_eq', exists_eq, decide_eq_true_eq, List.length_map, exists_eq_right, exists_and_left, exists_and_right, Option.isSome_some, T.int.injEq, T.str.injEq, T.lst.injEq, T.tup.injEq, T.bl.injEq, List.cons.injEq, Prod.mk.injEq, Hn.tm.injEq, true_and, and_true, and_assoc, and_self, ne_eq, not_false_eq_true, not_true_eq_false, ite_true, ite_false, if_true, if_false, reduceIte, reduceCtorEq, Bool.false_eq_true, false_and, and_false, imp_self, forall_const, implies_true, List.length_cons, List.length_nil, Nat.reduceAdd, Nat.reduceEqDiff, Bool.false_bne, Bool.true_bne, Bool.not_false, Bool.not_true, List.nil_append, List.cons_append, Int.reduceToNat, Int.reducePow, Int.reduceMul, Int.reduceSub, Int.reduceAdd, Int.reduceNeg, ct]
      have mm : (f.take (1 + r).toNat).length * (count + 1).toNat ≤ 4 * 201 := Nat.mul_le_mul tl (by omega)
      have fl2 : (List.replicate (count + 1).toNat (f.take (1 + r).toNat)).flatten.length = (count + 1).toNat * (f.take (1 + r).toNat).length := by rw [List.length_flatten, List.map_replicate, List.sum_replicate_nat]
      rw [Nat.mul_comm] at fl2
      refine ⟨by omega, by omega, by omega, by omega, hK _ ⟨t', _, by rw [← hw], i'.less (by omega), fun d z => ?_, by rw [fl2]; omega⟩⟩
      obtain ⟨y, hy, hd⟩ := List.mem_flatten.mp z
      rw [List.eq_of_mem_replicate hy] at hd
      exact abS_take ab _ d hd
    · simp only [sSeq, sSet, sPar, sIf, sRet, sRetN, sDrop, sNext, sDead, sBrk, sCnt, sAsg, sFor, dNm, dTm, dC, dOp1, dOp2, dOpN, dMt, dMut, dCall, dLst, dTup, dNil, dCons, dVn, dVc, dSl, dSl3, dNoP, dPrt, dIf, dAndV, dOrV, dNotV, dBv, dTru, dNotT, dAndT, dOrT, dChn, dEqQ, dRpQ, qOp, qNil, qCons, qLs, qTp, dSrc, dRng1, dRng2, dZip2, dEnum, dComp, dYes, gNm, gTp, gCn, gNi, gIt, e_var, e_var1, e_var2, e_var3, e_var4, e_mov, e_mov1, e_mov2, e_mov3, e_mov4, e_tr1, e_tr2, e_tr3, e_tr4, e_tr5, e_own1, e_own2, e_reo1, e_reo2, e_of1, e_of2, e_pin1, e_pin2, e_pin3, e_arg1, e_arg2, e_arg3, e_arg4, e_isarg1, e_isarg2, e_conv1, e_conv2, e_conv3, e_conv4, e_conv5, e_conv6, e_sown1, e_sown2, e_sown3, e_sown4, e_put1, e_put2, e_po1, e_po2, e_p1, e_p2, e_ao1, e_ao2, e_nd0, e_nd1, e_nd2, e_sl, e_get1, e_get2, e_is, e_all, e_gets0, e_gets1, e_gets2, e_tms0, e_tms1, e_qg1, e_qg2, e_qg3, e_qgs0, e_qgs1, e_its1, e_its2, e_its3, e_its4, e_jts1, e_jts2, e_jts4, e_mt1, e_mt2, e_ty1, e_add1, e_add2, e_add3, e_sub, e_mul1, e_mul2, e_mul3, e_fdiv, e_mod, e_pow, e_neg, e_len1, e_len2, e_len3, e_len4, e_int1, e_int2, e_abs, e_max, e_min, e_ix1, e_ix2, e_ix3, e_ix4, e_eq1, e_eq2, e_eq3, e_lt1, e_le1, e_gt1, e_ge1, e_lt2, e_in1, e_app, e_ext, e_rev, e_clr, e_set, e_sl1, e_sl2, e_sl3, e_sl4, e_count, e_f1, e_f2, e_osh, e_owh, e_one, e_tt1, e_tt2, e_ctg1, e_ctg2, e_cn0, e_cn1, e_wi0, e_wi1, e_re0, e_re1, e_ifb1, e_ifb2, e_nm0, e_nm1, e_nm2, e_fa0, e_fa1, e_sum, e_allb, e_anyb, e_sp1, e_sp2, e_sp3, e_at0, e_at1, e_at2, e_at3, e_at4, e_at5, e_ixn40, e_ixn41, e_ixn42, e_ixn43, e_cp1, e_cp2, e_cp3, e_cp4, e_cp5, forall_eq, List.getD_cons_zero, List.getD_cons_succ, List.getD_nil, List.set_cons_zero, List.set_cons_succ, List.map_cons, List.map_nil, Option.map_some, Option.map_none, Option.bind_some, Option.bind_none, Option.getD_some, Option.some.injEq, exists_eq_left', exists_eq_left, exists_eq', exists_eq, decide_eq_true_eq, List.length_map, exists_eq_right, exists_and_left, exists_and_right, Option.isSome_some, T.int.injEq, T.str.injEq, T.lst.injEq, T.tup.injEq, T.bl.injEq, List.cons.injEq, Prod.mk.injEq, Hn.tm.injEq, true_and, and_true, and_assoc, and_self, ne_eq, not_false_eq_true, not_true_eq_false, ite_true, ite_false, if_true, if_false, reduceIte, reduceCtorEq, Bool.false_eq_true, false_and, and_false, imp_self, forall_const, implies_true, List.length_cons, List.length_nil, Nat.reduceAdd, Nat.reduceEqDiff, Bool.false_bne, Bool.true_bne, Bool.not_false, Bool.not_true, List.nil_append, List.cons_append, Int.reduceToNat, Int.reducePow, Int.reduceMul, Int.reduceSub, Int.reduceAdd, Int.reduceNeg, hw, decide_false]
      exact hK _ ⟨t, f, rfl, ib.less (by omega), ab, by omega⟩
  subst e
  have c2 : cutL f none (some count) = f.take count.toNat := cut_toI f c0
  simp only [sSeq, sSet, sPar, sIf, sRet, sRetN, sDrop, sNext, sDead, sBrk, sCnt, sAsg, sFor, dNm, dTm, dC, dOp1, dOp2, dOpN, dMt, dMut, dCall, dLst, dTup, dNil, dCons, dVn, dVc, dSl, dSl3, dNoP, dPrt, dIf, dAndV, dOrV, dNotV, dBv, dTru, dNotT, dAndT, dOrT, dChn, dEqQ, dRpQ, qOp, qNil, qCons, qLs, qTp, dSrc, dRng1, dRng2, dZip2, dEnum, dComp, dYes, gNm, gTp, gCn, gNi, gIt, e_var, e_var1, e_var2, e_var3, e_var4, e_mov, e_mov1, e_mov2, e_mov3, e_mov4, e_tr1, e_tr2, e_tr3, e_tr4, e_tr5, e_own1, e_own2, e_reo1, e_reo2, e_of1, e_of2, e_pin1, e_pin2, e_pin3, e_arg1, e_arg2, e_arg3, e_arg4, e_isarg1, e_isarg2, e_conv1, e_conv2, e_conv3, e_conv4, e_conv5, e_conv6, e_sown1, e_sown2, e_sown3, e_sown4, e_put1, e_put2, e_po1, e_po2, e_p1, e_p2, e_ao1, e_ao2, e_nd0, e_nd1, e_nd2, e_sl, e_get1, e_get2, e_is, e_all, e_gets0, e_gets1, e_gets2, e_tms0, e_tms1, e_qg1, e_qg2, e_qg3, e_qgs0, e_qgs1, e_its1, e_its2, e_its3, e_its4, e_jts1, e_jts2, e_jts4, e_mt1, e_mt2, e_ty1, e_add1, e_add2, e_add3, e_sub, e_mul1, e_mul2, e_mul3, e_fdiv, e_mod, e_pow, e_neg, e_len1, e_len2, e_len3, e_len4, e_int1, e_int2, e_abs, e_max, e_min, e_ix1, e_ix2, e_ix3, e_ix4, e_eq1, e_eq2, e_eq3, e_lt1, e_le1, e_gt1, e_ge1, e_lt2, e_in1, e_app, e_ext, e_rev, e_clr, e_set, e_sl1, e_sl2, e_sl3, e_sl4, e_count, e_f1, e_f2, e_osh, e_owh, e_one, e_tt1, e_tt2, e_ctg1, e_ctg2, e_cn0, e_cn1, e_wi0, e_wi1, e_re0, e_re1, e_ifb1, e_ifb2, e_nm0, e_nm1, e_nm2, e_fa0, e_fa1, e_sum, e_allb, e_anyb, e_sp1, e_sp2, e_sp3, e_at0, e_at1, e_at2, e_at3, e_at4, e_at5, e_ixn40, e_ixn41, e_ixn42, e_ixn43, e_cp1, e_cp2, e_cp3, e_cp4, e_cp5, forall_eq, List.getD_cons_zero, List.getD_cons_succ, List.getD_nil, List.set_cons_zero, List.set_cons_succ, List.map_cons, List.map_nil, Option.map_some, Option.map_none, Option.bind_some, Option.bind_none, Option.getD_some, Option.some.injEq, exists_eq_left', exists_eq_left, exists_eq', exists_eq, decide_eq_true_eq, List.length_map, exists_eq_right, exists_and_left, exists_and_right, Option.isSome_some, T.int.injEq, T.str.injEq, T.lst.injEq, T.tup.injEq, T.bl.injEq, List.cons.injEq, Prod.mk.injEq, Hn.tm.injEq, true_and, and_true, and_assoc, and_self, ne_eq, not_false_eq_true, not_true_eq_false, ite_true, ite_false, if_true, if_false, reduceIte, reduceCtorEq, Bool.false_eq_true, false_and, and_false, imp_self, forall_const, implies_true, List.length_cons, List.length_nil, Nat.reduceAdd, Nat.reduceEqDiff, Bool.false_bne, Bool.true_bne, Bool.not_false, Bool.not_true, List.nil_append, List.cons_append, Int.reduceToNat, Int.reducePow, Int.reduceMul, Int.reduceSub, Int.reduceAdd, Int.reduceNeg, c2]
  exact ⟨by omega, q t _ (ib.less (by omega)) (abS_take ab _) (by rw [List.length_take]; omega)⟩
end O
namespace O
open PySem PySem.Spec PyProof.Rows L2
theorem kt_NoneType_int : kitB "NoneType" "int" = some false := rfl
theorem kt_NoneType_bool : kitB "NoneType" "bool" = some false := rfl
theorem kt_NoneType_str : kitB "NoneType" "str" = some false := rfl
theorem kt_NoneType_list : kitB "NoneType" "list" = some false := rfl
theorem kt_NoneType_tuple : kitB "NoneType" "tuple" = some false := rfl
theorem kt_bool_int : kitB "bool" "int" = some true := rfl
theorem kt_bool_bool : kitB "bool" "bool" = some true := rfl
theorem kt_bool_str : kitB "bool" "str" = some false := rfl
theorem kt_bool_list : kitB "bool" "list" = some false := rfl
theorem kt_bool_tuple : kitB "bool" "tuple" = some false := rfl
theorem kt_int_int : kitB "int" "int" = some true := rfl
theorem kt_int_bool : kitB "int" "bool" = some false := rfl
theorem kt_int_str : kitB "int" "str" = some false := rfl
theorem kt_int_list : kitB "int" "list" = some false := rfl
theorem kt_int_tuple : kitB "int" "tuple" = some false := rfl
theorem kt_str_int : kitB "str" "int" = some false := rfl
theorem kt_str_bool : kitB "str" "bool" = some false := rfl
theorem kt_str_str : kitB "str" "str" = some true := rfl
theorem kt_str_list : kitB "str" "list" = some false := rfl
theorem kt_str_tuple : kitB "str" "tuple" = some false := rfl
theorem kt_list_int : kitB "list" "int" = some false := rfl
theorem kt_list_bool : kitB "list" "bool" = some false := rfl
theorem kt_list_str : kitB "list" "str" = some false := rfl
theorem kt_list_list : kitB "list" "list" = some true := rfl
theorem kt_list_tuple : kitB "list" "tuple" = some false := rfl
theorem kt_tuple_int : kitB "tuple" "int" = some false := rfl
theorem kt_tuple_bool : kitB "tuple" "bool" = some false := rfl
theorem kt_tuple_str : kitB "tuple" "str" = some false := rfl
theorem kt_tuple_list : kitB "tuple" "list" = some false := rfl
theorem kt_tuple_tuple : kitB "tuple" "tuple" = some true := rfl
theorem kt_dict_int : kitB "dict" "int" = some false := rfl
theorem kt_dict_bool : kitB "dict" "bool" = some false := rfl
theorem kt_dict_str : kitB "dict" "str" = some false := rfl
theorem kt_dict_list : kitB "dict" "list" = some false := rfl
theorem kt_dict_tuple : kitB "dict" "tuple" = some false := rfl
theorem e_iq1 {n : Bool} {a : T} : isT n a .non = ⟨True, (false, .bl (n != a.isNon))⟩ := by
  cases a <;> rfl
theorem e_iq2 {n : Bool} {a b : Bool} : isT n (.bl a) (.bl b) = ⟨True, (false, .bl (n != decide (a = b)))⟩ := rfl
theorem e_nn1 {i : Int} : T.isNon (.int i) = false := rfl
theorem e_nn2 : T.isNon .non = true := rfl
theorem e_nn3 {ts : List T} : T.isNon (.lst ts) = false := rfl
theorem e_nn4 {ts : List Nat} : T.isNon (.str ts) = false := rfl
theorem e_inp {n : Bool} {a : T} {ts : List T} : inTp n a (.tup ts) = ⟨a.flat = true ∧ ts.all T.flat = true, (false, .bl (n != ts.any fun y => y.eqF a))⟩ := rfl
theorem e_ixd {ts : List (Key × T)} {l : List Nat} : ixD (.dK ts) (.str l) = ⟨(valT ts (.inr (S l))).isSome = true, (false, (valT ts (.inr (S l))).getD .non)⟩ := rfl
theorem e_ii_non {b : Bool} {i : Int} {l : List Nat} {ts : List T} {ks : List (Key × T)} {kt : List (List Key × T)} {t : String} : isiT (.non) (.ty t) = ⟨(kitB "NoneType" t).isSome = true, (false, .bl ((kitB "NoneType" t).getD false))⟩ := rfl
theorem e_ii_bl {b : Bool} {i : Int} {l : List Nat} {ts : List T} {ks : List (Key × T)} {kt : List (List Key × T)} {t : String} : isiT (.bl b) (.ty t) = ⟨(kitB "bool" t).isSome = true, (false, .bl ((kitB "bool" t).getD false))⟩ := rfl
theorem e_ii_int {b : Bool} {i : Int} {l : List Nat} {ts : List T} {ks : List (Key × T)} {kt : List (List Key × T)} {t : String} : isiT (.int i) (.ty t) = ⟨(kitB "int" t).isSome = true, (false, .bl ((kitB "int" t).getD false))⟩ := rfl
theorem e_ii_str {b : Bool} {i : Int} {l : List Nat} {ts : List T} {ks : List (Key × T)} {kt : List (List Key × T)} {t : String} : isiT (.str l) (.ty t) = ⟨(kitB "str" t).isSome = true, (false, .bl ((kitB "str" t).getD false))⟩ := rfl
theorem e_ii_lst {b : Bool} {i : Int} {l : List Nat} {ts : List T} {ks : List (Key × T)} {kt : List (List Key × T)} {t : String} : isiT (.lst ts) (.ty t) = ⟨(kitB "list" t).isSome = true, (false, .bl ((kitB "list" t).getD false))⟩ := rfl
theorem e_ii_scr {b : Bool} {i : Int} {l : List Nat} {ts : List T} {ks : List (Key × T)} {kt : List (List Key × T)} {t : String} : isiT (.scr ts) (.ty t) = ⟨(kitB "list" t).isSome = true, (false, .bl ((kitB "list" t).getD false))⟩ := rfl
theorem e_ii_tup {b : Bool} {i : Int} {l : List Nat} {ts : List T} {ks : List (Key × T)} {kt : List (List Key × T)} {t : String} : isiT (.tup ts) (.ty t) = ⟨(kitB "tuple" t).isSome = true, (false, .bl ((kitB "tuple" t).getD false))⟩ := rfl
theorem e_ii_dK {b : Bool} {i : Int} {l : List Nat} {ts : List T} {ks : List (Key × T)} {kt : List (List Key × T)} {t : String} : isiT (.dK ks) (.ty t) = ⟨(kitB "dict" t).isSome = true, (false, .bl ((kitB "dict" t).getD false))⟩ := rfl
theorem e_ii_dT {b : Bool} {i : Int} {l : List Nat} {ts : List T} {ks : List (Key × T)} {kt : List (List Key × T)} {t : String} : isiT (.dT kt) (.ty t) = ⟨(kitB "dict" t).isSome = true, (false, .bl ((kitB "dict" t).getD false))⟩ := rfl
/-- a value of a built-in kind, or an own instance -/
def T.pl : T → Bool
  | .ins _ _ => true
  | t => t.cls.isSome
theorem T.pl_of {t : T} (h : t.cls.isSome = true) : t.pl = true := by cases t <;> first | exact h | rfl
theorem e_pl_int {i : Int} : T.pl (.int i) = true := rfl
theorem isiI_int {C : Addr} {fs : List (Str × T)} : isiI (.ins C fs) (.ty "int") = ⟨True, (false, .bl false)⟩ := by
  show (⟨"int" ∈ ["int", "bool", "str", "list", "tuple", "dict"], _⟩ : Ot) = _
  rw [eq_true (show "int" ∈ ["int", "bool", "str", "list", "tuple", "dict"] by decide)]
theorem e_cl_non {b : Bool} {i : Int} {l : List Nat} {ts : List T} {ks : List (Key × T)} {kt : List (List Key × T)} : T.cls (.non) = some "NoneType" := rfl
theorem e_cl_bl {b : Bool} {i : Int} {l : List Nat} {ts : List T} {ks : List (Key × T)} {kt : List (List Key × T)} : T.cls (.bl b) = some "bool" := rfl
theorem e_cl_int {b : Bool} {i : Int} {l : List Nat} {ts : List T} {ks : List (Key × T)} {kt : List (List Key × T)} : T.cls (.int i) = some "int" := rfl
theorem e_cl_str {b : Bool} {i : Int} {l : List Nat} {ts : List T} {ks : List (Key × T)} {kt : List (List Key × T)} : T.cls (.str l) = some "str" := rfl
theorem e_cl_lst {b : Bool} {i : Int} {l : List Nat} {ts : List T} {ks : List (Key × T)} {kt : List (List Key × T)} : T.cls (.lst ts) = some "list" := rfl
theorem e_cl_scr {b : Bool} {i : Int} {l : List Nat} {ts : List T} {ks : List (Key × T)} {kt : List (List Key × T)} : T.cls (.scr ts) = some "list" := rfl
theorem e_cl_tup {b : Bool} {i : Int} {l : List Nat} {ts : List T} {ks : List (Key × T)} {kt : List (List Key × T)} : T.cls (.tup ts) = some "tuple" := rfl
theorem e_cl_dK {b : Bool} {i : Int} {l : List Nat} {ts : List T} {ks : List (Key × T)} {kt : List (List Key × T)} : T.cls (.dK ks) = some "dict" := rfl
theorem e_cl_dT {b : Bool} {i : Int} {l : List Nat} {ts : List T} {ks : List (Key × T)} {kt : List (List Key × T)} : T.cls (.dT kt) = some "dict" := rfl
theorem e_keys0 : keysT [] = some [] := rfl
theorem e_keysS {l : List Nat} {b : T} {r : List T} : keysT (.str l :: b :: r) = (keysT r).map ((.inr (S l), b) :: ·) := by
  show (match keyT (.str l), keysT r with | some k, some ks => some ((k, b) :: ks) | _, _ => none) = _
  cases keysT r <;> rfl
theorem e_keysI {l : Int} {b : T} {r : List T} : keysT (.int l :: b :: r) = (keysT r).map ((.inl l, b) :: ·) := by
  show (match keyT (.int l), keysT r with | some k, some ks => some ((k, b) :: ks) | _, _ => none) = _
  cases keysT r <;> rfl
theorem e_fl1 : T.flat .non = true := rfl
theorem e_fl2 {b : Bool} : T.flat (.bl b) = true := rfl
theorem e_fl3 {i : Int} : T.flat (.int i) = true := rfl
theorem e_fl4 {l : List Nat} : T.flat (.str l) = true := rfl
theorem e_argL {ρ : Rho} {h : Hn} : argL ρ h = .sh ((h.get ρ).getD .non) := rfl
theorem e_ii_ins {C : Addr} {fs : List (Str × T)} {n : String} : isiT (.ins C fs) (.ty n) = ⟨n ∈ ["int", "bool", "str", "list", "tuple", "dict"], (false, .bl false)⟩ := rfl
end O
namespace O
open PySem PySem.Spec PyProof.Rows L2
/-- plain values as trees -/
structure Dt (α : Type) where
  t : α → T
  p : α → PyData
  dep : Nat
  ok : α → Prop
  pd : ∀ a, (t a).pd = some (p a)
  eqv : ∀ a b, PyData.eqv (p a) (p b) = true ↔ a = b
  lay : ∀ a, ok a → (p a).canLay0 = true
  dp : ∀ a, (p a).depth ≤ dep
def dtI : Dt Int where
  t := .int
  p := .int
  dep := 0
  ok := fun _ => True
  pd := fun _ => rfl
  eqv := fun a b => by simp [PyData.eqv]
  lay := fun _ _ => rfl
  dp := fun _ => Nat.le_refl _
theorem pdL_map {α : Type} (d : Dt α) : ∀ xs : List α, T.pdL (xs.map d.t) = some (xs.map d.p)
  | [] => rfl
  | x :: xs => by
    show (match (d.t x).pd, T.pdL (xs.map d.t) with | some d, some ds => some (d :: ds) | _, _ => none) = _
    rw [pdL_map d xs, d.pd]
    rfl
theorem eqvAll_map {α : Type} (d : Dt α) : ∀ xs ys : List α, PyData.eqvAll (xs.map d.p) (ys.map d.p) = true ↔ xs = ys
  | [], [] => by simp [PyData.eqvAll]
  | [], _ :: _ => by simp [PyData.eqvAll]
  | _ :: _, [] => by simp [PyData.eqvAll]
  | x :: xs, y :: ys => by
    rw [List.map_cons, List.map_cons]
    simp only [PyData.eqvAll, Bool.and_eq_true, d.eqv, eqvAll_map d xs ys, List.cons.injEq]
theorem layAll_map {α : Type} (d : Dt α) : ∀ xs : List α, (∀ x ∈ xs, d.ok x) → PyData.canLayAll0 (xs.map d.p) = true
  | [], _ => rfl
  | x :: xs, h => by
    rw [List.map_cons]
    simp only [PyData.canLayAll0, Bool.and_eq_true]
    exact ⟨d.lay x (h x List.mem_cons_self), layAll_map d xs fun y m => h y (List.mem_cons_of_mem _ m)⟩
theorem depAll_map {α : Type} (d : Dt α) : ∀ xs : List α, PyData.depthAll (xs.map d.p) ≤ d.dep
  | [] => Nat.zero_le _
  | x :: xs => by
    rw [List.map_cons]
    simp only [PyData.depthAll]
    exact Nat.max_le.mpr ⟨d.dp x, depAll_map d xs⟩
def dtL {α : Type} (d : Dt α) : Dt (List α) where
  t := fun xs => .lst (xs.map d.t)
  p := fun xs => .list (xs.map d.p)
  dep := d.dep + 1
  ok := fun xs => ∀ x ∈ xs, d.ok x
  pd := fun xs => by show (T.pdL _).map PyData.list = _; rw [pdL_map]; rfl
  eqv := fun a b => by simp only [PyData.eqv]; exact eqvAll_map d a b
  lay := fun xs h => by simp only [PyData.canLay0]; exact layAll_map d xs h
  dp := fun xs => by simp only [PyData.depth]; exact Nat.succ_le_succ (depAll_map d xs)
def dt2 {α β : Type} (d : Dt α) (e : Dt β) : Dt (α × β) where
  t := fun x => .tup [d.t x.1, e.t x.2]
  p := fun x => .tuple [d.p x.1, e.p x.2]
  dep := max d.dep e.dep + 1
  ok := fun x => d.ok x.1 ∧ e.ok x.2
  pd := fun x => by
    have h : T.pdL [d.t x.1, e.t x.2] = some [d.p x.1, e.p x.2] := by
      show (match (d.t x.1).pd, (match (e.t x.2).pd, (some [] : Option (List PyData)) with | some d, some ds => some (d :: ds) | _, _ => none) with | some d, some ds => some (d :: ds) | _, _ => none) = _
      rw [d.pd, e.pd]
    show (T.pdL _).map PyData.tuple = _; rw [h]; rfl
  eqv := fun a b => by
    simp only [PyData.eqv, PyData.eqvAll, Bool.and_eq_true, d.eqv, e.eqv, and_true]
    exact ⟨fun h => Prod.ext h.1 h.2, fun h => by rw [h]; exact ⟨rfl, rfl⟩⟩
  lay := fun x h => by
    simp only [PyData.canLay0, PyData.canLayAll0, Bool.and_eq_true, and_true]
    exact ⟨d.lay _ h.1, e.lay _ h.2⟩
  dp := fun x => by
    simp only [PyData.depth, PyData.depthAll]
    have := d.dp x.1
    have := e.dp x.2
    omega
def dt3 {α β γ : Type} (d : Dt α) (e : Dt β) (f : Dt γ) : Dt (α × β × γ) where
  t := fun x => .tup [d.t x.1, e.t x.2.1, f.t x.2.2]
  p := fun x => .tuple [d.p x.1, e.p x.2.1, f.p x.2.2]
  dep := max d.dep (max e.dep f.dep) + 1
  ok := fun x => d.ok x.1 ∧ e.ok x.2.1 ∧ f.ok x.2.2
  pd := fun x => by
    have h : T.pdL [d.t x.1, e.t x.2.1, f.t x.2.2] = some [d.p x.1, e.p x.2.1, f.p x.2.2] := by
      show (match (d.t x.1).pd, (match (e.t x.2.1).pd, (match (f.t x.2.2).pd, (some [] : Option (List PyData)) with | some d, some ds => some (d :: ds) | _, _ => none) with | some d, some ds => some (d :: ds) | _, _ => none) with | some d, some ds => some (d :: ds) | _, _ => none) = _
      rw [d.pd, e.pd, f.pd]
    show (T.pdL _).map PyData.tuple = _; rw [h]; rfl
  eqv := fun a b => by
    simp only [PyData.eqv, PyData.eqvAll, Bool.and_eq_true, d.eqv, e.eqv, f.eqv, and_true]
    exact ⟨fun h => Prod.ext h.1 (Prod.ext h.2.1 h.2.2), fun h => by rw [h]; exact ⟨rfl, rfl, rfl⟩⟩
  lay := fun x h => by
    simp only [PyData.canLay0, PyData.canLayAll0, Bool.and_eq_true, and_true]
    exact ⟨d.lay _ h.1, e.lay _ h.2.1, f.lay _ h.2.2⟩
  dp := fun x => by
    simp only [PyData.depth, PyData.depthAll]
    have := d.dp x.1
    have := e.dp x.2.1
    have := f.dp x.2.2
    omega
section
variable {α : Type} (d : Dt α)
theorem Dt.okD {a : α} (h : d.ok a) (k : d.dep ≤ 64 := by decide) : okD (d.t a) := by
  refine ⟨_, d.pd a, ?_⟩
  unfold SeqAt.shaped
  rw [Bool.and_eq_true]
  exact ⟨d.lay a h, decide_eq_true (Nat.le_trans (d.dp a) k)⟩
theorem Dt.eqvO [DecidableEq α] (a b : α) : eqvO (d.t a).pd (d.t b).pd = decide (a = b) := by
  rw [d.pd, d.pd]
  show PyData.eqv _ _ = _
  by_cases h : a = b
  · rw [decide_eq_true h]; exact (d.eqv a b).mpr h
  · rw [decide_eq_false h]; exact Bool.eq_false_iff.mpr fun z => h ((d.eqv a b).mp z)
end
end O
namespace O
open PySem PySem.Spec PyProof.Rows L2
end O
namespace O
open PySem PySem.Spec PyProof.Rows L2
/-- a value whose kind is plain; texts in it are short -/
def plainV (t : T) : Prop := (match t with | .non => True | .bl _ => True | .int _ => True | .str l => l.length ≤ 10000 | .lst _ => True | .tup _ => True | .dK _ => True | _ => False)
end O
namespace O
open PySem PySem.Spec PyProof.Rows L2
/-- an int from lo to hi -/
def isInt (lo : Int) (hi : Option Int) : T → Bool
  | .int i => decide (lo ≤ i) && (match hi with | none => true | some h => decide (i ≤ h))
  | _ => false
def fIsInt : List T → Ot
  | [v, .int lo, .non] => ⟨v.pl = true, (false, .bl (isInt lo none v))⟩
  | [v, .int lo, .int h] => ⟨v.pl = true, (false, .bl (isInt lo (some h) v))⟩
  | _ => .no
theorem isInt1 {lo i : Int} : isInt lo none (.int i) = decide (lo ≤ i) := by unfold isInt; simp
theorem isInt2 {lo h i : Int} : isInt lo (some h) (.int i) = (decide (lo ≤ i) && decide (i ≤ h)) := rfl
theorem h_is_integer (ars : Rho) (Q : Po Rv) (h : SP fIsInt ars Q) : D_is_integer (ars ++ List.replicate 0 .no) (fwish ars Q) := by
  obtain ⟨ts, rfl, pre, q⟩ := h
  revert pre q
  unfold fIsInt
  split
  · rename_i v lo
    intro pre q
    have pre : v.pl = true := pre
    show D_is_integer [.sh v, .sh (.int lo), .sh .non] _
    cases v <;> first | cases pre | skip
    all_goals simp only [sSeq, sSet, sPar, sIf, sRet, sRetN, sDrop, sNext, sDead, sBrk, sCnt, sAsg, sFor, dNm, dTm, dC, dOp1, dOp2, dOpN, dMt, dMut, dCall, dLst, dTup, dNil, dCons, dVn, dVc, dSl, dSl3, dNoP, dPrt, dIf, dAndV, dOrV, dNotV, dBv, dTru, dNotT, dAndT, dOrT, dChn, dEqQ, dRpQ, qOp, qNil, qCons, qLs, qTp, dSrc, dRng1, dRng2, dZip2, dEnum, dComp, dYes, gNm, gTp, gCn, gNi, gIt, e_var, e_var1, e_var2, e_var3, e_var4, e_mov, e_mov1, e_mov2, e_mov3, e_mov4, e_tr1, e_tr2, e_tr3, e_tr4, e_tr5, e_own1, e_own2, e_reo1, e_reo2, e_of1, e_of2, e_pin1, e_pin2, e_pin3, e_arg1, e_arg2, e_arg3, e_arg4, e_isarg1, e_isarg2, e_conv1, e_conv2, e_conv3, e_conv4, e_conv5, e_conv6, e_sown1, e_sown2, e_sown3, e_sown4, e_put1, e_put2, e_po1, e_po2, e_p1, e_p2, e_ao1, e_ao2, e_nd0, e_nd1, e_nd2, e_sl, e_get1, e_get2, e_is, e_all, e_gets0, e_gets1, e_gets2, e_tms0, e_tms1, e_qg1, e_qg2, e_qg3, e_qgs0, e_qgs1, e_its1, e_its2, e_its3, e_its4, e_jts1, e_jts2, e_jts4, e_mt1, e_mt2, e_ty1, e_add1, e_add2, e_add3, e_sub, e_mul1, e_mul2, e_mul3, e_fdiv, e_mod, e_pow, e_neg, e_len1, e_len2, e_len3, e_len4, e_int1, e_int2, e_abs, e_max, e_min, e_ix1, e_ix2, e_ix3, e_ix4, e_eq1, e_eq2, e_eq3, e_lt1, e_le1, e_gt1, e_ge1, e_lt2, e_in1, e_app, e_ext, e_rev, e_clr, e_set, e_sl1, e_sl2, e_sl3, e_sl4, e_count, e_f1, e_f2, e_osh, e_owh, e_one, e_tt1, e_tt2, e_ctg1, e_ctg2, e_cn0, e_cn1, e_wi0, e_wi1, e_re0, e_re1, e_ifb1, e_ifb2, e_nm0, e_nm1, e_nm2, e_fa0, e_fa1, e_sum, e_allb, e_anyb, e_sp1, e_sp2, e_sp3, e_at0, e_at1, e_at2, e_at3, e_at4, e_at5, e_ixn40, e_ixn41, e_ixn42, e_ixn43, e_cp1, e_cp2, e_cp3, e_cp4, e_cp5, forall_eq, List.getD_cons_zero, List.getD_cons_succ, List.getD_nil, List.set_cons_zero, List.set_cons_succ, List.map_cons, List.map_nil, Option.map_some, Option.map_none, Option.bind_some, Option.bind_none, Option.getD_some, Option.some.injEq, exists_eq_left', exists_eq_left, exists_eq', exists_eq, decide_eq_true_eq, List.length_map, exists_eq_right, exists_and_left, exists_and_right, Option.isSome_some, T.int.injEq, T.str.injEq, T.lst.injEq, T.tup.injEq, T.bl.injEq, List.cons.injEq, Prod.mk.injEq, Hn.tm.injEq, true_and, and_true, and_assoc, and_self, ne_eq, not_false_eq_true, not_true_eq_false, ite_true, ite_false, if_true, if_false, reduceIte, reduceCtorEq, Bool.false_eq_true, false_and, and_false, imp_self, forall_const, implies_true, List.length_cons, List.length_nil, Nat.reduceAdd, Nat.reduceEqDiff, Bool.false_bne, Bool.true_bne, Bool.not_false, Bool.not_true, List.nil_append, List.cons_append, Int.reduceToNat, Int.reducePow, Int.reduceMul, Int.reduceSub, Int.reduceAdd, Int.reduceNeg, isiT, T.cls, kt_NoneType_int, kt_NoneType_bool, kt_NoneType_str, kt_NoneType_list, kt_NoneType_tuple, kt_bool_int, kt_bool_bool, kt_bool_str, kt_bool_list, kt_bool_tuple, kt_int_int, kt_int_bool, kt_int_str, kt_int_list, kt_int_tuple, kt_str_int, kt_str_bool, kt_str_str, kt_str_list, kt_str_tuple, kt_list_int, kt_list_bool, kt_list_str, kt_list_list, kt_list_tuple, kt_tuple_int, kt_tuple_bool, kt_tuple_str, kt_tuple_list, kt_tuple_tuple, kt_dict_int, kt_dict_bool, kt_dict_str, kt_dict_list, kt_dict_tuple, D_is_integer, isiI_int, e_iq1, e_nn2]
    all_goals first | exact q | skip
    rename_i i
    rw [isInt1] at q
    by_cases h : lo ≤ i
    · simp only [h, decide_true, e_ifb1] at q ⊢
      exact q
    · simp only [h, decide_false, e_ifb2] at q ⊢
      exact q
  · rename_i v lo hi
    intro pre q
    have pre : v.pl = true := pre
    show D_is_integer [.sh v, .sh (.int lo), .sh (.int hi)] _
    cases v <;> first | cases pre | skip
    all_goals simp only [sSeq, sSet, sPar, sIf, sRet, sRetN, sDrop, sNext, sDead, sBrk, sCnt, sAsg, sFor, dNm, dTm, dC, dOp1, dOp2, dOpN, dMt, dMut, dCall, dLst, dTup, dNil, dCons, dVn, dVc, dSl, dSl3, dNoP, dPrt, dIf, dAndV, dOrV, dNotV, dBv, dTru, dNotT, dAndT, dOrT, dChn, dEqQ, dRpQ, qOp, qNil, qCons, qLs, qTp, dSrc, dRng1, dRng2, dZip2, dEnum, dComp, dYes, gNm, gTp, gCn, gNi, gIt, e_var, e_var1, e_var2, e_var3, e_var4, e_mov, e_mov1, e_mov2, e_mov3, e_mov4, e_tr1, e_tr2, e_tr3, e_tr4, e_tr5, e_own1, e_own2, e_reo1, e_reo2, e_of1, e_of2, e_pin1, e_pin2, e_pin3, e_arg1, e_arg2, e_arg3, e_arg4, e_isarg1, e_isarg2, e_conv1, e_conv2, e_conv3, e_conv4, e_conv5, e_conv6, e_sown1, e_sown2, e_sown3, e_sown4, e_put1, e_put2, e_po1, e_po2, e_p1, e_p2, e_ao1, e_ao2, e_nd0, e_nd1, e_nd2, e_sl, e_get1, e_get2, e_is, e_all, e_gets0, e_gets1, e_gets2, e_tms0, e_tms1, e_qg1, e_qg2, e_qg3, e_qgs0, e_qgs1, e_its1, e_its2, e_its3, e_its4, e_jts1, e_jts2, e_jts4, e_mt1, e_mt2, e_ty1, e_add1, e_add2, e_add3, e_sub, e_mul1, e_mul2, e_mul3, e_fdiv, e_mod, e_pow, e_neg, e_len1, e_len2, e_len3, e_len4, e_int1, e_int2, e_abs, e_max, e_min, e_ix1, e_ix2, e_ix3, e_ix4, e_eq1, e_eq2, e_eq3, e_lt1, e_le1, e_gt1, e_ge1, e_lt2, e_in1, e_app, e_ext, e_rev, e_clr, e_set, e_sl1, e_sl2, e_sl3, e_sl4, e_count, e_f1, e_f2, e_osh, e_owh, e_one, e_tt1, e_tt2, e_ctg1, e_ctg2, e_cn0, e_cn1, e_wi0, e_wi1, e_re0, e_re1, e_ifb1, e_ifb2, e_nm0, e_nm1, e_nm2, e_fa0, e_fa1, e_sum, e_allb, e_anyb, e_sp1, e_sp2, e_sp3, e_at0, e_at1, e_at2, e_at3, e_at4, e_at5, e_ixn40, e_ixn41, e_ixn42, e_ixn43, e_cp1, e_cp2, e_cp3, e_cp4, e_cp5, forall_eq, List.getD_cons_zero, List.getD_cons_succ, List.getD_nil, List.set_cons_zero, List.set_cons_succ, List.map_cons, List.map_nil, Option.map_some, Option.map_none, Option.bind_some, Option.bind_none, Option.getD_some, Option.some.injEq, exists_eq_left', exists_eq_left, exists_eq', exists_eq, decide_eq_true_eq, List.length_map, exists_eq_right, exists_and_left, exists_and_right, Option.isSome_some, T.int.injEq, T.str.injEq, T.lst.injEq, T.tup.injEq, T.bl.injEq, List.cons.injEq, Prod.mk.injEq, Hn.tm.injEq, true_and, and_true, and_assoc, and_self, ne_eq, not_false_eq_true, not_true_eq_false, ite_true, ite_false, if_true, if_false, reduceIte, reduceCtorEq, Bool.false_eq_true, false_and, and_false, imp_self, forall_const, implies_true, List.length_cons, List.length_nil, Nat.reduceAdd, Nat.reduceEqDiff, Bool.false_bne, Bool.true_bne, Bool.not_false, Bool.not_true, List.nil_append, List.cons_append, Int.reduceToNat, Int.reducePow, Int.reduceMul, Int.reduceSub, Int.reduceAdd, Int.reduceNeg, isiT, T.cls, kt_NoneType_int, kt_NoneType_bool, kt_NoneType_str, kt_NoneType_list, kt_NoneType_tuple, kt_bool_int, kt_bool_bool, kt_bool_str, kt_bool_list, kt_bool_tuple, kt_int_int, kt_int_bool, kt_int_str, kt_int_list, kt_int_tuple, kt_str_int, kt_str_bool, kt_str_str, kt_str_list, kt_str_tuple, kt_list_int, kt_list_bool, kt_list_str, kt_list_list, kt_list_tuple, kt_tuple_int, kt_tuple_bool, kt_tuple_str, kt_tuple_list, kt_tuple_tuple, kt_dict_int, kt_dict_bool, kt_dict_str, kt_dict_list, kt_dict_tuple, D_is_integer, isiI_int, e_iq1, e_nn1]
    all_goals first | exact q | skip
    rename_i i
    rw [isInt2] at q
    by_cases h : lo ≤ i
    · simp only [h, decide_true, e_ifb1, Bool.true_and] at q ⊢
      exact q
    · simp only [h, decide_false, e_ifb2, Bool.false_and] at q ⊢
      exact q
  · intro pre; exact pre.elim
end O
namespace O
open PySem PySem.Spec PyProof.Rows L2
/-- a double swap of the row l -/
def swI (l : List Nat) (a b : Int) : Bool := decide (cutL l (some a) (some (a + 2)) = [97, 98]) && (decide (cutL l (some b) (some (b + 2)) = [98, 97]) && decide (1 < (if a - b < 0 then -(a - b) else a - b)))
def inR (l : List Nat) (t : T) : Bool := isInt 0 (some ((l.length : Int) - 2)) t
def swTT (l : List Nat) : T → T → Bool
  | .int a, .int b => swI l a b
  | _, _ => false
def swT (l : List Nat) : T → Bool
  | .tup [x, y] => inR l x && (inR l y && swTT l x y)
  | _ => false
def plainP (t : T) : Prop := plainV t ∧ ∀ ts, t = .tup ts → ∀ x ∈ ts, plainV x
theorem isInt_pre {t : T} (h : plainV t) (lo hi : Int) : (fIsInt [t, .int lo, .int hi]) = ⟨True, (false, .bl (isInt lo (some hi) t))⟩ := by
  have c : t.cls.isSome = true := by cases t <;> first | rfl | exact False.elim h
  show (⟨t.pl = true, _⟩ : Ot) = _
  rw [eq_true (T.pl_of c)]
theorem comp_allU {vs : List Nat} {g : Tg} {tt : Dn Bool} {te : Dn Rv} {k : List T → Rho → Prop} (G : T → T) {ρ : Rho} {ts : List T}
    (st : ∀ x ∈ ts, ∀ (A : T → Rho → Prop) (B : Rho → Prop), A (G x) ρ → cTg g x ρ fun ρ1 => tt ρ1 ⟨fun b ρ2 => ifB b (te ρ2 ⟨fun r ρ3 => A r.2 (wipeR ρ3 vs), noex⟩) (B (wipeR ρ2 vs)), noex⟩) (hl : ts.length ≤ sizeLine) (h : k (ts.map G) ρ) : compD vs g tt te k ts [] ρ := by
  have := comp_all (xs := ts) (w := id) (vs := vs) (g := g) (tt := tt) (te := te) (k := k) G st hl h
  rw [List.map_id] at this
  exact this
theorem all_two {a b : Bool} : allT (.lst [.bl a, .bl b]) = ⟨True, (false, .bl (a && b))⟩ := (e_allb (bs := [a, b])).trans (by simp)
def fSwOf : List T → Ot
  | [.str l, t] => ⟨(l.length ≤ 10000 ∧ abS l) ∧ plainP t, (false, .bl (swT l t))⟩
  | _ => .no
theorem h_is_swap_of (ars : Rho) (Q : Po Rv) (h : SP fSwOf ars Q) : D_is_swap_of (SP fIsInt) (ars ++ List.replicate 3 .no) (fwish ars Q) := by
  obtain ⟨ts, rfl, pre, q⟩ := h
  revert pre q
  unfold fSwOf
  split
  · rename_i l t
    intro pre q
    obtain ⟨⟨hl, ab⟩, pv, pp⟩ : (l.length ≤ 10000 ∧ abS l) ∧ plainP t := pre
    have hs := sizeLine_eq
    show D_is_swap_of (SP fIsInt) [.sh (.str l), .sh t, .no, .no, .no] _
    cases t with
    | tup ts =>
      by_cases h2 : ts.length = 2
      · obtain ⟨x, y, rfl⟩ : ∃ x y, ts = [x, y] := by
          match ts, h2 with
          | [x, y], _ => exact ⟨x, y, rfl⟩
        have px := pp _ rfl x (by simp)
        have py := pp _ rfl y (by simp)
        simp only [sSeq, sSet, sPar, sIf, sRet, sRetN, sDrop, sNext, sDead, sBrk, sCnt, sAsg, sFor, dNm, dTm, dC, dOp1, dOp2, dOpN, dMt, dMut, dCall, dLst, dTup, dNil, dCons, dVn, dVc, dSl, dSl3, dNoP, dPrt, dIf, dAndV, dOrV, dNotV, dBv, dTru, dNotT, dAndT, dOrT, dChn, dEqQ, dRpQ, qOp, qNil, qCons, qLs, qTp, dSrc, dRng1, dRng2, dZip2, dEnum, dComp, dYes, gNm, gTp, gCn, gNi, gIt, e_var, e_var1, e_var2, e_var3, e_var4, e_mov, e_mov1, e_mov2, e_mov3, e_mov4, e_tr1, e_tr2, e_tr3, e_tr4, e_tr5, e_own1, e_own2, e_reo1, e_reo2, e_of1, e_of2, e_pin1, e_pin2, e_pin3, e_arg1, e_arg2, e_arg3, e_arg4, e_isarg1, e_isarg2, e_conv1, e_conv2, e_conv3, e_conv4, e_conv5, e_conv6, e_sown1, e_sown2, e_sown3, e_sown4, e_put1, e_put2, e_po1, e_po2, e_p1, e_p2, e_ao1, e_ao2, e_nd0, e_nd1, e_nd2, e_sl, e_get1, e_get2, e_is, e_all, e_gets0, e_gets1, e_gets2, e_tms0, e_tms1, e_qg1, e_qg2, e_qg3, e_qgs0, e_qgs1, e_its1, e_its2, e_its3, e_its4, e_jts1, e_jts2, e_jts4, e_mt1, e_mt2, e_ty1, e_add1, e_add2, e_add3, e_sub, e_mul1, e_mul2, e_mul3, e_fdiv, e_mod, e_pow, e_neg, e_len1, e_len2, e_len3, e_len4, e_int1, e_int2, e_abs, e_max, e_min, e_ix1, e_ix2, e_ix3, e_ix4, e_eq1, e_eq2, e_eq3, e_lt1, e_le1, e_gt1, e_ge1, e_lt2, e_in1, e_app, e_ext, e_rev, e_clr, e_set, e_sl1, e_sl2, e_sl3, e_sl4, e_count, e_f1, e_f2, e_osh, e_owh, e_one, e_tt1, e_tt2, e_ctg1, e_ctg2, e_cn0, e_cn1, e_wi0, e_wi1, e_re0, e_re1, e_ifb1, e_ifb2, e_nm0, e_nm1, e_nm2, e_fa0, e_fa1, e_sum, e_allb, e_anyb, e_sp1, e_sp2, e_sp3, e_at0, e_at1, e_at2, e_at3, e_at4, e_at5, e_ixn40, e_ixn41, e_ixn42, e_ixn43, e_cp1, e_cp2, e_cp3, e_cp4, e_cp5, forall_eq, List.getD_cons_zero, List.getD_cons_succ, List.getD_nil, List.set_cons_zero, List.set_cons_succ, List.map_cons, List.map_nil, Option.map_some, Option.map_none, Option.bind_some, Option.bind_none, Option.getD_some, Option.some.injEq, exists_eq_left', exists_eq_left, exists_eq', exists_eq, decide_eq_true_eq, List.length_map, exists_eq_right, exists_and_left, exists_and_right, Option.isSome_some, T.int.injEq, T.str.injEq, T.lst.injEq, T.tup.injEq, T.bl.injEq, List.cons.injEq, Prod.mk.injEq, Hn.tm.injEq, true_and, and_true, and_assoc, and_self, ne_eq, not_false_eq_true, not_true_eq_false, ite_true, ite_false, if_true, if_false, reduceIte, reduceCtorEq, Bool.false_eq_true, false_and, and_false, imp_self, forall_const, implies_true, List.length_cons, List.length_nil, Nat.reduceAdd, Nat.reduceEqDiff, Bool.false_bne, Bool.true_bne, Bool.not_false, Bool.not_true, List.nil_append, List.cons_append, Int.reduceToNat, Int.reducePow, Int.reduceMul, Int.reduceSub, Int.reduceAdd, Int.reduceNeg, kt_NoneType_int, kt_NoneType_bool, kt_NoneType_str, kt_NoneType_list, kt_NoneType_tuple, kt_bool_int, kt_bool_bool, kt_bool_str, kt_bool_list, kt_bool_tuple, kt_int_int, kt_int_bool, kt_int_str, kt_int_list, kt_int_tuple, kt_str_int, kt_str_bool, kt_str_str, kt_str_list, kt_str_tuple, kt_list_int, kt_list_bool, kt_list_str, kt_list_list, kt_list_tuple, kt_tuple_int, kt_tuple_bool, kt_tuple_str, kt_tuple_list, kt_tuple_tuple, kt_dict_int, kt_dict_bool, kt_dict_str, kt_dict_list, kt_dict_tuple, e_ii_non, e_ii_bl, e_ii_int, e_ii_str, e_ii_lst, e_ii_scr, e_ii_tup, e_ii_dK, e_ii_dT, e_ii_ins, dCallL, e_argL, e_fl1, e_fl2, e_fl3, e_fl4, List.all_cons, List.all_nil, dDict, dDict0, e_keys0, e_keysS, e_keysI, e_cl_non, e_cl_bl, e_cl_int, e_pl_int, e_cl_str, e_cl_lst, e_cl_scr, e_cl_tup, e_cl_dK, e_cl_dT, e_iq1, e_iq2, e_nn1, e_nn2, e_nn3, e_nn4, e_inp, e_ixd, Int.cast_ofNat_Int, Int.natCast_succ, decide_true, decide_false, Int.reduceEq, Int.reduceLT, Int.reduceLE, Int.reduceNe, Nat.reduceLT, Nat.reduceLeDiff, Bool.and_true, Bool.true_and, Bool.and_false, Bool.false_and, Bool.not_eq_true, Bool.or_true, Bool.or_false, Int.natCast_add, Int.natCast_one, Int.zero_add, Int.add_zero, D_is_swap_of]
        refine comp_allU (fun t => .bl (inR l t)) (fun t m A B hA => ?_) (by simp; omega) ?_
        · have pt : plainV t := by
            simp only [List.mem_cons, List.not_mem_nil, or_false] at m
            rcases m with rfl | rfl
            · exact px
            · exact py
          simp only [sSeq, sSet, sPar, sIf, sRet, sRetN, sDrop, sNext, sDead, sBrk, sCnt, sAsg, sFor, dNm, dTm, dC, dOp1, dOp2, dOpN, dMt, dMut, dCall, dLst, dTup, dNil, dCons, dVn, dVc, dSl, dSl3, dNoP, dPrt, dIf, dAndV, dOrV, dNotV, dBv, dTru, dNotT, dAndT, dOrT, dChn, dEqQ, dRpQ, qOp, qNil, qCons, qLs, qTp, dSrc, dRng1, dRng2, dZip2, dEnum, dComp, dYes, gNm, gTp, gCn, gNi, gIt, e_var, e_var1, e_var2, e_var3, e_var4, e_mov, e_mov1, e_mov2, e_mov3, e_mov4, e_tr1, e_tr2, e_tr3, e_tr4, e_tr5, e_own1, e_own2, e_reo1, e_reo2, e_of1, e_of2, e_pin1, e_pin2, e_pin3, e_arg1, e_arg2, e_arg3, e_arg4, e_isarg1, e_isarg2, e_conv1, e_conv2, e_conv3, e_conv4, e_conv5, e_conv6, e_sown1, e_sown2, e_sown3, e_sown4, e_put1, e_put2, e_po1, e_po2, e_p1, e_p2, e_ao1, e_ao2, e_nd0, e_nd1, e_nd2, e_sl, e_get1, e_get2, e_is, e_all, e_gets0, e_gets1, e_gets2, e_tms0, e_tms1, e_qg1, e_qg2, e_qg3, e_qgs0, e_qgs1, e_its1, e_its2, e_its3, e_its4, e_jts1, e_jts2, e_jts4, e_mt1, e_mt2, e_ty1, e_add1, e_add2, e_add3, e_sub, e_mul1, e_mul2, e_mul3, e_fdiv, e_mod, e_pow, e_neg, e_len1, e_len2, e_len3, e_len4, e_int1, e_int2, e_abs, e_max, e_min, e_ix1, e_ix2, e_ix3, e_ix4, e_eq1, e_eq2, e_eq3, e_lt1, e_le1, e_gt1, e_ge1, e_lt2, e_in1, e_app, e_ext, e_rev, e_clr, e_set, e_sl1, e_sl2, e_sl3, e_sl4, e_count, e_f1, e_f2, e_osh, e_owh, e_one, e_tt1, e_tt2, e_ctg1, e_ctg2, e_cn0, e_cn1, e_wi0, e_wi1, e_re0, e_re1, e_ifb1, e_ifb2, e_nm0, e_nm1, e_nm2, e_fa0, e_fa1, e_sum, e_allb, e_anyb, e_sp1, e_sp2, e_sp3, e_at0, e_at1, e_at2, e_at3, e_at4, e_at5, e_ixn40, e_ixn41, e_ixn42, e_ixn43, e_cp1, e_cp2, e_cp3, e_cp4, e_cp5, forall_eq, List.getD_cons_zero, List.getD_cons_succ, List.getD_nil, List.set_cons_zero, List.set_cons_succ, List.map_cons, List.map_nil, Option.map_some, Option.map_none, Option.bind_some, Option.bind_none, Option.getD_some, Option.some.injEq, exists_eq_left', exists_eq_left, exists_eq', exists_eq, decide_eq_true_eq, List.length_map, exists_eq_right, exists_and_left, exists_and_right, Option.isSome_some, T.int.injEq, T.str.injEq, T.lst.injEq, T.tup.injEq, T.bl.injEq, List.cons.injEq, Prod.mk.injEq, Hn.tm.injEq, true_and, and_true, and_assoc, and_self, ne_eq, not_false_eq_true, not_true_eq_false, ite_true, ite_false, if_true, if_false, reduceIte, reduceCtorEq, Bool.false_eq_true, false_and, and_false, imp_self, forall_const, implies_true, List.length_cons, List.length_nil, Nat.reduceAdd, Nat.reduceEqDiff, Bool.false_bne, Bool.true_bne, Bool.not_false, Bool.not_true, List.nil_append, List.cons_append, Int.reduceToNat, Int.reducePow, Int.reduceMul, Int.reduceSub, Int.reduceAdd, Int.reduceNeg, kt_NoneType_int, kt_NoneType_bool, kt_NoneType_str, kt_NoneType_list, kt_NoneType_tuple, kt_bool_int, kt_bool_bool, kt_bool_str, kt_bool_list, kt_bool_tuple, kt_int_int, kt_int_bool, kt_int_str, kt_int_list, kt_int_tuple, kt_str_int, kt_str_bool, kt_str_str, kt_str_list, kt_str_tuple, kt_list_int, kt_list_bool, kt_list_str, kt_list_list, kt_list_tuple, kt_tuple_int, kt_tuple_bool, kt_tuple_str, kt_tuple_list, kt_tuple_tuple, kt_dict_int, kt_dict_bool, kt_dict_str, kt_dict_list, kt_dict_tuple, e_ii_non, e_ii_bl, e_ii_int, e_ii_str, e_ii_lst, e_ii_scr, e_ii_tup, e_ii_dK, e_ii_dT, e_ii_ins, dCallL, e_argL, e_fl1, e_fl2, e_fl3, e_fl4, List.all_cons, List.all_nil, dDict, dDict0, e_keys0, e_keysS, e_keysI, e_cl_non, e_cl_bl, e_cl_int, e_pl_int, e_cl_str, e_cl_lst, e_cl_scr, e_cl_tup, e_cl_dK, e_cl_dT, e_iq1, e_iq2, e_nn1, e_nn2, e_nn3, e_nn4, e_inp, e_ixd, Int.cast_ofNat_Int, Int.natCast_succ, decide_true, decide_false, Int.reduceEq, Int.reduceLT, Int.reduceLE, Int.reduceNe, Nat.reduceLT, Nat.reduceLeDiff, Bool.and_true, Bool.true_and, Bool.and_false, Bool.false_and, Bool.not_eq_true, Bool.or_true, Bool.or_false, Int.natCast_add, Int.natCast_one, Int.zero_add, Int.add_zero, isInt_pre pt]
          exact ⟨by omega, hA⟩
        · have e : [x, y].map (fun t => T.bl (inR l t)) = [.bl (inR l x), .bl (inR l y)] := rfl
          have es : swT l (.tup [x, y]) = (inR l x && (inR l y && swTT l x y)) := rfl
          rw [es] at q
          rw [e]
          simp only [sSeq, sSet, sPar, sIf, sRet, sRetN, sDrop, sNext, sDead, sBrk, sCnt, sAsg, sFor, dNm, dTm, dC, dOp1, dOp2, dOpN, dMt, dMut, dCall, dLst, dTup, dNil, dCons, dVn, dVc, dSl, dSl3, dNoP, dPrt, dIf, dAndV, dOrV, dNotV, dBv, dTru, dNotT, dAndT, dOrT, dChn, dEqQ, dRpQ, qOp, qNil, qCons, qLs, qTp, dSrc, dRng1, dRng2, dZip2, dEnum, dComp, dYes, gNm, gTp, gCn, gNi, gIt, e_var, e_var1, e_var2, e_var3, e_var4, e_mov, e_mov1, e_mov2, e_mov3, e_mov4, e_tr1, e_tr2, e_tr3, e_tr4, e_tr5, e_own1, e_own2, e_reo1, e_reo2, e_of1, e_of2, e_pin1, e_pin2, e_pin3, e_arg1, e_arg2, e_arg3, e_arg4, e_isarg1, e_isarg2, e_conv1, e_conv2, e_conv3, e_conv4, e_conv5, e_conv6, e_sown1, e_sown2, e_sown3, e_sown4, e_put1, e_put2, e_po1, e_po2, e_p1, e_p2, e_ao1, e_ao2, e_nd0, e_nd1, e_nd2, e_sl, e_get1, e_get2, e_is, e_all, e_gets0, e_gets1, e_gets2, e_tms0, e_tms1, e_qg1, e_qg2, e_qg3, e_qgs0, e_qgs1, e_its1, e_its2, e_its3, e_its4, e_jts1, e_jts2, e_jts4, e_mt1, e_mt2, e_ty1, e_add1, e_add2, e_add3, e_sub, e_mul1, e_mul2, e_mul3, e_fdiv, e_mod, e_pow, e_neg, e_len1, e_len2, e_len3, e_len4, e_int1, e_int2, e_abs, e_max, e_min, e_ix1, e_ix2, e_ix3, e_ix4, e_eq1, e_eq2, e_eq3, e_lt1, e_le1, e_gt1, e_ge1, e_lt2, e_in1, e_app, e_ext, e_rev, e_clr, e_set, e_sl1, e_sl2, e_sl3, e_sl4, e_count, e_f1, e_f2, e_osh, e_owh, e_one, e_tt1, e_tt2, e_ctg1, e_ctg2, e_cn0, e_cn1, e_wi0, e_wi1, e_re0, e_re1, e_ifb1, e_ifb2, e_nm0, e_nm1, e_nm2, e_fa0, e_fa1, e_sum, e_allb, e_anyb, e_sp1, e_sp2, e_sp3, e_at0, e_at1, e_at2, e_at3, e_at4, e_at5, e_ixn40, e_ixn41, e_ixn42, e_ixn43, e_cp1, e_cp2, e_cp3, e_cp4, e_cp5, forall_eq, List.getD_cons_zero, List.getD_cons_succ, List.getD_nil, List.set_cons_zero, List.set_cons_succ, List.map_cons, List.map_nil, Option.map_some, Option.map_none, Option.bind_some, Option.bind_none, Option.getD_some, Option.some.injEq, exists_eq_left', exists_eq_left, exists_eq', exists_eq, decide_eq_true_eq, List.length_map, exists_eq_right, exists_and_left, exists_and_right, Option.isSome_some, T.int.injEq, T.str.injEq, T.lst.injEq, T.tup.injEq, T.bl.injEq, List.cons.injEq, Prod.mk.injEq, Hn.tm.injEq, true_and, and_true, and_assoc, and_self, ne_eq, not_false_eq_true, not_true_eq_false, ite_true, ite_false, if_true, if_false, reduceIte, reduceCtorEq, Bool.false_eq_true, false_and, and_false, imp_self, forall_const, implies_true, List.length_cons, List.length_nil, Nat.reduceAdd, Nat.reduceEqDiff, Bool.false_bne, Bool.true_bne, Bool.not_false, Bool.not_true, List.nil_append, List.cons_append, Int.reduceToNat, Int.reducePow, Int.reduceMul, Int.reduceSub, Int.reduceAdd, Int.reduceNeg, kt_NoneType_int, kt_NoneType_bool, kt_NoneType_str, kt_NoneType_list, kt_NoneType_tuple, kt_bool_int, kt_bool_bool, kt_bool_str, kt_bool_list, kt_bool_tuple, kt_int_int, kt_int_bool, kt_int_str, kt_int_list, kt_int_tuple, kt_str_int, kt_str_bool, kt_str_str, kt_str_list, kt_str_tuple, kt_list_int, kt_list_bool, kt_list_str, kt_list_list, kt_list_tuple, kt_tuple_int, kt_tuple_bool, kt_tuple_str, kt_tuple_list, kt_tuple_tuple, kt_dict_int, kt_dict_bool, kt_dict_str, kt_dict_list, kt_dict_tuple, e_ii_non, e_ii_bl, e_ii_int, e_ii_str, e_ii_lst, e_ii_scr, e_ii_tup, e_ii_dK, e_ii_dT, e_ii_ins, dCallL, e_argL, e_fl1, e_fl2, e_fl3, e_fl4, List.all_cons, List.all_nil, dDict, dDict0, e_keys0, e_keysS, e_keysI, e_cl_non, e_cl_bl, e_cl_int, e_pl_int, e_cl_str, e_cl_lst, e_cl_scr, e_cl_tup, e_cl_dK, e_cl_dT, e_iq1, e_iq2, e_nn1, e_nn2, e_nn3, e_nn4, e_inp, e_ixd, Int.cast_ofNat_Int, Int.natCast_succ, decide_true, decide_false, Int.reduceEq, Int.reduceLT, Int.reduceLE, Int.reduceNe, Nat.reduceLT, Nat.reduceLeDiff, Bool.and_true, Bool.true_and, Bool.and_false, Bool.false_and, Bool.not_eq_true, Bool.or_true, Bool.or_false, Int.natCast_add, Int.natCast_one, Int.zero_add, Int.add_zero, all_two]
          cases hx : inR l x with
          | false => rw [hx] at q; simp only [sSeq, sSet, sPar, sIf, sRet, sRetN, sDrop, sNext, sDead, sBrk, sCnt, sAsg, sFor, dNm, dTm, dC, dOp1, dOp2, dOpN, dMt, dMut, dCall, dLst, dTup, dNil, dCons, dVn, dVc, dSl, dSl3, dNoP, dPrt, dIf, dAndV, dOrV, dNotV, dBv, dTru, dNotT, dAndT, dOrT, dChn, dEqQ, dRpQ, qOp, qNil, qCons, qLs, qTp, dSrc, dRng1, dRng2, dZip2, dEnum, dComp, dYes, gNm, gTp, gCn, gNi, gIt, e_var, e_var1, e_var2, e_var3, e_var4, e_mov, e_mov1, e_mov2, e_mov3, e_mov4, e_tr1, e_tr2, e_tr3, e_tr4, e_tr5, e_own1, e_own2, e_reo1, e_reo2, e_of1, e_of2, e_pin1, e_pin2, e_pin3, e_arg1, e_arg2, e_arg3, e_arg4, e_isarg1, e_isarg2, e_conv1, e_conv2, e_conv3, e_conv4, e_conv5, e_conv6, e_sown1, e_sown2, e_sown3, e_sown4, e_put1, e_put2, e_po1, e_po2, e_p1, e_p2, e_ao1, e_ao2, e_nd0, e_nd1, e_nd2, e_sl, e_get1, e_get2, e_is, e_all, e_gets0, e_gets1, e_gets2, e_tms0, e_tms1, e_qg1, e_qg2, e_qg3, e_qgs0, e_qgs1, e_its1, e_its2, e_its3, e_its4, e_jts1, e_jts2, e_jts4, e_mt1, e_mt2, e_ty1, e_add1, e_add2, e_add3, e_sub, e_mul1, e_mul2, e_mul3, e_fdiv, e_mod, e_pow, e_neg, e_len1, e_len2, e_len3, e_len4, e_int1, e_int2, e_abs, e_max, e_min, e_ix1, e_ix2, e_ix3, e_ix4, e_eq1, e_eq2, e_eq3, e_lt1, e_le1, e_gt1, e_ge1, e_lt2, e_in1, e_app, e_ext, e_rev, e_clr, e_set, e_sl1, e_sl2, e_sl3, e_sl4, e_count, e_f1, e_f2, e_osh, e_owh, e_one, e_tt1, e_tt2, e_ctg1, e_ctg2, e_cn0, e_cn1, e_wi0, e_wi1, e_re0, e_re1, e_ifb1, e_ifb2, e_nm0, e_nm1, e_nm2, e_fa0, e_fa1, e_sum, e_allb, e_anyb, e_sp1, e_sp2, e_sp3, e_at0, e_at1, e_at2, e_at3, e_at4, e_at5, e_ixn40, e_ixn41, e_ixn42, e_ixn43, e_cp1, e_cp2, e_cp3, e_cp4, e_cp5, forall_eq, List.getD_cons_zero, List.getD_cons_succ, List.getD_nil, List.set_cons_zero, List.set_cons_succ, List.map_cons, List.map_nil, Option.map_some, Option.map_none, Option.bind_some, Option.bind_none, Option.getD_some, Option.some.injEq, exists_eq_left', exists_eq_left, exists_eq', exists_eq, decide_eq_true_eq, List.length_map, exists_eq_right, exists_and_left, exists_and_right, Option.isSome_some, T.int.injEq, T.str.injEq, T.lst.injEq, T.tup.injEq, T.bl.injEq, List.cons.injEq, Prod.mk.injEq, Hn.tm.injEq, true_and, and_true, and_assoc, and_self, ne_eq, not_false_eq_true, not_true_eq_false, ite_true, ite_false, if_true, if_false, reduceIte, reduceCtorEq, Bool.false_eq_true, false_and, and_false, imp_self, forall_const, implies_true, List.length_cons, List.length_nil, Nat.reduceAdd, Nat.reduceEqDiff, Bool.false_bne, Bool.true_bne, Bool.not_false, Bool.not_true, List.nil_append, List.cons_append, Int.reduceToNat, Int.reducePow, Int.reduceMul, Int.reduceSub, Int.reduceAdd, Int.reduceNeg, kt_NoneType_int, kt_NoneType_bool, kt_NoneType_str, kt_NoneType_list, kt_NoneType_tuple, kt_bool_int, kt_bool_bool, kt_bool_str, kt_bool_list, kt_bool_tuple, kt_int_int, kt_int_bool, kt_int_str, kt_int_list, kt_int_tuple, kt_str_int, kt_str_bool, kt_str_str, kt_str_list, kt_str_tuple, kt_list_int, kt_list_bool, kt_list_str, kt_list_list, kt_list_tuple, kt_tuple_int, kt_tuple_bool, kt_tuple_str, kt_tuple_list, kt_tuple_tuple, kt_dict_int, kt_dict_bool, kt_dict_str, kt_dict_list, kt_dict_tuple, e_ii_non, e_ii_bl, e_ii_int, e_ii_str, e_ii_lst, e_ii_scr, e_ii_tup, e_ii_dK, e_ii_dT, e_ii_ins, dCallL, e_argL, e_fl1, e_fl2, e_fl3, e_fl4, List.all_cons, List.all_nil, dDict, dDict0, e_keys0, e_keysS, e_keysI, e_cl_non, e_cl_bl, e_cl_int, e_pl_int, e_cl_str, e_cl_lst, e_cl_scr, e_cl_tup, e_cl_dK, e_cl_dT, e_iq1, e_iq2, e_nn1, e_nn2, e_nn3, e_nn4, e_inp, e_ixd, Int.cast_ofNat_Int, Int.natCast_succ, decide_true, decide_false, Int.reduceEq, Int.reduceLT, Int.reduceLE, Int.reduceNe, Nat.reduceLT, Nat.reduceLeDiff, Bool.and_true, Bool.true_and, Bool.and_false, Bool.false_and, Bool.not_eq_true, Bool.or_true, Bool.or_false, Int.natCast_add, Int.natCast_one, Int.zero_add, Int.add_zero]; exact q
          | true =>
            cases hy : inR l y with
            | false => rw [hx, hy] at q; simp only [sSeq, sSet, sPar, sIf, sRet, sRetN, sDrop, sNext, sDead, sBrk, sCnt, sAsg, sFor, dNm, dTm, dC, dOp1, dOp2, dOpN, dMt, dMut, dCall, dLst, dTup, dNil, dCons, dVn, dVc, dSl, dSl3, dNoP, dPrt, dIf, dAndV, dOrV, dNotV, dBv, dTru, dNotT, dAndT, dOrT, dChn, dEqQ, dRpQ, qOp, qNil, qCons, qLs, qTp, dSrc, dRng1, dRng2, dZip2, dEnum, dComp, dYes, gNm, gTp, gCn, gNi, gIt, e_var, e_var1, e_var2, e_var3, e_var4, e_mov, e_mov1, e_mov2, e_mov3, e_mov4, e_tr1, e_tr2, e_tr3, e_tr4, e_tr5, e_own1, e_own2, e_reo1, e_reo2, e_of1, e_of2, e_pin1, e_pin2, e_pin3, e_arg1, e_arg2, e_arg3, e_arg4, e_isarg1, e_isarg2, e_conv1, e_conv2, e_conv3, e_conv4, e_conv5, e_conv6, e_sown1, e_sown2, e_sown3, e_sown4, e_put1, e_put2, e_po1, e_po2, e_p1, e_p2, e_ao1, e_ao2, e_nd0, e_nd1, e_nd2, e_sl, e_get1, e_get2, e_is, e_all, e_gets0, e_gets1, e_gets2, e_tms0, e_tms1, e_qg1, e_qg2, e_qg3, e_qgs0, e_qgs1, e_its1, e_its2, e_its3, e_its4, e_jts1, e_jts2, e_jts4, e_mt1, e_mt2, e_ty1, e_add1, e_add2, e_add3, e_sub, e_mul1, e_mul2, e_mul3, e_fdiv, e_mod, e_pow, e_neg, e_len1, e_len2, e_len3, e_len4, e_int1, e_int2, e_abs, e_max, e_min, e_ix1, e_ix2, e_ix3, e_ix4, e_eq1, e_eq2, e_eq3, e_lt1, e_le1, e_gt1, e_ge1, e_lt2, e_in1, e_app, e_ext, e_rev, e_clr, e_set, e_sl1, e_sl2, e_sl3, e_sl4, e_count, e_f1, e_f2, e_osh, e_owh, e_one, e_tt1, e_tt2, e_ctg1, e_ctg2, e_cn0, e_cn1, e_wi0, e_wi1, e_re0, e_re1, e_ifb1, e_ifb2, e_nm0, e_nm1, e_nm2, e_fa0, e_fa1, e_sum, e_allb, e_anyb, e_sp1, e_sp2, e_sp3, e_at0, e_at1, e_at2, e_at3, e_at4, e_at5, e_ixn40, e_ixn41, e_ixn42, e_ixn43, e_cp1, e_cp2, e_cp3, e_cp4, e_cp5, forall_eq, List.getD_cons_zero, List.getD_cons_succ, List.getD_nil, List.set_cons_zero, List.set_cons_succ, List.map_cons, List.map_nil, Option.map_some, Option.map_none, Option.bind_some, Option.bind_none, Option.getD_some, Option.some.injEq, exists_eq_left', exists_eq_left, exists_eq', exists_eq, decide_eq_true_eq, List.length_map, exists_eq_right, exists_and_left, exists_and_right, Option.isSome_some, T.int.injEq, T.str.injEq, T.lst.injEq, T.tup.injEq, T.bl.injEq, List.cons.injEq, Prod.mk.injEq, Hn.tm.injEq, true_and, and_true, and_assoc, and_self, ne_eq, not_false_eq_true, not_true_eq_false, ite_true, ite_false, if_true, if_false, reduceIte, reduceCtorEq, Bool.false_eq_true, false_and, and_false, imp_self, forall_const, implies_true, List.length_cons, List.length_nil, Nat.reduceAdd, Nat.reduceEqDiff, Bool.false_bne, Bool.true_bne, Bool.not_false, Bool.not_true, List.nil_append, List.cons_append, Int.reduceToNat, Int.reducePow, Int.reduceMul, Int.reduceSub, Int.reduceAdd, Int.reduceNeg, kt_NoneType_int, kt_NoneType_bool, kt_NoneType_str, kt_NoneType_list, kt_NoneType_tuple, kt_bool_int, kt_bool_bool, kt_bool_str, kt_bool_list, kt_bool_tuple, kt_int_int, kt_int_bool, kt_int_str, kt_int_list, kt_int_tuple, kt_str_int, kt_str_bool, kt_str_str, kt_str_list, kt_str_tuple, kt_list_int, kt_list_bool, kt_list_str, kt_list_list, kt_list_tuple, kt_tuple_int, kt_tuple_bool, kt_tuple_str, kt_tuple_list, kt_tuple_tuple, kt_dict_int, kt_dict_bool, kt_dict_str, kt_dict_list, kt_dict_tuple, e_ii_non, e_ii_bl, e_ii_int, e_ii_str, e_ii_lst, e_ii_scr, e_ii_tup, e_ii_dK, e_ii_dT, e_ii_ins, dCallL, e_argL, e_fl1, e_fl2, e_fl3, e_fl4, List.all_cons, List.all_nil, dDict, dDict0, e_keys0, e_keysS, e_keysI, e_cl_non, e_cl_bl, e_cl_int, e_pl_int, e_cl_str, e_cl_lst, e_cl_scr, e_cl_tup, e_cl_dK, e_cl_dT, e_iq1, e_iq2, e_nn1, e_nn2, e_nn3, e_nn4, e_inp, e_ixd, Int.cast_ofNat_Int, Int.natCast_succ, decide_true, decide_false, Int.reduceEq, Int.reduceLT, Int.reduceLE, Int.reduceNe, Nat.reduceLT, Nat.reduceLeDiff, Bool.and_true, Bool.true_and, Bool.and_false, Bool.false_and, Bool.not_eq_true, Bool.or_true, Bool.or_false, Int.natCast_add, Int.natCast_one, Int.zero_add, Int.add_zero]; exact q
            | true =>
              rw [hx, hy] at q
              cases x with
              | int a =>
                cases y with
                | int b =>
                  have q : Q.ok (false, .bl (swI l a b)) [.no, .no] := q
                  unfold swI at q
                  simp only [sSeq, sSet, sPar, sIf, sRet, sRetN, sDrop, sNext, sDead, sBrk, sCnt, sAsg, sFor, dNm, dTm, dC, dOp1, dOp2, dOpN, dMt, dMut, dCall, dLst, dTup, dNil, dCons, dVn, dVc, dSl, dSl3, dNoP, dPrt, dIf, dAndV, dOrV, dNotV, dBv, dTru, dNotT, dAndT, dOrT, dChn, dEqQ, dRpQ, qOp, qNil, qCons, qLs, qTp, dSrc, dRng1, dRng2, dZip2, dEnum, dComp, dYes, gNm, gTp, gCn, gNi, gIt, e_var, e_var1, e_var2, e_var3, e_var4, e_mov, e_mov1, e_mov2, e_mov3, e_mov4, e_tr1, e_tr2, e_tr3, e_tr4, e_tr5, e_own1, e_own2, e_reo1, e_reo2, e_of1, e_of2, e_pin1, e_pin2, e_pin3, e_arg1, e_arg2, e_arg3, e_arg4, e_isarg1, e_isarg2, e_conv1, e_conv2, e_conv3, e_conv4, e_conv5, e_conv6, e_sown1, e_sown2, e_sown3, e_sown4, e_put1, e_put2, e_po1, e_po2, e_p1, e_p2, e_ao1, e_ao2, e_nd0, e_nd1, e_nd2, e_sl, e_get1, e_get2, e_is, e_all, e_gets0, e_gets1, e_gets2, e_tms0, e_tms1, e_qg1, e_qg2, e_qg3, e_qgs0, e_qgs1, e_its1, e_its2, e_its3, e_its4, e_jts1, e_jts2, e_jts4, e_mt1, e_mt2, e_ty1, e_add1, e_add2, e_add3, e_sub, e_mul1, e_mul2, e_mul3, e_fdiv, e_mod, e_pow, e_neg, e_len1, e_len2, e_len3, e_len4, e_int1, e_int2, e_abs, e_max, e_min, e_ix1, e_ix2, e_ix3, e_ix4, e_eq1, e_eq2, e_eq3, e_lt1, e_le1, e_gt1, e_ge1, e_lt2, e_in1, e_app, e_ext, e_rev, e_clr, e_set, e_sl1, e_sl2, e_sl3, e_sl4, e_count, e_f1, e_f2, e_osh, e_owh, e_one, e_tt1, e_tt2, e_ctg1, e_ctg2, e_cn0, e_cn1, e_wi0, e_wi1, e_re0, e_re1, e_ifb1, e_ifb2, e_nm0, e_nm1, e_nm2, e_fa0, e_fa1, e_sum, e_allb, e_anyb, e_sp1, e_sp2, e_sp3, e_at0, e_at1, e_at2, e_at3, e_at4, e_at5, e_ixn40, e_ixn41, e_ixn42, e_ixn43, e_cp1, e_cp2, e_cp3, e_cp4, e_cp5, forall_eq, List.getD_cons_zero, List.getD_cons_succ, List.getD_nil, List.set_cons_zero, List.set_cons_succ, List.map_cons, List.map_nil, Option.map_some, Option.map_none, Option.bind_some, Option.bind_none, Option.getD_some, Option.some.injEq, exists_eq_left', exists_eq_left, exists_eq', exists_eq, decide_eq_true_eq, List.length_map, exists_eq_right, exists_and_left, exists_and_right, Option.isSome_some, T.int.injEq, T.str.injEq, T.lst.injEq, T.tup.injEq, T.bl.injEq, List.cons.injEq, Prod.mk.injEq, Hn.tm.injEq, true_and, and_true, and_assoc, and_self, ne_eq, not_false_eq_true, not_true_eq_false, ite_true, ite_false, if_true, if_false, reduceIte, reduceCtorEq, Bool.false_eq_true, false_and, and_false, imp_self, forall_const, implies_true, List.length_cons, List.length_nil, Nat.reduceAdd, Nat.reduceEqDiff, Bool.false_bne, Bool.true_bne, Bool.not_false, Bool.not_true, List.nil_append, List.cons_append, Int.reduceToNat, Int.reducePow, Int.reduceMul, Int.reduceSub, Int.reduceAdd, Int.reduceNeg, kt_NoneType_int, kt_NoneType_bool, kt_NoneType_str, kt_NoneType_list, kt_NoneType_tuple, kt_bool_int, kt_bool_bool, kt_bool_str, kt_bool_list, kt_bool_tuple, kt_int_int, kt_int_bool, kt_int_str, kt_int_list, kt_int_tuple, kt_str_int, kt_str_bool, kt_str_str, kt_str_list, kt_str_tuple, kt_list_int, kt_list_bool, kt_list_str, kt_list_list, kt_list_tuple, kt_tuple_int, kt_tuple_bool, kt_tuple_str, kt_tuple_list, kt_tuple_tuple, kt_dict_int, kt_dict_bool, kt_dict_str, kt_dict_list, kt_dict_tuple, e_ii_non, e_ii_bl, e_ii_int, e_ii_str, e_ii_lst, e_ii_scr, e_ii_tup, e_ii_dK, e_ii_dT, e_ii_ins, dCallL, e_argL, e_fl1, e_fl2, e_fl3, e_fl4, List.all_cons, List.all_nil, dDict, dDict0, e_keys0, e_keysS, e_keysI, e_cl_non, e_cl_bl, e_cl_int, e_pl_int, e_cl_str, e_cl_lst, e_cl_scr, e_cl_tup, e_cl_dK, e_cl_dT, e_iq1, e_iq2, e_nn1, e_nn2, e_nn3, e_nn4, e_inp, e_ixd, Int.cast_ofNat_Int, Int.natCast_succ, decide_true, decide_false, Int.reduceEq, Int.reduceLT, Int.reduceLE, Int.reduceNe, Nat.reduceLT, Nat.reduceLeDiff, Bool.and_true, Bool.true_and, Bool.and_false, Bool.false_and, Bool.not_eq_true, Bool.or_true, Bool.or_false, Int.natCast_add, Int.natCast_one, Int.zero_add, Int.add_zero]
                  refine ⟨by omega, ?_⟩
                  by_cases c1 : cutL l (some a) (some (a + 2)) = [97, 98]
                  · by_cases c2 : cutL l (some b) (some (b + 2)) = [98, 97]
                    · rw [decide_eq_true c1, decide_eq_true c2] at q
                      simp only [sSeq, sSet, sPar, sIf, sRet, sRetN, sDrop, sNext, sDead, sBrk, sCnt, sAsg, sFor, dNm, dTm, dC, dOp1, dOp2, dOpN, dMt, dMut, dCall, dLst, dTup, dNil, dCons, dVn, dVc, dSl, dSl3, dNoP, dPrt, dIf, dAndV, dOrV, dNotV, dBv, dTru, dNotT, dAndT, dOrT, dChn, dEqQ, dRpQ, qOp, qNil, qCons, qLs, qTp, dSrc, dRng1, dRng2, dZip2, dEnum, dComp, dYes, gNm, gTp, gCn, gNi, gIt, e_var, e_var1, e_var2, e_var3, e_var4, e_mov, e_mov1, e_mov2, e_mov3, e_mov4, e_tr1, e_tr2, e_tr3, e_tr4, e_tr5, e_own1, e_own2, e_reo1, e_reo2, e_of1, e_of2, e_pin1, e_pin2, e_pin3, e_arg1, e_arg2, e_arg3, e_arg4, e_isarg1, e_isarg2, e_conv1, e_conv2, e_conv3, e_conv4, e_conv5, e_conv6, e_sown1, e_sown2, e_sown3, e_sown4, e_put1, e_put2, e_po1, e_po2, e_p1, e_p2, e_ao1, e_ao2, e_nd0, e_nd1, e_nd2, e_sl, e_get1, e_get2, e_is, e_all, e_gets0, e_gets1, e_gets2, e_tms0, e_tms1, e_qg1, e_qg2, e_qg3, e_qgs0, e_qgs1, e_its1, e_its2, e_its3, e_its4, e_jts1, e_jts2, e_jts4, e_mt1, e_mt2, e_ty1, e_add1, e_add2, e_add3, e_sub, e_mul1, e_mul2, e_mul3, e_fdiv, e_mod, e_pow, e_neg, e_len1, e_len2, e_len3, e_len4, e_int1, e_int2, e_abs, e_max, e_min, e_ix1, e_ix2, e_ix3, e_ix4, e_eq1, e_eq2, e_eq3, e_lt1, e_le1, e_gt1, e_ge1, e_lt2, e_in1, e_app, e_ext, e_rev, e_clr, e_set, e_sl1, e_sl2, e_sl3, e_sl4, e_count, e_f1, e_f2, e_osh, e_owh, e_one, e_tt1, e_tt2, e_ctg1, e_ctg2, e_cn0, e_cn1, e_wi0, e_wi1, e_re0, e_re1, e_ifb1, e_ifb2, e_nm0, e_nm1, e_nm2, e_fa0, e_fa1, e_sum, e_allb, e_anyb, e_sp1, e_sp2, e_sp3, e_at0, e_at1, e_at2, e_at3, e_at4, e_at5, e_ixn40, e_ixn41, e_ixn42, e_ixn43, e_cp1, e_cp2, e_cp3, e_cp4, e_cp5, forall_eq, List.getD_cons_zero, List.getD_cons_succ, List.getD_nil, List.set_cons_zero, List.set_cons_succ, List.map_cons, List.map_nil, Option.map_some, Option.map_none, Option.bind_some, Option.bind_none, Option.getD_some, Option.some.injEq, exists_eq_left', exists_eq_left, exists_eq', exists_eq, decide_eq_true_eq, List.length_map, exists_eq_right, exists_and_left, exists_and_right, Option.isSome_some, T.int.injEq, T.str.injEq, T.lst.injEq, T.tup.injEq, T.bl.injEq, List.cons.injEq, Prod.mk.injEq, Hn.tm.injEq, true_and, and_true, and_assoc, and_self, ne_eq, not_false_eq_true, not_true_eq_false, ite_true, ite_false, if_true, if_false, reduceIte, reduceCtorEq, Bool.false_eq_true, false_and, and_false, imp_self, forall_const, implies_true, List.length_cons, List.length_nil, Nat.reduceAdd, Nat.reduceEqDiff, Bool.false_bne, Bool.true_bne, Bool.not_false, Bool.not_true, List.nil_append, List.cons_append, Int.reduceToNat, Int.reducePow, Int.reduceMul, Int.reduceSub, Int.reduceAdd, Int.reduceNeg, kt_NoneType_int, kt_NoneType_bool, kt_NoneType_str, kt_NoneType_list, kt_NoneType_tuple, kt_bool_int, kt_bool_bool, kt_bool_str, kt_bool_list, kt_bool_tuple, kt_int_int, kt_int_bool, kt_int_str, kt_int_list, kt_int_tuple, kt_str_int, kt_str_bool, kt_str_str, kt_str_list, kt_str_tuple, kt_list_int, kt_list_bool, kt_list_str, kt_list_list, kt_list_tuple, kt_tuple_int, kt_tuple_bool, kt_tuple_str, kt_tuple_list, kt_tuple_tuple, kt_dict_int, kt_dict_bool, kt_dict_str, kt_dict_list, kt_dict_tuple, e_ii_non, e_ii_bl, e_ii_int, e_ii_str, e_ii_lst, e_ii_scr, e_ii_tup, e_ii_dK, e_ii_dT, e_ii_ins, dCallL, e_argL, e_fl1, e_fl2, e_fl3, e_fl4, List.all_cons, List.all_nil, dDict, dDict0, e_keys0, e_keysS, e_keysI, e_cl_non, e_cl_bl, e_cl_int, e_pl_int, e_cl_str, e_cl_lst, e_cl_scr, e_cl_tup, e_cl_dK, e_cl_dT, e_iq1, e_iq2, e_nn1, e_nn2, e_nn3, e_nn4, e_inp, e_ixd, Int.cast_ofNat_Int, Int.natCast_succ, decide_true, decide_false, Int.reduceEq, Int.reduceLT, Int.reduceLE, Int.reduceNe, Nat.reduceLT, Nat.reduceLeDiff, Bool.and_true, Bool.true_and, Bool.and_false, Bool.false_and, Bool.not_eq_true, Bool.or_true, Bool.or_false, Int.natCast_add, Int.natCast_one, Int.zero_add, Int.add_zero, c1, c2]
                      exact ⟨by omega, q⟩
                    · rw [decide_eq_true c1, decide_eq_false c2] at q
                      simp only [sSeq, sSet, sPar, sIf, sRet, sRetN, sDrop, sNext, sDead, sBrk, sCnt, sAsg, sFor, dNm, dTm, dC, dOp1, dOp2, dOpN, dMt, dMut, dCall, dLst, dTup, dNil, dCons, dVn, dVc, dSl, dSl3, dNoP, dPrt, dIf, dAndV, dOrV, dNotV, dBv, dTru, dNotT, dAndT, dOrT, dChn, dEqQ, dRpQ, qOp, qNil, qCons, qLs, qTp, dSrc, dRng1, dRng2, dZip2, dEnum, dComp, dYes, gNm, gTp, gCn, gNi, gIt, e_var, e_var1, e_var2, e_var3, e_var4, e_mov, e_mov1, e_mov2, e_mov3, e_mov4, e_tr1, e_tr2, e_tr3, e_tr4, e_tr5, e_own1, e_own2, e_reo1, e_reo2, e_of1, e_of2, e_pin1, e_pin2, e_pin3, e_arg1, e_arg2, e_arg3, e_arg4, e_isarg1, e_isarg2, e_conv1, e_conv2, e_conv3, e_conv4, e_conv5, e_conv6, e_sown1, e_sown2, e_sown3, e_sown4, e_put1, e_put2, e_po1, e_po2, e_p1, e_p2, e_ao1, e_ao2, e_nd0, e_nd1, e_nd2, e_sl, e_get1, e_get2, e_is, e_all, e_gets0, e_gets1, e_gets2, e_tms0, e_tms1, e_qg1, e_qg2, e_qg3, e_qgs0, e_qgs1, e_its1, e_its2, e_its3, e_its4, e_jts1, e_jts2, e_jts4, e_mt1, e_mt2, e_ty1, e_add1, e_add2, e_add3, e_sub, e_mul1, e_mul2, e_mul3, e_fdiv, e_mod, e_pow, e_neg, e_len1, e_len2, e_len3, e_len4, e_int1, e_int2, e_abs, e_max, e_min, e_ix1, e_ix2, e_ix3, e_ix4, e_eq1, e_eq2, e_eq3, e_lt1, e_le1, e_gt1, e_ge1, e_lt2, e_in1, e_app, e_ext, e_rev, e_clr, e_set, e_sl1, e_sl2, e_sl3, e_sl4, e_count, e_f1, e_f2, e_osh, e_owh, e_one, e_tt1, e_tt2, e_ctg1, e_ctg2, e_cn0, e_cn1, e_wi0, e_wi1, e_re0, e_re1, e_ifb1, e_ifb2, e_nm0, e_nm1, e_nm2, e_fa0, e_fa1, e_sum, e_allb, e_anyb, e_sp1, e_sp2, e_sp3, e_at0, e_at1, e_at2, e_at3, e_at4, e_at5, e_ixn40, e_ixn41, e_ixn42, e_ixn43, e_cp1, e_cp2, e_cp3, e_cp4, e_cp5, forall_eq, List.getD_cons_zero, List.getD_cons_succ, List.getD_nil, List.set_cons_zero, List.set_cons_succ, List.map_cons, List.map_nil, Option.map_some, Option.map_none, Option.bind_some, Option.bind_none, Option.getD_some, Option.some.injEq, exists_eq_left', exists_eq_left, exists_eq', exists_eq, decide_eq_true_eq, List.length_map, exists_eq_right, exists_and_left, exists_and_right, Option.isSome_some, T.int.injEq, T.str.injEq, T.lst.injEq, T.tup.injEq, T.bl.injEq, List.cons.injEq, Prod.mk.injEq, Hn.tm.injEq, true_and, and_true, and_assoc, and_self, ne_eq, not_false_eq_true, not_true_eq_false, ite_true, ite_false, if_true, if_false, reduceIte, reduceCtorEq, Bool.false_eq_true, false_and, and_false, imp_self, forall_const, implies_true, List.length_cons, List.length_nil, Nat.reduceAdd, Nat.reduceEqDiff, Bool.false_bne, Bool.true_bne, Bool.not_false, Bool.not_true, List.nil_append, List.cons_append, Int.reduceToNat, Int.reducePow, Int.reduceMul, Int.reduceSub, Int.reduceAdd, Int.reduceNeg, kt_NoneType_int, kt_NoneType_bool, kt_NoneType_str, kt_NoneType_list, kt_NoneType_tuple, kt_bool_int, kt_bool_bool, kt_bool_str, kt_bool_list, kt_bool_tuple, kt_int_int, kt_int_bool, kt_int_str, kt_int_list, kt_int_tuple, kt_str_int, kt_str_bool, kt_str_str, kt_str_list, kt_str_tuple, kt_list_int, kt_list_bool, kt_list_str, kt_list_list, kt_list_tuple, kt_tuple_int, kt_tuple_bool, kt_tuple_str, kt_tuple_list, kt_tuple_tuple, kt_dict_int, kt_dict_bool, kt_dict_str, kt_dict_list, kt_dict_tuple, e_ii_non, e_ii_bl, e_ii_int, e_ii_str, e_ii_lst, e_ii_scr, e_ii_tup, e_ii_dK, e_ii_dT, e_ii_ins, dCallL, e_argL, e_fl1, e_fl2, e_fl3, e_fl4, List.all_cons, List.all_nil, dDict, dDict0, e_keys0, e_keysS, e_keysI, e_cl_non, e_cl_bl, e_cl_int, e_pl_int, e_cl_str, e_cl_lst, e_cl_scr, e_cl_tup, e_cl_dK, e_cl_dT, e_iq1, e_iq2, e_nn1, e_nn2, e_nn3, e_nn4, e_inp, e_ixd, Int.cast_ofNat_Int, Int.natCast_succ, decide_true, decide_false, Int.reduceEq, Int.reduceLT, Int.reduceLE, Int.reduceNe, Nat.reduceLT, Nat.reduceLeDiff, Bool.and_true, Bool.true_and, Bool.and_false, Bool.false_and, Bool.not_eq_true, Bool.or_true, Bool.or_false, Int.natCast_add, Int.natCast_one, Int.zero_add, Int.add_zero, c1, c2, decide_false]
                      exact ⟨by omega, q⟩
                  · rw [decide_eq_false c1] at q
                    simp only [sSeq, sSet, sPar, sIf, sRet, sRetN, sDrop, sNext, sDead, sBrk, sCnt, sAsg, sFor, dNm, dTm, dC, dOp1, dOp2, dOpN, dMt, dMut, dCall, dLst, dTup, dNil, dCons, dVn, dVc, dSl, dSl3, dNoP, dPrt, dIf, dAndV, dOrV, dNotV, dBv, dTru, dNotT, dAndT, dOrT, dChn, dEqQ, dRpQ, qOp, qNil, qCons, qLs, qTp, dSrc, dRng1, dRng2, dZip2, dEnum, dComp, dYes, gNm, gTp, gCn, gNi, gIt, e_var, e_var1, e_var2, e_var3, e_var4, e_mov, e_mov1, e_mov2, e_mov3, e_mov4, e_tr1, e_tr2, e_tr3, e_tr4, e_tr5, e_own1, e_own2, e_reo1, e_reo2, e_of1, e_of2, e_pin1, e_pin2, e_pin3, e_arg1, e_arg2, e_arg3, e_arg4, e_isarg1, e_isarg2, e_conv1, e_conv2, e_conv3, e_conv4, e_conv5, e_conv6, e_sown1, e_sown2, e_sown3, e_sown4, e_put1, e_put2, e_po1, e_po2, e_p1, e_p2, e_ao1, e_ao2, e_nd0, e_nd1, e_nd2, e_sl, e_get1, e_get2, e_is, e_all, e_gets0, e_gets1, e_gets2, e_tms0, e_tms1, e_qg1, e_qg2, e_qg3, e_qgs0, e_qgs1, e_its1, e_its2, e_its3, e_its4, e_jts1, e_jts2, e_jts4, e_mt1, e_mt2, e_ty1, e_add1, e_add2, e_add3, e_sub, e_mul1, e_mul2, e_mul3, e_fdiv, e_mod, e_pow, e_neg, e_len1, e_len2, e_len3, e_len4, e_int1, e_int2, e_abs, e_max, e_min, e_ix1, e_ix2, e_ix3, e_ix4, e_eq1, e_eq2, e_eq3, e_lt1, e_le1, e_gt1, e_ge1, e_lt2, e_in1, e_app, e_ext, e_rev, e_clr, e_set, e_sl1, e_sl2, e_sl3, e_sl4, e_count, e_f1, e_f2, e_osh, e_owh, e_one, e_tt1, e_tt2, e_ctg1, e_ctg2, e_cn0, e_cn1, e_wi0, e_wi1, e_re0, e_re1, e_ifb1, e_ifb2, e_nm0, e_nm1, e_nm2, e_fa0, e_fa1, e_sum, e_allb, e_anyb, e_sp1, e_sp2, e_sp3, e_at0, e_at1, e_at2, e_at3, e_at4, e_at5, e_ixn40, e_ixn41, e_ixn42, e_ixn43, e_cp1, e_cp2, e_cp3, e_cp4, e_cp5, forall_eq, List.getD_cons_zero, List.getD_cons_succ, List.getD_nil, List.set_cons_zero, List.set_cons_succ, List.map_cons, List.map_nil, Option.map_some, Option.map_none, Option.bind_some, Option.bind_none, Option.getD_some, Option.some.injEq, exists_eq_left', exists_eq_left, exists_eq', exists_eq, decide_eq_true_eq, List.length_map, exists_eq_right, exists_and_left, exists_and_right, Option.isSome_some, T.int.injEq, T.str.injEq, T.lst.injEq, T.tup.injEq, T.bl.injEq, List.cons.injEq, Prod.mk.injEq, Hn.tm.injEq, true_and, and_true, and_assoc, and_self, ne_eq, not_false_eq_true, not_true_eq_false, ite_true, ite_false, if_true, if_false, reduceIte, reduceCtorEq, Bool.false_eq_true, false_and, and_false, imp_self, forall_const, implies_true, List.length_cons, List.length_nil, Nat.reduceAdd, Nat.reduceEqDiff, Bool.false_bne, Bool.true_bne, Bool.not_false, Bool.not_true, List.nil_append, List.cons_append, Int.reduceToNat, Int.reducePow, Int.reduceMul, Int.reduceSub, Int.reduceAdd, Int.reduceNeg, kt_NoneType_int, kt_NoneType_bool, kt_NoneType_str, kt_NoneType_list, kt_NoneType_tuple, kt_bool_int, kt_bool_bool, kt_bool_str, kt_bool_list, kt_bool_tuple, kt_int_int, kt_int_bool, kt_int_str, kt_int_list, kt_int_tuple, kt_str_int, kt_str_bool, kt_str_str, kt_str_list, kt_str_tuple, kt_list_int, kt_list_bool, kt_list_str, kt_list_list, kt_list_tuple, kt_tuple_int, kt_tuple_bool, kt_tuple_str, kt_tuple_list, kt_tuple_tuple, kt_dict_int, kt_dict_bool, kt_dict_str, kt_dict_list, kt_dict_tuple, e_ii_non, e_ii_bl, e_ii_int, e_ii_str, e_ii_lst, e_ii_scr, e_ii_tup, e_ii_dK, e_ii_dT, e_ii_ins, dCallL, e_argL, e_fl1, e_fl2, e_fl3, e_fl4, List.all_cons, List.all_nil, dDict, dDict0, e_keys0, e_keysS, e_keysI, e_cl_non, e_cl_bl, e_cl_int, e_pl_int, e_cl_str, e_cl_lst, e_cl_scr, e_cl_tup, e_cl_dK, e_cl_dT, e_iq1, e_iq2, e_nn1, e_nn2, e_nn3, e_nn4, e_inp, e_ixd, Int.cast_ofNat_Int, Int.natCast_succ, decide_true, decide_false, Int.reduceEq, Int.reduceLT, Int.reduceLE, Int.reduceNe, Nat.reduceLT, Nat.reduceLeDiff, Bool.and_true, Bool.true_and, Bool.and_false, Bool.false_and, Bool.not_eq_true, Bool.or_true, Bool.or_false, Int.natCast_add, Int.natCast_one, Int.zero_add, Int.add_zero, c1, decide_false]
                    exact q
                | _ => cases hy
              | _ => cases hx
      · have i2 : (((ts.length : Nat) : Int) = 2) = False := by simp; omega
        have bad : swT l (.tup ts) = false := by
          match ts, h2 with
          | [], _ => rfl
          | [_], _ => rfl
          | [_, _], h => exact (h rfl).elim
          | _ :: _ :: _ :: _, _ => rfl
        simp only [sSeq, sSet, sPar, sIf, sRet, sRetN, sDrop, sNext, sDead, sBrk, sCnt, sAsg, sFor, dNm, dTm, dC, dOp1, dOp2, dOpN, dMt, dMut, dCall, dLst, dTup, dNil, dCons, dVn, dVc, dSl, dSl3, dNoP, dPrt, dIf, dAndV, dOrV, dNotV, dBv, dTru, dNotT, dAndT, dOrT, dChn, dEqQ, dRpQ, qOp, qNil, qCons, qLs, qTp, dSrc, dRng1, dRng2, dZip2, dEnum, dComp, dYes, gNm, gTp, gCn, gNi, gIt, e_var, e_var1, e_var2, e_var3, e_var4, e_mov, e_mov1, e_mov2, e_mov3, e_mov4, e_tr1, e_tr2, e_tr3, e_tr4, e_tr5, e_own1, e_own2, e_reo1, e_reo2, e_of1, e_of2, e_pin1, e_pin2, e_pin3, e_arg1, e_arg2, e_arg3, e_arg4, e_isarg1, e_isarg2, e_conv1, e_conv2, e_conv3, e_conv4, e_conv5, e_conv6, e_sown1, e_sown2, e_sown3, e_sown4, e_put1, e_put2, e_po1, e_po2, e_p1, e_p2, e_ao1, e_ao2, e_nd0, e_nd1, e_nd2, e_sl, e_get1, e_get2, e_is, e_all, e_gets0, e_gets1, e_gets2, e_tms0, e_tms1, e_qg1, e_qg2, e_qg3, e_qgs0, e_qgs1, e_its1, e_its2, e_its3, e_its4, e_jts1, e_jts2, e_jts4, e_mt1, e_mt2, e_ty1, e_add1, e_add2, e_add3, e_sub, e_mul1, e_mul2, e_mul3, e_fdiv, e_mod, e_pow, e_neg, e_len1, e_len2, e_len3, e_len4, e_int1, e_int2, e_abs, e_max, e_min, e_ix1, e_ix2, e_ix3, e_ix4, e_eq1, e_eq2, e_eq3, e_lt1, e_le1, e_gt1, e_ge1, e_lt2, e_in1, e_app, e_ext, e_rev, e_clr, e_set, e_sl1, e_sl2, e_sl3, e_sl4, e_count, e_f1, e_f2, e_osh, e_owh, e_one, e_tt1, e_tt2, e_ctg1, e_ctg2, e_cn0, e_cn1, e_wi0, e_wi1, e_re0, e_re1, e_ifb1, e_ifb2, e_nm0, e_nm1, e_nm2, e_fa0, e_fa1, e_sum, e_allb, e_anyb, e_sp1, e_sp2, e_sp3, e_at0, e_at1, e_at2, e_at3, e_at4, e_at5, e_ixn40, e_ixn41, e_ixn42, e_ixn43, e_cp1, e_cp2, e_cp3, e_cp4, e_cp5, forall_eq, List.getD_cons_zero, List.getD_cons_succ, List.getD_nil, List.set_cons_zero, List.set_cons_succ, List.map_cons, List.map_nil, Option.map_some, Option.map_none, Option.bind_some, Option.bind_none, Option.getD_some, Option.some.injEq, exists_eq_left', exists_eq_left, exists_eq', exists_eq, decide_eq_true_eq, List.length_map, exists_eq_right, exists_and_left, exists_and_right, Option.isSome_some, T.int.injEq, T.str.injEq, T.lst.injEq, T.tup.injEq, T.bl.injEq, List.cons.injEq, Prod.mk.injEq, Hn.tm.injEq, true_and, and_true, and_assoc, and_self, ne_eq, not_false_eq_true, not_true_eq_false, ite_true, ite_false, if_true, if_false, reduceIte, reduceCtorEq, Bool.false_eq_true, false_and, and_false, imp_self, forall_const, implies_true, List.length_cons, List.length_nil, Nat.reduceAdd, Nat.reduceEqDiff, Bool.false_bne, Bool.true_bne, Bool.not_false, Bool.not_true, List.nil_append, List.cons_append, Int.reduceToNat, Int.reducePow, Int.reduceMul, Int.reduceSub, Int.reduceAdd, Int.reduceNeg, kt_NoneType_int, kt_NoneType_bool, kt_NoneType_str, kt_NoneType_list, kt_NoneType_tuple, kt_bool_int, kt_bool_bool, kt_bool_str, kt_bool_list, kt_bool_tuple, kt_int_int, kt_int_bool, kt_int_str, kt_int_list, kt_int_tuple, kt_str_int, kt_str_bool, kt_str_str, kt_str_list, kt_str_tuple, kt_list_int, kt_list_bool, kt_list_str, kt_list_list, kt_list_tuple, kt_tuple_int, kt_tuple_bool, kt_tuple_str, kt_tuple_list, kt_tuple_tuple, kt_dict_int, kt_dict_bool, kt_dict_str, kt_dict_list, kt_dict_tuple, e_ii_non, e_ii_bl, e_ii_int, e_ii_str, e_ii_lst, e_ii_scr, e_ii_tup, e_ii_dK, e_ii_dT, e_ii_ins, dCallL, e_argL, e_fl1, e_fl2, e_fl3, e_fl4, List.all_cons, List.all_nil, dDict, dDict0, e_keys0, e_keysS, e_keysI, e_cl_non, e_cl_bl, e_cl_int, e_pl_int, e_cl_str, e_cl_lst, e_cl_scr, e_cl_tup, e_cl_dK, e_cl_dT, e_iq1, e_iq2, e_nn1, e_nn2, e_nn3, e_nn4, e_inp, e_ixd, Int.cast_ofNat_Int, Int.natCast_succ, decide_true, decide_false, Int.reduceEq, Int.reduceLT, Int.reduceLE, Int.reduceNe, Nat.reduceLT, Nat.reduceLeDiff, Bool.and_true, Bool.true_and, Bool.and_false, Bool.false_and, Bool.not_eq_true, Bool.or_true, Bool.or_false, Int.natCast_add, Int.natCast_one, Int.zero_add, Int.add_zero, D_is_swap_of, i2]
        rw [bad] at q
        exact q
    | non => simp only [sSeq, sSet, sPar, sIf, sRet, sRetN, sDrop, sNext, sDead, sBrk, sCnt, sAsg, sFor, dNm, dTm, dC, dOp1, dOp2, dOpN, dMt, dMut, dCall, dLst, dTup, dNil, dCons, dVn, dVc, dSl, dSl3, dNoP, dPrt, dIf, dAndV, dOrV, dNotV, dBv, dTru, dNotT, dAndT, dOrT, dChn, dEqQ, dRpQ, qOp, qNil, qCons, qLs, qTp, dSrc, dRng1, dRng2, dZip2, dEnum, dComp, dYes, gNm, gTp, gCn, gNi, gIt, e_var, e_var1, e_var2, e_var3, e_var4, e_mov, e_mov1, e_mov2, e_mov3, e_mov4, e_tr1, e_tr2, e_tr3, e_tr4, e_tr5, e_own1, e_own2, e_reo1, e_reo2, e_of1, e_of2, e_pin1, e_pin2, e_pin3, e_arg1, e_arg2, e_arg3, e_arg4, e_isarg1, e_isarg2, e_conv1, e_conv2, e_conv3, e_conv4, e_conv5, e_conv6, e_sown1, e_sown2, e_sown3, e_sown4, e_put1, e_put2, e_po1, e_po2, e_p1, e_p2, e_ao1, e_ao2, e_nd0, e_nd1, e_nd2, e_sl, e_get1, e_get2, e_is, e_all, e_gets0, e_gets1, e_gets2, e_tms0, e_tms1, e_qg1, e_qg2, e_qg3, e_qgs0, e_qgs1, e_its1, e_its2, e_its3, e_its4, e_jts1, e_jts2, e_jts4, e_mt1, e_mt2, e_ty1, e_add1, e_add2, e_add3, e_sub, e_mul1, e_mul2, e_mul3, e_fdiv, e_mod, e_pow, e_neg, e_len1, e_len2, e_len3, e_len4, e_int1, e_int2, e_abs, e_max, e_min, e_ix1, e_ix2, e_ix3, e_ix4, e_eq1, e_eq2, e_eq3, e_lt1, e_le1, e_gt1, e_ge1, e_lt2, e_in1, e_app, e_ext, e_rev, e_clr, e_set, e_sl1, e_sl2, e_sl3, e_sl4, e_count, e_f1, e_f2, e_osh, e_owh, e_one, e_tt1, e_tt2, e_ctg1, e_ctg2, e_cn0, e_cn1, e_wi0, e_wi1, e_re0, e_re1, e_ifb1, e_ifb2, e_nm0, e_nm1, e_nm2, e_fa0, e_fa1, e_sum, e_allb, e_anyb, e_sp1, e_sp2, e_sp3, e_at0, e_at1, e_at2, e_at3, e_at4, e_at5, e_ixn40, e_ixn41, e_ixn42, e_ixn43, e_cp1, e_cp2, e_cp3, e_cp4, e_cp5, forall_eq, List.getD_cons_zero, List.getD_cons_succ, List.getD_nil, List.set_cons_zero, List.set_cons_succ, List.map_cons, List.map_nil, Option.map_some, Option.map_none, Option.bind_some, Option.bind_none, Option.getD_some, Option.some.injEq, exists_eq_left', exists_eq_left, exists_eq', exists_eq, decide_eq_true_eq, List.length_map, exists_eq_right, exists_and_left, exists_and_right, Option.isSome_some, T.int.injEq, T.str.injEq, T.lst.injEq, T.tup.injEq, T.bl.injEq, List.cons.injEq, Prod.mk.injEq, Hn.tm.injEq, true_and, and_true, and_assoc, and_self, ne_eq, not_false_eq_true, not_true_eq_false, ite_true, ite_false, if_true, if_false, reduceIte, reduceCtorEq, Bool.false_eq_true, false_and, and_false, imp_self, forall_const, implies_true, List.length_cons, List.length_nil, Nat.reduceAdd, Nat.reduceEqDiff, Bool.false_bne, Bool.true_bne, Bool.not_false, Bool.not_true, List.nil_append, List.cons_append, Int.reduceToNat, Int.reducePow, Int.reduceMul, Int.reduceSub, Int.reduceAdd, Int.reduceNeg, kt_NoneType_int, kt_NoneType_bool, kt_NoneType_str, kt_NoneType_list, kt_NoneType_tuple, kt_bool_int, kt_bool_bool, kt_bool_str, kt_bool_list, kt_bool_tuple, kt_int_int, kt_int_bool, kt_int_str, kt_int_list, kt_int_tuple, kt_str_int, kt_str_bool, kt_str_str, kt_str_list, kt_str_tuple, kt_list_int, kt_list_bool, kt_list_str, kt_list_list, kt_list_tuple, kt_tuple_int, kt_tuple_bool, kt_tuple_str, kt_tuple_list, kt_tuple_tuple, kt_dict_int, kt_dict_bool, kt_dict_str, kt_dict_list, kt_dict_tuple, e_ii_non, e_ii_bl, e_ii_int, e_ii_str, e_ii_lst, e_ii_scr, e_ii_tup, e_ii_dK, e_ii_dT, e_ii_ins, dCallL, e_argL, e_fl1, e_fl2, e_fl3, e_fl4, List.all_cons, List.all_nil, dDict, dDict0, e_keys0, e_keysS, e_keysI, e_cl_non, e_cl_bl, e_cl_int, e_pl_int, e_cl_str, e_cl_lst, e_cl_scr, e_cl_tup, e_cl_dK, e_cl_dT, e_iq1, e_iq2, e_nn1, e_nn2, e_nn3, e_nn4, e_inp, e_ixd, Int.cast_ofNat_Int, Int.natCast_succ, decide_true, decide_false, Int.reduceEq, Int.reduceLT, Int.reduceLE, Int.reduceNe, Nat.reduceLT, Nat.reduceLeDiff, Bool.and_true, Bool.true_and, Bool.and_false, Bool.false_and, Bool.not_eq_true, Bool.or_true, Bool.or_false, Int.natCast_add, Int.natCast_one, Int.zero_add, Int.add_zero, D_is_swap_of]; exact q
    | bl b => simp only [sSeq, sSet, sPar, sIf, sRet, sRetN, sDrop, sNext, sDead, sBrk, sCnt, sAsg, sFor, dNm, dTm, dC, dOp1, dOp2, dOpN, dMt, dMut, dCall, dLst, dTup, dNil, dCons, dVn, dVc, dSl, dSl3, dNoP, dPrt, dIf, dAndV, dOrV, dNotV, dBv, dTru, dNotT, dAndT, dOrT, dChn, dEqQ, dRpQ, qOp, qNil, qCons, qLs, qTp, dSrc, dRng1, dRng2, dZip2, dEnum, dComp, dYes, gNm, gTp, gCn, gNi, gIt, e_var, e_var1, e_var2, e_var3, e_var4, e_mov, e_mov1, e_mov2, e_mov3, e_mov4, e_tr1, e_tr2, e_tr3, e_tr4, e_tr5, e_own1, e_own2, e_reo1, e_reo2, e_of1, e_of2, e_pin1, e_pin2, e_pin3, e_arg1, e_arg2, e_arg3, e_arg4, e_isarg1, e_isarg2, e_conv1, e_conv2, e_conv3, e_conv4, e_conv5, e_conv6, e_sown1, e_sown2, e_sown3, e_sown4, e_put1, e_put2, e_po1, e_po2, e_p1, e_p2, e_ao1, e_ao2, e_nd0, e_nd1, e_nd2, e_sl, e_get1, e_get2, e_is, e_all, e_gets0, e_gets1, e_gets2, e_tms0, e_tms1, e_qg1, e_qg2, e_qg3, e_qgs0, e_qgs1, e_its1, e_its2, e_its3, e_its4, e_jts1, e_jts2, e_jts4, e_mt1, e_mt2, e_ty1, e_add1, e_add2, e_add3, e_sub, e_mul1, e_mul2, e_mul3, e_fdiv, e_mod, e_pow, e_neg, e_len1, e_len2, e_len3, e_len4, e_int1, e_int2, e_abs, e_max, e_min, e_ix1, e_ix2, e_ix3, e_ix4, e_eq1, e_eq2, e_eq3, e_lt1, e_le1, e_gt1, e_ge1, e_lt2, e_in1, e_app, e_ext, e_rev, e_clr, e_set, e_sl1, e_sl2, e_sl3, e_sl4, e_count, e_f1, e_f2, e_osh, e_owh, e_one, e_tt1, e_tt2, e_ctg1, e_ctg2, e_cn0, e_cn1, e_wi0, e_wi1, e_re0, e_re1, e_ifb1, e_ifb2, e_nm0, e_nm1, e_nm2, e_fa0, e_fa1, e_sum, e_allb, e_anyb, e_sp1, e_sp2, e_sp3, e_at0, e_at1, e_at2, e_at3, e_at4, e_at5, e_ixn40, e_ixn41, e_ixn42, e_ixn43, e_cp1, e_cp2, e_cp3, e_cp4, e_cp5, forall_eq, List.getD_cons_zero, List.getD_cons_succ, List.getD_nil, List.set_cons_zero, List.set_cons_succ, List.map_cons, List.map_nil, Option.map_some, Option.map_none, Option.bind_some, Option.bind_none, Option.getD_some, Option.some.injEq, exists_eq_left', exists_eq_left, exists_eq', exists_eq, decide_eq_true_eq, List.length_map, exists_eq_right, exists_and_left, exists_and_right, Option.isSome_some, T.int.injEq, T.str.injEq, T.lst.injEq, T.tup.injEq, T.bl.injEq, List.cons.injEq, Prod.mk.injEq, Hn.tm.injEq, true_and, and_true, and_assoc, and_self, ne_eq, not_false_eq_true, not_true_eq_false, ite_true, ite_false, if_true, if_false, reduceIte, reduceCtorEq, Bool.false_eq_true, false_and, and_false, imp_self, forall_const, implies_true, List.length_cons, List.length_nil, Nat.reduceAdd, Nat.reduceEqDiff, Bool.false_bne, Bool.true_bne, Bool.not_false, Bool.not_true, List.nil_append, List.cons_append, Int.reduceToNat, Int.reducePow, Int.reduceMul, Int.reduceSub, Int.reduceAdd, Int.reduceNeg, kt_NoneType_int, kt_NoneType_bool, kt_NoneType_str, kt_NoneType_list, kt_NoneType_tuple, kt_bool_int, kt_bool_bool, kt_bool_str, kt_bool_list, kt_bool_tuple, kt_int_int, kt_int_bool, kt_int_str, kt_int_list, kt_int_tuple, kt_str_int, kt_str_bool, kt_str_str, kt_str_list, kt_str_tuple, kt_list_int, kt_list_bool, kt_list_str, kt_list_list, kt_list_tuple, kt_tuple_int, kt_tuple_bool, kt_tuple_str, kt_tuple_list, kt_tuple_tuple, kt_dict_int, kt_dict_bool, kt_dict_str, kt_dict_list, kt_dict_tuple, e_ii_non, e_ii_bl, e_ii_int, e_ii_str, e_ii_lst, e_ii_scr, e_ii_tup, e_ii_dK, e_ii_dT, e_ii_ins, dCallL, e_argL, e_fl1, e_fl2, e_fl3, e_fl4, List.all_cons, List.all_nil, dDict, dDict0, e_keys0, e_keysS, e_keysI, e_cl_non, e_cl_bl, e_cl_int, e_pl_int, e_cl_str, e_cl_lst, e_cl_scr, e_cl_tup, e_cl_dK, e_cl_dT, e_iq1, e_iq2, e_nn1, e_nn2, e_nn3, e_nn4, e_inp, e_ixd, Int.cast_ofNat_Int, Int.natCast_succ, decide_true, decide_false, Int.reduceEq, Int.reduceLT, Int.reduceLE, Int.reduceNe, Nat.reduceLT, Nat.reduceLeDiff, Bool.and_true, Bool.true_and, Bool.and_false, Bool.false_and, Bool.not_eq_true, Bool.or_true, Bool.or_false, Int.natCast_add, Int.natCast_one, Int.zero_add, Int.add_zero, D_is_swap_of]; exact q
    | int i => simp only [sSeq, sSet, sPar, sIf, sRet, sRetN, sDrop, sNext, sDead, sBrk, sCnt, sAsg, sFor, dNm, dTm, dC, dOp1, dOp2, dOpN, dMt, dMut, dCall, dLst, dTup, dNil, dCons, dVn, dVc, dSl, dSl3, dNoP, dPrt, dIf, dAndV, dOrV, dNotV, dBv, dTru, dNotT, dAndT, dOrT, dChn, dEqQ, dRpQ, qOp, qNil, qCons, qLs, qTp, dSrc, dRng1, dRng2, dZip2, dEnum, dComp, dYes, gNm, gTp, gCn, gNi, gIt, e_var, e_var1, e_var2, e_var3, e_var4, e_mov, e_mov1, e_mov2, e_mov3, e_mov4, e_tr1, e_tr2, e_tr3, e_tr4, e_tr5, e_own1, e_own2, e_reo1, e_reo2, e_of1, e_of2, e_pin1, e_pin2, e_pin3, e_arg1, e_arg2, e_arg3, e_arg4, e_isarg1, e_isarg2, e_conv1, e_conv2, e_conv3, e_conv4, e_conv5, e_conv6, e_sown1, e_sown2, e_sown3, e_sown4, e_put1, e_put2, e_po1, e_po2, e_p1, e_p2, e_ao1, e_ao2, e_nd0, e_nd1, e_nd2, e_sl, e_get1, e_get2, e_is, e_all, e_gets0, e_gets1, e_gets2, e_tms0, e_tms1, e_qg1, e_qg2, e_qg3, e_qgs0, e_qgs1, e_its1, e_its2, e_its3, e_its4, e_jts1, e_jts2, e_jts4, e_mt1, e_mt2, e_ty1, e_add1, e_add2, e_add3, e_sub, e_mul1, e_mul2, e_mul3, e_fdiv, e_mod, e_pow, e_neg, e_len1, e_len2, e_len3, e_len4, e_int1, e_int2, e_abs, e_max, e_min, e_ix1, e_ix2, e_ix3, e_ix4, e_eq1, e_eq2, e_eq3, e_lt1, e_le1, e_gt1, e_ge1, e_lt2, e_in1, e_app, e_ext, e_rev, e_clr, e_set, e_sl1, e_sl2, e_sl3, e_sl4, e_count, e_f1, e_f2, e_osh, e_owh, e_one, e_tt1, e_tt2, e_ctg1, e_ctg2, e_cn0, e_cn1, e_wi0, e_wi1, e_re0, e_re1, e_ifb1, e_ifb2, e_nm0, e_nm1, e_nm2, e_fa0, e_fa1, e_sum, e_allb, e_anyb, e_sp1, e_sp2, e_sp3, e_at0, e_at1, e_at2, e_at3, e_at4, e_at5, e_ixn40, e_ixn41, e_ixn42, e_ixn43, e_cp1, e_cp2, e_cp3, e_cp4, e_cp5, forall_eq, List.getD_cons_zero, List.getD_cons_succ, List.getD_nil, List.set_cons_zero, List.set_cons_succ, List.map_cons, List.map_nil, Option.map_some, Option.map_none, Option.bind_some, Option.bind_none, Option.getD_some, Option.some.injEq, exists_eq_left', exists_eq_left, exists_eq', exists_eq, decide_eq_true_eq, List.length_map, exists_eq_right, exists_and_left, exists_and_right, Option.isSome_some, T.int.injEq, T.str.injEq, T.lst.injEq, T.tup.injEq, T.bl.injEq, List.cons.injEq, Prod.mk.injEq, Hn.tm.injEq, true_and, and_true, and_assoc, and_self, ne_eq, not_false_eq_true, not_true_eq_false, ite_true, ite_false, if_true, if_false, reduceIte, reduceCtorEq, Bool.false_eq_true, false_and, and_false, imp_self, forall_const, implies_true, List.length_cons, List.length_nil, Nat.reduceAdd, Nat.reduceEqDiff, Bool.false_bne, Bool.true_bne, Bool.not_false, Bool.not_true, List.nil_append, List.cons_append, Int.reduceToNat, Int.reducePow, Int.reduceMul, Int.reduceSub, Int.reduceAdd, Int.reduceNeg, kt_NoneType_int, kt_NoneType_bool, kt_NoneType_str, kt_NoneType_list, kt_NoneType_tuple, kt_bool_int, kt_bool_bool, kt_bool_str, kt_bool_list, kt_bool_tuple, kt_int_int, kt_int_bool, kt_int_str, kt_int_list, kt_int_tuple, kt_str_int, kt_str_bool, kt_str_str, kt_str_list, kt_str_tuple, kt_list_int, kt_list_bool, kt_list_str, kt_list_list, kt_list_tuple, kt_tuple_int, kt_tuple_bool, kt_tuple_str, kt_tuple_list, kt_tuple_tuple, kt_dict_int, kt_dict_bool, kt_dict_str, kt_dict_list, kt_dict_tuple, e_ii_non, e_ii_bl, e_ii_int, e_ii_str, e_ii_lst, e_ii_scr, e_ii_tup, e_ii_dK, e_ii_dT, e_ii_ins, dCallL, e_argL, e_fl1, e_fl2, e_fl3, e_fl4, List.all_cons, List.all_nil, dDict, dDict0, e_keys0, e_keysS, e_keysI, e_cl_non, e_cl_bl, e_cl_int, e_pl_int, e_cl_str, e_cl_lst, e_cl_scr, e_cl_tup, e_cl_dK, e_cl_dT, e_iq1, e_iq2, e_nn1, e_nn2, e_nn3, e_nn4, e_inp, e_ixd, Int.cast_ofNat_Int, Int.natCast_succ, decide_true, decide_false, Int.reduceEq, Int.reduceLT, Int.reduceLE, Int.reduceNe, Nat.reduceLT, Nat.reduceLeDiff, Bool.and_true, Bool.true_and, Bool.and_false, Bool.false_and, Bool.not_eq_true, Bool.or_true, Bool.or_false, Int.natCast_add, Int.natCast_one, Int.zero_add, Int.add_zero, D_is_swap_of]; exact q
    | str us => simp only [sSeq, sSet, sPar, sIf, sRet, sRetN, sDrop, sNext, sDead, sBrk, sCnt, sAsg, sFor, dNm, dTm, dC, dOp1, dOp2, dOpN, dMt, dMut, dCall, dLst, dTup, dNil, dCons, dVn, dVc, dSl, dSl3, dNoP, dPrt, dIf, dAndV, dOrV, dNotV, dBv, dTru, dNotT, dAndT, dOrT, dChn, dEqQ, dRpQ, qOp, qNil, qCons, qLs, qTp, dSrc, dRng1, dRng2, dZip2, dEnum, dComp, dYes, gNm, gTp, gCn, gNi, gIt, e_var, e_var1, e_var2, e_var3, e_var4, e_mov, e_mov1, e_mov2, e_mov3, e_mov4, e_tr1, e_tr2, e_tr3, e_tr4, e_tr5, e_own1, e_own2, e_reo1, e_reo2, e_of1, e_of2, e_pin1, e_pin2, e_pin3, e_arg1, e_arg2, e_arg3, e_arg4, e_isarg1, e_isarg2, e_conv1, e_conv2, e_conv3, e_conv4, e_conv5, e_conv6, e_sown1, e_sown2, e_sown3, e_sown4, e_put1, e_put2, e_po1, e_po2, e_p1, e_p2, e_ao1, e_ao2, e_nd0, e_nd1, e_nd2, e_sl, e_get1, e_get2, e_is, e_all, e_gets0, e_gets1, e_gets2, e_tms0, e_tms1, e_qg1, e_qg2, e_qg3, e_qgs0, e_qgs1, e_its1, e_its2, e_its3, e_its4, e_jts1, e_jts2, e_jts4, e_mt1, e_mt2, e_ty1, e_add1, e_add2, e_add3, e_sub, e_mul1, e_mul2, e_mul3, e_fdiv, e_mod, e_pow, e_neg, e_len1, e_len2, e_len3, e_len4, e_int1, e_int2, e_abs, e_max, e_min, e_ix1, e_ix2, e_ix3, e_ix4, e_eq1, e_eq2, e_eq3, e_lt1, e_le1, e_gt1, e_ge1, e_lt2, e_in1, e_app, e_ext, e_rev, e_clr, e_set, e_sl1, e_sl2, e_sl3, e_sl4, e_count, e_f1, e_f2, e_osh, e_owh, e_one, e_tt1, e_tt2, e_ctg1, e_ctg2, e_cn0, e_cn1, e_wi0, e_wi1, e_re0, e_re1, e_ifb1, e_ifb2, e_nm0, e_nm1, e_nm2, e_fa0, e_fa1, e_sum, e_allb, e_anyb, e_sp1, e_sp2, e_sp3, e_at0, e_at1, e_at2, e_at3, e_at4, e_at5, e_ixn40, e_ixn41, e_ixn42, e_ixn43, e_cp1, e_cp2, e_cp3, e_cp4, e_cp5, forall_eq, List.getD_cons_zero, List.getD_cons_succ, List.getD_nil, List.set_cons_zero, List.set_cons_succ, List.map_cons, List.map_nil, Option.map_some, Option.map_none, Option.bind_some, Option.bind_none, Option.getD_some, Option.some.injEq, exists_eq_left', exists_eq_left, exists_eq', exists_eq, decide_eq_true_eq, List.length_map, exists_eq_right, exists_and_left, exists_and_right, Option.isSome_some, T.int.injEq, T.str.injEq, T.lst.injEq, T.tup.injEq, T.bl.injEq, List.cons.injEq, Prod.mk.injEq, Hn.tm.injEq, true_and, and_true, and_assoc, and_self, ne_eq, not_false_eq_true, not_true_eq_false, ite_true, ite_false, if_true, if_false, reduceIte, reduceCtorEq, Bool.false_eq_true, false_and, and_false, imp_self, forall_const, implies_true, List.length_cons, List.length_nil, Nat.reduceAdd, Nat.reduceEqDiff, Bool.false_bne, Bool.true_bne, Bool.not_false, Bool.not_true, List.nil_append, List.cons_append, Int.reduceToNat, Int.reducePow, Int.reduceMul, Int.reduceSub, Int.reduceAdd, Int.reduceNeg, kt_NoneType_int, kt_NoneType_bool, kt_NoneType_str, kt_NoneType_list, kt_NoneType_tuple, kt_bool_int, kt_bool_bool, kt_bool_str, kt_bool_list, kt_bool_tuple, kt_int_int, kt_int_bool, kt_int_str, kt_int_list, kt_int_tuple, kt_str_int, kt_str_bool, kt_str_str, kt_str_list, kt_str_tuple, kt_list_int, kt_list_bool, kt_list_str, kt_list_list, kt_list_tuple, kt_tuple_int, kt_tuple_bool, kt_tuple_str, kt_tuple_list, kt_tuple_tuple, kt_dict_int, kt_dict_bool, kt_dict_str, kt_dict_list, kt_dict_tuple, e_ii_non, e_ii_bl, e_ii_int, e_ii_str, e_ii_lst, e_ii_scr, e_ii_tup, e_ii_dK, e_ii_dT, e_ii_ins, dCallL, e_argL, e_fl1, e_fl2, e_fl3, e_fl4, List.all_cons, List.all_nil, dDict, dDict0, e_keys0, e_keysS, e_keysI, e_cl_non, e_cl_bl, e_cl_int, e_pl_int, e_cl_str, e_cl_lst, e_cl_scr, e_cl_tup, e_cl_dK, e_cl_dT, e_iq1, e_iq2, e_nn1, e_nn2, e_nn3, e_nn4, e_inp, e_ixd, Int.cast_ofNat_Int, Int.natCast_succ, decide_true, decide_false, Int.reduceEq, Int.reduceLT, Int.reduceLE, Int.reduceNe, Nat.reduceLT, Nat.reduceLeDiff, Bool.and_true, Bool.true_and, Bool.and_false, Bool.false_and, Bool.not_eq_true, Bool.or_true, Bool.or_false, Int.natCast_add, Int.natCast_one, Int.zero_add, Int.add_zero, D_is_swap_of]; exact q
    | lst us => simp only [sSeq, sSet, sPar, sIf, sRet, sRetN, sDrop, sNext, sDead, sBrk, sCnt, sAsg, sFor, dNm, dTm, dC, dOp1, dOp2, dOpN, dMt, dMut, dCall, dLst, dTup, dNil, dCons, dVn, dVc, dSl, dSl3, dNoP, dPrt, dIf, dAndV, dOrV, dNotV, dBv, dTru, dNotT, dAndT, dOrT, dChn, dEqQ, dRpQ, qOp, qNil, qCons, qLs, qTp, dSrc, dRng1, dRng2, dZip2, dEnum, dComp, dYes, gNm, gTp, gCn, gNi, gIt, e_var, e_var1, e_var2, e_var3, e_var4, e_mov, e_mov1, e_mov2, e_mov3, e_mov4, e_tr1, e_tr2, e_tr3, e_tr4, e_tr5, e_own1, e_own2, e_reo1, e_reo2, e_of1, e_of2, e_pin1, e_pin2, e_pin3, e_arg1, e_arg2, e_arg3, e_arg4, e_isarg1, e_isarg2, e_conv1, e_conv2, e_conv3, e_conv4, e_conv5, e_conv6, e_sown1, e_sown2, e_sown3, e_sown4, e_put1, e_put2, e_po1, e_po2, e_p1, e_p2, e_ao1, e_ao2, e_nd0, e_nd1, e_nd2, e_sl, e_get1, e_get2, e_is, e_all, e_gets0, e_gets1, e_gets2, e_tms0, e_tms1, e_qg1, e_qg2, e_qg3, e_qgs0, e_qgs1, e_its1, e_its2, e_its3, e_its4, e_jts1, e_jts2, e_jts4, e_mt1, e_mt2, e_ty1, e_add1, e_add2, e_add3, e_sub, e_mul1, e_mul2, e_mul3, e_fdiv, e_mod, e_pow, e_neg, e_len1, e_len2, e_len3, e_len4, e_int1, e_int2, e_abs, e_max, e_min, e_ix1, e_ix2, e_ix3, e_ix4, e_eq1, e_eq2, e_eq3, e_lt1, e_le1, e_gt1, e_ge1, e_lt2, e_in1, e_app, e_ext, e_rev, e_clr, e_set, e_sl1, e_sl2, e_sl3, e_sl4, e_count, e_f1, e_f2, e_osh, e_owh, e_one, e_tt1, e_tt2, e_ctg1, e_ctg2, e_cn0, e_cn1, e_wi0, e_wi1, e_re0, e_re1, e_ifb1, e_ifb2, e_nm0, e_nm1, e_nm2, e_fa0, e_fa1, e_sum, e_allb, e_anyb, e_sp1, e_sp2, e_sp3, e_at0, e_at1, e_at2, e_at3, e_at4, e_at5, e_ixn40, e_ixn41, e_ixn42, e_ixn43, e_cp1, e_cp2, e_cp3, e_cp4, e_cp5, forall_eq, List.getD_cons_zero, List.getD_cons_succ, List.getD_nil, List.set_cons_zero, List.set_cons_succ, List.map_cons, List.map_nil, Option.map_some, Option.map_none, Option.bind_some, Option.bind_none, Option.getD_some, Option.some.injEq, exists_eq_left', exists_eq_left, exists_eq', exists_eq, decide_eq_true_eq, List.length_map, exists_eq_right, exists_and_left, exists_and_right, Option.isSome_some, T.int.injEq, T.str.injEq, T.lst.injEq, T.tup.injEq, T.bl.injEq, List.cons.injEq, Prod.mk.injEq, Hn.tm.injEq, true_and, and_true, and_assoc, and_self, ne_eq, not_false_eq_true, not_true_eq_false, ite_true, ite_false, if_true, if_false, reduceIte, reduceCtorEq, Bool.false_eq_true, false_and, and_false, imp_self, forall_const, implies_true, List.length_cons, List.length_nil, Nat.reduceAdd, Nat.reduceEqDiff, Bool.false_bne, Bool.true_bne, Bool.not_false, Bool.not_true, List.nil_append, List.cons_append, Int.reduceToNat, Int.reducePow, Int.reduceMul, Int.reduceSub, Int.reduceAdd, Int.reduceNeg, kt_NoneType_int, kt_NoneType_bool, kt_NoneType_str, kt_NoneType_list, kt_NoneType_tuple, kt_bool_int, kt_bool_bool, kt_bool_str, kt_bool_list, kt_bool_tuple, kt_int_int, kt_int_bool, kt_int_str, kt_int_list, kt_int_tuple, kt_str_int, kt_str_bool, kt_str_str, kt_str_list, kt_str_tuple, kt_list_int, kt_list_bool, kt_list_str, kt_list_list, kt_list_tuple, kt_tuple_int, kt_tuple_bool, kt_tuple_str, kt_tuple_list, kt_tuple_tuple, kt_dict_int, kt_dict_bool, kt_dict_str, kt_dict_list, kt_dict_tuple, e_ii_non, e_ii_bl, e_ii_int, e_ii_str, e_ii_lst, e_ii_scr, e_ii_tup, e_ii_dK, e_ii_dT, e_ii_ins, dCallL, e_argL, e_fl1, e_fl2, e_fl3, e_fl4, List.all_cons, List.all_nil, dDict, dDict0, e_keys0, e_keysS, e_keysI, e_cl_non, e_cl_bl, e_cl_int, e_pl_int, e_cl_str, e_cl_lst, e_cl_scr, e_cl_tup, e_cl_dK, e_cl_dT, e_iq1, e_iq2, e_nn1, e_nn2, e_nn3, e_nn4, e_inp, e_ixd, Int.cast_ofNat_Int, Int.natCast_succ, decide_true, decide_false, Int.reduceEq, Int.reduceLT, Int.reduceLE, Int.reduceNe, Nat.reduceLT, Nat.reduceLeDiff, Bool.and_true, Bool.true_and, Bool.and_false, Bool.false_and, Bool.not_eq_true, Bool.or_true, Bool.or_false, Int.natCast_add, Int.natCast_one, Int.zero_add, Int.add_zero, D_is_swap_of]; exact q
    | dK us => simp only [sSeq, sSet, sPar, sIf, sRet, sRetN, sDrop, sNext, sDead, sBrk, sCnt, sAsg, sFor, dNm, dTm, dC, dOp1, dOp2, dOpN, dMt, dMut, dCall, dLst, dTup, dNil, dCons, dVn, dVc, dSl, dSl3, dNoP, dPrt, dIf, dAndV, dOrV, dNotV, dBv, dTru, dNotT, dAndT, dOrT, dChn, dEqQ, dRpQ, qOp, qNil, qCons, qLs, qTp, dSrc, dRng1, dRng2, dZip2, dEnum, dComp, dYes, gNm, gTp, gCn, gNi, gIt, e_var, e_var1, e_var2, e_var3, e_var4, e_mov, e_mov1, e_mov2, e_mov3, e_mov4, e_tr1, e_tr2, e_tr3, e_tr4, e_tr5, e_own1, e_own2, e_reo1, e_reo2, e_of1, e_of2, e_pin1, e_pin2, e_pin3, e_arg1, e_arg2, e_arg3, e_arg4, e_isarg1, e_isarg2, e_conv1, e_conv2, e_conv3, e_conv4, e_conv5, e_conv6, e_sown1, e_sown2, e_sown3, e_sown4, e_put1, e_put2, e_po1, e_po2, e_p1, e_p2, e_ao1, e_ao2, e_nd0, e_nd1, e_nd2, e_sl, e_get1, e_get2, e_is, e_all, e_gets0, e_gets1, e_gets2, e_tms0, e_tms1, e_qg1, e_qg2, e_qg3, e_qgs0, e_qgs1, e_its1, e_its2, e_its3, e_its4, e_jts1, e_jts2, e_jts4, e_mt1, e_mt2, e_ty1, e_add1, e_add2, e_add3, e_sub, e_mul1, e_mul2, e_mul3, e_fdiv, e_mod, e_pow, e_neg, e_len1, e_len2, e_len3, e_len4, e_int1, e_int2, e_abs, e_max, e_min, e_ix1, e_ix2, e_ix3, e_ix4, e_eq1, e_eq2, e_eq3, e_lt1, e_le1, e_gt1, e_ge1, e_lt2, e_in1, e_app, e_ext, e_rev, e_clr, e_set, e_sl1, e_sl2, e_sl3, e_sl4, e_count, e_f1, e_f2, e_osh, e_owh, e_one, e_tt1, e_tt2, e_ctg1, e_ctg2, e_cn0, e_cn1, e_wi0, e_wi1, e_re0, e_re1, e_ifb1, e_ifb2, e_nm0, e_nm1, e_nm2, e_fa0, e_fa1, e_sum, e_allb, e_anyb, e_sp1, e_sp2, e_sp3, e_at0, e_at1, e_at2, e_at3, e_at4, e_at5, e_ixn40, e_ixn41, e_ixn42, e_ixn43, e_cp1, e_cp2, e_cp3, e_cp4, e_cp5, forall_eq, List.getD_cons_zero, List.getD_cons_succ, List.getD_nil, List.set_cons_zero, List.set_cons_succ, List.map_cons, List.map_nil, Option.map_some, Option.map_none, Option.bind_some, Option.bind_none, Option.getD_some, Option.some.injEq, exists_eq_left', exists_eq_left, exists_eq', exists_eq, decide_eq_true_eq, List.length_map, exists_eq_right, exists_and_left, exists_and_right, Option.isSome_some, T.int.injEq, T.str.injEq, T.lst.injEq, T.tup.injEq, T.bl.injEq, List.cons.injEq, Prod.mk.injEq, Hn.tm.injEq, true_and, and_true, and_assoc, and_self, ne_eq, not_false_eq_true, not_true_eq_false, ite_true, ite_false, if_true, if_false, reduceIte, reduceCtorEq, Bool.false_eq_true, false_and, and_false, imp_self, forall_const, implies_true, List.length_cons, List.length_nil, Nat.reduceAdd, Nat.reduceEqDiff, Bool.false_bne, Bool.true_bne, Bool.not_false, Bool.not_true, List.nil_append, List.cons_append, Int.reduceToNat, Int.reducePow, Int.reduceMul, Int.reduceSub, Int.reduceAdd, Int.reduceNeg, kt_NoneType_int, kt_NoneType_bool, kt_NoneType_str, kt_NoneType_list, kt_NoneType_tuple, kt_bool_int, kt_bool_bool, kt_bool_str, kt_bool_list, kt_bool_tuple, kt_int_int, kt_int_bool, kt_int_str, kt_int_list, kt_int_tuple, kt_str_int, kt_str_bool, kt_str_str, kt_str_list, kt_str_tuple, kt_list_int, kt_list_bool, kt_list_str, kt_list_list, kt_list_tuple, kt_tuple_int, kt_tuple_bool, kt_tuple_str, kt_tuple_list, kt_tuple_tuple, kt_dict_int, kt_dict_bool, kt_dict_str, kt_dict_list, kt_dict_tuple, e_ii_non, e_ii_bl, e_ii_int, e_ii_str, e_ii_lst, e_ii_scr, e_ii_tup, e_ii_dK, e_ii_dT, e_ii_ins, dCallL, e_argL, e_fl1, e_fl2, e_fl3, e_fl4, List.all_cons, List.all_nil, dDict, dDict0, e_keys0, e_keysS, e_keysI, e_cl_non, e_cl_bl, e_cl_int, e_pl_int, e_cl_str, e_cl_lst, e_cl_scr, e_cl_tup, e_cl_dK, e_cl_dT, e_iq1, e_iq2, e_nn1, e_nn2, e_nn3, e_nn4, e_inp, e_ixd, Int.cast_ofNat_Int, Int.natCast_succ, decide_true, decide_false, Int.reduceEq, Int.reduceLT, Int.reduceLE, Int.reduceNe, Nat.reduceLT, Nat.reduceLeDiff, Bool.and_true, Bool.true_and, Bool.and_false, Bool.false_and, Bool.not_eq_true, Bool.or_true, Bool.or_false, Int.natCast_add, Int.natCast_one, Int.zero_add, Int.add_zero, D_is_swap_of]; exact q
    | _ => exact pv.elim
  · intro pre; exact pre.elim
end O
namespace O
open PySem PySem.Spec PyProof.Rows L2
def atP (l p : List Nat) (i : Int) : Bool := decide (cutL l (some i) (some (i + 2)) = p)
def placesI (l p : List Nat) : List Int := ((List.range (l.length - 1)).map fun i : Nat => (i : Int)).filter (atP l p)
def pairI (a b : Int) : T := .tup [.int a, .int b]
def swB (a b : Int) : Bool := decide (1 < (if a - b < 0 then -(a - b) else a - b))
theorem places_len (l p : List Nat) : (placesI l p).length ≤ l.length := by
  unfold placesI
  refine Nat.le_trans (List.length_filter_le _ _) ?_
  rw [List.length_map, List.length_range]; omega
def swapsT (l : List Nat) : List T := ((placesI l [97, 98]).map fun a => ((placesI l [98, 97]).filter (swB a)).map (pairI a)).flatten
def fIsSwap : List T → Ot
  | [.str l, t] => ⟨rowB l = true ∧ plainP t, (false, .bl (swT l t))⟩
  | _ => .no
theorem h_is_swap (ars : Rho) (Q : Po Rv) (h : SP fIsSwap ars Q) : D_is_swap (SP fChk) (SP fSwOf) (ars ++ List.replicate 0 .no) (fwish ars Q) := by
  obtain ⟨ts, rfl, pre, q⟩ := h
  revert pre q
  unfold fIsSwap
  split
  · rename_i l t
    intro pre q
    obtain ⟨r, pp⟩ : rowB l = true ∧ plainP t := pre
    have hl := row_len r
    have ab : abS l := (rowB_iff.mp r).2
    have hl' : l.length ≤ 10000 := by omega
    show D_is_swap (SP fChk) (SP fSwOf) [.sh (.str l), .sh t] _
    simp only [sSeq, sSet, sPar, sIf, sRet, sRetN, sDrop, sNext, sDead, sBrk, sCnt, sAsg, sFor, dNm, dTm, dC, dOp1, dOp2, dOpN, dMt, dMut, dCall, dLst, dTup, dNil, dCons, dVn, dVc, dSl, dSl3, dNoP, dPrt, dIf, dAndV, dOrV, dNotV, dBv, dTru, dNotT, dAndT, dOrT, dChn, dEqQ, dRpQ, qOp, qNil, qCons, qLs, qTp, dSrc, dRng1, dRng2, dZip2, dEnum, dComp, dYes, gNm, gTp, gCn, gNi, gIt, e_var, e_var1, e_var2, e_var3, e_var4, e_mov, e_mov1, e_mov2, e_mov3, e_mov4, e_tr1, e_tr2, e_tr3, e_tr4, e_tr5, e_own1, e_own2, e_reo1, e_reo2, e_of1, e_of2, e_pin1, e_pin2, e_pin3, e_arg1, e_arg2, e_arg3, e_arg4, e_isarg1, e_isarg2, e_conv1, e_conv2, e_conv3, e_conv4, e_conv5, e_conv6, e_sown1, e_sown2, e_sown3, e_sown4, e_put1, e_put2, e_po1, e_po2, e_p1, e_p2, e_ao1, e_ao2, e_nd0, e_nd1, e_nd2, e_sl, e_get1, e_get2, e_is, e_all, e_gets0, e_gets1, e_gets2, e_tms0, e_tms1, e_qg1, e_qg2, e_qg3, e_qgs0, e_qgs1, e_its1, e_its2, e_its3, e_its4, e_jts1, e_jts2, e_jts4, e_mt1, e_mt2, e_ty1, e_add1, e_add2, e_add3, e_sub, e_mul1, e_mul2, e_mul3, e_fdiv, e_mod, e_pow, e_neg, e_len1, e_len2, e_len3, e_len4, e_int1, e_int2, e_abs, e_max, e_min, e_ix1, e_ix2, e_ix3, e_ix4, e_eq1, e_eq2, e_eq3, e_lt1, e_le1, e_gt1, e_ge1, e_lt2, e_in1, e_app, e_ext, e_rev, e_clr, e_set, e_sl1, e_sl2, e_sl3, e_sl4, e_count, e_f1, e_f2, e_osh, e_owh, e_one, e_tt1, e_tt2, e_ctg1, e_ctg2, e_cn0, e_cn1, e_wi0, e_wi1, e_re0, e_re1, e_ifb1, e_ifb2, e_nm0, e_nm1, e_nm2, e_fa0, e_fa1, e_sum, e_allb, e_anyb, e_sp1, e_sp2, e_sp3, e_at0, e_at1, e_at2, e_at3, e_at4, e_at5, e_ixn40, e_ixn41, e_ixn42, e_ixn43, e_cp1, e_cp2, e_cp3, e_cp4, e_cp5, forall_eq, List.getD_cons_zero, List.getD_cons_succ, List.getD_nil, List.set_cons_zero, List.set_cons_succ, List.map_cons, List.map_nil, Option.map_some, Option.map_none, Option.bind_some, Option.bind_none, Option.getD_some, Option.some.injEq, exists_eq_left', exists_eq_left, exists_eq', exists_eq, decide_eq_true_eq, List.length_map, exists_eq_right, exists_and_left, exists_and_right, Option.isSome_some, T.int.injEq, T.str.injEq, T.lst.injEq, T.tup.injEq, T.bl.injEq, List.cons.injEq, Prod.mk.injEq, Hn.tm.injEq, true_and, and_true, and_assoc, and_self, ne_eq, not_false_eq_true, not_true_eq_false, ite_true, ite_false, if_true, if_false, reduceIte, reduceCtorEq, Bool.false_eq_true, false_and, and_false, imp_self, forall_const, implies_true, List.length_cons, List.length_nil, Nat.reduceAdd, Nat.reduceEqDiff, Bool.false_bne, Bool.true_bne, Bool.not_false, Bool.not_true, List.nil_append, List.cons_append, Int.reduceToNat, Int.reducePow, Int.reduceMul, Int.reduceSub, Int.reduceAdd, Int.reduceNeg, kt_NoneType_int, kt_NoneType_bool, kt_NoneType_str, kt_NoneType_list, kt_NoneType_tuple, kt_bool_int, kt_bool_bool, kt_bool_str, kt_bool_list, kt_bool_tuple, kt_int_int, kt_int_bool, kt_int_str, kt_int_list, kt_int_tuple, kt_str_int, kt_str_bool, kt_str_str, kt_str_list, kt_str_tuple, kt_list_int, kt_list_bool, kt_list_str, kt_list_list, kt_list_tuple, kt_tuple_int, kt_tuple_bool, kt_tuple_str, kt_tuple_list, kt_tuple_tuple, kt_dict_int, kt_dict_bool, kt_dict_str, kt_dict_list, kt_dict_tuple, e_ii_non, e_ii_bl, e_ii_int, e_ii_str, e_ii_lst, e_ii_scr, e_ii_tup, e_ii_dK, e_ii_dT, e_ii_ins, dCallL, e_argL, e_fl1, e_fl2, e_fl3, e_fl4, List.all_cons, List.all_nil, dDict, dDict0, e_keys0, e_keysS, e_keysI, e_cl_non, e_cl_bl, e_cl_int, e_pl_int, e_cl_str, e_cl_lst, e_cl_scr, e_cl_tup, e_cl_dK, e_cl_dT, e_iq1, e_iq2, e_nn1, e_nn2, e_nn3, e_nn4, e_inp, e_ixd, Int.cast_ofNat_Int, Int.natCast_succ, decide_true, decide_false, Int.reduceEq, Int.reduceLT, Int.reduceLE, Int.reduceNe, Nat.reduceLT, Nat.reduceLeDiff, Bool.and_true, Bool.true_and, Bool.and_false, Bool.false_and, Bool.not_eq_true, Bool.or_true, Bool.or_false, Int.natCast_add, Int.natCast_one, Int.zero_add, Int.add_zero, D_is_swap, fChk, r, fSwOf, ab, pp, hl']
    exact q
  · intro pre; exact pre.elim
theorem places_ext {l p : List Nat} (hp : p.length = 2) : ((List.range l.length).map fun i : Nat => (i : Int)).filter (atP l p) = placesI l p := by
  unfold placesI
  cases h : l.length with
  | zero => rfl
  | succ n =>
    rw [List.range_succ, List.map_append, List.filter_append]
    have : atP l p (n : Int) = false := by
      refine decide_eq_false fun z => ?_
      have c := cut_mid l n (n + 2)
      rw [show ((n + 2 : Nat) : Int) = (n : Int) + 2 by omega] at c
      rw [c] at z
      have := congrArg List.length z
      rw [hp, List.length_take, List.length_drop] at this
      omega
    simp [this]
theorem in_near {x b : Int} (h : x ≠ b) : (!decide (b = x - 1 ∨ b = x + 1)) = swB x b := by
  unfold swB
  by_cases c : b = x - 1 ∨ b = x + 1
  · rw [decide_eq_true c, decide_eq_false (by split <;> omega)]; rfl
  · rw [decide_eq_false c, decide_eq_true (by split <;> omega)]; rfl
theorem in_two_ints {b i j : Int} : inT true (.int b) (.lst [.int i, .int j]) = ⟨True, (false, .bl (!decide (b = i ∨ b = j)))⟩ := by
  show (⟨okD (.int b) ∧ okD (.lst [.int i, .int j]), (false, .bl (true != T.anyEq [.int i, .int j] (.int b)))⟩ : Ot) = _
  have e : T.anyEq [.int i, .int j] (.int b) = decide (b = i ∨ b = j) := by
    have h : ∀ a : Int, PyData.eqv (.int a) (.int b) = decide (b = a) := fun a => by
      by_cases c : b = a
      · rw [decide_eq_true c]; exact (dtI.eqv a b).mpr c.symm
      · rw [decide_eq_false c]; exact Bool.eq_false_iff.mpr fun z => c ((dtI.eqv a b).mp z).symm
    rw [anyEq_is (d := .int b) (ds := [.int i, .int j]) rfl rfl]
    simp only [List.any_cons, List.any_nil, h, Bool.or_false]
    by_cases c1 : b = i <;> by_cases c2 : b = j <;> simp [c1, c2]
  rw [e, eq_true (⟨dtI.okD trivial, (dtL dtI).okD (a := [i, j]) (fun _ _ => trivial)⟩ : okD (.int b) ∧ okD (.lst [.int i, .int j])), Bool.true_bne]
theorem loop__law_all_2 (Q : PoS) (l : List Nat) (hl : l.length ≤ 200) : ∀ (xs : List Int) (acc : List T) (s3 s5 : Sl), (s3 = .ow (.lst ((placesI l [98, 97]).map T.int)) ∨ s3 = .sh (.lst ((placesI l [98, 97]).map T.int))) → s5.pin = false → acc.length + 200 * xs.length ≤ 100000 →
    (∀ a ∈ xs, atP l [97, 98] a = true) →
    (∀ s3 s5, Q.nx [.sh (.str l), .sh (.lst ((placesI l [97, 98]).map T.int)), .no, s3, .ow (.lst (acc ++ (xs.map fun a => ((placesI l [98, 97]).filter (swB a)).map (pairI a)).flatten)), s5, .no]) →
    forD (gNm 5) B__law_all_2_1 Q (xs.map T.int) [.sh (.str l), .sh (.lst ((placesI l [97, 98]).map T.int)), .no, s3, .ow (.lst acc), s5, .no]
  | [], acc, s3, s5, h3, h5, ha, hx, q => by
    have := q s3 s5
    rw [List.map_nil, List.flatten_nil, List.append_nil] at this
    exact this
  | x :: xs, acc, s3, s5, h3, h5, ha, hx, q => by
    have hs := sizeLine_eq
    have pl := places_len l [98, 97]
    rw [List.length_cons] at ha
    have hx0 := hx x List.mem_cons_self
    refine forD_step fun K hK => ?_
    have mid : compD [6] (Tg.one 6) (dBv (dOp2 (inT true) (dNm 6) (dTm (dLst (dCons (dTm (dOp2 subT (dNm 5) (dTm (dC (T.int 1))))) (dCons (dTm (dOp2 addT (dNm 5) (dTm (dC (T.int 1))))) dNil)))))) (dTup (dCons (dTm (dVar 5)) (dCons (dTm (dVar 6)) dNil)))
      (fun acc_1 ρ2 => ∃ t, ownT ((List.set ρ2 6 Sl.no).getD 4 Sl.no) = some t ∧ (extM t [T.lst acc_1]).pre ∧ K ((List.set ρ2 6 Sl.no).set 4 (reown ((List.set ρ2 6 Sl.no).getD 4 Sl.no) (extM t [T.lst acc_1]).new)))
      (List.map T.int (placesI l [98, 97])) [] [Sl.sh (T.str l), Sl.sh (T.lst (List.map T.int (placesI l [97, 98]))), Sl.no, Sl.sh (T.lst (List.map T.int (placesI l [98, 97]))), Sl.ow (T.lst acc), Sl.sh (T.int x), Sl.no] := by
      refine comp_if (w := T.int) (swB x) (pairI x) (fun b m A B hA => ?_) (by omega) ?_
      · have nb : x ≠ b := fun z => by
          have hb := (List.mem_filter.mp m).2
          rw [← z] at hb
          unfold atP at hb hx0
          rw [of_decide_eq_true hx0] at hb
          cases (of_decide_eq_true hb)
        rw [← in_near nb] at hA
        simp only [sSeq, sSet, sPar, sIf, sRet, sRetN, sDrop, sNext, sDead, sBrk, sCnt, sAsg, sFor, dNm, dTm, dC, dOp1, dOp2, dOpN, dMt, dMut, dCall, dLst, dTup, dNil, dCons, dVn, dVc, dSl, dSl3, dNoP, dPrt, dIf, dAndV, dOrV, dNotV, dBv, dTru, dNotT, dAndT, dOrT, dChn, dEqQ, dRpQ, qOp, qNil, qCons, qLs, qTp, dSrc, dRng1, dRng2, dZip2, dEnum, dComp, dYes, gNm, gTp, gCn, gNi, gIt, e_var, e_var1, e_var2, e_var3, e_var4, e_mov, e_mov1, e_mov2, e_mov3, e_mov4, e_tr1, e_tr2, e_tr3, e_tr4, e_tr5, e_own1, e_own2, e_reo1, e_reo2, e_of1, e_of2, e_pin1, e_pin2, e_pin3, e_arg1, e_arg2, e_arg3, e_arg4, e_isarg1, e_isarg2, e_conv1, e_conv2, e_conv3, e_conv4, e_conv5, e_conv6, e_sown1, e_sown2, e_sown3, e_sown4, e_put1, e_put2, e_po1, e_po2, e_p1, e_p2, e_ao1, e_ao2, e_nd0, e_nd1, e_nd2, e_sl, e_get1, e_get2, e_is, e_all, e_gets0, e_gets1, e_gets2, e_tms0, e_tms1, e_qg1, e_qg2, e_qg3, e_qgs0, e_qgs1, e_its1, e_its2, e_its3, e_its4, e_jts1, e_jts2, e_jts4, e_mt1, e_mt2, e_ty1, e_add1, e_add2, e_add3, e_sub, e_mul1, e_mul2, e_mul3, e_fdiv, e_mod, e_pow, e_neg, e_len1, e_len2, e_len3, e_len4, e_int1, e_int2, e_abs, e_max, e_min, e_ix1, e_ix2, e_ix3, e_ix4, e_eq1, e_eq2, e_eq3, e_lt1, e_le1, e_gt1, e_ge1, e_lt2, e_in1, e_app, e_ext, e_rev, e_clr, e_set, e_sl1, e_sl2, e_sl3, e_sl4, e_count, e_f1, e_f2, e_osh, e_owh, e_one, e_tt1, e_tt2, e_ctg1, e_ctg2, e_cn0, e_cn1, e_wi0, e_wi1, e_re0, e_re1, e_ifb1, e_ifb2, e_nm0, e_nm1, e_nm2, e_fa0, e_fa1, e_sum, e_allb, e_anyb, e_sp1, e_sp2, e_sp3, e_at0, e_at1, e_at2, e_at3, e_at4, e_at5, e_ixn40, e_ixn41, e_ixn42, e_ixn43, e_cp1, e_cp2, e_cp3, e_cp4, e_cp5, forall_eq, List.getD_cons_zero, List.getD_cons_succ, List.getD_nil, List.set_cons_zero, List.set_cons_succ, List.map_cons, List.map_nil, Option.map_some, Option.map_none, Option.bind_some, Option.bind_none, Option.getD_some, Option.some.injEq, exists_eq_left', exists_eq_left, exists_eq', exists_eq, decide_eq_true_eq, List.length_map, exists_eq_right, exists_and_left, exists_and_right, Option.isSome_some, T.int.injEq, T.str.injEq, T.lst.injEq, T.tup.injEq, T.bl.injEq, List.cons.injEq, Prod.mk.injEq, Hn.tm.injEq, true_and, and_true, and_assoc, and_self, ne_eq, not_false_eq_true, not_true_eq_false, ite_true, ite_false, if_true, if_false, reduceIte, reduceCtorEq, Bool.false_eq_true, false_and, and_false, imp_self, forall_const, implies_true, List.length_cons, List.length_nil, Nat.reduceAdd, Nat.reduceEqDiff, Bool.false_bne, Bool.true_bne, Bool.not_false, Bool.not_true, List.nil_append, List.cons_append, Int.reduceToNat, Int.reducePow, Int.reduceMul, Int.reduceSub, Int.reduceAdd, Int.reduceNeg, kt_NoneType_int, kt_NoneType_bool, kt_NoneType_str, kt_NoneType_list, kt_NoneType_tuple, kt_bool_int, kt_bool_bool, kt_bool_str, kt_bool_list, kt_bool_tuple, kt_int_int, kt_int_bool, kt_int_str, kt_int_list, kt_int_tuple, kt_str_int, kt_str_bool, kt_str_str, kt_str_list, kt_str_tuple, kt_list_int, kt_list_bool, kt_list_str, kt_list_list, kt_list_tuple, kt_tuple_int, kt_tuple_bool, kt_tuple_str, kt_tuple_list, kt_tuple_tuple, kt_dict_int, kt_dict_bool, kt_dict_str, kt_dict_list, kt_dict_tuple, e_ii_non, e_ii_bl, e_ii_int, e_ii_str, e_ii_lst, e_ii_scr, e_ii_tup, e_ii_dK, e_ii_dT, e_ii_ins, dCallL, e_argL, e_fl1, e_fl2, e_fl3, e_fl4, List.all_cons, List.all_nil, dDict, dDict0, e_keys0, e_keysS, e_keysI, e_cl_non, e_cl_bl, e_cl_int, e_pl_int, e_cl_str, e_cl_lst, e_cl_scr, e_cl_tup, e_cl_dK, e_cl_dT, e_iq1, e_iq2, e_nn1, e_nn2, e_nn3, e_nn4, e_inp, e_ixd, Int.cast_ofNat_Int, Int.natCast_succ, decide_true, decide_false, Int.reduceEq, Int.reduceLT, Int.reduceLE, Int.reduceNe, Nat.reduceLT, Nat.reduceLeDiff, Bool.and_true, Bool.true_and, Bool.and_false, Bool.false_and, Bool.not_eq_true, Bool.or_true, Bool.or_false, Int.natCast_add, Int.natCast_one, Int.zero_add, Int.add_zero, in_two_ints]
        exact ⟨by omega, ifB_mono hA (fun z => ⟨by omega, z⟩) fun z => z⟩
      · have le0 : ((placesI l [98, 97]).filter (swB x)).length ≤ 200 := Nat.le_trans (List.length_filter_le _ _) (by omega)
        have le : (((placesI l [98, 97]).filter (swB x)).map (pairI x)).length ≤ 200 := by
          rw [List.length_map]
          exact le0
        simp only [sSeq, sSet, sPar, sIf, sRet, sRetN, sDrop, sNext, sDead, sBrk, sCnt, sAsg, sFor, dNm, dTm, dC, dOp1, dOp2, dOpN, dMt, dMut, dCall, dLst, dTup, dNil, dCons, dVn, dVc, dSl, dSl3, dNoP, dPrt, dIf, dAndV, dOrV, dNotV, dBv, dTru, dNotT, dAndT, dOrT, dChn, dEqQ, dRpQ, qOp, qNil, qCons, qLs, qTp, dSrc, dRng1, dRng2, dZip2, dEnum, dComp, dYes, gNm, gTp, gCn, gNi, gIt, e_var, e_var1, e_var2, e_var3, e_var4, e_mov, e_mov1, e_mov2, e_mov3, e_mov4, e_tr1, e_tr2, e_tr3, e_tr4, e_tr5, e_own1, e_own2, e_reo1, e_reo2, e_of1, e_of2, e_pin1, e_pin2, e_pin3, e_arg1, e_arg2, e_arg3, e_arg4, e_isarg1, e_isarg2, e_conv1, e_conv2, e_conv3, e_conv4, e_conv5, e_conv6, e_sown1, e_sown2, e_sown3, e_sown4, e_put1, e_put2, e_po1, e_po2, e_p1, e_p2, e_ao1, e_ao2, e_nd0, e_nd1, e_nd2, e_sl, e_get1, e_get2, e_is, e_all, e_gets0, e_gets1, e_gets2, e_tms0, e_tms1, e_qg1, e_qg2, e_qg3, e_qgs0, e_qgs1, e_its1, e_its2, e_its3, e_its4, e_jts1, e_jts2, e_jts4, e_mt1, e_mt2, e_ty1, e_add1, e_add2, e_add3, e_sub, e_mul1, e_mul2, e_mul3, e_fdiv, e_mod, e_pow, e_neg, e_len1, e_len2, e_len3, e_len4, e_int1, e_int2, e_abs, e_max, e_min, e_ix1, e_ix2, e_ix3, e_ix4, e_eq1, e_eq2, e_eq3, e_lt1, e_le1, e_gt1, e_ge1, e_lt2, e_in1, e_app, e_ext, e_rev, e_clr, e_set, e_sl1, e_sl2, e_sl3, e_sl4, e_count, e_f1, e_f2, e_osh, e_owh, e_one, e_tt1, e_tt2, e_ctg1, e_ctg2, e_cn0, e_cn1, e_wi0, e_wi1, e_re0, e_re1, e_ifb1, e_ifb2, e_nm0, e_nm1, e_nm2, e_fa0, e_fa1, e_sum, e_allb, e_anyb, e_sp1, e_sp2, e_sp3, e_at0, e_at1, e_at2, e_at3, e_at4, e_at5, e_ixn40, e_ixn41, e_ixn42, e_ixn43, e_cp1, e_cp2, e_cp3, e_cp4, e_cp5, forall_eq, List.getD_cons_zero, List.getD_cons_succ, List.getD_nil, List.set_cons_zero, List.set_cons_succ, List.map_cons, List.map_nil, Option.map_some, Option.map_none, Option.bind_some, Option.bind_none, Option.getD_some, Option.some.injEq, exists_eq_left', exists_eq_left, exists_eq', exists_eq, decide_eq_true_eq, List.length_map, exists_eq_right, exists_and_left, exists_and_right, Option.isSome_some, T.int.injEq, T.str.injEq, T.lst.injEq, T.tup.injEq, T.bl.injEq, List.cons.injEq, Prod.mk.injEq, Hn.tm.injEq, true_and, and_true, and_assoc, and_self, ne_eq, not_false_eq_true, not_true_eq_false, ite_true, ite_false, if_true, if_false, reduceIte, reduceCtorEq, Bool.false_eq_true, false_and, and_false, imp_self, forall_const, implies_true, List.length_cons, List.length_nil, Nat.reduceAdd, Nat.reduceEqDiff, Bool.false_bne, Bool.true_bne, Bool.not_false, Bool.not_true, List.nil_append, List.cons_append, Int.reduceToNat, Int.reducePow, Int.reduceMul, Int.reduceSub, Int.reduceAdd, Int.reduceNeg, kt_NoneType_int, kt_NoneType_bool, kt_NoneType_str, kt_NoneType_list, kt_NoneType_tuple, kt_bool_int, kt_bool_bool, kt_bool_str, kt_bool_list, kt_bool_tuple, kt_int_int, kt_int_bool, kt_int_str, kt_int_list, kt_int_tuple, kt_str_int, kt_str_bool, kt_str_str, kt_str_list, kt_str_tuple, kt_list_int, kt_list_bool, kt_list_str, kt_list_list, kt_list_tuple, kt_tuple_int, kt_tuple_bool, kt_tuple_str, kt_tuple_list, kt_tuple_tuple, kt_dict_int, kt_dict_bool, kt_dict_str, kt_dict_list, kt_dict_tuple, e_ii_non, e_ii_bl, e_ii_int, e_ii_str, e_ii_lst, e_ii_scr, e_ii_tup, e_ii_dK, e_ii_dT, e_ii_ins, dCallL, e_argL, e_fl1, e_fl2, e_fl3, e_fl4, List.all_cons, List.all_nil, dDict, dDict0, e_keys0, e_keysS, e_keysI, e_cl_non, e_cl_bl, e_cl_int, e_pl_int, e_cl_str, e_cl_lst, e_cl_scr, e_cl_tup, e_cl_dK, e_cl_dT, e_iq1, e_iq2, e_nn1, e_nn2, e_nn3, e_nn4, e_inp, e_ixd, Int.cast_ofNat_Int, Int.natCast_succ, decide_true, decide_false, Int.reduceEq, Int.reduceLT, Int.reduceLE, Int.reduceNe, Nat.reduceLT, Nat.reduceLeDiff, Bool.and_true, Bool.true_and, Bool.and_false, Bool.false_and, Bool.not_eq_true, Bool.or_true, Bool.or_false, Int.natCast_add, Int.natCast_one, Int.zero_add, Int.add_zero]
        refine ⟨by omega, hK _ (loop__law_all_2 Q l hl xs _ _ _ (.inr rfl) rfl (by rw [List.length_append]; omega) (fun a m => hx a (List.mem_cons_of_mem _ m)) fun s3 s5 => ?_)⟩
        have := q s3 s5
        rw [List.map_cons, List.flatten_cons, ← List.append_assoc] at this
        exact this
    rcases h3 with rfl | rfl
    · simp only [sSeq, sSet, sPar, sIf, sRet, sRetN, sDrop, sNext, sDead, sBrk, sCnt, sAsg, sFor, dNm, dTm, dC, dOp1, dOp2, dOpN, dMt, dMut, dCall, dLst, dTup, dNil, dCons, dVn, dVc, dSl, dSl3, dNoP, dPrt, dIf, dAndV, dOrV, dNotV, dBv, dTru, dNotT, dAndT, dOrT, dChn, dEqQ, dRpQ, qOp, qNil, qCons, qLs, qTp, dSrc, dRng1, dRng2, dZip2, dEnum, dComp, dYes, gNm, gTp, gCn, gNi, gIt, e_var, e_var1, e_var2, e_var3, e_var4, e_mov, e_mov1, e_mov2, e_mov3, e_mov4, e_tr1, e_tr2, e_tr3, e_tr4, e_tr5, e_own1, e_own2, e_reo1, e_reo2, e_of1, e_of2, e_pin1, e_pin2, e_pin3, e_arg1, e_arg2, e_arg3, e_arg4, e_isarg1, e_isarg2, e_conv1, e_conv2, e_conv3, e_conv4, e_conv5, e_conv6, e_sown1, e_sown2, e_sown3, e_sown4, e_put1, e_put2, e_po1, e_po2, e_p1, e_p2, e_ao1, e_ao2, e_nd0, e_nd1, e_nd2, e_sl, e_get1, e_get2, e_is, e_all, e_gets0, e_gets1, e_gets2, e_tms0, e_tms1, e_qg1, e_qg2, e_qg3, e_qgs0, e_qgs1, e_its1, e_its2, e_its3, e_its4, e_jts1, e_jts2, e_jts4, e_mt1, e_mt2, e_ty1, e_add1, e_add2, e_add3, e_sub, e_mul1, e_mul2, e_mul3, e_fdiv, e_mod, e_pow, e_neg, e_len1, e_len2, e_len3, e_len4, e_int1, e_int2, e_abs, e_max, e_min, e_ix1, e_ix2, e_ix3, e_ix4, e_eq1, e_eq2, e_eq3, e_lt1, e_le1, e_gt1, e_ge1, e_lt2, e_in1, e_app, e_ext, e_rev, e_clr, e_set, e_sl1, e_sl2, e_sl3, e_sl4, e_count, e_f1, e_f2, e_osh, e_owh, e_one, e_tt1, e_tt2, e_ctg1, e_ctg2, e_cn0, e_cn1, e_wi0, e_wi1, e_re0, e_re1, e_ifb1, e_ifb2, e_nm0, e_nm1, e_nm2, e_fa0, e_fa1, e_sum, e_allb, e_anyb, e_sp1, e_sp2, e_sp3, e_at0, e_at1, e_at2, e_at3, e_at4, e_at5, e_ixn40, e_ixn41, e_ixn42, e_ixn43, e_cp1, e_cp2, e_cp3, e_cp4, e_cp5, forall_eq, List.getD_cons_zero, List.getD_cons_succ, List.getD_nil, List.set_cons_zero, List.set_cons_succ, List.map_cons, List.map_nil, Option.map_some, Option.map_none, Option.bind_some, Option.bind_none, Option.getD_some, Option.some.injEq, exists_eq_left', exists_eq_left, exists_eq', exists_eq, decide_eq_true_eq, List.length_map, exists_eq_right, exists_and_left, exists_and_right, Option.isSome_some, T.int.injEq, T.str.injEq, T.lst.injEq, T.tup.injEq, T.bl.injEq, List.cons.injEq, Prod.mk.injEq, Hn.tm.injEq, true_and, and_true, and_assoc, and_self, ne_eq, not_false_eq_true, not_true_eq_false, ite_true, ite_false, if_true, if_false, reduceIte, reduceCtorEq, Bool.false_eq_true, false_and, and_false, imp_self, forall_const, implies_true, List.length_cons, List.length_nil, Nat.reduceAdd, Nat.reduceEqDiff, Bool.false_bne, Bool.true_bne, Bool.not_false, Bool.not_true, List.nil_append, List.cons_append, Int.reduceToNat, Int.reducePow, Int.reduceMul, Int.reduceSub, Int.reduceAdd, Int.reduceNeg, kt_NoneType_int, kt_NoneType_bool, kt_NoneType_str, kt_NoneType_list, kt_NoneType_tuple, kt_bool_int, kt_bool_bool, kt_bool_str, kt_bool_list, kt_bool_tuple, kt_int_int, kt_int_bool, kt_int_str, kt_int_list, kt_int_tuple, kt_str_int, kt_str_bool, kt_str_str, kt_str_list, kt_str_tuple, kt_list_int, kt_list_bool, kt_list_str, kt_list_list, kt_list_tuple, kt_tuple_int, kt_tuple_bool, kt_tuple_str, kt_tuple_list, kt_tuple_tuple, kt_dict_int, kt_dict_bool, kt_dict_str, kt_dict_list, kt_dict_tuple, e_ii_non, e_ii_bl, e_ii_int, e_ii_str, e_ii_lst, e_ii_scr, e_ii_tup, e_ii_dK, e_ii_dT, e_ii_ins, dCallL, e_argL, e_fl1, e_fl2, e_fl3, e_fl4, List.all_cons, List.all_nil, dDict, dDict0, e_keys0, e_keysS, e_keysI, e_cl_non, e_cl_bl, e_cl_int, e_pl_int, e_cl_str, e_cl_lst, e_cl_scr, e_cl_tup, e_cl_dK, e_cl_dT, e_iq1, e_iq2, e_nn1, e_nn2, e_nn3, e_nn4, e_inp, e_ixd, Int.cast_ofNat_Int, Int.natCast_succ, decide_true, decide_false, Int.reduceEq, Int.reduceLT, Int.reduceLE, Int.reduceNe, Nat.reduceLT, Nat.reduceLeDiff, Bool.and_true, Bool.true_and, Bool.and_false, Bool.false_and, Bool.not_eq_true, Bool.or_true, Bool.or_false, Int.natCast_add, Int.natCast_one, Int.zero_add, Int.add_zero, h5, B__law_all_2_1]
      exact mid
    · simp only [sSeq, sSet, sPar, sIf, sRet, sRetN, sDrop, sNext, sDead, sBrk, sCnt, sAsg, sFor, dNm, dTm, dC, dOp1, dOp2, dOpN, dMt, dMut, dCall, dLst, dTup, dNil, dCons, dVn, dVc, dSl, dSl3, dNoP, dPrt, dIf, dAndV, dOrV, dNotV, dBv, dTru, dNotT, dAndT, dOrT, dChn, dEqQ, dRpQ, qOp, qNil, qCons, qLs, qTp, dSrc, dRng1, dRng2, dZip2, dEnum, dComp, dYes, gNm, gTp, gCn, gNi, gIt, e_var, e_var1, e_var2, e_var3, e_var4, e_mov, e_mov1, e_mov2, e_mov3, e_mov4, e_tr1, e_tr2, e_tr3, e_tr4, e_tr5, e_own1, e_own2, e_reo1, e_reo2, e_of1, e_of2, e_pin1, e_pin2, e_pin3, e_arg1, e_arg2, e_arg3, e_arg4, e_isarg1, e_isarg2, e_conv1, e_conv2, e_conv3, e_conv4, e_conv5, e_conv6, e_sown1, e_sown2, e_sown3, e_sown4, e_put1, e_put2, e_po1, e_po2, e_p1, e_p2, e_ao1, e_ao2, e_nd0, e_nd1, e_nd2, e_sl, e_get1, e_get2, e_is, e_all, e_gets0, e_gets1, e_gets2, e_tms0, e_tms1, e_qg1, e_qg2, e_qg3, e_qgs0, e_qgs1, e_its1, e_its2, e_its3, e_its4, e_jts1, e_jts2, e_jts4, e_mt1, e_mt2, e_ty1, e_add1, e_add2, e_add3, e_sub, e_mul1, e_mul2, e_mul3, e_fdiv, e_mod, e_pow, e_neg, e_len1, e_len2, e_len3, e_len4, e_int1, e_int2, e_abs, e_max, e_min, e_ix1, e_ix2, e_ix3, e_ix4, e_eq1, e_eq2, e_eq3, e_lt1, e_le1, e_gt1, e_ge1, e_lt2, e_in1, e_app, e_ext, e_rev, e_clr, e_set, e_sl1, e_sl2, e_sl3, e_sl4, e_count, e_f1, e_f2, e_osh, e_owh, e_one, e_tt1, e_tt2, e_ctg1, e_ctg2, e_cn0, e_cn1, e_wi0, e_wi1, e_re0, e_re1, e_ifb1, e_ifb2, e_nm0, e_nm1, e_nm2, e_fa0, e_fa1, e_sum, e_allb, e_anyb, e_sp1, e_sp2, e_sp3, e_at0, e_at1, e_at2, e_at3, e_at4, e_at5, e_ixn40, e_ixn41, e_ixn42, e_ixn43, e_cp1, e_cp2, e_cp3, e_cp4, e_cp5, forall_eq, List.getD_cons_zero, List.getD_cons_succ, List.getD_nil, List.set_cons_zero, List.set_cons_succ, List.map_cons, List.map_nil, Option.map_some, Option.map_none, Option.bind_some, Option.bind_none, Option.getD_some, Option.some.injEq, exists_eq_left', exists_eq_left, exists_eq', exists_eq, decide_eq_true_eq, List.length_map, exists_eq_right, exists_and_left, exists_and_right, Option.isSome_some, T.int.injEq, T.str.injEq, T.lst.injEq, T.tup.injEq, T.bl.injEq, List.cons.injEq, Prod.mk.injEq, Hn.tm.injEq, true_and, and_true, and_assoc, and_self, ne_eq, not_false_eq_true, not_true_eq_false, ite_true, ite_false, if_true, if_false, reduceIte, reduceCtorEq, Bool.false_eq_true, false_and, and_false, imp_self, forall_const, implies_true, List.length_cons, List.length_nil, Nat.reduceAdd, Nat.reduceEqDiff, Bool.false_bne, Bool.true_bne, Bool.not_false, Bool.not_true, List.nil_append, List.cons_append, Int.reduceToNat, Int.reducePow, Int.reduceMul, Int.reduceSub, Int.reduceAdd, Int.reduceNeg, kt_NoneType_int, kt_NoneType_bool, kt_NoneType_str, kt_NoneType_list, kt_NoneType_tuple, kt_bool_int, kt_bool_bool, kt_bool_str, kt_bool_list, kt_bool_tuple, kt_int_int, kt_int_bool, kt_int_str, kt_int_list, kt_int_tuple, kt_str_int, kt_str_bool, kt_str_str, kt_str_list, kt_str_tuple, kt_list_int, kt_list_bool, kt_list_str, kt_list_list, kt_list_tuple, kt_tuple_int, kt_tuple_bool, kt_tuple_str, kt_tuple_list, kt_tuple_tuple, kt_dict_int, kt_dict_bool, kt_dict_str, kt_dict_list, kt_dict_tuple, e_ii_non, e_ii_bl, e_ii_int, e_ii_str, e_ii_lst, e_ii_scr, e_ii_tup, e_ii_dK, e_ii_dT, e_ii_ins, dCallL, e_argL, e_fl1, e_fl2, e_fl3, e_fl4, List.all_cons, List.all_nil, dDict, dDict0, e_keys0, e_keysS, e_keysI, e_cl_non, e_cl_bl, e_cl_int, e_pl_int, e_cl_str, e_cl_lst, e_cl_scr, e_cl_tup, e_cl_dK, e_cl_dT, e_iq1, e_iq2, e_nn1, e_nn2, e_nn3, e_nn4, e_inp, e_ixd, Int.cast_ofNat_Int, Int.natCast_succ, decide_true, decide_false, Int.reduceEq, Int.reduceLT, Int.reduceLE, Int.reduceNe, Nat.reduceLT, Nat.reduceLeDiff, Bool.and_true, Bool.true_and, Bool.and_false, Bool.false_and, Bool.not_eq_true, Bool.or_true, Bool.or_false, Int.natCast_add, Int.natCast_one, Int.zero_add, Int.add_zero, h5, B__law_all_2_1]
      exact mid
def fAllL : List T → Ot
  | [.str l] => ⟨l.length ≤ 200, (true, .lst (swapsT l))⟩
  | _ => .no
theorem h__law_all_2 (ars : Rho) (Q : Po Rv) (h : SP fAllL ars Q) : D__law_all_2 (ars ++ List.replicate 6 .no) (fwish ars Q) := by
  obtain ⟨ts, rfl, pre, q⟩ := h
  revert pre q
  unfold fAllL
  split
  · rename_i l
    intro pre q
    have pre : l.length ≤ 200 := pre
    have hs := sizeLine_eq
    have pl := places_len l [97, 98]
    show D__law_all_2 [.sh (.str l), .no, .no, .no, .no, .no, .no] _
    have ex : ((List.range ((l.length : Nat) : Int).toNat).map fun i : Nat => (0 : Int) + (i : Int)) = (List.range l.length).map fun i : Nat => (i : Int) := by
      rw [Int.toNat_natCast]
      exact List.map_congr_left fun i _ => by omega
    simp only [sSeq, sSet, sPar, sIf, sRet, sRetN, sDrop, sNext, sDead, sBrk, sCnt, sAsg, sFor, dNm, dTm, dC, dOp1, dOp2, dOpN, dMt, dMut, dCall, dLst, dTup, dNil, dCons, dVn, dVc, dSl, dSl3, dNoP, dPrt, dIf, dAndV, dOrV, dNotV, dBv, dTru, dNotT, dAndT, dOrT, dChn, dEqQ, dRpQ, qOp, qNil, qCons, qLs, qTp, dSrc, dRng1, dRng2, dZip2, dEnum, dComp, dYes, gNm, gTp, gCn, gNi, gIt, e_var, e_var1, e_var2, e_var3, e_var4, e_mov, e_mov1, e_mov2, e_mov3, e_mov4, e_tr1, e_tr2, e_tr3, e_tr4, e_tr5, e_own1, e_own2, e_reo1, e_reo2, e_of1, e_of2, e_pin1, e_pin2, e_pin3, e_arg1, e_arg2, e_arg3, e_arg4, e_isarg1, e_isarg2, e_conv1, e_conv2, e_conv3, e_conv4, e_conv5, e_conv6, e_sown1, e_sown2, e_sown3, e_sown4, e_put1, e_put2, e_po1, e_po2, e_p1, e_p2, e_ao1, e_ao2, e_nd0, e_nd1, e_nd2, e_sl, e_get1, e_get2, e_is, e_all, e_gets0, e_gets1, e_gets2, e_tms0, e_tms1, e_qg1, e_qg2, e_qg3, e_qgs0, e_qgs1, e_its1, e_its2, e_its3, e_its4, e_jts1, e_jts2, e_jts4, e_mt1, e_mt2, e_ty1, e_add1, e_add2, e_add3, e_sub, e_mul1, e_mul2, e_mul3, e_fdiv, e_mod, e_pow, e_neg, e_len1, e_len2, e_len3, e_len4, e_int1, e_int2, e_abs, e_max, e_min, e_ix1, e_ix2, e_ix3, e_ix4, e_eq1, e_eq2, e_eq3, e_lt1, e_le1, e_gt1, e_ge1, e_lt2, e_in1, e_app, e_ext, e_rev, e_clr, e_set, e_sl1, e_sl2, e_sl3, e_sl4, e_count, e_f1, e_f2, e_osh, e_owh, e_one, e_tt1, e_tt2, e_ctg1, e_ctg2, e_cn0, e_cn1, e_wi0, e_wi1, e_re0, e_re1, e_ifb1, e_ifb2, e_nm0, e_nm1, e_nm2, e_fa0, e_fa1, e_sum, e_allb, e_anyb, e_sp1, e_sp2, e_sp3, e_at0, e_at1, e_at2, e_at3, e_at4, e_at5, e_ixn40, e_ixn41, e_ixn42, e_ixn43, e_cp1, e_cp2, e_cp3, e_cp4, e_cp5, forall_eq, List.getD_cons_zero, List.getD_cons_succ, List.getD_nil, List.set_cons_zero, List.set_cons_succ, List.map_cons, List.map_nil, Option.map_some, Option.map_none, Option.bind_some, Option.bind_none, Option.getD_some, Option.some.injEq, exists_eq_left', exists_eq_left, exists_eq', exists_eq, decide_eq_true_eq, List.length_map, exists_eq_right, exists_and_left, exists_and_right, Option.isSome_some, T.int.injEq, T.str.injEq, T.lst.injEq, T.tup.injEq, T.bl.injEq, List.cons.injEq, Prod.mk.injEq, Hn.tm.injEq, true_and, and_true, and_assoc, and_self, ne_eq, not_false_eq_true, not_true_eq_false, ite_true, ite_false, if_true, if_false, reduceIte, reduceCtorEq, Bool.false_eq_true, false_and, and_false, imp_self, forall_const, implies_true, List.length_cons, List.length_nil, Nat.reduceAdd, Nat.reduceEqDiff, Bool.false_bne, Bool.true_bne, Bool.not_false, Bool.not_true, List.nil_append, List.cons_append, Int.reduceToNat, Int.reducePow, Int.reduceMul, Int.reduceSub, Int.reduceAdd, Int.reduceNeg, kt_NoneType_int, kt_NoneType_bool, kt_NoneType_str, kt_NoneType_list, kt_NoneType_tuple, kt_bool_int, kt_bool_bool, kt_bool_str, kt_bool_list, kt_bool_tuple, kt_int_int, kt_int_bool, kt_int_str, kt_int_list, kt_int_tuple, kt_str_int, kt_str_bool, kt_str_str, kt_str_list, kt_str_tuple, kt_list_int, kt_list_bool, kt_list_str, kt_list_list, kt_list_tuple, kt_tuple_int, kt_tuple_bool, kt_tuple_str, kt_tuple_list, kt_tuple_tuple, kt_dict_int, kt_dict_bool, kt_dict_str, kt_dict_list, kt_dict_tuple, e_ii_non, e_ii_bl, e_ii_int, e_ii_str, e_ii_lst, e_ii_scr, e_ii_tup, e_ii_dK, e_ii_dT, e_ii_ins, dCallL, e_argL, e_fl1, e_fl2, e_fl3, e_fl4, List.all_cons, List.all_nil, dDict, dDict0, e_keys0, e_keysS, e_keysI, e_cl_non, e_cl_bl, e_cl_int, e_pl_int, e_cl_str, e_cl_lst, e_cl_scr, e_cl_tup, e_cl_dK, e_cl_dT, e_iq1, e_iq2, e_nn1, e_nn2, e_nn3, e_nn4, e_inp, e_ixd, Int.cast_ofNat_Int, Int.natCast_succ, decide_true, decide_false, Int.reduceEq, Int.reduceLT, Int.reduceLE, Int.reduceNe, Nat.reduceLT, Nat.reduceLeDiff, Bool.and_true, Bool.true_and, Bool.and_false, Bool.false_and, Bool.not_eq_true, Bool.or_true, Bool.or_false, Int.natCast_add, Int.natCast_one, Int.zero_add, Int.add_zero, D__law_all_2]
    rw [rangeT_eq, ex]
    refine ⟨by omega, ⟨by omega, by omega⟩, ?_⟩
    refine comp_if (w := T.int) (atP l [97, 98]) T.int (fun i m A B hA => ?_) (by simp; omega) ?_
    · unfold atP at hA
      simp only [sSeq, sSet, sPar, sIf, sRet, sRetN, sDrop, sNext, sDead, sBrk, sCnt, sAsg, sFor, dNm, dTm, dC, dOp1, dOp2, dOpN, dMt, dMut, dCall, dLst, dTup, dNil, dCons, dVn, dVc, dSl, dSl3, dNoP, dPrt, dIf, dAndV, dOrV, dNotV, dBv, dTru, dNotT, dAndT, dOrT, dChn, dEqQ, dRpQ, qOp, qNil, qCons, qLs, qTp, dSrc, dRng1, dRng2, dZip2, dEnum, dComp, dYes, gNm, gTp, gCn, gNi, gIt, e_var, e_var1, e_var2, e_var3, e_var4, e_mov, e_mov1, e_mov2, e_mov3, e_mov4, e_tr1, e_tr2, e_tr3, e_tr4, e_tr5, e_own1, e_own2, e_reo1, e_reo2, e_of1, e_of2, e_pin1, e_pin2, e_pin3, e_arg1, e_arg2, e_arg3, e_arg4, e_isarg1, e_isarg2, e_conv1, e_conv2, e_conv3, e_conv4, e_conv5, e_conv6, e_sown1, e_sown2, e_sown3, e_sown4, e_put1, e_put2, e_po1, e_po2, e_p1, e_p2, e_ao1, e_ao2, e_nd0, e_nd1, e_nd2, e_sl, e_get1, e_get2, e_is, e_all, e_gets0, e_gets1, e_gets2, e_tms0, e_tms1, e_qg1, e_qg2, e_qg3, e_qgs0, e_qgs1, e_its1, e_its2, e_its3, e_its4, e_jts1, e_jts2, e_jts4, e_mt1, e_mt2, e_ty1, e_add1, e_add2, e_add3, e_sub, e_mul1, e_mul2, e_mul3, e_fdiv, e_mod, e_pow, e_neg, e_len1, e_len2, e_len3, e_len4, e_int1, e_int2, e_abs, e_max, e_min, e_ix1, e_ix2, e_ix3, e_ix4, e_eq1, e_eq2, e_eq3, e_lt1, e_le1, e_gt1, e_ge1, e_lt2, e_in1, e_app, e_ext, e_rev, e_clr, e_set, e_sl1, e_sl2, e_sl3, e_sl4, e_count, e_f1, e_f2, e_osh, e_owh, e_one, e_tt1, e_tt2, e_ctg1, e_ctg2, e_cn0, e_cn1, e_wi0, e_wi1, e_re0, e_re1, e_ifb1, e_ifb2, e_nm0, e_nm1, e_nm2, e_fa0, e_fa1, e_sum, e_allb, e_anyb, e_sp1, e_sp2, e_sp3, e_at0, e_at1, e_at2, e_at3, e_at4, e_at5, e_ixn40, e_ixn41, e_ixn42, e_ixn43, e_cp1, e_cp2, e_cp3, e_cp4, e_cp5, forall_eq, List.getD_cons_zero, List.getD_cons_succ, List.getD_nil, List.set_cons_zero, List.set_cons_succ, List.map_cons, List.map_nil, Option.map_some, Option.map_none, Option.bind_some, Option.bind_none, Option.getD_some, Option.some.injEq, exists_eq_left', exists_eq_left, exists_eq', exists_eq, decide_eq_true_eq, List.length_map, exists_eq_right, exists_and_left, exists_and_right, Option.isSome_some, T.int.injEq, T.str.injEq, T.lst.injEq, T.tup.injEq, T.bl.injEq, List.cons.injEq, Prod.mk.injEq, Hn.tm.injEq, true_and, and_true, and_assoc, and_self, ne_eq, not_false_eq_true, not_true_eq_false, ite_true, ite_false, if_true, if_false, reduceIte, reduceCtorEq, Bool.false_eq_true, false_and, and_false, imp_self, forall_const, implies_true, List.length_cons, List.length_nil, Nat.reduceAdd, Nat.reduceEqDiff, Bool.false_bne, Bool.true_bne, Bool.not_false, Bool.not_true, List.nil_append, List.cons_append, Int.reduceToNat, Int.reducePow, Int.reduceMul, Int.reduceSub, Int.reduceAdd, Int.reduceNeg, kt_NoneType_int, kt_NoneType_bool, kt_NoneType_str, kt_NoneType_list, kt_NoneType_tuple, kt_bool_int, kt_bool_bool, kt_bool_str, kt_bool_list, kt_bool_tuple, kt_int_int, kt_int_bool, kt_int_str, kt_int_list, kt_int_tuple, kt_str_int, kt_str_bool, kt_str_str, kt_str_list, kt_str_tuple, kt_list_int, kt_list_bool, kt_list_str, kt_list_list, kt_list_tuple, kt_tuple_int, kt_tuple_bool, kt_tuple_str, kt_tuple_list, kt_tuple_tuple, kt_dict_int, kt_dict_bool, kt_dict_str, kt_dict_list, kt_dict_tuple, e_ii_non, e_ii_bl, e_ii_int, e_ii_str, e_ii_lst, e_ii_scr, e_ii_tup, e_ii_dK, e_ii_dT, e_ii_ins, dCallL, e_argL, e_fl1, e_fl2, e_fl3, e_fl4, List.all_cons, List.all_nil, dDict, dDict0, e_keys0, e_keysS, e_keysI, e_cl_non, e_cl_bl, e_cl_int, e_pl_int, e_cl_str, e_cl_lst, e_cl_scr, e_cl_tup, e_cl_dK, e_cl_dT, e_iq1, e_iq2, e_nn1, e_nn2, e_nn3, e_nn4, e_inp, e_ixd, Int.cast_ofNat_Int, Int.natCast_succ, decide_true, decide_false, Int.reduceEq, Int.reduceLT, Int.reduceLE, Int.reduceNe, Nat.reduceLT, Nat.reduceLeDiff, Bool.and_true, Bool.true_and, Bool.and_false, Bool.false_and, Bool.not_eq_true, Bool.or_true, Bool.or_false, Int.natCast_add, Int.natCast_one, Int.zero_add, Int.add_zero]
      exact ⟨by omega, hA⟩
    · rw [places_ext rfl]
      simp only [sSeq, sSet, sPar, sIf, sRet, sRetN, sDrop, sNext, sDead, sBrk, sCnt, sAsg, sFor, dNm, dTm, dC, dOp1, dOp2, dOpN, dMt, dMut, dCall, dLst, dTup, dNil, dCons, dVn, dVc, dSl, dSl3, dNoP, dPrt, dIf, dAndV, dOrV, dNotV, dBv, dTru, dNotT, dAndT, dOrT, dChn, dEqQ, dRpQ, qOp, qNil, qCons, qLs, qTp, dSrc, dRng1, dRng2, dZip2, dEnum, dComp, dYes, gNm, gTp, gCn, gNi, gIt, e_var, e_var1, e_var2, e_var3, e_var4, e_mov, e_mov1, e_mov2, e_mov3, e_mov4, e_tr1, e_tr2, e_tr3, e_tr4, e_tr5, e_own1, e_own2, e_reo1, e_reo2, e_of1, e_of2, e_pin1, e_pin2, e_pin3, e_arg1, e_arg2, e_arg3, e_arg4, e_isarg1, e_isarg2, e_conv1, e_conv2, e_conv3, e_conv4, e_conv5, e_conv6, e_sown1, e_sown2, e_sown3, e_sown4, e_put1, e_put2, e_po1, e_po2, e_p1, e_p2, e_ao1, e_ao2, e_nd0, e_nd1, e_nd2, e_sl, e_get1, e_get2, e_is, e_all, e_gets0, e_gets1, e_gets2, e_tms0, e_tms1, e_qg1, e_qg2, e_qg3, e_qgs0, e_qgs1, e_its1, e_its2, e_its3, e_its4, e_jts1, e_jts2, e_jts4, e_mt1, e_mt2, e_ty1, e_add1, e_add2, e_add3, e_sub, e_mul1, e_mul2, e_mul3, e_fdiv, e_mod, e_pow, e_neg, e_len1, e_len2, e_len3, e_len4, e_int1, e_int2, e_abs, e_max, e_min, e_ix1, e_ix2, e_ix3, e_ix4, e_eq1, e_eq2, e_eq3, e_lt1, e_le1, e_gt1, e_ge1, e_lt2, e_in1, e_app, e_ext, e_rev, e_clr, e_set, e_sl1, e_sl2, e_sl3, e_sl4, e_count, e_f1, e_f2, e_osh, e_owh, e_one, e_tt1, e_tt2, e_ctg1, e_ctg2, e_cn0, e_cn1, e_wi0, e_wi1, e_re0, e_re1, e_ifb1, e_ifb2, e_nm0, e_nm1, e_nm2, e_fa0, e_fa1, e_sum, e_allb, e_anyb, e_sp1, e_sp2, e_sp3, e_at0, e_at1, e_at2, e_at3, e_at4, e_at5, e_ixn40, e_ixn41, e_ixn42, e_ixn43, e_cp1, e_cp2, e_cp3, e_cp4, e_cp5, forall_eq, List.getD_cons_zero, List.getD_cons_succ, List.getD_nil, List.set_cons_zero, List.set_cons_succ, List.map_cons, List.map_nil, Option.map_some, Option.map_none, Option.bind_some, Option.bind_none, Option.getD_some, Option.some.injEq, exists_eq_left', exists_eq_left, exists_eq', exists_eq, decide_eq_true_eq, List.length_map, exists_eq_right, exists_and_left, exists_and_right, Option.isSome_some, T.int.injEq, T.str.injEq, T.lst.injEq, T.tup.injEq, T.bl.injEq, List.cons.injEq, Prod.mk.injEq, Hn.tm.injEq, true_and, and_true, and_assoc, and_self, ne_eq, not_false_eq_true, not_true_eq_false, ite_true, ite_false, if_true, if_false, reduceIte, reduceCtorEq, Bool.false_eq_true, false_and, and_false, imp_self, forall_const, implies_true, List.length_cons, List.length_nil, Nat.reduceAdd, Nat.reduceEqDiff, Bool.false_bne, Bool.true_bne, Bool.not_false, Bool.not_true, List.nil_append, List.cons_append, Int.reduceToNat, Int.reducePow, Int.reduceMul, Int.reduceSub, Int.reduceAdd, Int.reduceNeg, kt_NoneType_int, kt_NoneType_bool, kt_NoneType_str, kt_NoneType_list, kt_NoneType_tuple, kt_bool_int, kt_bool_bool, kt_bool_str, kt_bool_list, kt_bool_tuple, kt_int_int, kt_int_bool, kt_int_str, kt_int_list, kt_int_tuple, kt_str_int, kt_str_bool, kt_str_str, kt_str_list, kt_str_tuple, kt_list_int, kt_list_bool, kt_list_str, kt_list_list, kt_list_tuple, kt_tuple_int, kt_tuple_bool, kt_tuple_str, kt_tuple_list, kt_tuple_tuple, kt_dict_int, kt_dict_bool, kt_dict_str, kt_dict_list, kt_dict_tuple, e_ii_non, e_ii_bl, e_ii_int, e_ii_str, e_ii_lst, e_ii_scr, e_ii_tup, e_ii_dK, e_ii_dT, e_ii_ins, dCallL, e_argL, e_fl1, e_fl2, e_fl3, e_fl4, List.all_cons, List.all_nil, dDict, dDict0, e_keys0, e_keysS, e_keysI, e_cl_non, e_cl_bl, e_cl_int, e_pl_int, e_cl_str, e_cl_lst, e_cl_scr, e_cl_tup, e_cl_dK, e_cl_dT, e_iq1, e_iq2, e_nn1, e_nn2, e_nn3, e_nn4, e_inp, e_ixd, Int.cast_ofNat_Int, Int.natCast_succ, decide_true, decide_false, Int.reduceEq, Int.reduceLT, Int.reduceLE, Int.reduceNe, Nat.reduceLT, Nat.reduceLeDiff, Bool.and_true, Bool.true_and, Bool.and_false, Bool.false_and, Bool.not_eq_true, Bool.or_true, Bool.or_false, Int.natCast_add, Int.natCast_one, Int.zero_add, Int.add_zero]
      rw [rangeT_eq, ex]
      refine ⟨by omega, ⟨by omega, by omega⟩, ?_⟩
      refine comp_if (w := T.int) (atP l [98, 97]) T.int (fun i m A B hA => ?_) (by simp; omega) ?_
      · unfold atP at hA
        simp only [sSeq, sSet, sPar, sIf, sRet, sRetN, sDrop, sNext, sDead, sBrk, sCnt, sAsg, sFor, dNm, dTm, dC, dOp1, dOp2, dOpN, dMt, dMut, dCall, dLst, dTup, dNil, dCons, dVn, dVc, dSl, dSl3, dNoP, dPrt, dIf, dAndV, dOrV, dNotV, dBv, dTru, dNotT, dAndT, dOrT, dChn, dEqQ, dRpQ, qOp, qNil, qCons, qLs, qTp, dSrc, dRng1, dRng2, dZip2, dEnum, dComp, dYes, gNm, gTp, gCn, gNi, gIt, e_var, e_var1, e_var2, e_var3, e_var4, e_mov, e_mov1, e_mov2, e_mov3, e_mov4, e_tr1, e_tr2, e_tr3, e_tr4, e_tr5, e_own1, e_own2, e_reo1, e_reo2, e_of1, e_of2, e_pin1, e_pin2, e_pin3, e_arg1, e_arg2, e_arg3, e_arg4, e_isarg1, e_isarg2, e_conv1, e_conv2, e_conv3, e_conv4, e_conv5, e_conv6, e_sown1, e_sown2, e_sown3, e_sown4, e_put1, e_put2, e_po1, e_po2, e_p1, e_p2, e_ao1, e_ao2, e_nd0, e_nd1, e_nd2, e_sl, e_get1, e_get2, e_is, e_all, e_gets0, e_gets1, e_gets2, e_tms0, e_tms1, e_qg1, e_qg2, e_qg3, e_qgs0, e_qgs1, e_its1, e_its2, e_its3, e_its4, e_jts1, e_jts2, e_jts4, e_mt1, e_mt2, e_ty1, e_add1, e_add2, e_add3, e_sub, e_mul1, e_mul2, e_mul3, e_fdiv, e_mod, e_pow, e_neg, e_len1, e_len2, e_len3, e_len4, e_int1, e_int2, e_abs, e_max, e_min, e_ix1, e_ix2, e_ix3, e_ix4, e_eq1, e_eq2, e_eq3, e_lt1, e_le1, e_gt1, e_ge1, e_lt2, e_in1, e_app, e_ext, e_rev, e_clr, e_set, e_sl1, e_sl2, e_sl3, e_sl4, e_count, e_f1, e_f2, e_osh, e_owh, e_one, e_tt1, e_tt2, e_ctg1, e_ctg2, e_cn0, e_cn1, e_wi0, e_wi1, e_re0, e_re1, e_ifb1, e_ifb2, e_nm0, e_nm1, e_nm2, e_fa0, e_fa1, e_sum, e_allb, e_anyb, e_sp1, e_sp2, e_sp3, e_at0, e_at1, e_at2, e_at3, e_at4, e_at5, e_ixn40, e_ixn41, e_ixn42, e_ixn43, e_cp1, e_cp2, e_cp3, e_cp4, e_cp5, forall_eq, List.getD_cons_zero, List.getD_cons_succ, List.getD_nil, List.set_cons_zero, List.set_cons_succ, List.map_cons, List.map_nil, Option.map_some, Option.map_none, Option.bind_some, Option.bind_none, Option.getD_some, Option.some.injEq, exists_eq_left', exists_eq_left, exists_eq', exists_eq, decide_eq_true_eq, List.length_map, exists_eq_right, exists_and_left, exists_and_right, Option.isSome_some, T.int.injEq, T.str.injEq, T.lst.injEq, T.tup.injEq, T.bl.injEq, List.cons.injEq, Prod.mk.injEq, Hn.tm.injEq, true_and, and_true, and_assoc, and_self, ne_eq, not_false_eq_true, not_true_eq_false, ite_true, ite_false, if_true, if_false, reduceIte, reduceCtorEq, Bool.false_eq_true, false_and, and_false, imp_self, forall_const, implies_true, List.length_cons, List.length_nil, Nat.reduceAdd, Nat.reduceEqDiff, Bool.false_bne, Bool.true_bne, Bool.not_false, Bool.not_true, List.nil_append, List.cons_append, Int.reduceToNat, Int.reducePow, Int.reduceMul, Int.reduceSub, Int.reduceAdd, Int.reduceNeg, kt_NoneType_int, kt_NoneType_bool, kt_NoneType_str, kt_NoneType_list, kt_NoneType_tuple, kt_bool_int, kt_bool_bool, kt_bool_str, kt_bool_list, kt_bool_tuple, kt_int_int, kt_int_bool, kt_int_str, kt_int_list, kt_int_tuple, kt_str_int, kt_str_bool, kt_str_str, kt_str_list, kt_str_tuple, kt_list_int, kt_list_bool, kt_list_str, kt_list_list, kt_list_tuple, kt_tuple_int, kt_tuple_bool, kt_tuple_str, kt_tuple_list, kt_tuple_tuple, kt_dict_int, kt_dict_bool, kt_dict_str, kt_dict_list, kt_dict_tuple, e_ii_non, e_ii_bl, e_ii_int, e_ii_str, e_ii_lst, e_ii_scr, e_ii_tup, e_ii_dK, e_ii_dT, e_ii_ins, dCallL, e_argL, e_fl1, e_fl2, e_fl3, e_fl4, List.all_cons, List.all_nil, dDict, dDict0, e_keys0, e_keysS, e_keysI, e_cl_non, e_cl_bl, e_cl_int, e_pl_int, e_cl_str, e_cl_lst, e_cl_scr, e_cl_tup, e_cl_dK, e_cl_dT, e_iq1, e_iq2, e_nn1, e_nn2, e_nn3, e_nn4, e_inp, e_ixd, Int.cast_ofNat_Int, Int.natCast_succ, decide_true, decide_false, Int.reduceEq, Int.reduceLT, Int.reduceLE, Int.reduceNe, Nat.reduceLT, Nat.reduceLeDiff, Bool.and_true, Bool.true_and, Bool.and_false, Bool.false_and, Bool.not_eq_true, Bool.or_true, Bool.or_false, Int.natCast_add, Int.natCast_one, Int.zero_add, Int.add_zero]
        exact ⟨by omega, hA⟩
      · rw [places_ext rfl]
        simp only [sSeq, sSet, sPar, sIf, sRet, sRetN, sDrop, sNext, sDead, sBrk, sCnt, sAsg, sFor, dNm, dTm, dC, dOp1, dOp2, dOpN, dMt, dMut, dCall, dLst, dTup, dNil, dCons, dVn, dVc, dSl, dSl3, dNoP, dPrt, dIf, dAndV, dOrV, dNotV, dBv, dTru, dNotT, dAndT, dOrT, dChn, dEqQ, dRpQ, qOp, qNil, qCons, qLs, qTp, dSrc, dRng1, dRng2, dZip2, dEnum, dComp, dYes, gNm, gTp, gCn, gNi, gIt, e_var, e_var1, e_var2, e_var3, e_var4, e_mov, e_mov1, e_mov2, e_mov3, e_mov4, e_tr1, e_tr2, e_tr3, e_tr4, e_tr5, e_own1, e_own2, e_reo1, e_reo2, e_of1, e_of2, e_pin1, e_pin2, e_pin3, e_arg1, e_arg2, e_arg3, e_arg4, e_isarg1, e_isarg2, e_conv1, e_conv2, e_conv3, e_conv4, e_conv5, e_conv6, e_sown1, e_sown2, e_sown3, e_sown4, e_put1, e_put2, e_po1, e_po2, e_p1, e_p2, e_ao1, e_ao2, e_nd0, e_nd1, e_nd2, e_sl, e_get1, e_get2, e_is, e_all, e_gets0, e_gets1, e_gets2, e_tms0, e_tms1, e_qg1, e_qg2, e_qg3, e_qgs0, e_qgs1, e_its1, e_its2, e_its3, e_its4, e_jts1, e_jts2, e_jts4, e_mt1, e_mt2, e_ty1, e_add1, e_add2, e_add3, e_sub, e_mul1, e_mul2, e_mul3, e_fdiv, e_mod, e_pow, e_neg, e_len1, e_len2, e_len3, e_len4, e_int1, e_int2, e_abs, e_max, e_min, e_ix1, e_ix2, e_ix3, e_ix4, e_eq1, e_eq2, e_eq3, e_lt1, e_le1, e_gt1, e_ge1, e_lt2, e_in1, e_app, e_ext, e_rev, e_clr, e_set, e_sl1, e_sl2, e_sl3, e_sl4, e_count, e_f1, e_f2, e_osh, e_owh, e_one, e_tt1, e_tt2, e_ctg1, e_ctg2, e_cn0, e_cn1, e_wi0, e_wi1, e_re0, e_re1, e_ifb1, e_ifb2, e_nm0, e_nm1, e_nm2, e_fa0, e_fa1, e_sum, e_allb, e_anyb, e_sp1, e_sp2, e_sp3, e_at0, e_at1, e_at2, e_at3, e_at4, e_at5, e_ixn40, e_ixn41, e_ixn42, e_ixn43, e_cp1, e_cp2, e_cp3, e_cp4, e_cp5, forall_eq, List.getD_cons_zero, List.getD_cons_succ, List.getD_nil, List.set_cons_zero, List.set_cons_succ, List.map_cons, List.map_nil, Option.map_some, Option.map_none, Option.bind_some, Option.bind_none, Option.getD_some, Option.some.injEq, exists_eq_left', exists_eq_left, exists_eq', exists_eq, decide_eq_true_eq, List.length_map, exists_eq_right, exists_and_left, exists_and_right, Option.isSome_some, T.int.injEq, T.str.injEq, T.lst.injEq, T.tup.injEq, T.bl.injEq, List.cons.injEq, Prod.mk.injEq, Hn.tm.injEq, true_and, and_true, and_assoc, and_self, ne_eq, not_false_eq_true, not_true_eq_false, ite_true, ite_false, if_true, if_false, reduceIte, reduceCtorEq, Bool.false_eq_true, false_and, and_false, imp_self, forall_const, implies_true, List.length_cons, List.length_nil, Nat.reduceAdd, Nat.reduceEqDiff, Bool.false_bne, Bool.true_bne, Bool.not_false, Bool.not_true, List.nil_append, List.cons_append, Int.reduceToNat, Int.reducePow, Int.reduceMul, Int.reduceSub, Int.reduceAdd, Int.reduceNeg, kt_NoneType_int, kt_NoneType_bool, kt_NoneType_str, kt_NoneType_list, kt_NoneType_tuple, kt_bool_int, kt_bool_bool, kt_bool_str, kt_bool_list, kt_bool_tuple, kt_int_int, kt_int_bool, kt_int_str, kt_int_list, kt_int_tuple, kt_str_int, kt_str_bool, kt_str_str, kt_str_list, kt_str_tuple, kt_list_int, kt_list_bool, kt_list_str, kt_list_list, kt_list_tuple, kt_tuple_int, kt_tuple_bool, kt_tuple_str, kt_tuple_list, kt_tuple_tuple, kt_dict_int, kt_dict_bool, kt_dict_str, kt_dict_list, kt_dict_tuple, e_ii_non, e_ii_bl, e_ii_int, e_ii_str, e_ii_lst, e_ii_scr, e_ii_tup, e_ii_dK, e_ii_dT, e_ii_ins, dCallL, e_argL, e_fl1, e_fl2, e_fl3, e_fl4, List.all_cons, List.all_nil, dDict, dDict0, e_keys0, e_keysS, e_keysI, e_cl_non, e_cl_bl, e_cl_int, e_pl_int, e_cl_str, e_cl_lst, e_cl_scr, e_cl_tup, e_cl_dK, e_cl_dT, e_iq1, e_iq2, e_nn1, e_nn2, e_nn3, e_nn4, e_inp, e_ixd, Int.cast_ofNat_Int, Int.natCast_succ, decide_true, decide_false, Int.reduceEq, Int.reduceLT, Int.reduceLE, Int.reduceNe, Nat.reduceLT, Nat.reduceLeDiff, Bool.and_true, Bool.true_and, Bool.and_false, Bool.false_and, Bool.not_eq_true, Bool.or_true, Bool.or_false, Int.natCast_add, Int.natCast_one, Int.zero_add, Int.add_zero]
        refine ⟨by omega, loop__law_all_2 _ l pre (placesI l [97, 98]) [] _ .no (.inl rfl) rfl (by simp; omega) (fun a m => (List.mem_filter.mp m).2) fun s3 s5 => ?_⟩
        simp only [sSeq, sSet, sPar, sIf, sRet, sRetN, sDrop, sNext, sDead, sBrk, sCnt, sAsg, sFor, dNm, dTm, dC, dOp1, dOp2, dOpN, dMt, dMut, dCall, dLst, dTup, dNil, dCons, dVn, dVc, dSl, dSl3, dNoP, dPrt, dIf, dAndV, dOrV, dNotV, dBv, dTru, dNotT, dAndT, dOrT, dChn, dEqQ, dRpQ, qOp, qNil, qCons, qLs, qTp, dSrc, dRng1, dRng2, dZip2, dEnum, dComp, dYes, gNm, gTp, gCn, gNi, gIt, e_var, e_var1, e_var2, e_var3, e_var4, e_mov, e_mov1, e_mov2, e_mov3, e_mov4, e_tr1, e_tr2, e_tr3, e_tr4, e_tr5, e_own1, e_own2, e_reo1, e_reo2, e_of1, e_of2, e_pin1, e_pin2, e_pin3, e_arg1, e_arg2, e_arg3, e_arg4, e_isarg1, e_isarg2, e_conv1, e_conv2, e_conv3, e_conv4, e_conv5, e_conv6, e_sown1, e_sown2, e_sown3, e_sown4, e_put1, e_put2, e_po1, e_po2, e_p1, e_p2, e_ao1, e_ao2, e_nd0, e_nd1, e_nd2, e_sl, e_get1, e_get2, e_is, e_all, e_gets0, e_gets1, e_gets2, e_tms0, e_tms1, e_qg1, e_qg2, e_qg3, e_qgs0, e_qgs1, e_its1, e_its2, e_its3, e_its4, e_jts1, e_jts2, e_jts4, e_mt1, e_mt2, e_ty1, e_add1, e_add2, e_add3, e_sub, e_mul1, e_mul2, e_mul3, e_fdiv, e_mod, e_pow, e_neg, e_len1, e_len2, e_len3, e_len4, e_int1, e_int2, e_abs, e_max, e_min, e_ix1, e_ix2, e_ix3, e_ix4, e_eq1, e_eq2, e_eq3, e_lt1, e_le1, e_gt1, e_ge1, e_lt2, e_in1, e_app, e_ext, e_rev, e_clr, e_set, e_sl1, e_sl2, e_sl3, e_sl4, e_count, e_f1, e_f2, e_osh, e_owh, e_one, e_tt1, e_tt2, e_ctg1, e_ctg2, e_cn0, e_cn1, e_wi0, e_wi1, e_re0, e_re1, e_ifb1, e_ifb2, e_nm0, e_nm1, e_nm2, e_fa0, e_fa1, e_sum, e_allb, e_anyb, e_sp1, e_sp2, e_sp3, e_at0, e_at1, e_at2, e_at3, e_at4, e_at5, e_ixn40, e_ixn41, e_ixn42, e_ixn43, e_cp1, e_cp2, e_cp3, e_cp4, e_cp5, forall_eq, List.getD_cons_zero, List.getD_cons_succ, List.getD_nil, List.set_cons_zero, List.set_cons_succ, List.map_cons, List.map_nil, Option.map_some, Option.map_none, Option.bind_some, Option.bind_none, Option.getD_some, Option.some.injEq, exists_eq_left', exists_eq_left, exists_eq', exists_eq, decide_eq_true_eq, List.length_map, exists_eq_right, exists_and_left, exists_and_right, Option.isSome_some, T.int.injEq, T.str.injEq, T.lst.injEq, T.tup.injEq, T.bl.injEq, List.cons.injEq, Prod.mk.injEq, Hn.tm.injEq, true_and, and_true, and_assoc, and_self, ne_eq, not_false_eq_true, not_true_eq_false, ite_true, ite_false, if_true, if_false, reduceIte, reduceCtorEq, Bool.false_eq_true, false_and, and_false, imp_self, forall_const, implies_true, List.length_cons, List.length_nil, Nat.reduceAdd, Nat.reduceEqDiff, Bool.false_bne, Bool.true_bne, Bool.not_false, Bool.not_true, List.nil_append, List.cons_append, Int.reduceToNat, Int.reducePow, Int.reduceMul, Int.reduceSub, Int.reduceAdd, Int.reduceNeg, kt_NoneType_int, kt_NoneType_bool, kt_NoneType_str, kt_NoneType_list, kt_NoneType_tuple, kt_bool_int, kt_bool_bool, kt_bool_str, kt_bool_list, kt_bool_tuple, kt_int_int, kt_int_bool, kt_int_str, kt_int_list, kt_int_tuple, kt_str_int, kt_str_bool, kt_str_str, kt_str_list, kt_str_tuple, kt_list_int, kt_list_bool, kt_list_str, kt_list_list, kt_list_tuple, kt_tuple_int, kt_tuple_bool, kt_tuple_str, kt_tuple_list, kt_tuple_tuple, kt_dict_int, kt_dict_bool, kt_dict_str, kt_dict_list, kt_dict_tuple, e_ii_non, e_ii_bl, e_ii_int, e_ii_str, e_ii_lst, e_ii_scr, e_ii_tup, e_ii_dK, e_ii_dT, e_ii_ins, dCallL, e_argL, e_fl1, e_fl2, e_fl3, e_fl4, List.all_cons, List.all_nil, dDict, dDict0, e_keys0, e_keysS, e_keysI, e_cl_non, e_cl_bl, e_cl_int, e_pl_int, e_cl_str, e_cl_lst, e_cl_scr, e_cl_tup, e_cl_dK, e_cl_dT, e_iq1, e_iq2, e_nn1, e_nn2, e_nn3, e_nn4, e_inp, e_ixd, Int.cast_ofNat_Int, Int.natCast_succ, decide_true, decide_false, Int.reduceEq, Int.reduceLT, Int.reduceLE, Int.reduceNe, Nat.reduceLT, Nat.reduceLeDiff, Bool.and_true, Bool.true_and, Bool.and_false, Bool.false_and, Bool.not_eq_true, Bool.or_true, Bool.or_false, Int.natCast_add, Int.natCast_one, Int.zero_add, Int.add_zero]
        exact q
  · intro pre; exact pre.elim
end O
namespace O
open PySem PySem.Spec PyProof.Rows L2
abbrev Pl := Int × Int
def swapsP (l : List Nat) : List Pl := ((placesI l [97, 98]).map fun a => ((placesI l [98, 97]).filter (swB a)).map fun b => (a, b)).flatten
/-- two letters exchanged, by slices -/
def cutS (l : List Nat) (i : Int) : List Nat := l.take i.toNat ++ ((l.drop i.toNat).take 2).reverse ++ l.drop (i.toNat + 2)
def aftP (l : List Nat) (p : Pl) : List Nat := cutS (cutS l p.1) p.2
/-- by items -/
def setS (l : List Nat) (i : Int) : List Nat := (l.set i.toNat (l.getD (i.toNat + 1) 0)).set (i.toNat + 1) (l.getD i.toNat 0)
def aftI (l : List Nat) (p : Pl) : List Nat := setS (setS l p.1) p.2
def lkS (found : List (List Nat × Int)) (k : List Nat) : Option Int := (found.find? fun x => decide (x.1 = k)).map (·.2)
def seenS (st : List (List Nat × Int) × List (List Nat)) (here : List Nat) (p : Pl) : List (List Nat × Int) × List (List Nat) :=
  match lkS st.1 (aftP here p) with
  | some _ => st
  | none => (st.1 ++ [(aftP here p, (lkS st.1 here).getD 0 + 1)], st.2 ++ [aftP here p])
def bfsS : Nat → List (List Nat × Int) → List (List Nat) → Nat → Option (List (List Nat × Int))
  | 0, _, _, _ => none
  | n + 1, found, waiting, place => match waiting[place]? with
    | none => some found
    | some here => bfsS n ((swapsP here).foldl (fun st p => seenS st here p) (found, waiting)).1 ((swapsP here).foldl (fun st p => seenS st here p) (found, waiting)).2 (place + 1)
def stepsS (l : List Nat) : Option (List (List Nat × Int)) := bfsS 20 [(l, 0)] [l] 0
def sameC (l o : List Nat) : Bool := decide (l.length = o.length) && (decide (l.count 97 = o.count 97) && decide (pairsL l = pairsL o))
def diffS (l o : List Nat) : List Int := ((prefL l).zip (prefL o)).map fun p => p.1 - p.2
def absI (i : Int) : Int := if i < 0 then -i else i
def fewS (l o : List Nat) : Int := ((diffS l o).map absI).sum / 2
def bringS (l o : List Nat) : Option Pl :=
  match (placesI l [97, 98]).filter fun i => decide (0 < (diffS l o).getD (i + 1).toNat 0), (placesI l [98, 97]).filter fun i => decide ((diffS l o).getD (i + 1).toNat 0 < 0) with
  | a :: _, b :: _ => some (a, b)
  | _, _ => none
def wayS : Nat → List Nat → List Nat → List Pl → Option (List Pl)
  | 0, _, _, _ => none
  | n + 1, o, here, acc => if here = o then some acc else match bringS here o with
    | none => none
    | some p => wayS n o (aftI here p) (acc ++ [p])
def isWayS (o : List Nat) : List Nat → List Pl → Bool
  | here, [] => decide (here = o)
  | here, p :: ps => decide (p ∈ swapsP here) && isWayS o (aftP here p) ps
def allR : Nat → List (List Nat)
  | 0 => [[]]
  | n + 1 => (allR n).map (97 :: ·) ++ (allR n).map (98 :: ·)
def sameL (l : List Nat) : List (List Nat) := (allR l.length).filter fun o => sameC l o
def okOne (l : List Nat) (x : List Nat × Int) : Bool :=
  sameC x.1 l && (decide (fewS l x.1 = x.2) && (decide (fewS x.1 l = x.2) && (match wayS 20 x.1 l [] with
    | some w => decide ((w.length : Int) = x.2) && isWayS x.1 l w
    | none => false)))
end O
namespace O
open PySem PySem.Spec PyProof.Rows L2
theorem mem_allR : ∀ {l : List Nat}, abS l → l ∈ allR l.length
  | [], _ => List.mem_singleton.mpr rfl
  | c :: l, h => by
    have ih := mem_allR (l := l) fun x m => h x (List.mem_cons_of_mem _ m)
    show c :: l ∈ (allR l.length).map (97 :: ·) ++ (allR l.length).map (98 :: ·)
    rcases h c List.mem_cons_self with rfl | rfl
    · exact List.mem_append_left _ (List.mem_map.mpr ⟨l, ih, rfl⟩)
    · exact List.mem_append_right _ (List.mem_map.mpr ⟨l, ih, rfl⟩)
structure Told15 (l : List Nat) (f : List (List Nat × Int)) : Prop where
  steps : stepsS l = some f
  srt : (f.map (·.1)).mergeSort leL = sameL l
  few : f.length < 64
  one : ∀ x ∈ f, okOne l x = true
structure One15 (l o : List Nat) (d : Int) (w : List Pl) : Prop where
  same : sameC o l = true
  f1 : fewS l o = d
  f2 : fewS o l = d
  way : wayS 20 o l [] = some w
  len : (w.length : Int) = d
  is : isWayS o l w = true
theorem one15 {l : List Nat} {x : List Nat × Int} (h : okOne l x = true) : ∃ w, One15 l x.1 x.2 w := by
  unfold okOne at h
  simp only [Bool.and_eq_true, decide_eq_true_eq] at h
  obtain ⟨h1, h2, h3, h4⟩ := h
  cases e : wayS 20 x.1 l [] with
  | none => rw [e] at h4; cases h4
  | some w =>
    rw [e] at h4
    simp only [Bool.and_eq_true, decide_eq_true_eq] at h4
    exact ⟨w, h1, h2, h3, e, h4.1, h4.2⟩
/-- a row with the same counts is reached -/
theorem Told15.at {l o : List Nat} {f : List (List Nat × Int)} (t : Told15 l f) (ho : abS o) (h : sameC l o = true) : ∃ d w, (o, d) ∈ f ∧ One15 l o d w := by
  have e : l.length = o.length := by
    unfold sameC at h
    simp only [Bool.and_eq_true, decide_eq_true_eq] at h
    exact h.1
  have m : o ∈ sameL l := by
    unfold sameL
    rw [List.mem_filter, e]
    exact ⟨mem_allR ho, h⟩
  rw [← t.srt] at m
  obtain ⟨x, mx, rfl⟩ := List.mem_map.mp (List.mem_mergeSort.mp m)
  obtain ⟨w, hw⟩ := one15 (t.one x mx)
  exact ⟨x.2, w, mx, hw⟩
end O
namespace O
open PySem PySem.Spec PyProof.Rows L2
theorem flat1 : ∀ m : List Nat, (m.map fun c => [c]).flatten = m
  | [] => rfl
  | c :: m => by rw [List.map_cons, List.flatten_cons, flat1 m]; rfl
theorem len1 : ∀ m : List Nat, ((m.map fun c => [c]).map (·.length)).sum = m.length
  | [] => rfl
  | c :: m => by simp only [List.map_cons, List.sum_cons, len1 m, List.length_cons, List.length_nil]; omega
def inS (l : List Nat) (i : Int) : Prop := 0 ≤ i ∧ i + 1 < l.length
def fAftI : List T → Ot
  | [.str l, .tup [.int a, .int b]] => ⟨l.length ≤ 10000 ∧ inS l a ∧ inS l b, (false, .str (aftI l (a, b)))⟩
  | _ => ⟨False, (false, .non)⟩
theorem setS_len (l : List Nat) (i : Int) : (setS l i).length = l.length := by
  unfold setS
  rw [List.length_set, List.length_set]
theorem map_set {α β : Type} (f : α → β) : ∀ (l : List α) (i : Nat) (x : α), (l.map f).set i (f x) = (l.set i x).map f
  | [], _, _ => rfl
  | _ :: _, 0, _ => rfl
  | y :: l, i + 1, x => by
    rw [List.map_cons, List.set_cons_succ, List.set_cons_succ, List.map_cons, map_set f l i x]
theorem ixN_in {n : Nat} {i : Int} (h0 : 0 ≤ i) (h1 : i < n) : ixN n i = some i.toNat := by
  unfold ixN
  rw [if_pos h0, if_pos h1]
theorem atI_str {l : List Nat} {i : Int} (h0 : 0 ≤ i) (h1 : i < l.length) : L2.atI (l.map fun c => T.str [c]) i = some (.str [l.getD i.toNat 0]) := by
  have e : i = (i.toNat : Int) := (Int.toNat_of_nonneg h0).symm
  have h2 : i.toNat < l.length := by omega
  generalize i.toNat = k at e h2
  rw [e, atI_nat, List.getElem?_map, List.getElem?_eq_getElem h2, List.getD_eq_getElem?_getD, List.getElem?_eq_getElem h2]
  rfl
theorem loop_after_swap (Q : PoS) (s0 s1 : Sl) : ∀ (ps : List Int) (l : List Nat) (s3 : Sl), s3.pin = false → l.length ≤ 10000 → (∀ i ∈ ps, inS l i) →
    (∀ s3, Q.nx [s0, s1, .ow (.lst ((ps.foldl setS l).map fun c => T.str [c])), s3]) →
    forD (gNm 3) B_after_swap_1 Q (ps.map T.int) [s0, s1, .ow (.lst (l.map fun c => T.str [c])), s3]
  | [], l, s3, h3, hl, hi, q => q s3
  | i :: ps, l, s3, h3, hl, hi, q => by
    have hs := sizeLine_eq
    obtain ⟨i0, i1⟩ := hi i List.mem_cons_self
    refine forD_step fun K hK => ?_
    have a1 := atI_str (l := l) (i := i) i0 (by omega)
    have a2 := atI_str (l := l) (i := i + 1) (by omega) (by omega)
    have x1 : ixN l.length i = some i.toNat := ixN_in i0 (by omega)
    have x2 : ixN l.length (i + 1) = some (i + 1).toNat := ixN_in (by omega) (by omega)
    have ih := hK _ (loop_after_swap Q s0 s1 ps (setS l i) (.sh (.int i)) rfl (by rw [setS_len]; exact hl) (fun j m => by
      have := hi j (List.mem_cons_of_mem _ m)
      unfold inS at this ⊢
      rw [setS_len]
      exact this) q)
    simp only [sSeq, sSet, sPar, sIf, sRet, sRetN, sDrop, sNext, sDead, sBrk, sCnt, sAsg, sFor, dNm, dTm, dC, dOp1, dOp2, dOpN, dMt, dMut, dCall, dLst, dTup, dNil, dCons, dVn, dVc, dSl, dSl3, dNoP, dPrt, dIf, dAndV, dOrV, dNotV, dBv, dTru, dNotT, dAndT, dOrT, dChn, dEqQ, dRpQ, qOp, qNil, qCons, qLs, qTp, dSrc, dRng1, dRng2, dZip2, dEnum, dComp, dYes, gNm, gTp, gCn, gNi, gIt, e_var, e_var1, e_var2, e_var3, e_var4, e_mov, e_mov1, e_mov2, e_mov3, e_mov4, e_tr1, e_tr2, e_tr3, e_tr4, e_tr5, e_own1, e_own2, e_reo1, e_reo2, e_of1, e_of2, e_pin1, e_pin2, e_pin3, e_arg1, e_arg2, e_arg3, e_arg4, e_isarg1, e_isarg2, e_conv1, e_conv2, e_conv3, e_conv4, e_conv5, e_conv6, e_sown1, e_sown2, e_sown3, e_sown4, e_put1, e_put2, e_po1, e_po2, e_p1, e_p2, e_ao1, e_ao2, e_nd0, e_nd1, e_nd2, e_sl, e_get1, e_get2, e_is, e_all, e_gets0, e_gets1, e_gets2, e_tms0, e_tms1, e_qg1, e_qg2, e_qg3, e_qgs0, e_qgs1, e_its1, e_its2, e_its3, e_its4, e_jts1, e_jts2, e_jts4, e_mt1, e_mt2, e_ty1, e_add1, e_add2, e_add3, e_sub, e_mul1, e_mul2, e_mul3, e_fdiv, e_mod, e_pow, e_neg, e_len1, e_len2, e_len3, e_len4, e_int1, e_int2, e_abs, e_max, e_min, e_ix1, e_ix2, e_ix3, e_ix4, e_eq1, e_eq2, e_eq3, e_lt1, e_le1, e_gt1, e_ge1, e_lt2, e_in1, e_app, e_ext, e_rev, e_clr, e_set, e_sl1, e_sl2, e_sl3, e_sl4, e_count, e_f1, e_f2, e_osh, e_owh, e_one, e_tt1, e_tt2, e_ctg1, e_ctg2, e_cn0, e_cn1, e_wi0, e_wi1, e_re0, e_re1, e_ifb1, e_ifb2, e_nm0, e_nm1, e_nm2, e_fa0, e_fa1, e_sum, e_allb, e_anyb, e_sp1, e_sp2, e_sp3, e_at0, e_at1, e_at2, e_at3, e_at4, e_at5, e_ixn40, e_ixn41, e_ixn42, e_ixn43, e_cp1, e_cp2, e_cp3, e_cp4, e_cp5, forall_eq, List.getD_cons_zero, List.getD_cons_succ, List.getD_nil, List.set_cons_zero, List.set_cons_succ, List.map_cons, List.map_nil, Option.map_some, Option.map_none, Option.bind_some, Option.bind_none, Option.getD_some, Option.some.injEq, exists_eq_left', exists_eq_left, exists_eq', exists_eq, decide_eq_true_eq, List.length_map, exists_eq_right, exists_and_left, exists_and_right, Option.isSome_some, T.int.injEq, T.str.injEq, T.lst.injEq, T.tup.injEq, T.bl.injEq, List.cons.injEq, Prod.mk.injEq, Hn.tm.injEq, true_and, and_true, and_assoc, and_self, ne_eq, not_false_eq_true, not_true_eq_false, ite_true, ite_false, if_true, if_false, reduceIte, reduceCtorEq, Bool.false_eq_true, false_and, and_false, imp_self, forall_const, implies_true, List.length_cons, List.length_nil, Nat.reduceAdd, Nat.reduceEqDiff, Bool.false_bne, Bool.true_bne, Bool.not_false, Bool.not_true, List.nil_append, List.cons_append, Int.reduceToNat, Int.reducePow, Int.reduceMul, Int.reduceSub, Int.reduceAdd, Int.reduceNeg, kt_NoneType_int, kt_NoneType_bool, kt_NoneType_str, kt_NoneType_list, kt_NoneType_tuple, kt_bool_int, kt_bool_bool, kt_bool_str, kt_bool_list, kt_bool_tuple, kt_int_int, kt_int_bool, kt_int_str, kt_int_list, kt_int_tuple, kt_str_int, kt_str_bool, kt_str_str, kt_str_list, kt_str_tuple, kt_list_int, kt_list_bool, kt_list_str, kt_list_list, kt_list_tuple, kt_tuple_int, kt_tuple_bool, kt_tuple_str, kt_tuple_list, kt_tuple_tuple, kt_dict_int, kt_dict_bool, kt_dict_str, kt_dict_list, kt_dict_tuple, e_ii_non, e_ii_bl, e_ii_int, e_ii_str, e_ii_lst, e_ii_scr, e_ii_tup, e_ii_dK, e_ii_dT, e_ii_ins, dCallL, e_argL, e_fl1, e_fl2, e_fl3, e_fl4, List.all_cons, List.all_nil, dDict, dDict0, e_keys0, e_keysS, e_keysI, e_cl_non, e_cl_bl, e_cl_int, e_pl_int, e_cl_str, e_cl_lst, e_cl_scr, e_cl_tup, e_cl_dK, e_cl_dT, e_iq1, e_iq2, e_nn1, e_nn2, e_nn3, e_nn4, e_inp, e_ixd, Int.cast_ofNat_Int, Int.natCast_succ, decide_true, decide_false, Int.reduceEq, Int.reduceLT, Int.reduceLE, Int.reduceNe, Nat.reduceLT, Nat.reduceLeDiff, Bool.and_true, Bool.true_and, Bool.and_false, Bool.false_and, Bool.not_eq_true, Bool.or_true, Bool.or_false, Int.natCast_add, Int.natCast_one, Int.zero_add, Int.add_zero, h3, B_after_swap_1, a1, a2, setL, List.length_map, List.length_set, x1, x2]
    have e1 : ((l.map fun c => T.str [c]).set i.toNat (T.str [l.getD (i + 1).toNat 0])).set (i + 1).toNat (T.str [l.getD i.toNat 0]) = (setS l i).map fun c => T.str [c] := by
      unfold setS
      rw [← map_set (fun c => T.str [c]), ← map_set (fun c => T.str [c]), show (i + 1).toNat = i.toNat + 1 by omega]
    rw [e1]
    exact ⟨by omega, ih⟩
theorem h_after_swap (ars : Rho) (Q : Po Rv) (h : SP fAftI ars Q) : D_after_swap (ars ++ List.replicate 2 .no) (fwish ars Q) := by
  obtain ⟨ts, rfl, pre, q⟩ := h
  match ts, pre, q with
  | [.str l, .tup [.int a, .int b]], pre, q =>
    have hs := sizeLine_eq
    obtain ⟨hl, ha, hb⟩ := (show l.length ≤ 10000 ∧ inS l a ∧ inS l b from pre)
    have q : Q.ok (false, .str (aftI l (a, b))) [.no, .no] := q
    show D_after_swap [.sh (.str l), .sh (.tup [.int a, .int b]), .no, .no] _
    have lt : listT (.str l) = ⟨l.length ≤ sizeLine, (true, .lst (l.map fun c => .str [c]))⟩ := rfl
    simp only [sSeq, sSet, sPar, sIf, sRet, sRetN, sDrop, sNext, sDead, sBrk, sCnt, sAsg, sFor, dNm, dTm, dC, dOp1, dOp2, dOpN, dMt, dMut, dCall, dLst, dTup, dNil, dCons, dVn, dVc, dSl, dSl3, dNoP, dPrt, dIf, dAndV, dOrV, dNotV, dBv, dTru, dNotT, dAndT, dOrT, dChn, dEqQ, dRpQ, qOp, qNil, qCons, qLs, qTp, dSrc, dRng1, dRng2, dZip2, dEnum, dComp, dYes, gNm, gTp, gCn, gNi, gIt, e_var, e_var1, e_var2, e_var3, e_var4, e_mov, e_mov1, e_mov2, e_mov3, e_mov4, e_tr1, e_tr2, e_tr3, e_tr4, e_tr5, e_own1, e_own2, e_reo1, e_reo2, e_of1, e_of2, e_pin1, e_pin2, e_pin3, e_arg1, e_arg2, e_arg3, e_arg4, e_isarg1, e_isarg2, e_conv1, e_conv2, e_conv3, e_conv4, e_conv5, e_conv6, e_sown1, e_sown2, e_sown3, e_sown4, e_put1, e_put2, e_po1, e_po2, e_p1, e_p2, e_ao1, e_ao2, e_nd0, e_nd1, e_nd2, e_sl, e_get1, e_get2, e_is, e_all, e_gets0, e_gets1, e_gets2, e_tms0, e_tms1, e_qg1, e_qg2, e_qg3, e_qgs0, e_qgs1, e_its1, e_its2, e_its3, e_its4, e_jts1, e_jts2, e_jts4, e_mt1, e_mt2, e_ty1, e_add1, e_add2, e_add3, e_sub, e_mul1, e_mul2, e_mul3, e_fdiv, e_mod, e_pow, e_neg, e_len1, e_len2, e_len3, e_len4, e_int1, e_int2, e_abs, e_max, e_min, e_ix1, e_ix2, e_ix3, e_ix4, e_eq1, e_eq2, e_eq3, e_lt1, e_le1, e_gt1, e_ge1, e_lt2, e_in1, e_app, e_ext, e_rev, e_clr, e_set, e_sl1, e_sl2, e_sl3, e_sl4, e_count, e_f1, e_f2, e_osh, e_owh, e_one, e_tt1, e_tt2, e_ctg1, e_ctg2, e_cn0, e_cn1, e_wi0, e_wi1, e_re0, e_re1, e_ifb1, e_ifb2, e_nm0, e_nm1, e_nm2, e_fa0, e_fa1, e_sum, e_allb, e_anyb, e_sp1, e_sp2, e_sp3, e_at0, e_at1, e_at2, e_at3, e_at4, e_at5, e_ixn40, e_ixn41, e_ixn42, e_ixn43, e_cp1, e_cp2, e_cp3, e_cp4, e_cp5, forall_eq, List.getD_cons_zero, List.getD_cons_succ, List.getD_nil, List.set_cons_zero, List.set_cons_succ, List.map_cons, List.map_nil, Option.map_some, Option.map_none, Option.bind_some, Option.bind_none, Option.getD_some, Option.some.injEq, exists_eq_left', exists_eq_left, exists_eq', exists_eq, decide_eq_true_eq, List.length_map, exists_eq_right, exists_and_left, exists_and_right, Option.isSome_some, T.int.injEq, T.str.injEq, T.lst.injEq, T.tup.injEq, T.bl.injEq, List.cons.injEq, Prod.mk.injEq, Hn.tm.injEq, true_and, and_true, and_assoc, and_self, ne_eq, not_false_eq_true, not_true_eq_false, ite_true, ite_false, if_true, if_false, reduceIte, reduceCtorEq, Bool.false_eq_true, false_and, and_false, imp_self, forall_const, implies_true, List.length_cons, List.length_nil, Nat.reduceAdd, Nat.reduceEqDiff, Bool.false_bne, Bool.true_bne, Bool.not_false, Bool.not_true, List.nil_append, List.cons_append, Int.reduceToNat, Int.reducePow, Int.reduceMul, Int.reduceSub, Int.reduceAdd, Int.reduceNeg, kt_NoneType_int, kt_NoneType_bool, kt_NoneType_str, kt_NoneType_list, kt_NoneType_tuple, kt_bool_int, kt_bool_bool, kt_bool_str, kt_bool_list, kt_bool_tuple, kt_int_int, kt_int_bool, kt_int_str, kt_int_list, kt_int_tuple, kt_str_int, kt_str_bool, kt_str_str, kt_str_list, kt_str_tuple, kt_list_int, kt_list_bool, kt_list_str, kt_list_list, kt_list_tuple, kt_tuple_int, kt_tuple_bool, kt_tuple_str, kt_tuple_list, kt_tuple_tuple, kt_dict_int, kt_dict_bool, kt_dict_str, kt_dict_list, kt_dict_tuple, e_ii_non, e_ii_bl, e_ii_int, e_ii_str, e_ii_lst, e_ii_scr, e_ii_tup, e_ii_dK, e_ii_dT, e_ii_ins, dCallL, e_argL, e_fl1, e_fl2, e_fl3, e_fl4, List.all_cons, List.all_nil, dDict, dDict0, e_keys0, e_keysS, e_keysI, e_cl_non, e_cl_bl, e_cl_int, e_pl_int, e_cl_str, e_cl_lst, e_cl_scr, e_cl_tup, e_cl_dK, e_cl_dT, e_iq1, e_iq2, e_nn1, e_nn2, e_nn3, e_nn4, e_inp, e_ixd, Int.cast_ofNat_Int, Int.natCast_succ, decide_true, decide_false, Int.reduceEq, Int.reduceLT, Int.reduceLE, Int.reduceNe, Nat.reduceLT, Nat.reduceLeDiff, Bool.and_true, Bool.true_and, Bool.and_false, Bool.false_and, Bool.not_eq_true, Bool.or_true, Bool.or_false, Int.natCast_add, Int.natCast_one, Int.zero_add, Int.add_zero, D_after_swap, lt]
    refine ⟨by omega, ?_⟩
    refine loop_after_swap _ _ _ [a, b] l .no rfl hl (fun i m => by
      simp only [List.mem_cons, List.not_mem_nil, or_false] at m
      rcases m with rfl | rfl
      · exact ha
      · exact hb) fun s3 => ?_
    have ej : ([a, b].foldl setS l) = aftI l (a, b) := rfl
    rw [ej]
    have jl : (aftI l (a, b)).length = l.length := by
      unfold aftI
      rw [setS_len, setS_len]
    generalize aftI l (a, b) = m at jl q
    have e : (m.map fun c => T.str [c]) = (m.map fun c => [c]).map T.str := by rw [List.map_map]; rfl
    simp only [sSeq, sSet, sPar, sIf, sRet, sRetN, sDrop, sNext, sDead, sBrk, sCnt, sAsg, sFor, dNm, dTm, dC, dOp1, dOp2, dOpN, dMt, dMut, dCall, dLst, dTup, dNil, dCons, dVn, dVc, dSl, dSl3, dNoP, dPrt, dIf, dAndV, dOrV, dNotV, dBv, dTru, dNotT, dAndT, dOrT, dChn, dEqQ, dRpQ, qOp, qNil, qCons, qLs, qTp, dSrc, dRng1, dRng2, dZip2, dEnum, dComp, dYes, gNm, gTp, gCn, gNi, gIt, e_var, e_var1, e_var2, e_var3, e_var4, e_mov, e_mov1, e_mov2, e_mov3, e_mov4, e_tr1, e_tr2, e_tr3, e_tr4, e_tr5, e_own1, e_own2, e_reo1, e_reo2, e_of1, e_of2, e_pin1, e_pin2, e_pin3, e_arg1, e_arg2, e_arg3, e_arg4, e_isarg1, e_isarg2, e_conv1, e_conv2, e_conv3, e_conv4, e_conv5, e_conv6, e_sown1, e_sown2, e_sown3, e_sown4, e_put1, e_put2, e_po1, e_po2, e_p1, e_p2, e_ao1, e_ao2, e_nd0, e_nd1, e_nd2, e_sl, e_get1, e_get2, e_is, e_all, e_gets0, e_gets1, e_gets2, e_tms0, e_tms1, e_qg1, e_qg2, e_qg3, e_qgs0, e_qgs1, e_its1, e_its2, e_its3, e_its4, e_jts1, e_jts2, e_jts4, e_mt1, e_mt2, e_ty1, e_add1, e_add2, e_add3, e_sub, e_mul1, e_mul2, e_mul3, e_fdiv, e_mod, e_pow, e_neg, e_len1, e_len2, e_len3, e_len4, e_int1, e_int2, e_abs, e_max, e_min, e_ix1, e_ix2, e_ix3, e_ix4, e_eq1, e_eq2, e_eq3, e_lt1, e_le1, e_gt1, e_ge1, e_lt2, e_in1, e_app, e_ext, e_rev, e_clr, e_set, e_sl1, e_sl2, e_sl3, e_sl4, e_count, e_f1, e_f2, e_osh, e_owh, e_one, e_tt1, e_tt2, e_ctg1, e_ctg2, e_cn0, e_cn1, e_wi0, e_wi1, e_re0, e_re1, e_ifb1, e_ifb2, e_nm0, e_nm1, e_nm2, e_fa0, e_fa1, e_sum, e_allb, e_anyb, e_sp1, e_sp2, e_sp3, e_at0, e_at1, e_at2, e_at3, e_at4, e_at5, e_ixn40, e_ixn41, e_ixn42, e_ixn43, e_cp1, e_cp2, e_cp3, e_cp4, e_cp5, forall_eq, List.getD_cons_zero, List.getD_cons_succ, List.getD_nil, List.set_cons_zero, List.set_cons_succ, List.map_cons, List.map_nil, Option.map_some, Option.map_none, Option.bind_some, Option.bind_none, Option.getD_some, Option.some.injEq, exists_eq_left', exists_eq_left, exists_eq', exists_eq, decide_eq_true_eq, List.length_map, exists_eq_right, exists_and_left, exists_and_right, Option.isSome_some, T.int.injEq, T.str.injEq, T.lst.injEq, T.tup.injEq, T.bl.injEq, List.cons.injEq, Prod.mk.injEq, Hn.tm.injEq, true_and, and_true, and_assoc, and_self, ne_eq, not_false_eq_true, not_true_eq_false, ite_true, ite_false, if_true, if_false, reduceIte, reduceCtorEq, Bool.false_eq_true, false_and, and_false, imp_self, forall_const, implies_true, List.length_cons, List.length_nil, Nat.reduceAdd, Nat.reduceEqDiff, Bool.false_bne, Bool.true_bne, Bool.not_false, Bool.not_true, List.nil_append, List.cons_append, Int.reduceToNat, Int.reducePow, Int.reduceMul, Int.reduceSub, Int.reduceAdd, Int.reduceNeg, kt_NoneType_int, kt_NoneType_bool, kt_NoneType_str, kt_NoneType_list, kt_NoneType_tuple, kt_bool_int, kt_bool_bool, kt_bool_str, kt_bool_list, kt_bool_tuple, kt_int_int, kt_int_bool, kt_int_str, kt_int_list, kt_int_tuple, kt_str_int, kt_str_bool, kt_str_str, kt_str_list, kt_str_tuple, kt_list_int, kt_list_bool, kt_list_str, kt_list_list, kt_list_tuple, kt_tuple_int, kt_tuple_bool, kt_tuple_str, kt_tuple_list, kt_tuple_tuple, kt_dict_int, kt_dict_bool, kt_dict_str, kt_dict_list, kt_dict_tuple, e_ii_non, e_ii_bl, e_ii_int, e_ii_str, e_ii_lst, e_ii_scr, e_ii_tup, e_ii_dK, e_ii_dT, e_ii_ins, dCallL, e_argL, e_fl1, e_fl2, e_fl3, e_fl4, List.all_cons, List.all_nil, dDict, dDict0, e_keys0, e_keysS, e_keysI, e_cl_non, e_cl_bl, e_cl_int, e_pl_int, e_cl_str, e_cl_lst, e_cl_scr, e_cl_tup, e_cl_dK, e_cl_dT, e_iq1, e_iq2, e_nn1, e_nn2, e_nn3, e_nn4, e_inp, e_ixd, Int.cast_ofNat_Int, Int.natCast_succ, decide_true, decide_false, Int.reduceEq, Int.reduceLT, Int.reduceLE, Int.reduceNe, Nat.reduceLT, Nat.reduceLeDiff, Bool.and_true, Bool.true_and, Bool.and_false, Bool.false_and, Bool.not_eq_true, Bool.or_true, Bool.or_false, Int.natCast_add, Int.natCast_one, Int.zero_add, Int.add_zero, e, join_strs, flat1, len1]
    exact ⟨by omega, q⟩
def pq (n : Int) : List Nat → Int
  | [] => 0
  | c :: l => (if c = 98 then n else 0) + pq (n + if c = 97 then 1 else 0) l
theorem pq_eq : ∀ (l : List Nat) (n : Int), (((((n :: prefs n l).zip l).filter fun p => decide (p.2 = 98)).map (·.1)).sum) = pq n l
  | [], n => rfl
  | c :: l, n => by
    show (((((n, c) :: ((n + if c = 97 then 1 else 0) :: prefs (n + if c = 97 then 1 else 0) l).zip l).filter fun p => decide (p.2 = 98)).map (·.1)).sum) = _
    rw [List.filter_cons]
    unfold pq
    by_cases h : c = 98
    · rw [if_pos (decide_eq_true h), List.map_cons, List.sum_cons, pq_eq l, if_pos h]
    · rw [if_neg (by rw [decide_eq_true_eq]; exact h), pq_eq l, if_neg h, Int.zero_add]
def fLP : List T → Ot
  | [.str l] => ⟨l.length ≤ 10000, (false, .int (pairsL l))⟩
  | _ => ⟨False, (false, .non)⟩
theorem loop__law_pairs (s0 : Sl) (Q : PoS) : ∀ (l : List Nat) (f n : Int) (s3 : Sl), s3.pin = false → 0 ≤ n → n + l.length ≤ 20000 →
    (∀ n' s3, Q.nx [s0, .sh (.int (f + pq n l)), .sh (.int n'), s3]) →
    forD (gNm 3) B__law_pairs_1 Q (l.map fun c => .str [c]) [s0, .sh (.int f), .sh (.int n), s3]
  | [], f, n, s3, h3, n0, n1, q => by
    have := q n s3
    rw [show pq n [] = 0 from rfl, Int.add_zero] at this
    exact this
  | c :: l, f, n, s3, h3, n0, n1, q => by
    rw [List.length_cons] at n1
    refine forD_step fun K hK => ?_
    have n2 : 0 ≤ (n + if c = 97 then 1 else 0) ∧ (n + if c = 97 then 1 else 0) ≤ n + 1 := by split <;> omega
    have ih := fun q => hK _ (loop__law_pairs s0 Q l (f + (n + if c = 97 then 1 else 0) * (if c = 98 then 1 else 0)) (n + if c = 97 then 1 else 0) (.sh (.str [c])) rfl n2.1 (by omega) q)
    have e : f + (n + if c = 97 then 1 else 0) * (if c = 98 then 1 else 0) + pq (n + if c = 97 then 1 else 0) l = f + pq n (c :: l) := by
      show _ = f + ((if c = 98 then n else 0) + pq (n + if c = 97 then 1 else 0) l)
      by_cases h : c = 98
      · subst h
        simp
        omega
      · rw [if_neg h, if_neg h]
        omega
    have mm : (CMul (n + if c = 97 then 1 else 0) (if c = 98 then 1 else 0) ∨ CMulW (n + if c = 97 then 1 else 0) (if c = 98 then 1 else 0)) = True := by
      exact e_mulI (by split <;> decide)
    simp only [sSeq, sSet, sPar, sIf, sRet, sRetN, sDrop, sNext, sDead, sBrk, sCnt, sAsg, sFor, dNm, dTm, dC, dOp1, dOp2, dOpN, dMt, dMut, dCall, dLst, dTup, dNil, dCons, dVn, dVc, dSl, dSl3, dNoP, dPrt, dIf, dAndV, dOrV, dNotV, dBv, dTru, dNotT, dAndT, dOrT, dChn, dEqQ, dRpQ, qOp, qNil, qCons, qLs, qTp, dSrc, dRng1, dRng2, dZip2, dEnum, dComp, dYes, gNm, gTp, gCn, gNi, gIt, e_var, e_var1, e_var2, e_var3, e_var4, e_mov, e_mov1, e_mov2, e_mov3, e_mov4, e_tr1, e_tr2, e_tr3, e_tr4, e_tr5, e_own1, e_own2, e_reo1, e_reo2, e_of1, e_of2, e_pin1, e_pin2, e_pin3, e_arg1, e_arg2, e_arg3, e_arg4, e_isarg1, e_isarg2, e_conv1, e_conv2, e_conv3, e_conv4, e_conv5, e_conv6, e_sown1, e_sown2, e_sown3, e_sown4, e_put1, e_put2, e_po1, e_po2, e_p1, e_p2, e_ao1, e_ao2, e_nd0, e_nd1, e_nd2, e_sl, e_get1, e_get2, e_is, e_all, e_gets0, e_gets1, e_gets2, e_tms0, e_tms1, e_qg1, e_qg2, e_qg3, e_qgs0, e_qgs1, e_its1, e_its2, e_its3, e_its4, e_jts1, e_jts2, e_jts4, e_mt1, e_mt2, e_ty1, e_add1, e_add2, e_add3, e_sub, e_mul1, e_mul2, e_mul3, e_fdiv, e_mod, e_pow, e_neg, e_len1, e_len2, e_len3, e_len4, e_int1, e_int2, e_abs, e_max, e_min, e_ix1, e_ix2, e_ix3, e_ix4, e_eq1, e_eq2, e_eq3, e_lt1, e_le1, e_gt1, e_ge1, e_lt2, e_in1, e_app, e_ext, e_rev, e_clr, e_set, e_sl1, e_sl2, e_sl3, e_sl4, e_count, e_f1, e_f2, e_osh, e_owh, e_one, e_tt1, e_tt2, e_ctg1, e_ctg2, e_cn0, e_cn1, e_wi0, e_wi1, e_re0, e_re1, e_ifb1, e_ifb2, e_nm0, e_nm1, e_nm2, e_fa0, e_fa1, e_sum, e_allb, e_anyb, e_sp1, e_sp2, e_sp3, e_at0, e_at1, e_at2, e_at3, e_at4, e_at5, e_ixn40, e_ixn41, e_ixn42, e_ixn43, e_cp1, e_cp2, e_cp3, e_cp4, e_cp5, forall_eq, List.getD_cons_zero, List.getD_cons_succ, List.getD_nil, List.set_cons_zero, List.set_cons_succ, List.map_cons, List.map_nil, Option.map_some, Option.map_none, Option.bind_some, Option.bind_none, Option.getD_some, Option.some.injEq, exists_eq_left', exists_eq_left, exists_eq', exists_eq, decide_eq_true_eq, List.length_map, exists_eq_right, exists_and_left, exists_and_right, Option.isSome_some, T.int.injEq, T.str.injEq, T.lst.injEq, T.tup.injEq, T.bl.injEq, List.cons.injEq, Prod.mk.injEq, Hn.tm.injEq, true_and, and_true, and_assoc, and_self, ne_eq, not_false_eq_true, not_true_eq_false, ite_true, ite_false, if_true, if_false, reduceIte, reduceCtorEq, Bool.false_eq_true, false_and, and_false, imp_self, forall_const, implies_true, List.length_cons, List.length_nil, Nat.reduceAdd, Nat.reduceEqDiff, Bool.false_bne, Bool.true_bne, Bool.not_false, Bool.not_true, List.nil_append, List.cons_append, Int.reduceToNat, Int.reducePow, Int.reduceMul, Int.reduceSub, Int.reduceAdd, Int.reduceNeg, kt_NoneType_int, kt_NoneType_bool, kt_NoneType_str, kt_NoneType_list, kt_NoneType_tuple, kt_bool_int, kt_bool_bool, kt_bool_str, kt_bool_list, kt_bool_tuple, kt_int_int, kt_int_bool, kt_int_str, kt_int_list, kt_int_tuple, kt_str_int, kt_str_bool, kt_str_str, kt_str_list, kt_str_tuple, kt_list_int, kt_list_bool, kt_list_str, kt_list_list, kt_list_tuple, kt_tuple_int, kt_tuple_bool, kt_tuple_str, kt_tuple_list, kt_tuple_tuple, kt_dict_int, kt_dict_bool, kt_dict_str, kt_dict_list, kt_dict_tuple, e_ii_non, e_ii_bl, e_ii_int, e_ii_str, e_ii_lst, e_ii_scr, e_ii_tup, e_ii_dK, e_ii_dT, e_ii_ins, dCallL, e_argL, e_fl1, e_fl2, e_fl3, e_fl4, List.all_cons, List.all_nil, dDict, dDict0, e_keys0, e_keysS, e_keysI, e_cl_non, e_cl_bl, e_cl_int, e_pl_int, e_cl_str, e_cl_lst, e_cl_scr, e_cl_tup, e_cl_dK, e_cl_dT, e_iq1, e_iq2, e_nn1, e_nn2, e_nn3, e_nn4, e_inp, e_ixd, Int.cast_ofNat_Int, Int.natCast_succ, decide_true, decide_false, Int.reduceEq, Int.reduceLT, Int.reduceLE, Int.reduceNe, Nat.reduceLT, Nat.reduceLeDiff, Bool.and_true, Bool.true_and, Bool.and_false, Bool.false_and, Bool.not_eq_true, Bool.or_true, Bool.or_false, Int.natCast_add, Int.natCast_one, Int.zero_add, Int.add_zero, h3, B__law_pairs_1, mm]
    exact ih fun n' s3 => by
      rw [e]
      exact q n' s3
theorem h__law_pairs (ars : Rho) (Q : Po Rv) (h : SP fLP ars Q) : D__law_pairs (ars ++ List.replicate 3 .no) (fwish ars Q) := by
  obtain ⟨ts, rfl, pre, q⟩ := h
  match ts, pre, q with
  | [.str l], pre, q =>
    have hs := sizeLine_eq
    have hl : l.length ≤ 10000 := pre
    have q : Q.ok (false, .int (pairsL l)) [.no] := q
    show D__law_pairs [.sh (.str l), .no, .no, .no] _
    simp only [sSeq, sSet, sPar, sIf, sRet, sRetN, sDrop, sNext, sDead, sBrk, sCnt, sAsg, sFor, dNm, dTm, dC, dOp1, dOp2, dOpN, dMt, dMut, dCall, dLst, dTup, dNil, dCons, dVn, dVc, dSl, dSl3, dNoP, dPrt, dIf, dAndV, dOrV, dNotV, dBv, dTru, dNotT, dAndT, dOrT, dChn, dEqQ, dRpQ, qOp, qNil, qCons, qLs, qTp, dSrc, dRng1, dRng2, dZip2, dEnum, dComp, dYes, gNm, gTp, gCn, gNi, gIt, e_var, e_var1, e_var2, e_var3, e_var4, e_mov, e_mov1, e_mov2, e_mov3, e_mov4, e_tr1, e_tr2, e_tr3, e_tr4, e_tr5, e_own1, e_own2, e_reo1, e_reo2, e_of1, e_of2, e_pin1, e_pin2, e_pin3, e_arg1, e_arg2, e_arg3, e_arg4, e_isarg1, e_isarg2, e_conv1, e_conv2, e_conv3, e_conv4, e_conv5, e_conv6, e_sown1, e_sown2, e_sown3, e_sown4, e_put1, e_put2, e_po1, e_po2, e_p1, e_p2, e_ao1, e_ao2, e_nd0, e_nd1, e_nd2, e_sl, e_get1, e_get2, e_is, e_all, e_gets0, e_gets1, e_gets2, e_tms0, e_tms1, e_qg1, e_qg2, e_qg3, e_qgs0, e_qgs1, e_its1, e_its2, e_its3, e_its4, e_jts1, e_jts2, e_jts4, e_mt1, e_mt2, e_ty1, e_add1, e_add2, e_add3, e_sub, e_mul1, e_mul2, e_mul3, e_fdiv, e_mod, e_pow, e_neg, e_len1, e_len2, e_len3, e_len4, e_int1, e_int2, e_abs, e_max, e_min, e_ix1, e_ix2, e_ix3, e_ix4, e_eq1, e_eq2, e_eq3, e_lt1, e_le1, e_gt1, e_ge1, e_lt2, e_in1, e_app, e_ext, e_rev, e_clr, e_set, e_sl1, e_sl2, e_sl3, e_sl4, e_count, e_f1, e_f2, e_osh, e_owh, e_one, e_tt1, e_tt2, e_ctg1, e_ctg2, e_cn0, e_cn1, e_wi0, e_wi1, e_re0, e_re1, e_ifb1, e_ifb2, e_nm0, e_nm1, e_nm2, e_fa0, e_fa1, e_sum, e_allb, e_anyb, e_sp1, e_sp2, e_sp3, e_at0, e_at1, e_at2, e_at3, e_at4, e_at5, e_ixn40, e_ixn41, e_ixn42, e_ixn43, e_cp1, e_cp2, e_cp3, e_cp4, e_cp5, forall_eq, List.getD_cons_zero, List.getD_cons_succ, List.getD_nil, List.set_cons_zero, List.set_cons_succ, List.map_cons, List.map_nil, Option.map_some, Option.map_none, Option.bind_some, Option.bind_none, Option.getD_some, Option.some.injEq, exists_eq_left', exists_eq_left, exists_eq', exists_eq, decide_eq_true_eq, List.length_map, exists_eq_right, exists_and_left, exists_and_right, Option.isSome_some, T.int.injEq, T.str.injEq, T.lst.injEq, T.tup.injEq, T.bl.injEq, List.cons.injEq, Prod.mk.injEq, Hn.tm.injEq, true_and, and_true, and_assoc, and_self, ne_eq, not_false_eq_true, not_true_eq_false, ite_true, ite_false, if_true, if_false, reduceIte, reduceCtorEq, Bool.false_eq_true, false_and, and_false, imp_self, forall_const, implies_true, List.length_cons, List.length_nil, Nat.reduceAdd, Nat.reduceEqDiff, Bool.false_bne, Bool.true_bne, Bool.not_false, Bool.not_true, List.nil_append, List.cons_append, Int.reduceToNat, Int.reducePow, Int.reduceMul, Int.reduceSub, Int.reduceAdd, Int.reduceNeg, kt_NoneType_int, kt_NoneType_bool, kt_NoneType_str, kt_NoneType_list, kt_NoneType_tuple, kt_bool_int, kt_bool_bool, kt_bool_str, kt_bool_list, kt_bool_tuple, kt_int_int, kt_int_bool, kt_int_str, kt_int_list, kt_int_tuple, kt_str_int, kt_str_bool, kt_str_str, kt_str_list, kt_str_tuple, kt_list_int, kt_list_bool, kt_list_str, kt_list_list, kt_list_tuple, kt_tuple_int, kt_tuple_bool, kt_tuple_str, kt_tuple_list, kt_tuple_tuple, kt_dict_int, kt_dict_bool, kt_dict_str, kt_dict_list, kt_dict_tuple, e_ii_non, e_ii_bl, e_ii_int, e_ii_str, e_ii_lst, e_ii_scr, e_ii_tup, e_ii_dK, e_ii_dT, e_ii_ins, dCallL, e_argL, e_fl1, e_fl2, e_fl3, e_fl4, List.all_cons, List.all_nil, dDict, dDict0, e_keys0, e_keysS, e_keysI, e_cl_non, e_cl_bl, e_cl_int, e_pl_int, e_cl_str, e_cl_lst, e_cl_scr, e_cl_tup, e_cl_dK, e_cl_dT, e_iq1, e_iq2, e_nn1, e_nn2, e_nn3, e_nn4, e_inp, e_ixd, Int.cast_ofNat_Int, Int.natCast_succ, decide_true, decide_false, Int.reduceEq, Int.reduceLT, Int.reduceLE, Int.reduceNe, Nat.reduceLT, Nat.reduceLeDiff, Bool.and_true, Bool.true_and, Bool.and_false, Bool.false_and, Bool.not_eq_true, Bool.or_true, Bool.or_false, Int.natCast_add, Int.natCast_one, Int.zero_add, Int.add_zero, D__law_pairs]
    refine ⟨by omega, loop__law_pairs _ _ l 0 0 .no rfl (by decide) (by omega) fun n s3 => ?_⟩
    have e : (0 : Int) + pq 0 l = pairsL l := by
      rw [Int.zero_add, ← pq_eq]
      rfl
    rw [e]
    simp only [sSeq, sSet, sPar, sIf, sRet, sRetN, sDrop, sNext, sDead, sBrk, sCnt, sAsg, sFor, dNm, dTm, dC, dOp1, dOp2, dOpN, dMt, dMut, dCall, dLst, dTup, dNil, dCons, dVn, dVc, dSl, dSl3, dNoP, dPrt, dIf, dAndV, dOrV, dNotV, dBv, dTru, dNotT, dAndT, dOrT, dChn, dEqQ, dRpQ, qOp, qNil, qCons, qLs, qTp, dSrc, dRng1, dRng2, dZip2, dEnum, dComp, dYes, gNm, gTp, gCn, gNi, gIt, e_var, e_var1, e_var2, e_var3, e_var4, e_mov, e_mov1, e_mov2, e_mov3, e_mov4, e_tr1, e_tr2, e_tr3, e_tr4, e_tr5, e_own1, e_own2, e_reo1, e_reo2, e_of1, e_of2, e_pin1, e_pin2, e_pin3, e_arg1, e_arg2, e_arg3, e_arg4, e_isarg1, e_isarg2, e_conv1, e_conv2, e_conv3, e_conv4, e_conv5, e_conv6, e_sown1, e_sown2, e_sown3, e_sown4, e_put1, e_put2, e_po1, e_po2, e_p1, e_p2, e_ao1, e_ao2, e_nd0, e_nd1, e_nd2, e_sl, e_get1, e_get2, e_is, e_all, e_gets0, e_gets1, e_gets2, e_tms0, e_tms1, e_qg1, e_qg2, e_qg3, e_qgs0, e_qgs1, e_its1, e_its2, e_its3, e_its4, e_jts1, e_jts2, e_jts4, e_mt1, e_mt2, e_ty1, e_add1, e_add2, e_add3, e_sub, e_mul1, e_mul2, e_mul3, e_fdiv, e_mod, e_pow, e_neg, e_len1, e_len2, e_len3, e_len4, e_int1, e_int2, e_abs, e_max, e_min, e_ix1, e_ix2, e_ix3, e_ix4, e_eq1, e_eq2, e_eq3, e_lt1, e_le1, e_gt1, e_ge1, e_lt2, e_in1, e_app, e_ext, e_rev, e_clr, e_set, e_sl1, e_sl2, e_sl3, e_sl4, e_count, e_f1, e_f2, e_osh, e_owh, e_one, e_tt1, e_tt2, e_ctg1, e_ctg2, e_cn0, e_cn1, e_wi0, e_wi1, e_re0, e_re1, e_ifb1, e_ifb2, e_nm0, e_nm1, e_nm2, e_fa0, e_fa1, e_sum, e_allb, e_anyb, e_sp1, e_sp2, e_sp3, e_at0, e_at1, e_at2, e_at3, e_at4, e_at5, e_ixn40, e_ixn41, e_ixn42, e_ixn43, e_cp1, e_cp2, e_cp3, e_cp4, e_cp5, forall_eq, List.getD_cons_zero, List.getD_cons_succ, List.getD_nil, List.set_cons_zero, List.set_cons_succ, List.map_cons, List.map_nil, Option.map_some, Option.map_none, Option.bind_some, Option.bind_none, Option.getD_some, Option.some.injEq, exists_eq_left', exists_eq_left, exists_eq', exists_eq, decide_eq_true_eq, List.length_map, exists_eq_right, exists_and_left, exists_and_right, Option.isSome_some, T.int.injEq, T.str.injEq, T.lst.injEq, T.tup.injEq, T.bl.injEq, List.cons.injEq, Prod.mk.injEq, Hn.tm.injEq, true_and, and_true, and_assoc, and_self, ne_eq, not_false_eq_true, not_true_eq_false, ite_true, ite_false, if_true, if_false, reduceIte, reduceCtorEq, Bool.false_eq_true, false_and, and_false, imp_self, forall_const, implies_true, List.length_cons, List.length_nil, Nat.reduceAdd, Nat.reduceEqDiff, Bool.false_bne, Bool.true_bne, Bool.not_false, Bool.not_true, List.nil_append, List.cons_append, Int.reduceToNat, Int.reducePow, Int.reduceMul, Int.reduceSub, Int.reduceAdd, Int.reduceNeg, kt_NoneType_int, kt_NoneType_bool, kt_NoneType_str, kt_NoneType_list, kt_NoneType_tuple, kt_bool_int, kt_bool_bool, kt_bool_str, kt_bool_list, kt_bool_tuple, kt_int_int, kt_int_bool, kt_int_str, kt_int_list, kt_int_tuple, kt_str_int, kt_str_bool, kt_str_str, kt_str_list, kt_str_tuple, kt_list_int, kt_list_bool, kt_list_str, kt_list_list, kt_list_tuple, kt_tuple_int, kt_tuple_bool, kt_tuple_str, kt_tuple_list, kt_tuple_tuple, kt_dict_int, kt_dict_bool, kt_dict_str, kt_dict_list, kt_dict_tuple, e_ii_non, e_ii_bl, e_ii_int, e_ii_str, e_ii_lst, e_ii_scr, e_ii_tup, e_ii_dK, e_ii_dT, e_ii_ins, dCallL, e_argL, e_fl1, e_fl2, e_fl3, e_fl4, List.all_cons, List.all_nil, dDict, dDict0, e_keys0, e_keysS, e_keysI, e_cl_non, e_cl_bl, e_cl_int, e_pl_int, e_cl_str, e_cl_lst, e_cl_scr, e_cl_tup, e_cl_dK, e_cl_dT, e_iq1, e_iq2, e_nn1, e_nn2, e_nn3, e_nn4, e_inp, e_ixd, Int.cast_ofNat_Int, Int.natCast_succ, decide_true, decide_false, Int.reduceEq, Int.reduceLT, Int.reduceLE, Int.reduceNe, Nat.reduceLT, Nat.reduceLeDiff, Bool.and_true, Bool.true_and, Bool.and_false, Bool.false_and, Bool.not_eq_true, Bool.or_true, Bool.or_false, Int.natCast_add, Int.natCast_one, Int.zero_add, Int.add_zero]
    exact q
def fLC : List T → Ot
  | [.str l] => ⟨l.length ≤ 10000, (false, .tup [.int (l.count 97 : Nat), .int (l.count 98 : Nat), .int (pairsL l)])⟩
  | _ => ⟨False, (false, .non)⟩
theorem h__law_counts_2 (ars : Rho) (Q : Po Rv) (h : SP fLC ars Q) : D__law_counts_2 (SP fLP) (ars ++ List.replicate 0 .no) (fwish ars Q) := by
  obtain ⟨ts, rfl, pre, q⟩ := h
  match ts, pre, q with
  | [.str l], pre, q =>
    have hs := sizeLine_eq
    have hl : l.length ≤ 10000 := pre
    have q : Q.ok (false, .tup [.int (l.count 97 : Nat), .int (l.count 98 : Nat), .int (pairsL l)]) [.no] := q
    have fp : fLP [.str l] = ⟨True, (false, .int (pairsL l))⟩ := by
      show (⟨l.length ≤ 10000, _⟩ : Ot) = _
      rw [eq_true hl]
    show D__law_counts_2 (SP fLP) [.sh (.str l)] _
    simp only [sSeq, sSet, sPar, sIf, sRet, sRetN, sDrop, sNext, sDead, sBrk, sCnt, sAsg, sFor, dNm, dTm, dC, dOp1, dOp2, dOpN, dMt, dMut, dCall, dLst, dTup, dNil, dCons, dVn, dVc, dSl, dSl3, dNoP, dPrt, dIf, dAndV, dOrV, dNotV, dBv, dTru, dNotT, dAndT, dOrT, dChn, dEqQ, dRpQ, qOp, qNil, qCons, qLs, qTp, dSrc, dRng1, dRng2, dZip2, dEnum, dComp, dYes, gNm, gTp, gCn, gNi, gIt, e_var, e_var1, e_var2, e_var3, e_var4, e_mov, e_mov1, e_mov2, e_mov3, e_mov4, e_tr1, e_tr2, e_tr3, e_tr4, e_tr5, e_own1, e_own2, e_reo1, e_reo2, e_of1, e_of2, e_pin1, e_pin2, e_pin3, e_arg1, e_arg2, e_arg3, e_arg4, e_isarg1, e_isarg2, e_conv1, e_conv2, e_conv3, e_conv4, e_conv5, e_conv6, e_sown1, e_sown2, e_sown3, e_sown4, e_put1, e_put2, e_po1, e_po2, e_p1, e_p2, e_ao1, e_ao2, e_nd0, e_nd1, e_nd2, e_sl, e_get1, e_get2, e_is, e_all, e_gets0, e_gets1, e_gets2, e_tms0, e_tms1, e_qg1, e_qg2, e_qg3, e_qgs0, e_qgs1, e_its1, e_its2, e_its3, e_its4, e_jts1, e_jts2, e_jts4, e_mt1, e_mt2, e_ty1, e_add1, e_add2, e_add3, e_sub, e_mul1, e_mul2, e_mul3, e_fdiv, e_mod, e_pow, e_neg, e_len1, e_len2, e_len3, e_len4, e_int1, e_int2, e_abs, e_max, e_min, e_ix1, e_ix2, e_ix3, e_ix4, e_eq1, e_eq2, e_eq3, e_lt1, e_le1, e_gt1, e_ge1, e_lt2, e_in1, e_app, e_ext, e_rev, e_clr, e_set, e_sl1, e_sl2, e_sl3, e_sl4, e_count, e_f1, e_f2, e_osh, e_owh, e_one, e_tt1, e_tt2, e_ctg1, e_ctg2, e_cn0, e_cn1, e_wi0, e_wi1, e_re0, e_re1, e_ifb1, e_ifb2, e_nm0, e_nm1, e_nm2, e_fa0, e_fa1, e_sum, e_allb, e_anyb, e_sp1, e_sp2, e_sp3, e_at0, e_at1, e_at2, e_at3, e_at4, e_at5, e_ixn40, e_ixn41, e_ixn42, e_ixn43, e_cp1, e_cp2, e_cp3, e_cp4, e_cp5, forall_eq, List.getD_cons_zero, List.getD_cons_succ, List.getD_nil, List.set_cons_zero, List.set_cons_succ, List.map_cons, List.map_nil, Option.map_some, Option.map_none, Option.bind_some, Option.bind_none, Option.getD_some, Option.some.injEq, exists_eq_left', exists_eq_left, exists_eq', exists_eq, decide_eq_true_eq, List.length_map, exists_eq_right, exists_and_left, exists_and_right, Option.isSome_some, T.int.injEq, T.str.injEq, T.lst.injEq, T.tup.injEq, T.bl.injEq, List.cons.injEq, Prod.mk.injEq, Hn.tm.injEq, true_and, and_true, and_assoc, and_self, ne_eq, not_false_eq_true, not_true_eq_false, ite_true, ite_false, if_true, if_false, reduceIte, reduceCtorEq, Bool.false_eq_true, false_and, and_false, imp_self, forall_const, implies_true, List.length_cons, List.length_nil, Nat.reduceAdd, Nat.reduceEqDiff, Bool.false_bne, Bool.true_bne, Bool.not_false, Bool.not_true, List.nil_append, List.cons_append, Int.reduceToNat, Int.reducePow, Int.reduceMul, Int.reduceSub, Int.reduceAdd, Int.reduceNeg, kt_NoneType_int, kt_NoneType_bool, kt_NoneType_str, kt_NoneType_list, kt_NoneType_tuple, kt_bool_int, kt_bool_bool, kt_bool_str, kt_bool_list, kt_bool_tuple, kt_int_int, kt_int_bool, kt_int_str, kt_int_list, kt_int_tuple, kt_str_int, kt_str_bool, kt_str_str, kt_str_list, kt_str_tuple, kt_list_int, kt_list_bool, kt_list_str, kt_list_list, kt_list_tuple, kt_tuple_int, kt_tuple_bool, kt_tuple_str, kt_tuple_list, kt_tuple_tuple, kt_dict_int, kt_dict_bool, kt_dict_str, kt_dict_list, kt_dict_tuple, e_ii_non, e_ii_bl, e_ii_int, e_ii_str, e_ii_lst, e_ii_scr, e_ii_tup, e_ii_dK, e_ii_dT, e_ii_ins, dCallL, e_argL, e_fl1, e_fl2, e_fl3, e_fl4, List.all_cons, List.all_nil, dDict, dDict0, e_keys0, e_keysS, e_keysI, e_cl_non, e_cl_bl, e_cl_int, e_pl_int, e_cl_str, e_cl_lst, e_cl_scr, e_cl_tup, e_cl_dK, e_cl_dT, e_iq1, e_iq2, e_nn1, e_nn2, e_nn3, e_nn4, e_inp, e_ixd, Int.cast_ofNat_Int, Int.natCast_succ, decide_true, decide_false, Int.reduceEq, Int.reduceLT, Int.reduceLE, Int.reduceNe, Nat.reduceLT, Nat.reduceLeDiff, Bool.and_true, Bool.true_and, Bool.and_false, Bool.false_and, Bool.not_eq_true, Bool.or_true, Bool.or_false, Int.natCast_add, Int.natCast_one, Int.zero_add, Int.add_zero, D__law_counts_2, fp]
    exact ⟨by omega, q⟩
def prefC (l : List Nat) : List Int := (List.range (l.length + 1)).map fun k => ((l.take k).count 97 : Nat)
theorem prefs_range : ∀ (l : List Nat) (n : Int), n :: prefs n l = (List.range (l.length + 1)).map fun k => n + ((l.take k).count 97 : Nat)
  | [], n => by
    show [n] = [n + ((([] : List Nat).take 0).count 97 : Nat)]
    simp
  | c :: l, n => by
    rw [List.length_cons, List.range_succ_eq_map, List.map_cons, List.map_map]
    show n :: (n + if c = 97 then 1 else 0) :: prefs (n + if c = 97 then 1 else 0) l = _
    rw [prefs_range l]
    congr 1
    · simp
    · refine List.map_congr_left fun k _ => ?_
      show n + (if c = 97 then 1 else 0) + ((l.take k).count 97 : Nat) = n + (((c :: l).take (k + 1)).count 97 : Nat)
      rw [List.take_succ_cons, List.count_cons]
      by_cases h : c = 97
      · subst h
        simp
        omega
      · rw [if_neg h]
        simp [h]
theorem prefC_eq (l : List Nat) : prefC l = prefL l := by
  show _ = 0 :: prefs 0 l
  rw [prefs_range]
  unfold prefC
  refine List.map_congr_left fun k _ => ?_
  rw [Int.zero_add]
def fLPre : List T → Ot
  | [.str l] => ⟨l.length ≤ 10000, (true, .lst ((prefL l).map T.int))⟩
  | _ => ⟨False, (false, .non)⟩
theorem h__law_prefix (ars : Rho) (Q : Po Rv) (h : SP fLPre ars Q) : D__law_prefix (ars ++ List.replicate 1 .no) (fwish ars Q) := by
  obtain ⟨ts, rfl, pre, q⟩ := h
  match ts, pre, q with
  | [.str l], pre, q =>
    have hs := sizeLine_eq
    have hl : l.length ≤ 10000 := pre
    have q : Q.ok (true, .lst ((prefL l).map T.int)) [.no] := q
    rw [← prefC_eq] at q
    unfold prefC at q
    rw [List.map_map] at q
    show D__law_prefix [.sh (.str l), .no] _
    simp only [sSeq, sSet, sPar, sIf, sRet, sRetN, sDrop, sNext, sDead, sBrk, sCnt, sAsg, sFor, dNm, dTm, dC, dOp1, dOp2, dOpN, dMt, dMut, dCall, dLst, dTup, dNil, dCons, dVn, dVc, dSl, dSl3, dNoP, dPrt, dIf, dAndV, dOrV, dNotV, dBv, dTru, dNotT, dAndT, dOrT, dChn, dEqQ, dRpQ, qOp, qNil, qCons, qLs, qTp, dSrc, dRng1, dRng2, dZip2, dEnum, dComp, dYes, gNm, gTp, gCn, gNi, gIt, e_var, e_var1, e_var2, e_var3, e_var4, e_mov, e_mov1, e_mov2, e_mov3, e_mov4, e_tr1, e_tr2, e_tr3, e_tr4, e_tr5, e_own1, e_own2, e_reo1, e_reo2, e_of1, e_of2, e_pin1, e_pin2, e_pin3, e_arg1, e_arg2, e_arg3, e_arg4, e_isarg1, e_isarg2, e_conv1, e_conv2, e_conv3, e_conv4, e_conv5, e_conv6, e_sown1, e_sown2, e_sown3, e_sown4, e_put1, e_put2, e_po1, e_po2, e_p1, e_p2, e_ao1, e_ao2, e_nd0, e_nd1, e_nd2, e_sl, e_get1, e_get2, e_is, e_all, e_gets0, e_gets1, e_gets2, e_tms0, e_tms1, e_qg1, e_qg2, e_qg3, e_qgs0, e_qgs1, e_its1, e_its2, e_its3, e_its4, e_jts1, e_jts2, e_jts4, e_mt1, e_mt2, e_ty1, e_add1, e_add2, e_add3, e_sub, e_mul1, e_mul2, e_mul3, e_fdiv, e_mod, e_pow, e_neg, e_len1, e_len2, e_len3, e_len4, e_int1, e_int2, e_abs, e_max, e_min, e_ix1, e_ix2, e_ix3, e_ix4, e_eq1, e_eq2, e_eq3, e_lt1, e_le1, e_gt1, e_ge1, e_lt2, e_in1, e_app, e_ext, e_rev, e_clr, e_set, e_sl1, e_sl2, e_sl3, e_sl4, e_count, e_f1, e_f2, e_osh, e_owh, e_one, e_tt1, e_tt2, e_ctg1, e_ctg2, e_cn0, e_cn1, e_wi0, e_wi1, e_re0, e_re1, e_ifb1, e_ifb2, e_nm0, e_nm1, e_nm2, e_fa0, e_fa1, e_sum, e_allb, e_anyb, e_sp1, e_sp2, e_sp3, e_at0, e_at1, e_at2, e_at3, e_at4, e_at5, e_ixn40, e_ixn41, e_ixn42, e_ixn43, e_cp1, e_cp2, e_cp3, e_cp4, e_cp5, forall_eq, List.getD_cons_zero, List.getD_cons_succ, List.getD_nil, List.set_cons_zero, List.set_cons_succ, List.map_cons, List.map_nil, Option.map_some, Option.map_none, Option.bind_some, Option.bind_none, Option.getD_some, Option.some.injEq, exists_eq_left', exists_eq_left, exists_eq', exists_eq, decide_eq_true_eq, List.length_map, exists_eq_right, exists_and_left, exists_and_right, Option.isSome_some, T.int.injEq, T.str.injEq, T.lst.injEq, T.tup.injEq, T.bl.injEq, List.cons.injEq, Prod.mk.injEq, Hn.tm.injEq, true_and, and_true, and_assoc, and_self, ne_eq, not_false_eq_true, not_true_eq_false, ite_true, ite_false, if_true, if_false, reduceIte, reduceCtorEq, Bool.false_eq_true, false_and, and_false, imp_self, forall_const, implies_true, List.length_cons, List.length_nil, Nat.reduceAdd, Nat.reduceEqDiff, Bool.false_bne, Bool.true_bne, Bool.not_false, Bool.not_true, List.nil_append, List.cons_append, Int.reduceToNat, Int.reducePow, Int.reduceMul, Int.reduceSub, Int.reduceAdd, Int.reduceNeg, kt_NoneType_int, kt_NoneType_bool, kt_NoneType_str, kt_NoneType_list, kt_NoneType_tuple, kt_bool_int, kt_bool_bool, kt_bool_str, kt_bool_list, kt_bool_tuple, kt_int_int, kt_int_bool, kt_int_str, kt_int_list, kt_int_tuple, kt_str_int, kt_str_bool, kt_str_str, kt_str_list, kt_str_tuple, kt_list_int, kt_list_bool, kt_list_str, kt_list_list, kt_list_tuple, kt_tuple_int, kt_tuple_bool, kt_tuple_str, kt_tuple_list, kt_tuple_tuple, kt_dict_int, kt_dict_bool, kt_dict_str, kt_dict_list, kt_dict_tuple, e_ii_non, e_ii_bl, e_ii_int, e_ii_str, e_ii_lst, e_ii_scr, e_ii_tup, e_ii_dK, e_ii_dT, e_ii_ins, dCallL, e_argL, e_fl1, e_fl2, e_fl3, e_fl4, List.all_cons, List.all_nil, dDict, dDict0, e_keys0, e_keysS, e_keysI, e_cl_non, e_cl_bl, e_cl_int, e_pl_int, e_cl_str, e_cl_lst, e_cl_scr, e_cl_tup, e_cl_dK, e_cl_dT, e_iq1, e_iq2, e_nn1, e_nn2, e_nn3, e_nn4, e_inp, e_ixd, Int.cast_ofNat_Int, Int.natCast_succ, decide_true, decide_false, Int.reduceEq, Int.reduceLT, Int.reduceLE, Int.reduceNe, Nat.reduceLT, Nat.reduceLeDiff, Bool.and_true, Bool.true_and, Bool.and_false, Bool.false_and, Bool.not_eq_true, Bool.or_true, Bool.or_false, Int.natCast_add, Int.natCast_one, Int.zero_add, Int.add_zero, D__law_prefix]
    refine ⟨by omega, by unfold small62; omega, ?_⟩
    rw [rangeT_eq]
    simp only [Int.zero_add]
    refine comp_all (xs := (List.range ((l.length : Int) + 1).toNat).map fun i : Nat => (i : Int)) (w := T.int) (G := fun x => .int (((l.take x.toNat).count 97 : Nat) : Int)) (fun x m A B hA => ?_) (by simp; omega) ?_
    · obtain ⟨j, _, rfl⟩ := List.mem_map.mp m
      have ct : cutL l none (some (j : Int)) = l.take j := cut_to l j
      simp only [sSeq, sSet, sPar, sIf, sRet, sRetN, sDrop, sNext, sDead, sBrk, sCnt, sAsg, sFor, dNm, dTm, dC, dOp1, dOp2, dOpN, dMt, dMut, dCall, dLst, dTup, dNil, dCons, dVn, dVc, dSl, dSl3, dNoP, dPrt, dIf, dAndV, dOrV, dNotV, dBv, dTru, dNotT, dAndT, dOrT, dChn, dEqQ, dRpQ, qOp, qNil, qCons, qLs, qTp, dSrc, dRng1, dRng2, dZip2, dEnum, dComp, dYes, gNm, gTp, gCn, gNi, gIt, e_var, e_var1, e_var2, e_var3, e_var4, e_mov, e_mov1, e_mov2, e_mov3, e_mov4, e_tr1, e_tr2, e_tr3, e_tr4, e_tr5, e_own1, e_own2, e_reo1, e_reo2, e_of1, e_of2, e_pin1, e_pin2, e_pin3, e_arg1, e_arg2, e_arg3, e_arg4, e_isarg1, e_isarg2, e_conv1, e_conv2, e_conv3, e_conv4, e_conv5, e_conv6, e_sown1, e_sown2, e_sown3, e_sown4, e_put1, e_put2, e_po1, e_po2, e_p1, e_p2, e_ao1, e_ao2, e_nd0, e_nd1, e_nd2, e_sl, e_get1, e_get2, e_is, e_all, e_gets0, e_gets1, e_gets2, e_tms0, e_tms1, e_qg1, e_qg2, e_qg3, e_qgs0, e_qgs1, e_its1, e_its2, e_its3, e_its4, e_jts1, e_jts2, e_jts4, e_mt1, e_mt2, e_ty1, e_add1, e_add2, e_add3, e_sub, e_mul1, e_mul2, e_mul3, e_fdiv, e_mod, e_pow, e_neg, e_len1, e_len2, e_len3, e_len4, e_int1, e_int2, e_abs, e_max, e_min, e_ix1, e_ix2, e_ix3, e_ix4, e_eq1, e_eq2, e_eq3, e_lt1, e_le1, e_gt1, e_ge1, e_lt2, e_in1, e_app, e_ext, e_rev, e_clr, e_set, e_sl1, e_sl2, e_sl3, e_sl4, e_count, e_f1, e_f2, e_osh, e_owh, e_one, e_tt1, e_tt2, e_ctg1, e_ctg2, e_cn0, e_cn1, e_wi0, e_wi1, e_re0, e_re1, e_ifb1, e_ifb2, e_nm0, e_nm1, e_nm2, e_fa0, e_fa1, e_sum, e_allb, e_anyb, e_sp1, e_sp2, e_sp3, e_at0, e_at1, e_at2, e_at3, e_at4, e_at5, e_ixn40, e_ixn41, e_ixn42, e_ixn43, e_cp1, e_cp2, e_cp3, e_cp4, e_cp5, forall_eq, List.getD_cons_zero, List.getD_cons_succ, List.getD_nil, List.set_cons_zero, List.set_cons_succ, List.map_cons, List.map_nil, Option.map_some, Option.map_none, Option.bind_some, Option.bind_none, Option.getD_some, Option.some.injEq, exists_eq_left', exists_eq_left, exists_eq', exists_eq, decide_eq_true_eq, List.length_map, exists_eq_right, exists_and_left, exists_and_right, Option.isSome_some, T.int.injEq, T.str.injEq, T.lst.injEq, T.tup.injEq, T.bl.injEq, List.cons.injEq, Prod.mk.injEq, Hn.tm.injEq, true_and, and_true, and_assoc, and_self, ne_eq, not_false_eq_true, not_true_eq_false, ite_true, ite_false, if_true, if_false, reduceIte, reduceCtorEq, Bool.false_eq_true, false_and, and_false, imp_self, forall_const, implies_true, List.length_cons, List.length_nil, Nat.reduceAdd, Nat.reduceEqDiff, Bool.false_bne, Bool.true_bne, Bool.not_false, Bool.not_true, List.nil_append, List.cons_append, Int.reduceToNat, Int.reducePow, Int.reduceMul, Int.reduceSub, Int.reduceAdd, Int.reduceNeg, kt_NoneType_int, kt_NoneType_bool, kt_NoneType_str, kt_NoneType_list, kt_NoneType_tuple, kt_bool_int, kt_bool_bool, kt_bool_str, kt_bool_list, kt_bool_tuple, kt_int_int, kt_int_bool, kt_int_str, kt_int_list, kt_int_tuple, kt_str_int, kt_str_bool, kt_str_str, kt_str_list, kt_str_tuple, kt_list_int, kt_list_bool, kt_list_str, kt_list_list, kt_list_tuple, kt_tuple_int, kt_tuple_bool, kt_tuple_str, kt_tuple_list, kt_tuple_tuple, kt_dict_int, kt_dict_bool, kt_dict_str, kt_dict_list, kt_dict_tuple, e_ii_non, e_ii_bl, e_ii_int, e_ii_str, e_ii_lst, e_ii_scr, e_ii_tup, e_ii_dK, e_ii_dT, e_ii_ins, dCallL, e_argL, e_fl1, e_fl2, e_fl3, e_fl4, List.all_cons, List.all_nil, dDict, dDict0, e_keys0, e_keysS, e_keysI, e_cl_non, e_cl_bl, e_cl_int, e_pl_int, e_cl_str, e_cl_lst, e_cl_scr, e_cl_tup, e_cl_dK, e_cl_dT, e_iq1, e_iq2, e_nn1, e_nn2, e_nn3, e_nn4, e_inp, e_ixd, Int.cast_ofNat_Int, Int.natCast_succ, decide_true, decide_false, Int.reduceEq, Int.reduceLT, Int.reduceLE, Int.reduceNe, Nat.reduceLT, Nat.reduceLeDiff, Bool.and_true, Bool.true_and, Bool.and_false, Bool.false_and, Bool.not_eq_true, Bool.or_true, Bool.or_false, Int.natCast_add, Int.natCast_one, Int.zero_add, Int.add_zero, ct]
      exact ⟨by omega, hA⟩
    · rw [List.map_map, show ((l.length : Int) + 1).toNat = l.length + 1 by omega]
      simp only [sSeq, sSet, sPar, sIf, sRet, sRetN, sDrop, sNext, sDead, sBrk, sCnt, sAsg, sFor, dNm, dTm, dC, dOp1, dOp2, dOpN, dMt, dMut, dCall, dLst, dTup, dNil, dCons, dVn, dVc, dSl, dSl3, dNoP, dPrt, dIf, dAndV, dOrV, dNotV, dBv, dTru, dNotT, dAndT, dOrT, dChn, dEqQ, dRpQ, qOp, qNil, qCons, qLs, qTp, dSrc, dRng1, dRng2, dZip2, dEnum, dComp, dYes, gNm, gTp, gCn, gNi, gIt, e_var, e_var1, e_var2, e_var3, e_var4, e_mov, e_mov1, e_mov2, e_mov3, e_mov4, e_tr1, e_tr2, e_tr3, e_tr4, e_tr5, e_own1, e_own2, e_reo1, e_reo2, e_of1, e_of2, e_pin1, e_pin2, e_pin3, e_arg1, e_arg2, e_arg3, e_arg4, e_isarg1, e_isarg2, e_conv1, e_conv2, e_conv3, e_conv4, e_conv5, e_conv6, e_sown1, e_sown2, e_sown3, e_sown4, e_put1, e_put2, e_po1, e_po2, e_p1, e_p2, e_ao1, e_ao2, e_nd0, e_nd1, e_nd2, e_sl, e_get1, e_get2, e_is, e_all, e_gets0, e_gets1, e_gets2, e_tms0, e_tms1, e_qg1, e_qg2, e_qg3, e_qgs0, e_qgs1, e_its1, e_its2, e_its3, e_its4, e_jts1, e_jts2, e_jts4, e_mt1, e_mt2, e_ty1, e_add1, e_add2, e_add3, e_sub, e_mul1, e_mul2, e_mul3, e_fdiv, e_mod, e_pow, e_neg, e_len1, e_len2, e_len3, e_len4, e_int1, e_int2, e_abs, e_max, e_min, e_ix1, e_ix2, e_ix3, e_ix4, e_eq1, e_eq2, e_eq3, e_lt1, e_le1, e_gt1, e_ge1, e_lt2, e_in1, e_app, e_ext, e_rev, e_clr, e_set, e_sl1, e_sl2, e_sl3, e_sl4, e_count, e_f1, e_f2, e_osh, e_owh, e_one, e_tt1, e_tt2, e_ctg1, e_ctg2, e_cn0, e_cn1, e_wi0, e_wi1, e_re0, e_re1, e_ifb1, e_ifb2, e_nm0, e_nm1, e_nm2, e_fa0, e_fa1, e_sum, e_allb, e_anyb, e_sp1, e_sp2, e_sp3, e_at0, e_at1, e_at2, e_at3, e_at4, e_at5, e_ixn40, e_ixn41, e_ixn42, e_ixn43, e_cp1, e_cp2, e_cp3, e_cp4, e_cp5, forall_eq, List.getD_cons_zero, List.getD_cons_succ, List.getD_nil, List.set_cons_zero, List.set_cons_succ, List.map_cons, List.map_nil, Option.map_some, Option.map_none, Option.bind_some, Option.bind_none, Option.getD_some, Option.some.injEq, exists_eq_left', exists_eq_left, exists_eq', exists_eq, decide_eq_true_eq, List.length_map, exists_eq_right, exists_and_left, exists_and_right, Option.isSome_some, T.int.injEq, T.str.injEq, T.lst.injEq, T.tup.injEq, T.bl.injEq, List.cons.injEq, Prod.mk.injEq, Hn.tm.injEq, true_and, and_true, and_assoc, and_self, ne_eq, not_false_eq_true, not_true_eq_false, ite_true, ite_false, if_true, if_false, reduceIte, reduceCtorEq, Bool.false_eq_true, false_and, and_false, imp_self, forall_const, implies_true, List.length_cons, List.length_nil, Nat.reduceAdd, Nat.reduceEqDiff, Bool.false_bne, Bool.true_bne, Bool.not_false, Bool.not_true, List.nil_append, List.cons_append, Int.reduceToNat, Int.reducePow, Int.reduceMul, Int.reduceSub, Int.reduceAdd, Int.reduceNeg, kt_NoneType_int, kt_NoneType_bool, kt_NoneType_str, kt_NoneType_list, kt_NoneType_tuple, kt_bool_int, kt_bool_bool, kt_bool_str, kt_bool_list, kt_bool_tuple, kt_int_int, kt_int_bool, kt_int_str, kt_int_list, kt_int_tuple, kt_str_int, kt_str_bool, kt_str_str, kt_str_list, kt_str_tuple, kt_list_int, kt_list_bool, kt_list_str, kt_list_list, kt_list_tuple, kt_tuple_int, kt_tuple_bool, kt_tuple_str, kt_tuple_list, kt_tuple_tuple, kt_dict_int, kt_dict_bool, kt_dict_str, kt_dict_list, kt_dict_tuple, e_ii_non, e_ii_bl, e_ii_int, e_ii_str, e_ii_lst, e_ii_scr, e_ii_tup, e_ii_dK, e_ii_dT, e_ii_ins, dCallL, e_argL, e_fl1, e_fl2, e_fl3, e_fl4, List.all_cons, List.all_nil, dDict, dDict0, e_keys0, e_keysS, e_keysI, e_cl_non, e_cl_bl, e_cl_int, e_pl_int, e_cl_str, e_cl_lst, e_cl_scr, e_cl_tup, e_cl_dK, e_cl_dT, e_iq1, e_iq2, e_nn1, e_nn2, e_nn3, e_nn4, e_inp, e_ixd, Int.cast_ofNat_Int, Int.natCast_succ, decide_true, decide_false, Int.reduceEq, Int.reduceLT, Int.reduceLE, Int.reduceNe, Nat.reduceLT, Nat.reduceLeDiff, Bool.and_true, Bool.true_and, Bool.and_false, Bool.false_and, Bool.not_eq_true, Bool.or_true, Bool.or_false, Int.natCast_add, Int.natCast_one, Int.zero_add, Int.add_zero]
      exact q
end O
namespace O
open PySem PySem.Spec PyProof.Rows L2
theorem cutS_len {l : List Nat} {i : Int} (h : inS l i) : (cutS l i).length = l.length := by
  obtain ⟨h0, h1⟩ := h
  unfold cutS
  simp only [List.length_append, List.length_take, List.length_reverse, List.length_drop]
  omega
def fAftP : List T → Ot
  | [.str l, .tup [.int a, .int b]] => ⟨l.length ≤ 10000 ∧ inS l a ∧ inS l b, (false, .str (aftP l (a, b)))⟩
  | _ => ⟨False, (false, .non)⟩
theorem rvT (l : List Nat) : sl3T (.str l) none none (-1) = ⟨l.length ≤ sizeLine, (false, .str l.reverse)⟩ := bw_txt l
theorem loop__law_after (s1 : Sl) (Q : PoS) : ∀ (ps : List Int) (l : List Nat) (s0 s2 s3 : Sl), (s0 = .sh (.str l)) → s2.pin = false → s3.pin = false → l.length ≤ 10000 → (∀ i ∈ ps, inS l i) →
    (∀ s2 s3, Q.nx [.sh (.str (ps.foldl cutS l)), s1, s2, s3]) →
    forD (gNm 2) B__law_after_1 Q (ps.map T.int) [s0, s1, s2, s3]
  | [], l, s0, s2, s3, e0, h2, h3, hl, hi, q => by
    subst e0
    exact q s2 s3
  | i :: ps, l, s0, s2, s3, e0, h2, h3, hl, hi, q => by
    have hs := sizeLine_eq
    subst e0
    have hin := hi i List.mem_cons_self
    obtain ⟨i0, i1⟩ := hin
    refine forD_step fun K hK => ?_
    have c1 : cutL l (some i) (some (i + 2)) = (l.drop i.toNat).take 2 := by
      have e : i = (i.toNat : Int) := (Int.toNat_of_nonneg i0).symm
      have := cut_mid l i.toNat (i.toNat + 2)
      rw [← e] at this
      rw [show ((i.toNat + 2 : Nat) : Int) = i + 2 by omega] at this
      rw [this, show i.toNat + 2 - i.toNat = 2 by omega]
    have c2 : cutL l none (some i) = l.take i.toNat := cut_toI l i0
    have c3 : cutL l (some (i + 2)) none = l.drop (i.toNat + 2) := by rw [cut_fromI l (by omega), show (i + 2).toNat = i.toNat + 2 by omega]
    have ih := hK _ (loop__law_after s1 Q ps (cutS l i) (.sh (.str (cutS l i))) (.sh (.int i)) (.sh (.str ((l.drop i.toNat).take 2))) rfl rfl rfl (by rw [cutS_len ⟨i0, i1⟩]; exact hl) (fun j m => by
      have := hi j (List.mem_cons_of_mem _ m)
      unfold inS at this ⊢
      rw [cutS_len ⟨i0, i1⟩]
      exact this) q)
    have l1 : (l.take i.toNat).length ≤ l.length := by rw [List.length_take]; omega
    have l2 : ((l.drop i.toNat).take 2).length ≤ 2 := by rw [List.length_take]; omega
    have l3 : (l.drop (i.toNat + 2)).length ≤ l.length := by rw [List.length_drop]; omega
    simp only [sSeq, sSet, sPar, sIf, sRet, sRetN, sDrop, sNext, sDead, sBrk, sCnt, sAsg, sFor, dNm, dTm, dC, dOp1, dOp2, dOpN, dMt, dMut, dCall, dLst, dTup, dNil, dCons, dVn, dVc, dSl, dSl3, dNoP, dPrt, dIf, dAndV, dOrV, dNotV, dBv, dTru, dNotT, dAndT, dOrT, dChn, dEqQ, dRpQ, qOp, qNil, qCons, qLs, qTp, dSrc, dRng1, dRng2, dZip2, dEnum, dComp, dYes, gNm, gTp, gCn, gNi, gIt, e_var, e_var1, e_var2, e_var3, e_var4, e_mov, e_mov1, e_mov2, e_mov3, e_mov4, e_tr1, e_tr2, e_tr3, e_tr4, e_tr5, e_own1, e_own2, e_reo1, e_reo2, e_of1, e_of2, e_pin1, e_pin2, e_pin3, e_arg1, e_arg2, e_arg3, e_arg4, e_isarg1, e_isarg2, e_conv1, e_conv2, e_conv3, e_conv4, e_conv5, e_conv6, e_sown1, e_sown2, e_sown3, e_sown4, e_put1, e_put2, e_po1, e_po2, e_p1, e_p2, e_ao1, e_ao2, e_nd0, e_nd1, e_nd2, e_sl, e_get1, e_get2, e_is, e_all, e_gets0, e_gets1, e_gets2, e_tms0, e_tms1, e_qg1, e_qg2, e_qg3, e_qgs0, e_qgs1, e_its1, e_its2, e_its3, e_its4, e_jts1, e_jts2, e_jts4, e_mt1, e_mt2, e_ty1, e_add1, e_add2, e_add3, e_sub, e_mul1, e_mul2, e_mul3, e_fdiv, e_mod, e_pow, e_neg, e_len1, e_len2, e_len3, e_len4, e_int1, e_int2, e_abs, e_max, e_min, e_ix1, e_ix2, e_ix3, e_ix4, e_eq1, e_eq2, e_eq3, e_lt1, e_le1, e_gt1, e_ge1, e_lt2, e_in1, e_app, e_ext, e_rev, e_clr, e_set, e_sl1, e_sl2, e_sl3, e_sl4, e_count, e_f1, e_f2, e_osh, e_owh, e_one, e_tt1, e_tt2, e_ctg1, e_ctg2, e_cn0, e_cn1, e_wi0, e_wi1, e_re0, e_re1, e_ifb1, e_ifb2, e_nm0, e_nm1, e_nm2, e_fa0, e_fa1, e_sum, e_allb, e_anyb, e_sp1, e_sp2, e_sp3, e_at0, e_at1, e_at2, e_at3, e_at4, e_at5, e_ixn40, e_ixn41, e_ixn42, e_ixn43, e_cp1, e_cp2, e_cp3, e_cp4, e_cp5, forall_eq, List.getD_cons_zero, List.getD_cons_succ, List.getD_nil, List.set_cons_zero, List.set_cons_succ, List.map_cons, List.map_nil, Option.map_some, Option.map_none, Option.bind_some, Option.bind_none, Option.getD_some, Option.some.injEq, exists_eq_left', exists_eq_left, exists_eq', exists_eq, decide_eq_true_eq, List.length_map, exists_eq_right, exists_and_left, exists_and_right, Option.isSome_some, T.int.injEq, T.str.injEq, T.lst.injEq, T.tup.injEq, T.bl.injEq, List.cons.injEq, Prod.mk.injEq, Hn.tm.injEq, true_and, and_true, and_assoc, and_self, ne_eq, not_false_eq_true, not_true_eq_false, ite_true, ite_false, if_true, if_false, reduceIte, reduceCtorEq, Bool.false_eq_true, false_and, and_false, imp_self, forall_const, implies_true, List.length_cons, List.length_nil, Nat.reduceAdd, Nat.reduceEqDiff, Bool.false_bne, Bool.true_bne, Bool.not_false, Bool.not_true, List.nil_append, List.cons_append, Int.reduceToNat, Int.reducePow, Int.reduceMul, Int.reduceSub, Int.reduceAdd, Int.reduceNeg, kt_NoneType_int, kt_NoneType_bool, kt_NoneType_str, kt_NoneType_list, kt_NoneType_tuple, kt_bool_int, kt_bool_bool, kt_bool_str, kt_bool_list, kt_bool_tuple, kt_int_int, kt_int_bool, kt_int_str, kt_int_list, kt_int_tuple, kt_str_int, kt_str_bool, kt_str_str, kt_str_list, kt_str_tuple, kt_list_int, kt_list_bool, kt_list_str, kt_list_list, kt_list_tuple, kt_tuple_int, kt_tuple_bool, kt_tuple_str, kt_tuple_list, kt_tuple_tuple, kt_dict_int, kt_dict_bool, kt_dict_str, kt_dict_list, kt_dict_tuple, e_ii_non, e_ii_bl, e_ii_int, e_ii_str, e_ii_lst, e_ii_scr, e_ii_tup, e_ii_dK, e_ii_dT, e_ii_ins, dCallL, e_argL, e_fl1, e_fl2, e_fl3, e_fl4, List.all_cons, List.all_nil, dDict, dDict0, e_keys0, e_keysS, e_keysI, e_cl_non, e_cl_bl, e_cl_int, e_pl_int, e_cl_str, e_cl_lst, e_cl_scr, e_cl_tup, e_cl_dK, e_cl_dT, e_iq1, e_iq2, e_nn1, e_nn2, e_nn3, e_nn4, e_inp, e_ixd, Int.cast_ofNat_Int, Int.natCast_succ, decide_true, decide_false, Int.reduceEq, Int.reduceLT, Int.reduceLE, Int.reduceNe, Nat.reduceLT, Nat.reduceLeDiff, Bool.and_true, Bool.true_and, Bool.and_false, Bool.false_and, Bool.not_eq_true, Bool.or_true, Bool.or_false, Int.natCast_add, Int.natCast_one, Int.zero_add, Int.add_zero, h2, h3, B__law_after_1, c1, c2, c3, rvT]
    exact ⟨by omega, by omega, by omega, by rw [List.length_reverse]; omega, by omega, by rw [List.length_append, List.length_reverse]; omega, ih⟩
theorem h__law_after (ars : Rho) (Q : Po Rv) (h : SP fAftP ars Q) : D__law_after (ars ++ List.replicate 2 .no) (fwish ars Q) := by
  obtain ⟨ts, rfl, pre, q⟩ := h
  match ts, pre, q with
  | [.str l, .tup [.int a, .int b]], pre, q =>
    have hs := sizeLine_eq
    obtain ⟨hl, ha, hb⟩ := (show l.length ≤ 10000 ∧ inS l a ∧ inS l b from pre)
    have q : Q.ok (false, .str (aftP l (a, b))) [.no, .no] := q
    show D__law_after [.sh (.str l), .sh (.tup [.int a, .int b]), .no, .no] _
    simp only [sSeq, sSet, sPar, sIf, sRet, sRetN, sDrop, sNext, sDead, sBrk, sCnt, sAsg, sFor, dNm, dTm, dC, dOp1, dOp2, dOpN, dMt, dMut, dCall, dLst, dTup, dNil, dCons, dVn, dVc, dSl, dSl3, dNoP, dPrt, dIf, dAndV, dOrV, dNotV, dBv, dTru, dNotT, dAndT, dOrT, dChn, dEqQ, dRpQ, qOp, qNil, qCons, qLs, qTp, dSrc, dRng1, dRng2, dZip2, dEnum, dComp, dYes, gNm, gTp, gCn, gNi, gIt, e_var, e_var1, e_var2, e_var3, e_var4, e_mov, e_mov1, e_mov2, e_mov3, e_mov4, e_tr1, e_tr2, e_tr3, e_tr4, e_tr5, e_own1, e_own2, e_reo1, e_reo2, e_of1, e_of2, e_pin1, e_pin2, e_pin3, e_arg1, e_arg2, e_arg3, e_arg4, e_isarg1, e_isarg2, e_conv1, e_conv2, e_conv3, e_conv4, e_conv5, e_conv6, e_sown1, e_sown2, e_sown3, e_sown4, e_put1, e_put2, e_po1, e_po2, e_p1, e_p2, e_ao1, e_ao2, e_nd0, e_nd1, e_nd2, e_sl, e_get1, e_get2, e_is, e_all, e_gets0, e_gets1, e_gets2, e_tms0, e_tms1, e_qg1, e_qg2, e_qg3, e_qgs0, e_qgs1, e_its1, e_its2, e_its3, e_its4, e_jts1, e_jts2, e_jts4, e_mt1, e_mt2, e_ty1, e_add1, e_add2, e_add3, e_sub, e_mul1, e_mul2, e_mul3, e_fdiv, e_mod, e_pow, e_neg, e_len1, e_len2, e_len3, e_len4, e_int1, e_int2, e_abs, e_max, e_min, e_ix1, e_ix2, e_ix3, e_ix4, e_eq1, e_eq2, e_eq3, e_lt1, e_le1, e_gt1, e_ge1, e_lt2, e_in1, e_app, e_ext, e_rev, e_clr, e_set, e_sl1, e_sl2, e_sl3, e_sl4, e_count, e_f1, e_f2, e_osh, e_owh, e_one, e_tt1, e_tt2, e_ctg1, e_ctg2, e_cn0, e_cn1, e_wi0, e_wi1, e_re0, e_re1, e_ifb1, e_ifb2, e_nm0, e_nm1, e_nm2, e_fa0, e_fa1, e_sum, e_allb, e_anyb, e_sp1, e_sp2, e_sp3, e_at0, e_at1, e_at2, e_at3, e_at4, e_at5, e_ixn40, e_ixn41, e_ixn42, e_ixn43, e_cp1, e_cp2, e_cp3, e_cp4, e_cp5, forall_eq, List.getD_cons_zero, List.getD_cons_succ, List.getD_nil, List.set_cons_zero, List.set_cons_succ, List.map_cons, List.map_nil, Option.map_some, Option.map_none, Option.bind_some, Option.bind_none, Option.getD_some, Option.some.injEq, exists_eq_left', exists_eq_left, exists_eq', exists_eq, decide_eq_true_eq, List.length_map, exists_eq_right, exists_and_left, exists_and_right, Option.isSome_some, T.int.injEq, T.str.injEq, T.lst.injEq, T.tup.injEq, T.bl.injEq, List.cons.injEq, Prod.mk.injEq, Hn.tm.injEq, true_and, and_true, and_assoc, and_self, ne_eq, not_false_eq_true, not_true_eq_false, ite_true, ite_false, if_true, if_false, reduceIte, reduceCtorEq, Bool.false_eq_true, false_and, and_false, imp_self, forall_const, implies_true, List.length_cons, List.length_nil, Nat.reduceAdd, Nat.reduceEqDiff, Bool.false_bne, Bool.true_bne, Bool.not_false, Bool.not_true, List.nil_append, List.cons_append, Int.reduceToNat, Int.reducePow, Int.reduceMul, Int.reduceSub, Int.reduceAdd, Int.reduceNeg, kt_NoneType_int, kt_NoneType_bool, kt_NoneType_str, kt_NoneType_list, kt_NoneType_tuple, kt_bool_int, kt_bool_bool, kt_bool_str, kt_bool_list, kt_bool_tuple, kt_int_int, kt_int_bool, kt_int_str, kt_int_list, kt_int_tuple, kt_str_int, kt_str_bool, kt_str_str, kt_str_list, kt_str_tuple, kt_list_int, kt_list_bool, kt_list_str, kt_list_list, kt_list_tuple, kt_tuple_int, kt_tuple_bool, kt_tuple_str, kt_tuple_list, kt_tuple_tuple, kt_dict_int, kt_dict_bool, kt_dict_str, kt_dict_list, kt_dict_tuple, e_ii_non, e_ii_bl, e_ii_int, e_ii_str, e_ii_lst, e_ii_scr, e_ii_tup, e_ii_dK, e_ii_dT, e_ii_ins, dCallL, e_argL, e_fl1, e_fl2, e_fl3, e_fl4, List.all_cons, List.all_nil, dDict, dDict0, e_keys0, e_keysS, e_keysI, e_cl_non, e_cl_bl, e_cl_int, e_pl_int, e_cl_str, e_cl_lst, e_cl_scr, e_cl_tup, e_cl_dK, e_cl_dT, e_iq1, e_iq2, e_nn1, e_nn2, e_nn3, e_nn4, e_inp, e_ixd, Int.cast_ofNat_Int, Int.natCast_succ, decide_true, decide_false, Int.reduceEq, Int.reduceLT, Int.reduceLE, Int.reduceNe, Nat.reduceLT, Nat.reduceLeDiff, Bool.and_true, Bool.true_and, Bool.and_false, Bool.false_and, Bool.not_eq_true, Bool.or_true, Bool.or_false, Int.natCast_add, Int.natCast_one, Int.zero_add, Int.add_zero, D__law_after]
    refine loop__law_after _ _ [a, b] l _ .no .no rfl rfl rfl hl (fun i m => by
      simp only [List.mem_cons, List.not_mem_nil, or_false] at m
      rcases m with rfl | rfl
      · exact ha
      · exact hb) fun s2 s3 => ?_
    have ej : ([a, b].foldl cutS l) = aftP l (a, b) := rfl
    rw [ej]
    simp only [sSeq, sSet, sPar, sIf, sRet, sRetN, sDrop, sNext, sDead, sBrk, sCnt, sAsg, sFor, dNm, dTm, dC, dOp1, dOp2, dOpN, dMt, dMut, dCall, dLst, dTup, dNil, dCons, dVn, dVc, dSl, dSl3, dNoP, dPrt, dIf, dAndV, dOrV, dNotV, dBv, dTru, dNotT, dAndT, dOrT, dChn, dEqQ, dRpQ, qOp, qNil, qCons, qLs, qTp, dSrc, dRng1, dRng2, dZip2, dEnum, dComp, dYes, gNm, gTp, gCn, gNi, gIt, e_var, e_var1, e_var2, e_var3, e_var4, e_mov, e_mov1, e_mov2, e_mov3, e_mov4, e_tr1, e_tr2, e_tr3, e_tr4, e_tr5, e_own1, e_own2, e_reo1, e_reo2, e_of1, e_of2, e_pin1, e_pin2, e_pin3, e_arg1, e_arg2, e_arg3, e_arg4, e_isarg1, e_isarg2, e_conv1, e_conv2, e_conv3, e_conv4, e_conv5, e_conv6, e_sown1, e_sown2, e_sown3, e_sown4, e_put1, e_put2, e_po1, e_po2, e_p1, e_p2, e_ao1, e_ao2, e_nd0, e_nd1, e_nd2, e_sl, e_get1, e_get2, e_is, e_all, e_gets0, e_gets1, e_gets2, e_tms0, e_tms1, e_qg1, e_qg2, e_qg3, e_qgs0, e_qgs1, e_its1, e_its2, e_its3, e_its4, e_jts1, e_jts2, e_jts4, e_mt1, e_mt2, e_ty1, e_add1, e_add2, e_add3, e_sub, e_mul1, e_mul2, e_mul3, e_fdiv, e_mod, e_pow, e_neg, e_len1, e_len2, e_len3, e_len4, e_int1, e_int2, e_abs, e_max, e_min, e_ix1, e_ix2, e_ix3, e_ix4, e_eq1, e_eq2, e_eq3, e_lt1, e_le1, e_gt1, e_ge1, e_lt2, e_in1, e_app, e_ext, e_rev, e_clr, e_set, e_sl1, e_sl2, e_sl3, e_sl4, e_count, e_f1, e_f2, e_osh, e_owh, e_one, e_tt1, e_tt2, e_ctg1, e_ctg2, e_cn0, e_cn1, e_wi0, e_wi1, e_re0, e_re1, e_ifb1, e_ifb2, e_nm0, e_nm1, e_nm2, e_fa0, e_fa1, e_sum, e_allb, e_anyb, e_sp1, e_sp2, e_sp3, e_at0, e_at1, e_at2, e_at3, e_at4, e_at5, e_ixn40, e_ixn41, e_ixn42, e_ixn43, e_cp1, e_cp2, e_cp3, e_cp4, e_cp5, forall_eq, List.getD_cons_zero, List.getD_cons_succ, List.getD_nil, List.set_cons_zero, List.set_cons_succ, List.map_cons, List.map_nil, Option.map_some, Option.map_none, Option.bind_some, Option.bind_none, Option.getD_some, Option.some.injEq, exists_eq_left', exists_eq_left, exists_eq', exists_eq, decide_eq_true_eq, List.length_map, exists_eq_right, exists_and_left, exists_and_right, Option.isSome_some, T.int.injEq, T.str.injEq, T.lst.injEq, T.tup.injEq, T.bl.injEq, List.cons.injEq, Prod.mk.injEq, Hn.tm.injEq, true_and, and_true, and_assoc, and_self, ne_eq, not_false_eq_true, not_true_eq_false, ite_true, ite_false, if_true, if_false, reduceIte, reduceCtorEq, Bool.false_eq_true, false_and, and_false, imp_self, forall_const, implies_true, List.length_cons, List.length_nil, Nat.reduceAdd, Nat.reduceEqDiff, Bool.false_bne, Bool.true_bne, Bool.not_false, Bool.not_true, List.nil_append, List.cons_append, Int.reduceToNat, Int.reducePow, Int.reduceMul, Int.reduceSub, Int.reduceAdd, Int.reduceNeg, kt_NoneType_int, kt_NoneType_bool, kt_NoneType_str, kt_NoneType_list, kt_NoneType_tuple, kt_bool_int, kt_bool_bool, kt_bool_str, kt_bool_list, kt_bool_tuple, kt_int_int, kt_int_bool, kt_int_str, kt_int_list, kt_int_tuple, kt_str_int, kt_str_bool, kt_str_str, kt_str_list, kt_str_tuple, kt_list_int, kt_list_bool, kt_list_str, kt_list_list, kt_list_tuple, kt_tuple_int, kt_tuple_bool, kt_tuple_str, kt_tuple_list, kt_tuple_tuple, kt_dict_int, kt_dict_bool, kt_dict_str, kt_dict_list, kt_dict_tuple, e_ii_non, e_ii_bl, e_ii_int, e_ii_str, e_ii_lst, e_ii_scr, e_ii_tup, e_ii_dK, e_ii_dT, e_ii_ins, dCallL, e_argL, e_fl1, e_fl2, e_fl3, e_fl4, List.all_cons, List.all_nil, dDict, dDict0, e_keys0, e_keysS, e_keysI, e_cl_non, e_cl_bl, e_cl_int, e_pl_int, e_cl_str, e_cl_lst, e_cl_scr, e_cl_tup, e_cl_dK, e_cl_dT, e_iq1, e_iq2, e_nn1, e_nn2, e_nn3, e_nn4, e_inp, e_ixd, Int.cast_ofNat_Int, Int.natCast_succ, decide_true, decide_false, Int.reduceEq, Int.reduceLT, Int.reduceLE, Int.reduceNe, Nat.reduceLT, Nat.reduceLeDiff, Bool.and_true, Bool.true_and, Bool.and_false, Bool.false_and, Bool.not_eq_true, Bool.or_true, Bool.or_false, Int.natCast_add, Int.natCast_one, Int.zero_add, Int.add_zero]
    exact q
end O
namespace O
open PySem PySem.Spec PyProof.Rows L2
theorem places_in {l p : List Nat} {i : Int} (m : i ∈ placesI l p) : inS l i := by
  unfold placesI at m
  obtain ⟨m, _⟩ := List.mem_filter.mp m
  obtain ⟨j, mj, rfl⟩ := List.mem_map.mp m
  have := List.mem_range.mp mj
  exact ⟨by omega, by omega⟩
theorem aftI_len (l : List Nat) (p : Pl) : (aftI l p).length = l.length := by
  unfold aftI
  rw [setS_len, setS_len]
theorem aftP_ab {l : List Nat} {p : Pl} (h : abS l) : abS (aftP l p) := by
  have one : ∀ {l : List Nat} {i : Int}, abS l → abS (cutS l i) := fun {l i} h c m => by
    unfold cutS at m
    rcases List.mem_append.mp m with m | m
    · rcases List.mem_append.mp m with m | m
      · exact h c (List.mem_of_mem_take m)
      · exact h c (List.mem_of_mem_drop (List.mem_of_mem_take (List.mem_reverse.mp m)))
    · exact h c (List.mem_of_mem_drop m)
  exact one (one h)
end O
namespace O
open PySem PySem.Spec PyProof.Rows L2
theorem eq3 (a b c d e f : Int) : eqvO (T.tup [.int a, .int b, .int c]).pd (T.tup [.int d, .int e, .int f]).pd = decide ((a, b, c) = (d, e, f)) := (dt3 dtI dtI dtI).eqvO (a, b, c) (d, e, f)
theorem ok3 (a b c : Int) : okD (.tup [.int a, .int b, .int c]) := (dt3 dtI dtI dtI).okD (a := (a, b, c)) ⟨trivial, trivial, trivial⟩
theorem eqT3 (n : Bool) (a b c d e f : Int) : eqT n (T.tup [.int a, .int b, .int c]) (T.tup [.int d, .int e, .int f]) = ⟨True, (false, .bl (n != decide ((a, b, c) = (d, e, f))))⟩ := by
  show (⟨okD (T.tup [.int a, .int b, .int c]) ∧ okD (T.tup [.int d, .int e, .int f]), (false, .bl (n != eqvO (T.tup [.int a, .int b, .int c]).pd (T.tup [.int d, .int e, .int f]).pd))⟩ : Ot) = _
  rw [eq3, eq_true (⟨ok3 a b c, ok3 d e f⟩ : okD (T.tup [.int a, .int b, .int c]) ∧ okD (T.tup [.int d, .int e, .int f]))]
theorem count_b {l : List Nat} (h : abS l) : l.count 97 + l.count 98 = l.length := by
  induction l with
  | nil => rfl
  | cons c l ih =>
    have := ih fun x m => h x (List.mem_cons_of_mem _ m)
    rw [List.count_cons, List.count_cons, List.length_cons]
    rcases h c List.mem_cons_self with rfl | rfl <;> simp <;> omega
theorem same_counts {l o : List Nat} (hl : abS l) (ho : abS o) : sameC l o = true ↔ (((l.count 97 : Nat) : Int), ((l.count 98 : Nat) : Int), pairsL l) = (((o.count 97 : Nat) : Int), ((o.count 98 : Nat) : Int), pairsL o) := by
  have k1 := count_b hl
  have k2 := count_b ho
  unfold sameC
  simp only [Bool.and_eq_true, decide_eq_true_eq, Prod.mk.injEq]
  constructor
  · rintro ⟨a, b, c⟩
    exact ⟨by omega, by omega, c⟩
  · rintro ⟨a, b, c⟩
    exact ⟨by omega, by omega, c⟩
theorem fLC_ok {l : List Nat} (h : l.length ≤ 10000) : fLC [.str l] = ⟨True, (false, .tup [.int (l.count 97 : Nat), .int (l.count 98 : Nat), .int (pairsL l)])⟩ := by
  show (⟨l.length ≤ 10000, _⟩ : Ot) = _
  rw [eq_true h]
end O
namespace O
open PySem PySem.Spec PyProof.Rows L2
theorem swapsT_eq (l : List Nat) : swapsT l = (swapsP l).map fun p => pairI p.1 p.2 := by
  unfold swapsT swapsP
  rw [List.map_flatten, List.map_map]
  congr 1
  refine List.map_congr_left fun a _ => ?_
  rw [Function.comp, List.map_map]
  rfl
end O
namespace O
open PySem PySem.Spec PyProof.Rows L2
end O
namespace O
open PySem PySem.Spec PyProof.Rows L2
end O
namespace O
open PySem PySem.Spec PyProof.Rows L2
theorem le_pair {a b c d : Int} : T.le (pairI a b) (pairI c d) = !decide (c < a ∨ (c = a ∧ d < b)) := by
  show (!PySem.W.dataLt (.tuple [.int c, .int d]) (.tuple [.int a, .int b])) = _
  rw [PySem.W.dataLt_ii]
theorem pairs_list : ∀ {ts : List T}, (∀ t ∈ ts, ∃ a b : Int, t = pairI a b) → ∃ ps : List (Int × Int), ts = ps.map (dt2 dtI dtI).t
  | [], _ => ⟨[], rfl⟩
  | t :: ts, h => by
    obtain ⟨a, b, e⟩ := h t List.mem_cons_self
    obtain ⟨ps, e2⟩ := pairs_list (ts := ts) fun x m => h x (List.mem_cons_of_mem _ m)
    exact ⟨(a, b) :: ps, by rw [e, e2]; rfl⟩
theorem pairs_sort {ts : List T} (h : ∀ t ∈ ts, ∃ a b : Int, t = pairI a b) : srtOk ts := by
  refine ⟨?_, fun d hd d' hd' => ?_, .inl fun d hd => ?_⟩
  · obtain ⟨ps, rfl⟩ := pairs_list h
    refine ⟨_, pdL_map (dt2 dtI dtI) ps, fun d m => ?_⟩
    obtain ⟨p, _, rfl⟩ := List.mem_map.mp m
    exact Nat.le_trans ((dt2 dtI dtI).dp p) (by decide)
  · obtain ⟨t, m, rfl⟩ := List.mem_map.mp hd
    obtain ⟨t', m', rfl⟩ := List.mem_map.mp hd'
    obtain ⟨a, b, rfl⟩ := h t m
    obtain ⟨a', b', rfl⟩ := h t' m'
    rfl
  · obtain ⟨t, m, rfl⟩ := List.mem_map.mp hd
    obtain ⟨a, b, rfl⟩ := h t m
    exact ⟨.int a, [.int b], rfl⟩
end O
namespace O
open PySem PySem.Spec PyProof.Rows L2
theorem setS_get {l : List Nat} {i : Int} (h : inS l i) (k : Nat) : (setS l i)[k]? = if k = i.toNat then l[i.toNat + 1]? else if k = i.toNat + 1 then l[i.toNat]? else l[k]? := by
  obtain ⟨h0, h1⟩ := h
  have l1 : i.toNat < l.length := by omega
  have l2 : i.toNat + 1 < l.length := by omega
  unfold setS
  rw [List.getElem?_set, List.length_set, List.getElem?_set, List.getD_eq_getElem?_getD, List.getD_eq_getElem?_getD, List.getElem?_eq_getElem l1, List.getElem?_eq_getElem l2]
  by_cases c1 : k = i.toNat
  · subst c1
    rw [if_neg (by omega), if_pos rfl, if_pos l1, if_pos rfl]
    rfl
  · by_cases c2 : k = i.toNat + 1
    · subst c2
      rw [if_pos rfl, if_pos l2, if_neg c1, if_pos rfl]
      rfl
    · rw [if_neg (fun z => c2 z.symm), if_neg (fun z => c1 z.symm), if_neg c1, if_neg c2]
theorem split2 {l : List Nat} {i : Int} (h : inS l i) : ∃ u x y v, l = u ++ x :: y :: v ∧ u.length = i.toNat ∧ cutS l i = u ++ y :: x :: v := by
  obtain ⟨h0, h1⟩ := h
  have l1 : i.toNat < l.length := by omega
  have l2 : i.toNat + 1 < l.length := by omega
  have e1 : l.drop i.toNat = l[i.toNat] :: l[i.toNat + 1] :: l.drop (i.toNat + 2) := by
    rw [List.drop_eq_getElem_cons l1, List.drop_eq_getElem_cons l2]
  refine ⟨l.take i.toNat, l[i.toNat], l[i.toNat + 1], l.drop (i.toNat + 2), ?_, ?_, ?_⟩
  · rw [← e1, List.take_append_drop]
  · rw [List.length_take]; omega
  · unfold cutS
    rw [List.append_assoc]
    congr 1
    rw [e1]
    rfl
theorem set_cut {l : List Nat} {i : Int} (h : inS l i) : setS l i = cutS l i := by
  obtain ⟨u, x, y, v, e1, e2, e3⟩ := split2 h
  refine List.ext_getElem? fun k => ?_
  rw [setS_get h, e3, e1, ← e2]
  rw [List.getElem?_append, List.getElem?_append, List.getElem?_append, List.getElem?_append]
  by_cases c1 : k = u.length
  · subst c1
    simp
  · by_cases c2 : k = u.length + 1
    · subst c2
      simp
    · rw [if_neg c1, if_neg c2]
      by_cases c3 : k < u.length
      · rw [if_pos c3, if_pos c3]
      · rw [if_neg c3, if_neg c3]
        obtain ⟨j, rfl⟩ : ∃ j, k = u.length + (j + 2) := ⟨k - u.length - 2, by omega⟩
        rw [Nat.add_sub_cancel_left]
        rfl
theorem inS_set {l : List Nat} {i j : Int} (h : inS l j) : inS (setS l i) j := by
  unfold inS at h ⊢
  rw [setS_len]
  exact h
theorem aft_eq {l : List Nat} {p : Pl} (h1 : inS l p.1) (h2 : inS l p.2) : aftI l p = aftP l p := by
  unfold aftI aftP
  rw [set_cut h1, set_cut]
  rw [← set_cut h1]
  exact inS_set h2
theorem at_iff {l : List Nat} {i : Int} {x y : Nat} (h : 0 ≤ i) : atP l [x, y] i = true ↔ l[i.toNat]? = some x ∧ l[i.toNat + 1]? = some y := by
  have e : i = (i.toNat : Int) := (Int.toNat_of_nonneg h).symm
  unfold atP
  rw [decide_eq_true_eq]
  have c := cut_mid l i.toNat (i.toNat + 2)
  rw [← e, show ((i.toNat + 2 : Nat) : Int) = i + 2 by omega, show i.toNat + 2 - i.toNat = 2 by omega] at c
  rw [c]
  generalize i.toNat = n
  rw [show l[n]? = (l.drop n)[0]? by rw [List.getElem?_drop]; rfl, show l[n + 1]? = (l.drop n)[1]? by rw [List.getElem?_drop]]
  match l.drop n with
  | [] => simp
  | [a] => simp
  | a :: b :: r => simp
theorem atP_set {l : List Nat} {i j : Int} {w : List Nat} {x y : Nat} (hw : w = [x, y]) (hi : inS l i) (hj : inS l j) (n : 1 < (if i - j < 0 then -(i - j) else i - j)) (h : atP l w j = true) : atP (setS l i) w j = true := by
  subst hw
  have hi0 := hi.1
  have hj0 := hj.1
  rw [at_iff hj0] at h ⊢
  rw [setS_get hi, setS_get hi]
  have : i.toNat ≠ j.toNat ∧ j.toNat ≠ i.toNat + 1 ∧ j.toNat + 1 ≠ i.toNat := by
    refine ⟨fun z => ?_, fun z => ?_, fun z => ?_⟩ <;> (revert n; split <;> omega)
  rw [if_neg (fun z => this.1 z.symm), if_neg this.2.1, if_neg this.2.2, if_neg (by omega)]
  exact h
def cA (l : List Nat) (k : Nat) : Int := ((l.take k).count 97 : Nat)
theorem cA_app {u w : List Nat} {k : Nat} : cA (u ++ w) k = cA u k + cA w (k - u.length) := by
  unfold cA
  rw [List.take_append, List.count_append]
  omega
theorem pq_app : ∀ (u w : List Nat) (n : Int), pq n (u ++ w) = pq n u + pq (n + (u.count 97 : Nat)) w
  | [], w, n => by
    show pq n w = 0 + pq (n + (([] : List Nat).count 97 : Nat)) w
    simp
  | c :: u, w, n => by
    show (if c = 98 then n else 0) + pq (n + if c = 97 then 1 else 0) (u ++ w) = (if c = 98 then n else 0) + pq (n + if c = 97 then 1 else 0) u + pq (n + ((c :: u).count 97 : Nat)) w
    rw [pq_app u w, List.count_cons]
    have e : n + (if c = 97 then 1 else 0) + ((u.count 97 : Nat) : Int) = n + ((u.count 97 + if (c == 97) = true then 1 else 0 : Nat) : Int) := by
      by_cases h : c = 97
      · subst h
        simp
        omega
      · simp [h]
    rw [e]
    omega
theorem pairs_pq (l : List Nat) : pairsL l = pq 0 l := by
  rw [← pq_eq]
  rfl
/-- an a and a b behind it change places -/
theorem one_fall {u v : List Nat} : pairsL (u ++ 97 :: 98 :: v) = pairsL (u ++ 98 :: 97 :: v) + 1 := by
  rw [pairs_pq, pairs_pq, pq_app, pq_app]
  generalize 0 + ((u.count 97 : Nat) : Int) = n
  have e1 : pq n (97 :: 98 :: v) = 0 + ((n + 1) + pq (n + 1 + 0) v) := rfl
  have e2 : pq n (98 :: 97 :: v) = n + (0 + pq (n + 0 + 1) v) := rfl
  rw [e1, e2, show n + 1 + 0 = n + 1 by omega, show n + 0 + 1 = n + 1 by omega]
  omega
theorem one_cA {u v : List Nat} {x y : Nat} (hxy : (x = 97 ∧ y = 98) ∨ (x = 98 ∧ y = 97)) (k : Nat) : cA (u ++ y :: x :: v) k = cA (u ++ x :: y :: v) k + if k = u.length + 1 then (if x = 97 then -1 else 1) else 0 := by
  rw [cA_app, cA_app]
  by_cases c : k = u.length + 1
  · subst c
    rw [Nat.add_sub_cancel_left]
    unfold cA
    rcases hxy with ⟨rfl, rfl⟩ | ⟨rfl, rfl⟩ <;> simp <;> omega
  · rw [if_neg c]
    have e : cA (y :: x :: v) (k - u.length) = cA (x :: y :: v) (k - u.length) := by
      match h : k - u.length with
      | 0 => rfl
      | 1 => omega
      | m + 2 =>
        unfold cA
        rw [List.take_succ_cons, List.take_succ_cons, List.take_succ_cons, List.take_succ_cons]
        simp only [List.count_cons]
        omega
    rw [e]
    omega
theorem prefL_cA (l : List Nat) : prefL l = (List.range (l.length + 1)).map (cA l) := (prefC_eq l).symm
end O
namespace O
open PySem PySem.Spec PyProof.Rows L2
theorem at_split {l : List Nat} {i : Int} {x y : Nat} (h : inS l i) (ha : atP l [x, y] i = true) : ∃ u v, l = u ++ x :: y :: v ∧ u.length = i.toNat ∧ setS l i = u ++ y :: x :: v := by
  obtain ⟨u, x', y', v, e1, e2, e3⟩ := split2 h
  rw [at_iff h.1, ← e2, e1] at ha
  simp at ha
  obtain ⟨rfl, rfl⟩ := ha
  exact ⟨u, v, e1, e2, by rw [set_cut h, e3]⟩
theorem fall_step {l : List Nat} {i : Int} (h : inS l i) (ha : atP l [97, 98] i = true) : pairsL l = pairsL (setS l i) + 1 ∧ ∀ k, cA (setS l i) k = cA l k + if k = i.toNat + 1 then -1 else 0 := by
  obtain ⟨u, v, e1, e2, e3⟩ := at_split h ha
  rw [e3, e1, ← e2]
  exact ⟨one_fall, fun k => one_cA (.inl ⟨rfl, rfl⟩) k⟩
theorem rise_step {l : List Nat} {i : Int} (h : inS l i) (ha : atP l [98, 97] i = true) : pairsL (setS l i) = pairsL l + 1 ∧ ∀ k, cA (setS l i) k = cA l k + if k = i.toNat + 1 then 1 else 0 := by
  obtain ⟨u, v, e1, e2, e3⟩ := at_split h ha
  rw [e3, e1, ← e2]
  exact ⟨one_fall, fun k => one_cA (.inr ⟨rfl, rfl⟩) k⟩
structure Sw (l : List Nat) (a b : Int) : Prop where
  ia : inS l a
  ib : inS l b
  fa : atP l [97, 98] a = true
  rb : atP l [98, 97] b = true
  sw : swB a b = true
theorem sw_mem {l : List Nat} {p : Pl} (h : p ∈ swapsP l) : Sw l p.1 p.2 := by
  unfold swapsP at h
  obtain ⟨xs, mx, m⟩ := List.mem_flatten.mp h
  obtain ⟨a, ma, rfl⟩ := List.mem_map.mp mx
  obtain ⟨b, mb, rfl⟩ := List.mem_map.mp m
  obtain ⟨mb, sb⟩ := List.mem_filter.mp mb
  exact ⟨places_in ma, places_in mb, (List.mem_filter.mp ma).2, (List.mem_filter.mp mb).2, sb⟩
theorem swB_iff {a b : Int} : swB a b = true ↔ (1 < (if a - b < 0 then -(a - b) else a - b)) := decide_eq_true_iff
theorem swB_symm {a b : Int} (h : swB a b = true) : swB b a = true := by
  rw [swB_iff] at h ⊢
  revert h
  split <;> split <;> omega
section
variable {l : List Nat} {a b : Int}
theorem Sw.rb' (s : Sw l a b) : atP (setS l a) [98, 97] b = true := atP_set rfl s.ia s.ib (swB_iff.mp s.sw) s.rb
theorem Sw.ib' (s : Sw l a b) : inS (setS l a) b := inS_set s.ib
theorem Sw.ne (s : Sw l a b) : a ≠ b ∧ a + 1 ≠ b ∧ b + 1 ≠ a := by
  have := swB_iff.mp s.sw
  refine ⟨fun z => ?_, fun z => ?_, fun z => ?_⟩ <;> (revert this; split <;> omega)
theorem Sw.pairs (s : Sw l a b) : pairsL (aftI l (a, b)) = pairsL l := by
  have h1 := (fall_step s.ia s.fa).1
  have h2 := (rise_step s.ib' s.rb').1
  show pairsL (setS (setS l a) b) = _
  omega
theorem Sw.cA (s : Sw l a b) (k : Nat) : cA (aftI l (a, b)) k = O.cA l k + (if k = a.toNat + 1 then -1 else 0) + if k = b.toNat + 1 then 1 else 0 := by
  show O.cA (setS (setS l a) b) k = _
  rw [(rise_step s.ib' s.rb').2, (fall_step s.ia s.fa).2]
theorem Sw.same (s : Sw l a b) : sameC (aftI l (a, b)) l = true := by
  have len := aftI_len l (a, b)
  have c := s.cA l.length
  have ia := s.ia
  have ib := s.ib
  unfold inS at ia ib
  have e : (aftI l (a, b)).count 97 = l.count 97 := by
    unfold O.cA at c
    rw [List.take_of_length_le (by omega), List.take_of_length_le (by omega)] at c
    have := s.ne
    revert c
    split <;> split <;> omega
  unfold sameC
  rw [decide_eq_true len, decide_eq_true e, decide_eq_true s.pairs]
  rfl
theorem Sw.get (s : Sw l a b) (k : Nat) : (aftI l (a, b))[k]? = if k = b.toNat then l[b.toNat + 1]? else if k = b.toNat + 1 then l[b.toNat]? else if k = a.toNat then l[a.toNat + 1]? else if k = a.toNat + 1 then l[a.toNat]? else l[k]? := by
  have n := s.ne
  have a0 := s.ia.1
  have b0 := s.ib.1
  show (setS (setS l a) b)[k]? = _
  rw [setS_get s.ib', setS_get s.ia, setS_get s.ia, setS_get s.ia]
  rw [if_neg (show ¬ b.toNat + 1 = a.toNat by omega), if_neg (show ¬ b.toNat + 1 = a.toNat + 1 by omega), if_neg (show ¬ b.toNat = a.toNat by omega), if_neg (show ¬ b.toNat = a.toNat + 1 by omega)]
theorem Sw.back (s : Sw l a b) : Sw (aftI l (a, b)) b a := by
  have n := s.ne
  have a0 := s.ia.1
  have b0 := s.ib.1
  have i1 : inS (aftI l (a, b)) a := by
    have := s.ia
    unfold inS at this ⊢
    rw [aftI_len]
    exact this
  have i2 : inS (aftI l (a, b)) b := by
    have := s.ib
    unfold inS at this ⊢
    rw [aftI_len]
    exact this
  obtain ⟨f1, f2⟩ := (at_iff a0).mp s.fa
  obtain ⟨r1, r2⟩ := (at_iff b0).mp s.rb
  refine ⟨i2, i1, (at_iff b0).mpr ?_, (at_iff a0).mpr ?_, swB_symm s.sw⟩
  · rw [s.get, s.get, if_pos rfl, if_neg (by omega), if_pos rfl]
    exact ⟨r2, r1⟩
  · rw [s.get, s.get, if_neg (by omega), if_neg (by omega), if_pos rfl, if_neg (by omega), if_neg (by omega), if_neg (by omega), if_pos rfl]
    exact ⟨f2, f1⟩
theorem Sw.twice (s : Sw l a b) : aftI (aftI l (a, b)) (b, a) = l := by
  have n := s.ne
  have a0 := s.ia.1
  have b0 := s.ib.1
  refine List.ext_getElem? fun k => ?_
  rw [s.back.get, s.get, s.get, s.get, s.get, s.get]
  by_cases c1 : k = a.toNat
  · subst c1
    rw [if_pos rfl, if_neg (by omega), if_neg (by omega), if_neg (by omega), if_pos rfl]
  · rw [if_neg c1]
    by_cases c2 : k = a.toNat + 1
    · subst c2
      rw [if_pos rfl, if_neg (by omega), if_neg (by omega), if_pos rfl]
    · rw [if_neg c2]
      by_cases c3 : k = b.toNat
      · subst c3
        rw [if_pos rfl, if_neg (by omega), if_pos rfl]
      · rw [if_neg c3]
        by_cases c4 : k = b.toNat + 1
        · subst c4
          rw [if_pos rfl, if_pos rfl]
        · rw [if_neg c4, if_neg c3, if_neg c4, if_neg c1, if_neg c2]
theorem Sw.swT (s : Sw l a b) : O.swT l (pairI a b) = true := by
  have ia := s.ia
  have ib := s.ib
  have pa := s.fa
  have pb := s.rb
  have sb := s.sw
  show (inR l (.int a) && (inR l (.int b) && swI l a b)) = true
  unfold inR
  rw [isInt2, isInt2, decide_eq_true ia.1, decide_eq_true (show a ≤ (l.length : Int) - 2 by have := ia.2; omega), decide_eq_true ib.1, decide_eq_true (show b ≤ (l.length : Int) - 2 by have := ib.2; omega)]
  show (swI l a b) = true
  unfold swI
  unfold atP at pa pb
  unfold swB at sb
  rw [pa, pb, sb]
  rfl
end
def leP (p q : Pl) : Bool := !decide (q.1 < p.1 ∨ (q.1 = p.1 ∧ q.2 < p.2))
theorem leP_iff {p q : Pl} : leP p q = true ↔ ¬ (q.1 < p.1 ∨ (q.1 = p.1 ∧ q.2 < p.2)) := by
  unfold leP
  rw [Bool.not_eq_true', decide_eq_false_iff_not]
theorem leP_tr (a b c : Pl) (h : leP a b = true) (k : leP b c = true) : leP a c = true := by
  rw [leP_iff] at h k ⊢
  omega
theorem leP_tot (a b : Pl) : (leP a b || leP b a) = true := by
  rw [Bool.or_eq_true, leP_iff, leP_iff]
  omega
theorem leP_anti {a b : Pl} (h : leP a b = true) (k : leP b a = true) : a = b := by
  rw [leP_iff] at h k
  exact Prod.ext (by omega) (by omega)
def plT (p : Pl) : T := pairI p.1 p.2
theorem srt_perm {xs ys : List Pl} (h : xs.Perm ys) : (xs.map plT).mergeSort T.le = (ys.map plT).mergeSort T.le := by
  have e : ∀ zs : List Pl, (zs.map plT).mergeSort T.le = (zs.mergeSort leP).map plT := fun zs => (PySem.W.sort_maps (r := leP) (s := T.le) plT (l := zs) fun a _ b _ => by
    show leP a b = T.le (pairI a.1 a.2) (pairI b.1 b.2)
    rw [le_pair]
    rfl).symm
  rw [e, e]
  congr 1
  exact ((List.mergeSort_perm xs leP).trans (h.trans (List.mergeSort_perm ys leP).symm)).eq_of_pairwise (fun a b _ _ => leP_anti) (List.pairwise_mergeSort leP_tr leP_tot xs) (List.pairwise_mergeSort leP_tr leP_tot ys)
end O
namespace O
open PySem PySem.Spec PyProof.Rows L2
def fSwapped : List T → Ot
  | [.str l, .tup [.int a, .int b]] => ⟨rowB l = true ∧ Sw l a b, (false, .str (aftI l (a, b)))⟩
  | _ => ⟨False, (false, .non)⟩
theorem pl_pair (a b : Int) : plainP (.tup [.int a, .int b]) := by
  refine ⟨trivial, fun ts e x m => ?_⟩
  have := T.tup.inj e
  subst this
  simp only [List.mem_cons, List.not_mem_nil, or_false] at m
  rcases m with rfl | rfl <;> trivial
theorem h_swapped (ars : Rho) (Q : Po Rv) (h : SP fSwapped ars Q) : D_swapped (SP fIsSwap) (SP fAftI) (ars ++ List.replicate 0 .no) (fwish ars Q) := by
  obtain ⟨ts, rfl, pre, q⟩ := h
  match ts, pre, q with
  | [.str l, .tup [.int a, .int b]], pre, q =>
    obtain ⟨rl, sw⟩ := (show rowB l = true ∧ Sw l a b from pre)
    have hl := row_len rl
    have q : Q.ok (false, .str (aftI l (a, b))) [.no, .no] := q
    have f1 : fIsSwap [.str l, .tup [.int a, .int b]] = ⟨True, (false, .bl true)⟩ := by
      show (⟨rowB l = true ∧ plainP (.tup [.int a, .int b]), (false, .bl (swT l (pairI a b)))⟩ : Ot) = _
      rw [sw.swT, eq_true (⟨rl, pl_pair a b⟩ : rowB l = true ∧ plainP (.tup [.int a, .int b]))]
    have f2 : fAftI [.str l, .tup [.int a, .int b]] = ⟨True, (false, .str (aftI l (a, b)))⟩ := by
      show (⟨l.length ≤ 10000 ∧ inS l a ∧ inS l b, _⟩ : Ot) = _
      rw [eq_true (⟨by omega, sw.ia, sw.ib⟩ : l.length ≤ 10000 ∧ inS l a ∧ inS l b)]
    show D_swapped (SP fIsSwap) (SP fAftI) [.sh (.str l), .sh (.tup [.int a, .int b])] _
    simp only [sSeq, sSet, sPar, sIf, sRet, sRetN, sDrop, sNext, sDead, sBrk, sCnt, sAsg, sFor, dNm, dTm, dC, dOp1, dOp2, dOpN, dMt, dMut, dCall, dLst, dTup, dNil, dCons, dVn, dVc, dSl, dSl3, dNoP, dPrt, dIf, dAndV, dOrV, dNotV, dBv, dTru, dNotT, dAndT, dOrT, dChn, dEqQ, dRpQ, qOp, qNil, qCons, qLs, qTp, dSrc, dRng1, dRng2, dZip2, dEnum, dComp, dYes, gNm, gTp, gCn, gNi, gIt, e_var, e_var1, e_var2, e_var3, e_var4, e_mov, e_mov1, e_mov2, e_mov3, e_mov4, e_tr1, e_tr2, e_tr3, e_tr4, e_tr5, e_own1, e_own2, e_reo1, e_reo2, e_of1, e_of2, e_pin1, e_pin2, e_pin3, e_arg1, e_arg2, e_arg3, e_arg4, e_isarg1, e_isarg2, e_conv1, e_conv2, e_conv3, e_conv4, e_conv5, e_conv6, e_sown1, e_sown2, e_sown3, e_sown4, e_put1, e_put2, e_po1, e_po2, e_p1, e_p2, e_ao1, e_ao2, e_nd0, e_nd1, e_nd2, e_sl, e_get1, e_get2, e_is, e_all, e_gets0, e_gets1, e_gets2, e_tms0, e_tms1, e_qg1, e_qg2, e_qg3, e_qgs0, e_qgs1, e_its1, e_its2, e_its3, e_its4, e_jts1, e_jts2, e_jts4, e_mt1, e_mt2, e_ty1, e_add1, e_add2, e_add3, e_sub, e_mul1, e_mul2, e_mul3, e_fdiv, e_mod, e_pow, e_neg, e_len1, e_len2, e_len3, e_len4, e_int1, e_int2, e_abs, e_max, e_min, e_ix1, e_ix2, e_ix3, e_ix4, e_eq1, e_eq2, e_eq3, e_lt1, e_le1, e_gt1, e_ge1, e_lt2, e_in1, e_app, e_ext, e_rev, e_clr, e_set, e_sl1, e_sl2, e_sl3, e_sl4, e_count, e_f1, e_f2, e_osh, e_owh, e_one, e_tt1, e_tt2, e_ctg1, e_ctg2, e_cn0, e_cn1, e_wi0, e_wi1, e_re0, e_re1, e_ifb1, e_ifb2, e_nm0, e_nm1, e_nm2, e_fa0, e_fa1, e_sum, e_allb, e_anyb, e_sp1, e_sp2, e_sp3, e_at0, e_at1, e_at2, e_at3, e_at4, e_at5, e_ixn40, e_ixn41, e_ixn42, e_ixn43, e_cp1, e_cp2, e_cp3, e_cp4, e_cp5, forall_eq, List.getD_cons_zero, List.getD_cons_succ, List.getD_nil, List.set_cons_zero, List.set_cons_succ, List.map_cons, List.map_nil, Option.map_some, Option.map_none, Option.bind_some, Option.bind_none, Option.getD_some, Option.some.injEq, exists_eq_left', exists_eq_left, exists_eq', exists_eq, decide_eq_true_eq, List.length_map, exists_eq_right, exists_and_left, exists_and_right, Option.isSome_some, T.int.injEq, T.str.injEq, T.lst.injEq, T.tup.injEq, T.bl.injEq, List.cons.injEq, Prod.mk.injEq, Hn.tm.injEq, true_and, and_true, and_assoc, and_self, ne_eq, not_false_eq_true, not_true_eq_false, ite_true, ite_false, if_true, if_false, reduceIte, reduceCtorEq, Bool.false_eq_true, false_and, and_false, imp_self, forall_const, implies_true, List.length_cons, List.length_nil, Nat.reduceAdd, Nat.reduceEqDiff, Bool.false_bne, Bool.true_bne, Bool.not_false, Bool.not_true, List.nil_append, List.cons_append, Int.reduceToNat, Int.reducePow, Int.reduceMul, Int.reduceSub, Int.reduceAdd, Int.reduceNeg, kt_NoneType_int, kt_NoneType_bool, kt_NoneType_str, kt_NoneType_list, kt_NoneType_tuple, kt_bool_int, kt_bool_bool, kt_bool_str, kt_bool_list, kt_bool_tuple, kt_int_int, kt_int_bool, kt_int_str, kt_int_list, kt_int_tuple, kt_str_int, kt_str_bool, kt_str_str, kt_str_list, kt_str_tuple, kt_list_int, kt_list_bool, kt_list_str, kt_list_list, kt_list_tuple, kt_tuple_int, kt_tuple_bool, kt_tuple_str, kt_tuple_list, kt_tuple_tuple, kt_dict_int, kt_dict_bool, kt_dict_str, kt_dict_list, kt_dict_tuple, e_ii_non, e_ii_bl, e_ii_int, e_ii_str, e_ii_lst, e_ii_scr, e_ii_tup, e_ii_dK, e_ii_dT, e_ii_ins, dCallL, e_argL, e_fl1, e_fl2, e_fl3, e_fl4, List.all_cons, List.all_nil, dDict, dDict0, e_keys0, e_keysS, e_keysI, e_cl_non, e_cl_bl, e_cl_int, e_pl_int, e_cl_str, e_cl_lst, e_cl_scr, e_cl_tup, e_cl_dK, e_cl_dT, e_iq1, e_iq2, e_nn1, e_nn2, e_nn3, e_nn4, e_inp, e_ixd, Int.cast_ofNat_Int, Int.natCast_succ, decide_true, decide_false, Int.reduceEq, Int.reduceLT, Int.reduceLE, Int.reduceNe, Nat.reduceLT, Nat.reduceLeDiff, Bool.and_true, Bool.true_and, Bool.and_false, Bool.false_and, Bool.not_eq_true, Bool.or_true, Bool.or_false, Int.natCast_add, Int.natCast_one, Int.zero_add, Int.add_zero, D_swapped, f1, f2]
    exact q
def stp (a b : Int) (k : Nat) : Int := (if k = a.toNat + 1 then -1 else 0) + if k = b.toNat + 1 then 1 else 0
theorem steps_eq {l : List Nat} {a b : Int} (sw : Sw l a b) : (((prefL l).zip (prefL (aftI l (a, b)))).map fun p => T.int (p.2 - p.1)) = ((List.range (l.length + 1)).map fun k => T.int (stp a b k)) := by
  rw [prefL_cA, prefL_cA, aftI_len, List.zip_map', List.map_map]
  refine List.map_congr_left fun k _ => ?_
  show T.int (cA (aftI l (a, b)) k - cA l k) = _
  rw [sw.cA]
  unfold stp
  congr 1
  omega
theorem enum_range (f : Nat → T) (n : Nat) : enumT ((List.range n).map f) = (List.range n).map fun k => .tup [.int (k : Int), f k] := by
  have h : ∀ (xs : List Nat) (c : Nat), (∀ i (hi : i < xs.length), xs[i] = c + i) → enumFrom c (xs.map f) = xs.map fun k => .tup [.int (k : Int), f k] := fun xs => by
    induction xs with
    | nil => intro c _; rfl
    | cons x xs ih =>
      intro c hx
      have h0 : x = c := hx 0 (Nat.zero_lt_succ _)
      subst h0
      show T.tup [.int (x : Int), f x] :: enumFrom (x + 1) (xs.map f) = _
      rw [ih (x + 1) fun i hi => by
        have := hx (i + 1) (by simpa using hi)
        simp at this
        omega]
      rfl
  exact h _ 0 fun i hi => by simp
def chg (n : Nat) (a b : Int) : List Pl := ((List.range n).filter fun k => decide (stp a b k ≠ 0)).map fun k : Nat => ((k : Int) - 1, stp a b k)
theorem chg_perm {l : List Nat} {a b : Int} (sw : Sw l a b) : (chg (l.length + 1) a b).Perm [(a, -1), (b, 1)] := by
  have n := sw.ne
  have ia := sw.ia
  have ib := sw.ib
  unfold inS at ia ib
  have nd : (chg (l.length + 1) a b).Nodup := by
    unfold chg
    refine List.Pairwise.map _ (fun x y h => ?_) (List.Pairwise.filter _ List.nodup_range)
    intro z
    have := congrArg Prod.fst z
    simp at this
    omega
  refine (List.perm_ext_iff_of_nodup nd ?_).mpr fun p => ?_
  · refine List.nodup_cons.mpr ⟨fun z => ?_, List.nodup_cons.mpr ⟨fun z => (by cases z), List.nodup_nil⟩⟩
    rw [List.mem_singleton] at z
    exact n.1 (congrArg Prod.fst z)
  · unfold chg
    rw [List.mem_map]
    constructor
    · rintro ⟨k, hk, rfl⟩
      obtain ⟨_, h2⟩ := List.mem_filter.mp hk
      have h2 := of_decide_eq_true h2
      unfold stp at h2 ⊢
      by_cases c1 : k = a.toNat + 1
      · rw [if_pos c1, if_neg (by omega)]
        refine List.mem_cons.mpr (.inl ?_)
        refine Prod.ext ?_ (by simp)
        show (k : Int) - 1 = a
        omega
      · rw [if_neg c1] at h2 ⊢
        by_cases c2 : k = b.toNat + 1
        · rw [if_pos c2]
          refine List.mem_cons_of_mem _ (List.mem_singleton.mpr ?_)
          refine Prod.ext ?_ (by simp)
          show (k : Int) - 1 = b
          omega
        · rw [if_neg c2] at h2
          exact absurd rfl h2
    · intro h
      simp only [List.mem_cons, List.not_mem_nil, or_false] at h
      rcases h with rfl | rfl
      · refine ⟨a.toNat + 1, List.mem_filter.mpr ⟨List.mem_range.mpr (by omega), ?_⟩, ?_⟩
        · unfold stp
          rw [if_pos rfl, if_neg (by omega)]
          decide
        · unfold stp
          rw [if_pos rfl, if_neg (by omega)]
          refine Prod.ext ?_ (by simp)
          show ((a.toNat + 1 : Nat) : Int) - 1 = a
          omega
      · refine ⟨b.toNat + 1, List.mem_filter.mpr ⟨List.mem_range.mpr (by omega), ?_⟩, ?_⟩
        · unfold stp
          rw [if_neg (by omega), if_pos rfl]
          decide
        · unfold stp
          rw [if_neg (by omega), if_pos rfl]
          refine Prod.ext ?_ (by simp)
          show ((b.toNat + 1 : Nat) : Int) - 1 = b
          omega
theorem srt_pl (ps : List Pl) : sortT (.lst (ps.map plT)) = ⟨True, (true, .lst ((ps.map plT).mergeSort T.le))⟩ := by
  show (⟨srtOk (ps.map plT), (true, .lst ((ps.map plT).mergeSort T.le))⟩ : Ot) = _
  rw [eq_true (pairs_sort fun t m => by obtain ⟨p, _, rfl⟩ := List.mem_map.mp m; exact ⟨p.1, p.2, rfl⟩)]
theorem eq_pl (ps : List Pl) : okD (.lst ((ps.map plT).mergeSort T.le)) ∧ eqvO (T.lst ((ps.map plT).mergeSort T.le)).pd (T.lst ((ps.map plT).mergeSort T.le)).pd = true := by
  have e : (ps.map plT).mergeSort T.le = (ps.mergeSort leP).map plT := (PySem.W.sort_maps (r := leP) (s := T.le) plT (l := ps) fun a _ b _ => by
    show leP a b = T.le (pairI a.1 a.2) (pairI b.1 b.2)
    rw [le_pair]
    rfl).symm
  rw [e]
  generalize ps.mergeSort leP = qs
  refine ⟨(dtL (dt2 dtI dtI)).okD (a := qs) fun x m => ⟨trivial, trivial⟩, ?_⟩
  have := (dtL (dt2 dtI dtI)).eqvO qs qs
  rw [decide_eq_true rfl] at this
  exact this
def fRight14 : List T → Ot
  | [.str l, .tup [.int a, .int b]] => ⟨rowB l = true ∧ Sw l a b, (false, .bl true)⟩
  | _ => ⟨False, (false, .non)⟩
theorem h__law_right_5 (ars : Rho) (Q : Po Rv) (h : SP fRight14 ars Q) : D__law_right_5 (SP fSwapped) (SP fAftP) (SP fLC) (SP fLPre) (ars ++ List.replicate 7 .no) (fwish ars Q) := by
  obtain ⟨ts, rfl, pre, q⟩ := h
  match ts, pre, q with
  | [.str l, .tup [.int a, .int b]], pre, q =>
    have hs := sizeLine_eq
    obtain ⟨rl, sw⟩ := (show rowB l = true ∧ Sw l a b from pre)
    have hl := row_len rl
    have al := (rowB_iff.mp rl).2
    have q : Q.ok (false, .bl true) [.no, .no] := q
    have f1 : fSwapped [.str l, .tup [.int a, .int b]] = ⟨True, (false, .str (aftI l (a, b)))⟩ := by
      show (⟨rowB l = true ∧ Sw l a b, _⟩ : Ot) = _
      rw [eq_true (⟨rl, sw⟩ : rowB l = true ∧ Sw l a b)]
    have f2 : fAftP [.str l, .tup [.int a, .int b]] = ⟨True, (false, .str (aftI l (a, b)))⟩ := by
      show (⟨l.length ≤ 10000 ∧ inS l a ∧ inS l b, (false, .str (aftP l (a, b)))⟩ : Ot) = _
      rw [eq_true (⟨by omega, sw.ia, sw.ib⟩ : l.length ≤ 10000 ∧ inS l a ∧ inS l b), aft_eq sw.ia sw.ib]
    have lm := aftI_len l (a, b)
    have am : abS (aftI l (a, b)) := by rw [aft_eq sw.ia sw.ib]; exact aftP_ab al
    have rm : rowB (aftI l (a, b)) = true := rowB_iff.mpr ⟨by omega, am⟩
    have g1 := fLC_ok (l := l) (by omega)
    have g2 := fLC_ok (l := aftI l (a, b)) (by omega)
    have ec := eqT3 true ((aftI l (a, b)).count 97 : Nat) ((aftI l (a, b)).count 98 : Nat) (pairsL (aftI l (a, b))) (l.count 97 : Nat) (l.count 98 : Nat) (pairsL l)
    rw [decide_eq_true ((same_counts am al).mp sw.same)] at ec
    have p1 : fLPre [.str l] = ⟨True, (true, .lst ((prefL l).map T.int))⟩ := by
      show (⟨l.length ≤ 10000, _⟩ : Ot) = _
      rw [eq_true (show l.length ≤ 10000 by omega)]
    have p2 : fLPre [.str (aftI l (a, b))] = ⟨True, (true, .lst ((prefL (aftI l (a, b))).map T.int))⟩ := by
      show (⟨(aftI l (a, b)).length ≤ 10000, _⟩ : Ot) = _
      rw [eq_true (show (aftI l (a, b)).length ≤ 10000 by omega)]
    have lz : lzT (.lst ((prefL l).map T.int)) (.lst ((prefL (aftI l (a, b))).map T.int)) = ⟨True, (true, .lst (((prefL l).zip (prefL (aftI l (a, b)))).map fun p => .tup [.int p.1, .int p.2]))⟩ := by
      show (⟨True, (true, .lst (zipT _ _))⟩ : Ot) = _
      rw [zipT_maps]
    show D__law_right_5 (SP fSwapped) (SP fAftP) (SP fLC) (SP fLPre) [.sh (.str l), .sh (.tup [.int a, .int b]), .no, .no, .no, .no, .no, .no, .no] _
    simp only [sSeq, sSet, sPar, sIf, sRet, sRetN, sDrop, sNext, sDead, sBrk, sCnt, sAsg, sFor, dNm, dTm, dC, dOp1, dOp2, dOpN, dMt, dMut, dCall, dLst, dTup, dNil, dCons, dVn, dVc, dSl, dSl3, dNoP, dPrt, dIf, dAndV, dOrV, dNotV, dBv, dTru, dNotT, dAndT, dOrT, dChn, dEqQ, dRpQ, qOp, qNil, qCons, qLs, qTp, dSrc, dRng1, dRng2, dZip2, dEnum, dComp, dYes, gNm, gTp, gCn, gNi, gIt, e_var, e_var1, e_var2, e_var3, e_var4, e_mov, e_mov1, e_mov2, e_mov3, e_mov4, e_tr1, e_tr2, e_tr3, e_tr4, e_tr5, e_own1, e_own2, e_reo1, e_reo2, e_of1, e_of2, e_pin1, e_pin2, e_pin3, e_arg1, e_arg2, e_arg3, e_arg4, e_isarg1, e_isarg2, e_conv1, e_conv2, e_conv3, e_conv4, e_conv5, e_conv6, e_sown1, e_sown2, e_sown3, e_sown4, e_put1, e_put2, e_po1, e_po2, e_p1, e_p2, e_ao1, e_ao2, e_nd0, e_nd1, e_nd2, e_sl, e_get1, e_get2, e_is, e_all, e_gets0, e_gets1, e_gets2, e_tms0, e_tms1, e_qg1, e_qg2, e_qg3, e_qgs0, e_qgs1, e_its1, e_its2, e_its3, e_its4, e_jts1, e_jts2, e_jts4, e_mt1, e_mt2, e_ty1, e_add1, e_add2, e_add3, e_sub, e_mul1, e_mul2, e_mul3, e_fdiv, e_mod, e_pow, e_neg, e_len1, e_len2, e_len3, e_len4, e_int1, e_int2, e_abs, e_max, e_min, e_ix1, e_ix2, e_ix3, e_ix4, e_eq1, e_eq2, e_eq3, e_lt1, e_le1, e_gt1, e_ge1, e_lt2, e_in1, e_app, e_ext, e_rev, e_clr, e_set, e_sl1, e_sl2, e_sl3, e_sl4, e_count, e_f1, e_f2, e_osh, e_owh, e_one, e_tt1, e_tt2, e_ctg1, e_ctg2, e_cn0, e_cn1, e_wi0, e_wi1, e_re0, e_re1, e_ifb1, e_ifb2, e_nm0, e_nm1, e_nm2, e_fa0, e_fa1, e_sum, e_allb, e_anyb, e_sp1, e_sp2, e_sp3, e_at0, e_at1, e_at2, e_at3, e_at4, e_at5, e_ixn40, e_ixn41, e_ixn42, e_ixn43, e_cp1, e_cp2, e_cp3, e_cp4, e_cp5, forall_eq, List.getD_cons_zero, List.getD_cons_succ, List.getD_nil, List.set_cons_zero, List.set_cons_succ, List.map_cons, List.map_nil, Option.map_some, Option.map_none, Option.bind_some, Option.bind_none, Option.getD_some, Option.some.injEq, exists_eq_left', exists_eq_left, exists_eq', exists_eq, decide_eq_true_eq, List.length_map, exists_eq_right, exists_and_left, exists_and_right, Option.isSome_some, T.int.injEq, T.str.injEq, T.lst.injEq, T.tup.injEq, T.bl.injEq, List.cons.injEq, Prod.mk.injEq, Hn.tm.injEq, true_and, and_true, and_assoc, and_self, ne_eq, not_false_eq_true, not_true_eq_false, ite_true, ite_false, if_true, if_false, reduceIte, reduceCtorEq, Bool.false_eq_true, false_and, and_false, imp_self, forall_const, implies_true, List.length_cons, List.length_nil, Nat.reduceAdd, Nat.reduceEqDiff, Bool.false_bne, Bool.true_bne, Bool.not_false, Bool.not_true, List.nil_append, List.cons_append, Int.reduceToNat, Int.reducePow, Int.reduceMul, Int.reduceSub, Int.reduceAdd, Int.reduceNeg, kt_NoneType_int, kt_NoneType_bool, kt_NoneType_str, kt_NoneType_list, kt_NoneType_tuple, kt_bool_int, kt_bool_bool, kt_bool_str, kt_bool_list, kt_bool_tuple, kt_int_int, kt_int_bool, kt_int_str, kt_int_list, kt_int_tuple, kt_str_int, kt_str_bool, kt_str_str, kt_str_list, kt_str_tuple, kt_list_int, kt_list_bool, kt_list_str, kt_list_list, kt_list_tuple, kt_tuple_int, kt_tuple_bool, kt_tuple_str, kt_tuple_list, kt_tuple_tuple, kt_dict_int, kt_dict_bool, kt_dict_str, kt_dict_list, kt_dict_tuple, e_ii_non, e_ii_bl, e_ii_int, e_ii_str, e_ii_lst, e_ii_scr, e_ii_tup, e_ii_dK, e_ii_dT, e_ii_ins, dCallL, e_argL, e_fl1, e_fl2, e_fl3, e_fl4, List.all_cons, List.all_nil, dDict, dDict0, e_keys0, e_keysS, e_keysI, e_cl_non, e_cl_bl, e_cl_int, e_pl_int, e_cl_str, e_cl_lst, e_cl_scr, e_cl_tup, e_cl_dK, e_cl_dT, e_iq1, e_iq2, e_nn1, e_nn2, e_nn3, e_nn4, e_inp, e_ixd, Int.cast_ofNat_Int, Int.natCast_succ, decide_true, decide_false, Int.reduceEq, Int.reduceLT, Int.reduceLE, Int.reduceNe, Nat.reduceLT, Nat.reduceLeDiff, Bool.and_true, Bool.true_and, Bool.and_false, Bool.false_and, Bool.not_eq_true, Bool.or_true, Bool.or_false, Int.natCast_add, Int.natCast_one, Int.zero_add, Int.add_zero, D__law_right_5, f1, f2, g1, g2, ec, p1, p2, lz]
    refine comp_all (w := fun p : Int × Int => .tup [.int p.1, .int p.2]) (G := fun p => T.int (p.2 - p.1)) (fun p m A B hA => ?_) ?_ ?_
    · simp only [sSeq, sSet, sPar, sIf, sRet, sRetN, sDrop, sNext, sDead, sBrk, sCnt, sAsg, sFor, dNm, dTm, dC, dOp1, dOp2, dOpN, dMt, dMut, dCall, dLst, dTup, dNil, dCons, dVn, dVc, dSl, dSl3, dNoP, dPrt, dIf, dAndV, dOrV, dNotV, dBv, dTru, dNotT, dAndT, dOrT, dChn, dEqQ, dRpQ, qOp, qNil, qCons, qLs, qTp, dSrc, dRng1, dRng2, dZip2, dEnum, dComp, dYes, gNm, gTp, gCn, gNi, gIt, e_var, e_var1, e_var2, e_var3, e_var4, e_mov, e_mov1, e_mov2, e_mov3, e_mov4, e_tr1, e_tr2, e_tr3, e_tr4, e_tr5, e_own1, e_own2, e_reo1, e_reo2, e_of1, e_of2, e_pin1, e_pin2, e_pin3, e_arg1, e_arg2, e_arg3, e_arg4, e_isarg1, e_isarg2, e_conv1, e_conv2, e_conv3, e_conv4, e_conv5, e_conv6, e_sown1, e_sown2, e_sown3, e_sown4, e_put1, e_put2, e_po1, e_po2, e_p1, e_p2, e_ao1, e_ao2, e_nd0, e_nd1, e_nd2, e_sl, e_get1, e_get2, e_is, e_all, e_gets0, e_gets1, e_gets2, e_tms0, e_tms1, e_qg1, e_qg2, e_qg3, e_qgs0, e_qgs1, e_its1, e_its2, e_its3, e_its4, e_jts1, e_jts2, e_jts4, e_mt1, e_mt2, e_ty1, e_add1, e_add2, e_add3, e_sub, e_mul1, e_mul2, e_mul3, e_fdiv, e_mod, e_pow, e_neg, e_len1, e_len2, e_len3, e_len4, e_int1, e_int2, e_abs, e_max, e_min, e_ix1, e_ix2, e_ix3, e_ix4, e_eq1, e_eq2, e_eq3, e_lt1, e_le1, e_gt1, e_ge1, e_lt2, e_in1, e_app, e_ext, e_rev, e_clr, e_set, e_sl1, e_sl2, e_sl3, e_sl4, e_count, e_f1, e_f2, e_osh, e_owh, e_one, e_tt1, e_tt2, e_ctg1, e_ctg2, e_cn0, e_cn1, e_wi0, e_wi1, e_re0, e_re1, e_ifb1, e_ifb2, e_nm0, e_nm1, e_nm2, e_fa0, e_fa1, e_sum, e_allb, e_anyb, e_sp1, e_sp2, e_sp3, e_at0, e_at1, e_at2, e_at3, e_at4, e_at5, e_ixn40, e_ixn41, e_ixn42, e_ixn43, e_cp1, e_cp2, e_cp3, e_cp4, e_cp5, forall_eq, List.getD_cons_zero, List.getD_cons_succ, List.getD_nil, List.set_cons_zero, List.set_cons_succ, List.map_cons, List.map_nil, Option.map_some, Option.map_none, Option.bind_some, Option.bind_none, Option.getD_some, Option.some.injEq, exists_eq_left', exists_eq_left, exists_eq', exists_eq, decide_eq_true_eq, List.length_map, exists_eq_right, exists_and_left, exists_and_right, Option.isSome_some, T.int.injEq, T.str.injEq, T.lst.injEq, T.tup.injEq, T.bl.injEq, List.cons.injEq, Prod.mk.injEq, Hn.tm.injEq, true_and, and_true, and_assoc, and_self, ne_eq, not_false_eq_true, not_true_eq_false, ite_true, ite_false, if_true, if_false, reduceIte, reduceCtorEq, Bool.false_eq_true, false_and, and_false, imp_self, forall_const, implies_true, List.length_cons, List.length_nil, Nat.reduceAdd, Nat.reduceEqDiff, Bool.false_bne, Bool.true_bne, Bool.not_false, Bool.not_true, List.nil_append, List.cons_append, Int.reduceToNat, Int.reducePow, Int.reduceMul, Int.reduceSub, Int.reduceAdd, Int.reduceNeg, kt_NoneType_int, kt_NoneType_bool, kt_NoneType_str, kt_NoneType_list, kt_NoneType_tuple, kt_bool_int, kt_bool_bool, kt_bool_str, kt_bool_list, kt_bool_tuple, kt_int_int, kt_int_bool, kt_int_str, kt_int_list, kt_int_tuple, kt_str_int, kt_str_bool, kt_str_str, kt_str_list, kt_str_tuple, kt_list_int, kt_list_bool, kt_list_str, kt_list_list, kt_list_tuple, kt_tuple_int, kt_tuple_bool, kt_tuple_str, kt_tuple_list, kt_tuple_tuple, kt_dict_int, kt_dict_bool, kt_dict_str, kt_dict_list, kt_dict_tuple, e_ii_non, e_ii_bl, e_ii_int, e_ii_str, e_ii_lst, e_ii_scr, e_ii_tup, e_ii_dK, e_ii_dT, e_ii_ins, dCallL, e_argL, e_fl1, e_fl2, e_fl3, e_fl4, List.all_cons, List.all_nil, dDict, dDict0, e_keys0, e_keysS, e_keysI, e_cl_non, e_cl_bl, e_cl_int, e_pl_int, e_cl_str, e_cl_lst, e_cl_scr, e_cl_tup, e_cl_dK, e_cl_dT, e_iq1, e_iq2, e_nn1, e_nn2, e_nn3, e_nn4, e_inp, e_ixd, Int.cast_ofNat_Int, Int.natCast_succ, decide_true, decide_false, Int.reduceEq, Int.reduceLT, Int.reduceLE, Int.reduceNe, Nat.reduceLT, Nat.reduceLeDiff, Bool.and_true, Bool.true_and, Bool.and_false, Bool.false_and, Bool.not_eq_true, Bool.or_true, Bool.or_false, Int.natCast_add, Int.natCast_one, Int.zero_add, Int.add_zero]
      exact hA
    · rw [List.length_zip, prefL_cA, List.length_map, List.length_range]
      omega
    rw [steps_eq sw]
    simp only [sSeq, sSet, sPar, sIf, sRet, sRetN, sDrop, sNext, sDead, sBrk, sCnt, sAsg, sFor, dNm, dTm, dC, dOp1, dOp2, dOpN, dMt, dMut, dCall, dLst, dTup, dNil, dCons, dVn, dVc, dSl, dSl3, dNoP, dPrt, dIf, dAndV, dOrV, dNotV, dBv, dTru, dNotT, dAndT, dOrT, dChn, dEqQ, dRpQ, qOp, qNil, qCons, qLs, qTp, dSrc, dRng1, dRng2, dZip2, dEnum, dComp, dYes, gNm, gTp, gCn, gNi, gIt, e_var, e_var1, e_var2, e_var3, e_var4, e_mov, e_mov1, e_mov2, e_mov3, e_mov4, e_tr1, e_tr2, e_tr3, e_tr4, e_tr5, e_own1, e_own2, e_reo1, e_reo2, e_of1, e_of2, e_pin1, e_pin2, e_pin3, e_arg1, e_arg2, e_arg3, e_arg4, e_isarg1, e_isarg2, e_conv1, e_conv2, e_conv3, e_conv4, e_conv5, e_conv6, e_sown1, e_sown2, e_sown3, e_sown4, e_put1, e_put2, e_po1, e_po2, e_p1, e_p2, e_ao1, e_ao2, e_nd0, e_nd1, e_nd2, e_sl, e_get1, e_get2, e_is, e_all, e_gets0, e_gets1, e_gets2, e_tms0, e_tms1, e_qg1, e_qg2, e_qg3, e_qgs0, e_qgs1, e_its1, e_its2, e_its3, e_its4, e_jts1, e_jts2, e_jts4, e_mt1, e_mt2, e_ty1, e_add1, e_add2, e_add3, e_sub, e_mul1, e_mul2, e_mul3, e_fdiv, e_mod, e_pow, e_neg, e_len1, e_len2, e_len3, e_len4, e_int1, e_int2, e_abs, e_max, e_min, e_ix1, e_ix2, e_ix3, e_ix4, e_eq1, e_eq2, e_eq3, e_lt1, e_le1, e_gt1, e_ge1, e_lt2, e_in1, e_app, e_ext, e_rev, e_clr, e_set, e_sl1, e_sl2, e_sl3, e_sl4, e_count, e_f1, e_f2, e_osh, e_owh, e_one, e_tt1, e_tt2, e_ctg1, e_ctg2, e_cn0, e_cn1, e_wi0, e_wi1, e_re0, e_re1, e_ifb1, e_ifb2, e_nm0, e_nm1, e_nm2, e_fa0, e_fa1, e_sum, e_allb, e_anyb, e_sp1, e_sp2, e_sp3, e_at0, e_at1, e_at2, e_at3, e_at4, e_at5, e_ixn40, e_ixn41, e_ixn42, e_ixn43, e_cp1, e_cp2, e_cp3, e_cp4, e_cp5, forall_eq, List.getD_cons_zero, List.getD_cons_succ, List.getD_nil, List.set_cons_zero, List.set_cons_succ, List.map_cons, List.map_nil, Option.map_some, Option.map_none, Option.bind_some, Option.bind_none, Option.getD_some, Option.some.injEq, exists_eq_left', exists_eq_left, exists_eq', exists_eq, decide_eq_true_eq, List.length_map, exists_eq_right, exists_and_left, exists_and_right, Option.isSome_some, T.int.injEq, T.str.injEq, T.lst.injEq, T.tup.injEq, T.bl.injEq, List.cons.injEq, Prod.mk.injEq, Hn.tm.injEq, true_and, and_true, and_assoc, and_self, ne_eq, not_false_eq_true, not_true_eq_false, ite_true, ite_false, if_true, if_false, reduceIte, reduceCtorEq, Bool.false_eq_true, false_and, and_false, imp_self, forall_const, implies_true, List.length_cons, List.length_nil, Nat.reduceAdd, Nat.reduceEqDiff, Bool.false_bne, Bool.true_bne, Bool.not_false, Bool.not_true, List.nil_append, List.cons_append, Int.reduceToNat, Int.reducePow, Int.reduceMul, Int.reduceSub, Int.reduceAdd, Int.reduceNeg, kt_NoneType_int, kt_NoneType_bool, kt_NoneType_str, kt_NoneType_list, kt_NoneType_tuple, kt_bool_int, kt_bool_bool, kt_bool_str, kt_bool_list, kt_bool_tuple, kt_int_int, kt_int_bool, kt_int_str, kt_int_list, kt_int_tuple, kt_str_int, kt_str_bool, kt_str_str, kt_str_list, kt_str_tuple, kt_list_int, kt_list_bool, kt_list_str, kt_list_list, kt_list_tuple, kt_tuple_int, kt_tuple_bool, kt_tuple_str, kt_tuple_list, kt_tuple_tuple, kt_dict_int, kt_dict_bool, kt_dict_str, kt_dict_list, kt_dict_tuple, e_ii_non, e_ii_bl, e_ii_int, e_ii_str, e_ii_lst, e_ii_scr, e_ii_tup, e_ii_dK, e_ii_dT, e_ii_ins, dCallL, e_argL, e_fl1, e_fl2, e_fl3, e_fl4, List.all_cons, List.all_nil, dDict, dDict0, e_keys0, e_keysS, e_keysI, e_cl_non, e_cl_bl, e_cl_int, e_pl_int, e_cl_str, e_cl_lst, e_cl_scr, e_cl_tup, e_cl_dK, e_cl_dT, e_iq1, e_iq2, e_nn1, e_nn2, e_nn3, e_nn4, e_inp, e_ixd, Int.cast_ofNat_Int, Int.natCast_succ, decide_true, decide_false, Int.reduceEq, Int.reduceLT, Int.reduceLE, Int.reduceNe, Nat.reduceLT, Nat.reduceLeDiff, Bool.and_true, Bool.true_and, Bool.and_false, Bool.false_and, Bool.not_eq_true, Bool.or_true, Bool.or_false, Int.natCast_add, Int.natCast_one, Int.zero_add, Int.add_zero, dEnum]
    rw [enum_range]
    refine comp_if (w := fun k : Nat => .tup [.int (k : Int), .int (stp a b k)]) (fun k => decide (stp a b k ≠ 0)) (fun k => plT ((k : Int) - 1, stp a b k)) (fun k m A B hA => ?_) (by rw [List.length_range]; omega) ?_
    · simp only [sSeq, sSet, sPar, sIf, sRet, sRetN, sDrop, sNext, sDead, sBrk, sCnt, sAsg, sFor, dNm, dTm, dC, dOp1, dOp2, dOpN, dMt, dMut, dCall, dLst, dTup, dNil, dCons, dVn, dVc, dSl, dSl3, dNoP, dPrt, dIf, dAndV, dOrV, dNotV, dBv, dTru, dNotT, dAndT, dOrT, dChn, dEqQ, dRpQ, qOp, qNil, qCons, qLs, qTp, dSrc, dRng1, dRng2, dZip2, dEnum, dComp, dYes, gNm, gTp, gCn, gNi, gIt, e_var, e_var1, e_var2, e_var3, e_var4, e_mov, e_mov1, e_mov2, e_mov3, e_mov4, e_tr1, e_tr2, e_tr3, e_tr4, e_tr5, e_own1, e_own2, e_reo1, e_reo2, e_of1, e_of2, e_pin1, e_pin2, e_pin3, e_arg1, e_arg2, e_arg3, e_arg4, e_isarg1, e_isarg2, e_conv1, e_conv2, e_conv3, e_conv4, e_conv5, e_conv6, e_sown1, e_sown2, e_sown3, e_sown4, e_put1, e_put2, e_po1, e_po2, e_p1, e_p2, e_ao1, e_ao2, e_nd0, e_nd1, e_nd2, e_sl, e_get1, e_get2, e_is, e_all, e_gets0, e_gets1, e_gets2, e_tms0, e_tms1, e_qg1, e_qg2, e_qg3, e_qgs0, e_qgs1, e_its1, e_its2, e_its3, e_its4, e_jts1, e_jts2, e_jts4, e_mt1, e_mt2, e_ty1, e_add1, e_add2, e_add3, e_sub, e_mul1, e_mul2, e_mul3, e_fdiv, e_mod, e_pow, e_neg, e_len1, e_len2, e_len3, e_len4, e_int1, e_int2, e_abs, e_max, e_min, e_ix1, e_ix2, e_ix3, e_ix4, e_eq1, e_eq2, e_eq3, e_lt1, e_le1, e_gt1, e_ge1, e_lt2, e_in1, e_app, e_ext, e_rev, e_clr, e_set, e_sl1, e_sl2, e_sl3, e_sl4, e_count, e_f1, e_f2, e_osh, e_owh, e_one, e_tt1, e_tt2, e_ctg1, e_ctg2, e_cn0, e_cn1, e_wi0, e_wi1, e_re0, e_re1, e_ifb1, e_ifb2, e_nm0, e_nm1, e_nm2, e_fa0, e_fa1, e_sum, e_allb, e_anyb, e_sp1, e_sp2, e_sp3, e_at0, e_at1, e_at2, e_at3, e_at4, e_at5, e_ixn40, e_ixn41, e_ixn42, e_ixn43, e_cp1, e_cp2, e_cp3, e_cp4, e_cp5, forall_eq, List.getD_cons_zero, List.getD_cons_succ, List.getD_nil, List.set_cons_zero, List.set_cons_succ, List.map_cons, List.map_nil, Option.map_some, Option.map_none, Option.bind_some, Option.bind_none, Option.getD_some, Option.some.injEq, exists_eq_left', exists_eq_left, exists_eq', exists_eq, decide_eq_true_eq, List.length_map, exists_eq_right, exists_and_left, exists_and_right, Option.isSome_some, T.int.injEq, T.str.injEq, T.lst.injEq, T.tup.injEq, T.bl.injEq, List.cons.injEq, Prod.mk.injEq, Hn.tm.injEq, true_and, and_true, and_assoc, and_self, ne_eq, not_false_eq_true, not_true_eq_false, ite_true, ite_false, if_true, if_false, reduceIte, reduceCtorEq, Bool.false_eq_true, false_and, and_false, imp_self, forall_const, implies_true, List.length_cons, List.length_nil, Nat.reduceAdd, Nat.reduceEqDiff, Bool.false_bne, Bool.true_bne, Bool.not_false, Bool.not_true, List.nil_append, List.cons_append, Int.reduceToNat, Int.reducePow, Int.reduceMul, Int.reduceSub, Int.reduceAdd, Int.reduceNeg, kt_NoneType_int, kt_NoneType_bool, kt_NoneType_str, kt_NoneType_list, kt_NoneType_tuple, kt_bool_int, kt_bool_bool, kt_bool_str, kt_bool_list, kt_bool_tuple, kt_int_int, kt_int_bool, kt_int_str, kt_int_list, kt_int_tuple, kt_str_int, kt_str_bool, kt_str_str, kt_str_list, kt_str_tuple, kt_list_int, kt_list_bool, kt_list_str, kt_list_list, kt_list_tuple, kt_tuple_int, kt_tuple_bool, kt_tuple_str, kt_tuple_list, kt_tuple_tuple, kt_dict_int, kt_dict_bool, kt_dict_str, kt_dict_list, kt_dict_tuple, e_ii_non, e_ii_bl, e_ii_int, e_ii_str, e_ii_lst, e_ii_scr, e_ii_tup, e_ii_dK, e_ii_dT, e_ii_ins, dCallL, e_argL, e_fl1, e_fl2, e_fl3, e_fl4, List.all_cons, List.all_nil, dDict, dDict0, e_keys0, e_keysS, e_keysI, e_cl_non, e_cl_bl, e_cl_int, e_pl_int, e_cl_str, e_cl_lst, e_cl_scr, e_cl_tup, e_cl_dK, e_cl_dT, e_iq1, e_iq2, e_nn1, e_nn2, e_nn3, e_nn4, e_inp, e_ixd, Int.cast_ofNat_Int, Int.natCast_succ, decide_true, decide_false, Int.reduceEq, Int.reduceLT, Int.reduceLE, Int.reduceNe, Nat.reduceLT, Nat.reduceLeDiff, Bool.and_true, Bool.true_and, Bool.and_false, Bool.false_and, Bool.not_eq_true, Bool.or_true, Bool.or_false, Int.natCast_add, Int.natCast_one, Int.zero_add, Int.add_zero]
      rw [decide_not] at hA
      exact ifB_mono hA (fun z => ⟨by omega, z⟩) fun z => z
    have ch : (((List.range (l.length + 1)).filter fun k => decide (stp a b k ≠ 0)).map fun k : Nat => plT ((k : Int) - 1, stp a b k)) = (chg (l.length + 1) a b).map plT := by
      unfold chg
      rw [List.map_map]
      rfl
    rw [ch]
    have s1 := srt_pl (chg (l.length + 1) a b)
    have s2 := srt_pl [(a, -1), (b, 1)]
    rw [srt_perm (chg_perm sw)] at s1
    have s2' : sortT (.lst [.tup [.int a, .int (-1)], .tup [.int b, .int 1]]) = ⟨True, (true, .lst (([(a, -1), (b, 1)].map plT).mergeSort T.le))⟩ := s2
    obtain ⟨o1, o2⟩ := eq_pl [(a, -1), (b, 1)]
    generalize ([(a, -1), (b, 1)].map plT).mergeSort T.le = Z at s1 s2' o1 o2
    generalize (chg (l.length + 1) a b).map plT = Y at s1
    have sb := sw.back
    have f3 : fSwapped [.str (aftI l (a, b)), .tup [.int b, .int a]] = ⟨True, (false, .str l)⟩ := by
      show (⟨rowB (aftI l (a, b)) = true ∧ Sw (aftI l (a, b)) b a, (false, .str (aftI (aftI l (a, b)) (b, a)))⟩ : Ot) = _
      rw [eq_true (⟨rm, sb⟩ : rowB (aftI l (a, b)) = true ∧ Sw (aftI l (a, b)) b a), sw.twice]
    have at0 : L2.atI [T.int a, T.int b] 0 = some (.int a) := rfl
    have at1 : L2.atI [T.int a, T.int b] 1 = some (.int b) := rfl
    have et : eqT true (.lst Z) (.lst Z) = ⟨True, (false, .bl false)⟩ := by
      show (⟨okD (T.lst Z) ∧ okD (T.lst Z), (false, .bl (true != eqvO (T.lst Z).pd (T.lst Z).pd))⟩ : Ot) = _
      rw [o2, eq_true (⟨o1, o1⟩ : okD (T.lst Z) ∧ okD (T.lst Z))]
      rfl
    simp only [sSeq, sSet, sPar, sIf, sRet, sRetN, sDrop, sNext, sDead, sBrk, sCnt, sAsg, sFor, dNm, dTm, dC, dOp1, dOp2, dOpN, dMt, dMut, dCall, dLst, dTup, dNil, dCons, dVn, dVc, dSl, dSl3, dNoP, dPrt, dIf, dAndV, dOrV, dNotV, dBv, dTru, dNotT, dAndT, dOrT, dChn, dEqQ, dRpQ, qOp, qNil, qCons, qLs, qTp, dSrc, dRng1, dRng2, dZip2, dEnum, dComp, dYes, gNm, gTp, gCn, gNi, gIt, e_var, e_var1, e_var2, e_var3, e_var4, e_mov, e_mov1, e_mov2, e_mov3, e_mov4, e_tr1, e_tr2, e_tr3, e_tr4, e_tr5, e_own1, e_own2, e_reo1, e_reo2, e_of1, e_of2, e_pin1, e_pin2, e_pin3, e_arg1, e_arg2, e_arg3, e_arg4, e_isarg1, e_isarg2, e_conv1, e_conv2, e_conv3, e_conv4, e_conv5, e_conv6, e_sown1, e_sown2, e_sown3, e_sown4, e_put1, e_put2, e_po1, e_po2, e_p1, e_p2, e_ao1, e_ao2, e_nd0, e_nd1, e_nd2, e_sl, e_get1, e_get2, e_is, e_all, e_gets0, e_gets1, e_gets2, e_tms0, e_tms1, e_qg1, e_qg2, e_qg3, e_qgs0, e_qgs1, e_its1, e_its2, e_its3, e_its4, e_jts1, e_jts2, e_jts4, e_mt1, e_mt2, e_ty1, e_add1, e_add2, e_add3, e_sub, e_mul1, e_mul2, e_mul3, e_fdiv, e_mod, e_pow, e_neg, e_len1, e_len2, e_len3, e_len4, e_int1, e_int2, e_abs, e_max, e_min, e_ix1, e_ix2, e_ix3, e_ix4, e_eq1, e_eq2, e_eq3, e_lt1, e_le1, e_gt1, e_ge1, e_lt2, e_in1, e_app, e_ext, e_rev, e_clr, e_set, e_sl1, e_sl2, e_sl3, e_sl4, e_count, e_f1, e_f2, e_osh, e_owh, e_one, e_tt1, e_tt2, e_ctg1, e_ctg2, e_cn0, e_cn1, e_wi0, e_wi1, e_re0, e_re1, e_ifb1, e_ifb2, e_nm0, e_nm1, e_nm2, e_fa0, e_fa1, e_sum, e_allb, e_anyb, e_sp1, e_sp2, e_sp3, e_at0, e_at1, e_at2, e_at3, e_at4, e_at5, e_ixn40, e_ixn41, e_ixn42, e_ixn43, e_cp1, e_cp2, e_cp3, e_cp4, e_cp5, forall_eq, List.getD_cons_zero, List.getD_cons_succ, List.getD_nil, List.set_cons_zero, List.set_cons_succ, List.map_cons, List.map_nil, Option.map_some, Option.map_none, Option.bind_some, Option.bind_none, Option.getD_some, Option.some.injEq, exists_eq_left', exists_eq_left, exists_eq', exists_eq, decide_eq_true_eq, List.length_map, exists_eq_right, exists_and_left, exists_and_right, Option.isSome_some, T.int.injEq, T.str.injEq, T.lst.injEq, T.tup.injEq, T.bl.injEq, List.cons.injEq, Prod.mk.injEq, Hn.tm.injEq, true_and, and_true, and_assoc, and_self, ne_eq, not_false_eq_true, not_true_eq_false, ite_true, ite_false, if_true, if_false, reduceIte, reduceCtorEq, Bool.false_eq_true, false_and, and_false, imp_self, forall_const, implies_true, List.length_cons, List.length_nil, Nat.reduceAdd, Nat.reduceEqDiff, Bool.false_bne, Bool.true_bne, Bool.not_false, Bool.not_true, List.nil_append, List.cons_append, Int.reduceToNat, Int.reducePow, Int.reduceMul, Int.reduceSub, Int.reduceAdd, Int.reduceNeg, kt_NoneType_int, kt_NoneType_bool, kt_NoneType_str, kt_NoneType_list, kt_NoneType_tuple, kt_bool_int, kt_bool_bool, kt_bool_str, kt_bool_list, kt_bool_tuple, kt_int_int, kt_int_bool, kt_int_str, kt_int_list, kt_int_tuple, kt_str_int, kt_str_bool, kt_str_str, kt_str_list, kt_str_tuple, kt_list_int, kt_list_bool, kt_list_str, kt_list_list, kt_list_tuple, kt_tuple_int, kt_tuple_bool, kt_tuple_str, kt_tuple_list, kt_tuple_tuple, kt_dict_int, kt_dict_bool, kt_dict_str, kt_dict_list, kt_dict_tuple, e_ii_non, e_ii_bl, e_ii_int, e_ii_str, e_ii_lst, e_ii_scr, e_ii_tup, e_ii_dK, e_ii_dT, e_ii_ins, dCallL, e_argL, e_fl1, e_fl2, e_fl3, e_fl4, List.all_cons, List.all_nil, dDict, dDict0, e_keys0, e_keysS, e_keysI, e_cl_non, e_cl_bl, e_cl_int, e_pl_int, e_cl_str, e_cl_lst, e_cl_scr, e_cl_tup, e_cl_dK, e_cl_dT, e_iq1, e_iq2, e_nn1, e_nn2, e_nn3, e_nn4, e_inp, e_ixd, Int.cast_ofNat_Int, Int.natCast_succ, decide_true, decide_false, Int.reduceEq, Int.reduceLT, Int.reduceLE, Int.reduceNe, Nat.reduceLT, Nat.reduceLeDiff, Bool.and_true, Bool.true_and, Bool.and_false, Bool.false_and, Bool.not_eq_true, Bool.or_true, Bool.or_false, Int.natCast_add, Int.natCast_one, Int.zero_add, Int.add_zero, s1, s2', et, f3, at0, at1]
    exact ⟨by omega, by omega, by omega, by omega, q⟩
end O
namespace O
open PySem PySem.Spec PyProof.Rows L2
theorem flat_le {n : Nat} : ∀ {ls : List (List T)}, (∀ m ∈ ls, m.length ≤ n) → ls.flatten.length ≤ n * ls.length
  | [], _ => Nat.zero_le _
  | m :: ls, h => by
    have := flat_le (ls := ls) fun x k => h x (List.mem_cons_of_mem _ k)
    have := h m List.mem_cons_self
    rw [List.flatten_cons, List.length_append, List.length_cons, Nat.mul_succ]; omega
theorem swaps_len {l : List Nat} (hl : l.length ≤ 200) : (swapsT l).length ≤ 40000 := by
  unfold swapsT
  refine Nat.le_trans (flat_le (n := 200) fun m hm => ?_) ?_
  · obtain ⟨a, _, rfl⟩ := List.mem_map.mp hm
    rw [List.length_map]
    exact Nat.le_trans (List.length_filter_le _ _) (Nat.le_trans (places_len l [98, 97]) hl)
  · rw [List.length_map]
    have := places_len l [97, 98]
    omega
end O
namespace O
open PySem PySem.Spec PyProof.Rows L2
theorem fSwapped_ok {l : List Nat} {a b : Int} (rl : rowB l = true) (sw : Sw l a b) : fSwapped [.str l, .tup [.int a, .int b]] = ⟨True, (false, .str (aftI l (a, b)))⟩ := by
  show (⟨rowB l = true ∧ Sw l a b, _⟩ : Ot) = _
  rw [eq_true (⟨rl, sw⟩ : rowB l = true ∧ Sw l a b)]
theorem fRight14_ok {l : List Nat} {a b : Int} (rl : rowB l = true) (sw : Sw l a b) : fRight14 [.str l, .tup [.int a, .int b]] = ⟨True, (false, .bl true)⟩ := by
  show (⟨rowB l = true ∧ Sw l a b, _⟩ : Ot) = _
  rw [eq_true (⟨rl, sw⟩ : rowB l = true ∧ Sw l a b)]
theorem fAllL_ok {l : List Nat} (hl : l.length ≤ 200) : fAllL [.str l] = ⟨True, (true, .lst ((swapsP l).map plT))⟩ := by
  show (⟨l.length ≤ 200, (true, .lst (swapsT l))⟩ : Ot) = _
  rw [eq_true hl, swapsT_eq]
  rfl
theorem row_after {l : List Nat} {a b : Int} (rl : rowB l = true) (sw : Sw l a b) : rowB (aftI l (a, b)) = true := by
  refine rowB_iff.mpr ⟨by rw [aftI_len]; exact (rowB_iff.mp rl).1, ?_⟩
  rw [aft_eq sw.ia sw.ib]
  exact aftP_ab (rowB_iff.mp rl).2
theorem ok_pls (ps : List Pl) : okD (.lst (ps.map plT)) := (dtL (dt2 dtI dtI)).okD (a := ps) fun x m => ⟨trivial, trivial⟩
theorem eqv_pls (ps : List Pl) : eqvO (T.lst (ps.map plT)).pd (T.lst []).pd = decide (ps = []) := (dtL (dt2 dtI dtI)).eqvO ps []
theorem loop_law_14_1 (Q : PoS) (s0 s2 : Sl) : ∀ (xs : List Int) (B : Nat) (t : T) (l : List Nat) (s4 s5 s6 : Sl), s4.pin = false → s5.pin = false → s6.pin = false → 10 * xs.length ≤ B → IsBag B t → rowB l = true →
    (∀ t' s3 s4 s5 s6, IsBag (B - 10 * xs.length) t' → s3.pin = false → s4.pin = false → s5.pin = false → s6.pin = false → Q.nx [s0, .ow t', s2, s3, s4, s5, s6]) →
    forD (gNm 5) (B_law_14_1 (SP fAllL) (SP fRight14) SBag (SP fSwapped)) Q (xs.map T.int) [s0, .ow t, s2, .sh (.str l), s4, s5, s6]
  | [], B, t, l, s4, s5, s6, h4, h5, h6, hb, ib, rl, q => q t _ s4 s5 s6 (by simpa using ib) rfl h4 h5 h6
  | x :: xs, B, t, l, s4, s5, s6, h4, h5, h6, hb, ib, rl, q => by
    have hs := sizeLine_eq
    rw [List.length_cons] at hb q
    obtain ⟨C, rfl⟩ : ∃ C, B = C + 10 := ⟨B - 10, by omega⟩
    have hl := row_len rl
    have fa := fAllL_ok hl
    have ok1 := ok_pls (swapsP l)
    have ok0 : okD (.lst []) := okD_ints []
    have ev := eqv_pls (swapsP l)
    have q' : ∀ t' s3 s4 s5 s6, IsBag (C - 10 * xs.length) t' → s3.pin = false → s4.pin = false → s5.pin = false → s6.pin = false → Q.nx [s0, .ow t', s2, s3, s4, s5, s6] := fun t' s3 s4 s5 s6 i => q t' s3 s4 s5 s6 (by rw [show C + 10 - 10 * (xs.length + 1) = C - 10 * xs.length by omega]; exact i)
    refine forD_step fun K hK => ?_
    by_cases hS : swapsP l = []
    · rw [decide_eq_true hS] at ev
      simp only [sSeq, sSet, sPar, sIf, sRet, sRetN, sDrop, sNext, sDead, sBrk, sCnt, sAsg, sFor, dNm, dTm, dC, dOp1, dOp2, dOpN, dMt, dMut, dCall, dLst, dTup, dNil, dCons, dVn, dVc, dSl, dSl3, dNoP, dPrt, dIf, dAndV, dOrV, dNotV, dBv, dTru, dNotT, dAndT, dOrT, dChn, dEqQ, dRpQ, qOp, qNil, qCons, qLs, qTp, dSrc, dRng1, dRng2, dZip2, dEnum, dComp, dYes, gNm, gTp, gCn, gNi, gIt, e_var, e_var1, e_var2, e_var3, e_var4, e_mov, e_mov1, e_mov2, e_mov3, e_mov4, e_tr1, e_tr2, e_tr3, e_tr4, e_tr5, e_own1, e_own2, e_reo1, e_reo2, e_of1, e_of2, e_pin1, e_pin2, e_pin3, e_arg1, e_arg2, e_arg3, e_arg4, e_isarg1, e_isarg2, e_conv1, e_conv2, e_conv3, e_conv4, e_conv5, e_conv6, e_sown1, e_sown2, e_sown3, e_sown4, e_put1, e_put2, e_po1, e_po2, e_p1, e_p2, e_ao1, e_ao2, e_nd0, e_nd1, e_nd2, e_sl, e_get1, e_get2, e_is, e_all, e_gets0, e_gets1, e_gets2, e_tms0, e_tms1, e_qg1, e_qg2, e_qg3, e_qgs0, e_qgs1, e_its1, e_its2, e_its3, e_its4, e_jts1, e_jts2, e_jts4, e_mt1, e_mt2, e_ty1, e_add1, e_add2, e_add3, e_sub, e_mul1, e_mul2, e_mul3, e_fdiv, e_mod, e_pow, e_neg, e_len1, e_len2, e_len3, e_len4, e_int1, e_int2, e_abs, e_max, e_min, e_ix1, e_ix2, e_ix3, e_ix4, e_eq1, e_eq2, e_eq3, e_lt1, e_le1, e_gt1, e_ge1, e_lt2, e_in1, e_app, e_ext, e_rev, e_clr, e_set, e_sl1, e_sl2, e_sl3, e_sl4, e_count, e_f1, e_f2, e_osh, e_owh, e_one, e_tt1, e_tt2, e_ctg1, e_ctg2, e_cn0, e_cn1, e_wi0, e_wi1, e_re0, e_re1, e_ifb1, e_ifb2, e_nm0, e_nm1, e_nm2, e_fa0, e_fa1, e_sum, e_allb, e_anyb, e_sp1, e_sp2, e_sp3, e_at0, e_at1, e_at2, e_at3, e_at4, e_at5, e_ixn40, e_ixn41, e_ixn42, e_ixn43, e_cp1, e_cp2, e_cp3, e_cp4, e_cp5, forall_eq, List.getD_cons_zero, List.getD_cons_succ, List.getD_nil, List.set_cons_zero, List.set_cons_succ, List.map_cons, List.map_nil, Option.map_some, Option.map_none, Option.bind_some, Option.bind_none, Option.getD_some, Option.some.injEq, exists_eq_left', exists_eq_left, exists_eq', exists_eq, decide_eq_true_eq, List.length_map, exists_eq_right, exists_and_left, exists_and_right, Option.isSome_some, T.int.injEq, T.str.injEq, T.lst.injEq, T.tup.injEq, T.bl.injEq, List.cons.injEq, Prod.mk.injEq, Hn.tm.injEq, true_and, and_true, and_assoc, and_self, ne_eq, not_false_eq_true, not_true_eq_false, ite_true, ite_false, if_true, if_false, reduceIte, reduceCtorEq, Bool.false_eq_true, false_and, and_false, imp_self, forall_const, implies_true, List.length_cons, List.length_nil, Nat.reduceAdd, Nat.reduceEqDiff, Bool.false_bne, Bool.true_bne, Bool.not_false, Bool.not_true, List.nil_append, List.cons_append, Int.reduceToNat, Int.reducePow, Int.reduceMul, Int.reduceSub, Int.reduceAdd, Int.reduceNeg, kt_NoneType_int, kt_NoneType_bool, kt_NoneType_str, kt_NoneType_list, kt_NoneType_tuple, kt_bool_int, kt_bool_bool, kt_bool_str, kt_bool_list, kt_bool_tuple, kt_int_int, kt_int_bool, kt_int_str, kt_int_list, kt_int_tuple, kt_str_int, kt_str_bool, kt_str_str, kt_str_list, kt_str_tuple, kt_list_int, kt_list_bool, kt_list_str, kt_list_list, kt_list_tuple, kt_tuple_int, kt_tuple_bool, kt_tuple_str, kt_tuple_list, kt_tuple_tuple, kt_dict_int, kt_dict_bool, kt_dict_str, kt_dict_list, kt_dict_tuple, e_ii_non, e_ii_bl, e_ii_int, e_ii_str, e_ii_lst, e_ii_scr, e_ii_tup, e_ii_dK, e_ii_dT, e_ii_ins, dCallL, e_argL, e_fl1, e_fl2, e_fl3, e_fl4, List.all_cons, List.all_nil, dDict, dDict0, e_keys0, e_keysS, e_keysI, e_cl_non, e_cl_bl, e_cl_int, e_pl_int, e_cl_str, e_cl_lst, e_cl_scr, e_cl_tup, e_cl_dK, e_cl_dT, e_iq1, e_iq2, e_nn1, e_nn2, e_nn3, e_nn4, e_inp, e_ixd, Int.cast_ofNat_Int, Int.natCast_succ, decide_true, decide_false, Int.reduceEq, Int.reduceLT, Int.reduceLE, Int.reduceNe, Nat.reduceLT, Nat.reduceLeDiff, Bool.and_true, Bool.true_and, Bool.and_false, Bool.false_and, Bool.not_eq_true, Bool.or_true, Bool.or_false, Int.natCast_add, Int.natCast_one, Int.zero_add, Int.add_zero, h5, h6, B_law_14_1, fa, ok1, ok0, ev]
      exact ⟨by omega, hK _ (loop_law_14_1 Q s0 s2 xs C t l _ _ _ h4 rfl rfl (by omega) (ib.less (by omega)) rl q')⟩
    · rw [decide_eq_false hS] at ev
      have pos : 0 < (swapsP l).length := List.length_pos_iff.mpr hS
      have len : (swapsP l).length ≤ 40000 := by
        have := swaps_len hl
        rw [swapsT_eq, List.length_map] at this
        omega
      simp only [sSeq, sSet, sPar, sIf, sRet, sRetN, sDrop, sNext, sDead, sBrk, sCnt, sAsg, sFor, dNm, dTm, dC, dOp1, dOp2, dOpN, dMt, dMut, dCall, dLst, dTup, dNil, dCons, dVn, dVc, dSl, dSl3, dNoP, dPrt, dIf, dAndV, dOrV, dNotV, dBv, dTru, dNotT, dAndT, dOrT, dChn, dEqQ, dRpQ, qOp, qNil, qCons, qLs, qTp, dSrc, dRng1, dRng2, dZip2, dEnum, dComp, dYes, gNm, gTp, gCn, gNi, gIt, e_var, e_var1, e_var2, e_var3, e_var4, e_mov, e_mov1, e_mov2, e_mov3, e_mov4, e_tr1, e_tr2, e_tr3, e_tr4, e_tr5, e_own1, e_own2, e_reo1, e_reo2, e_of1, e_of2, e_pin1, e_pin2, e_pin3, e_arg1, e_arg2, e_arg3, e_arg4, e_isarg1, e_isarg2, e_conv1, e_conv2, e_conv3, e_conv4, e_conv5, e_conv6, e_sown1, e_sown2, e_sown3, e_sown4, e_put1, e_put2, e_po1, e_po2, e_p1, e_p2, e_ao1, e_ao2, e_nd0, e_nd1, e_nd2, e_sl, e_get1, e_get2, e_is, e_all, e_gets0, e_gets1, e_gets2, e_tms0, e_tms1, e_qg1, e_qg2, e_qg3, e_qgs0, e_qgs1, e_its1, e_its2, e_its3, e_its4, e_jts1, e_jts2, e_jts4, e_mt1, e_mt2, e_ty1, e_add1, e_add2, e_add3, e_sub, e_mul1, e_mul2, e_mul3, e_fdiv, e_mod, e_pow, e_neg, e_len1, e_len2, e_len3, e_len4, e_int1, e_int2, e_abs, e_max, e_min, e_ix1, e_ix2, e_ix3, e_ix4, e_eq1, e_eq2, e_eq3, e_lt1, e_le1, e_gt1, e_ge1, e_lt2, e_in1, e_app, e_ext, e_rev, e_clr, e_set, e_sl1, e_sl2, e_sl3, e_sl4, e_count, e_f1, e_f2, e_osh, e_owh, e_one, e_tt1, e_tt2, e_ctg1, e_ctg2, e_cn0, e_cn1, e_wi0, e_wi1, e_re0, e_re1, e_ifb1, e_ifb2, e_nm0, e_nm1, e_nm2, e_fa0, e_fa1, e_sum, e_allb, e_anyb, e_sp1, e_sp2, e_sp3, e_at0, e_at1, e_at2, e_at3, e_at4, e_at5, e_ixn40, e_ixn41, e_ixn42, e_ixn43, e_cp1, e_cp2, e_cp3, e_cp4, e_cp5, forall_eq, List.getD_cons_zero, List.getD_cons_succ, List.getD_nil, List.set_cons_zero, List.set_cons_succ, List.map_cons, List.map_nil, Option.map_some, Option.map_none, Option.bind_some, Option.bind_none, Option.getD_some, Option.some.injEq, exists_eq_left', exists_eq_left, exists_eq', exists_eq, decide_eq_true_eq, List.length_map, exists_eq_right, exists_and_left, exists_and_right, Option.isSome_some, T.int.injEq, T.str.injEq, T.lst.injEq, T.tup.injEq, T.bl.injEq, List.cons.injEq, Prod.mk.injEq, Hn.tm.injEq, true_and, and_true, and_assoc, and_self, ne_eq, not_false_eq_true, not_true_eq_false, ite_true, ite_false, if_true, if_false, reduceIte, reduceCtorEq, Bool.false_eq_true, false_and, and_false, imp_self, forall_const, implies_true, List.length_cons, List.length_nil, Nat.reduceAdd, Nat.reduceEqDiff, Bool.false_bne, Bool.true_bne, Bool.not_false, Bool.not_true, List.nil_append, List.cons_append, Int.reduceToNat, Int.reducePow, Int.reduceMul, Int.reduceSub, Int.reduceAdd, Int.reduceNeg, kt_NoneType_int, kt_NoneType_bool, kt_NoneType_str, kt_NoneType_list, kt_NoneType_tuple, kt_bool_int, kt_bool_bool, kt_bool_str, kt_bool_list, kt_bool_tuple, kt_int_int, kt_int_bool, kt_int_str, kt_int_list, kt_int_tuple, kt_str_int, kt_str_bool, kt_str_str, kt_str_list, kt_str_tuple, kt_list_int, kt_list_bool, kt_list_str, kt_list_list, kt_list_tuple, kt_tuple_int, kt_tuple_bool, kt_tuple_str, kt_tuple_list, kt_tuple_tuple, kt_dict_int, kt_dict_bool, kt_dict_str, kt_dict_list, kt_dict_tuple, e_ii_non, e_ii_bl, e_ii_int, e_ii_str, e_ii_lst, e_ii_scr, e_ii_tup, e_ii_dK, e_ii_dT, e_ii_ins, dCallL, e_argL, e_fl1, e_fl2, e_fl3, e_fl4, List.all_cons, List.all_nil, dDict, dDict0, e_keys0, e_keysS, e_keysI, e_cl_non, e_cl_bl, e_cl_int, e_pl_int, e_cl_str, e_cl_lst, e_cl_scr, e_cl_tup, e_cl_dK, e_cl_dT, e_iq1, e_iq2, e_nn1, e_nn2, e_nn3, e_nn4, e_inp, e_ixd, Int.cast_ofNat_Int, Int.natCast_succ, decide_true, decide_false, Int.reduceEq, Int.reduceLT, Int.reduceLE, Int.reduceNe, Nat.reduceLT, Nat.reduceLeDiff, Bool.and_true, Bool.true_and, Bool.and_false, Bool.false_and, Bool.not_eq_true, Bool.or_true, Bool.or_false, Int.natCast_add, Int.natCast_one, Int.zero_add, Int.add_zero, h5, h6, B_law_14_1, fa, ok1, ok0, ev]
      refine ⟨by omega, sbag (b := C + 9) (bound := ((swapsP l).length : Int)) ib (by omega) (log_small (by omega) (by omega)) fun t1 r i1 a0 a1 => ?_⟩
      obtain ⟨p, mp, ep⟩ := atI_in (xs := swapsP l) a0 a1
      have ep2 : L2.atI ((swapsP l).map plT) r = some (.tup [.int p.1, .int p.2]) := by
        have := atI_map plT (swapsP l) r
        rw [ep] at this
        exact this
      have sw := sw_mem mp
      have g1 := fRight14_ok rl sw
      have g2 := fSwapped_ok rl sw
      simp only [sSeq, sSet, sPar, sIf, sRet, sRetN, sDrop, sNext, sDead, sBrk, sCnt, sAsg, sFor, dNm, dTm, dC, dOp1, dOp2, dOpN, dMt, dMut, dCall, dLst, dTup, dNil, dCons, dVn, dVc, dSl, dSl3, dNoP, dPrt, dIf, dAndV, dOrV, dNotV, dBv, dTru, dNotT, dAndT, dOrT, dChn, dEqQ, dRpQ, qOp, qNil, qCons, qLs, qTp, dSrc, dRng1, dRng2, dZip2, dEnum, dComp, dYes, gNm, gTp, gCn, gNi, gIt, e_var, e_var1, e_var2, e_var3, e_var4, e_mov, e_mov1, e_mov2, e_mov3, e_mov4, e_tr1, e_tr2, e_tr3, e_tr4, e_tr5, e_own1, e_own2, e_reo1, e_reo2, e_of1, e_of2, e_pin1, e_pin2, e_pin3, e_arg1, e_arg2, e_arg3, e_arg4, e_isarg1, e_isarg2, e_conv1, e_conv2, e_conv3, e_conv4, e_conv5, e_conv6, e_sown1, e_sown2, e_sown3, e_sown4, e_put1, e_put2, e_po1, e_po2, e_p1, e_p2, e_ao1, e_ao2, e_nd0, e_nd1, e_nd2, e_sl, e_get1, e_get2, e_is, e_all, e_gets0, e_gets1, e_gets2, e_tms0, e_tms1, e_qg1, e_qg2, e_qg3, e_qgs0, e_qgs1, e_its1, e_its2, e_its3, e_its4, e_jts1, e_jts2, e_jts4, e_mt1, e_mt2, e_ty1, e_add1, e_add2, e_add3, e_sub, e_mul1, e_mul2, e_mul3, e_fdiv, e_mod, e_pow, e_neg, e_len1, e_len2, e_len3, e_len4, e_int1, e_int2, e_abs, e_max, e_min, e_ix1, e_ix2, e_ix3, e_ix4, e_eq1, e_eq2, e_eq3, e_lt1, e_le1, e_gt1, e_ge1, e_lt2, e_in1, e_app, e_ext, e_rev, e_clr, e_set, e_sl1, e_sl2, e_sl3, e_sl4, e_count, e_f1, e_f2, e_osh, e_owh, e_one, e_tt1, e_tt2, e_ctg1, e_ctg2, e_cn0, e_cn1, e_wi0, e_wi1, e_re0, e_re1, e_ifb1, e_ifb2, e_nm0, e_nm1, e_nm2, e_fa0, e_fa1, e_sum, e_allb, e_anyb, e_sp1, e_sp2, e_sp3, e_at0, e_at1, e_at2, e_at3, e_at4, e_at5, e_ixn40, e_ixn41, e_ixn42, e_ixn43, e_cp1, e_cp2, e_cp3, e_cp4, e_cp5, forall_eq, List.getD_cons_zero, List.getD_cons_succ, List.getD_nil, List.set_cons_zero, List.set_cons_succ, List.map_cons, List.map_nil, Option.map_some, Option.map_none, Option.bind_some, Option.bind_none, Option.getD_some, Option.some.injEq, exists_eq_left', exists_eq_left, exists_eq', exists_eq, decide_eq_true_eq, List.length_map, exists_eq_right, exists_and_left, exists_and_right, Option.isSome_some, T.int.injEq, T.str.injEq, T.lst.injEq, T.tup.injEq, T.bl.injEq, List.cons.injEq, Prod.mk.injEq, Hn.tm.injEq, true_and, and_true, and_assoc, and_self, ne_eq, not_false_eq_true, not_true_eq_false, ite_true, ite_false, if_true, if_false, reduceIte, reduceCtorEq, Bool.false_eq_true, false_and, and_false, imp_self, forall_const, implies_true, List.length_cons, List.length_nil, Nat.reduceAdd, Nat.reduceEqDiff, Bool.false_bne, Bool.true_bne, Bool.not_false, Bool.not_true, List.nil_append, List.cons_append, Int.reduceToNat, Int.reducePow, Int.reduceMul, Int.reduceSub, Int.reduceAdd, Int.reduceNeg, kt_NoneType_int, kt_NoneType_bool, kt_NoneType_str, kt_NoneType_list, kt_NoneType_tuple, kt_bool_int, kt_bool_bool, kt_bool_str, kt_bool_list, kt_bool_tuple, kt_int_int, kt_int_bool, kt_int_str, kt_int_list, kt_int_tuple, kt_str_int, kt_str_bool, kt_str_str, kt_str_list, kt_str_tuple, kt_list_int, kt_list_bool, kt_list_str, kt_list_list, kt_list_tuple, kt_tuple_int, kt_tuple_bool, kt_tuple_str, kt_tuple_list, kt_tuple_tuple, kt_dict_int, kt_dict_bool, kt_dict_str, kt_dict_list, kt_dict_tuple, e_ii_non, e_ii_bl, e_ii_int, e_ii_str, e_ii_lst, e_ii_scr, e_ii_tup, e_ii_dK, e_ii_dT, e_ii_ins, dCallL, e_argL, e_fl1, e_fl2, e_fl3, e_fl4, List.all_cons, List.all_nil, dDict, dDict0, e_keys0, e_keysS, e_keysI, e_cl_non, e_cl_bl, e_cl_int, e_pl_int, e_cl_str, e_cl_lst, e_cl_scr, e_cl_tup, e_cl_dK, e_cl_dT, e_iq1, e_iq2, e_nn1, e_nn2, e_nn3, e_nn4, e_inp, e_ixd, Int.cast_ofNat_Int, Int.natCast_succ, decide_true, decide_false, Int.reduceEq, Int.reduceLT, Int.reduceLE, Int.reduceNe, Nat.reduceLT, Nat.reduceLeDiff, Bool.and_true, Bool.true_and, Bool.and_false, Bool.false_and, Bool.not_eq_true, Bool.or_true, Bool.or_false, Int.natCast_add, Int.natCast_one, Int.zero_add, Int.add_zero, h4, ep2, g1, g2]
      exact hK _ (loop_law_14_1 Q s0 s2 xs C t1 _ _ _ _ rfl rfl rfl (by omega) (i1.less (by omega)) (row_after rl sw) q')
theorem loop_law_14_2 (Q : PoS) (s0 : Sl) : ∀ (xs : List Int) (B : Nat) (t : T) (s2 s3 s4 s5 s6 : Sl), s2.pin = false → s3.pin = false → s4.pin = false → s5.pin = false → s6.pin = false → 12000 * xs.length ≤ B → IsBag B t →
    (∀ t' s2 s3 s4 s5 s6, Q.nx [s0, .ow t', s2, s3, s4, s5, s6]) →
    forD (gNm 2) (B_law_14_2 SLet (SP fAllL) (SP fRight14) SBag (SP fSwapped)) Q (xs.map T.int) [s0, .ow t, s2, s3, s4, s5, s6]
  | [], B, t, s2, s3, s4, s5, s6, h2, h3, h4, h5, h6, hb, ib, q => q t s2 s3 s4 s5 s6
  | x :: xs, B, t, s2, s3, s4, s5, s6, h2, h3, h4, h5, h6, hb, ib, q => by
    have hs := sizeLine_eq
    rw [List.length_cons] at hb
    obtain ⟨C, rfl⟩ : ∃ C, B = C + 12000 := ⟨B - 12000, by omega⟩
    refine forD_step fun K hK => ?_
    simp only [sSeq, sSet, sPar, sIf, sRet, sRetN, sDrop, sNext, sDead, sBrk, sCnt, sAsg, sFor, dNm, dTm, dC, dOp1, dOp2, dOpN, dMt, dMut, dCall, dLst, dTup, dNil, dCons, dVn, dVc, dSl, dSl3, dNoP, dPrt, dIf, dAndV, dOrV, dNotV, dBv, dTru, dNotT, dAndT, dOrT, dChn, dEqQ, dRpQ, qOp, qNil, qCons, qLs, qTp, dSrc, dRng1, dRng2, dZip2, dEnum, dComp, dYes, gNm, gTp, gCn, gNi, gIt, e_var, e_var1, e_var2, e_var3, e_var4, e_mov, e_mov1, e_mov2, e_mov3, e_mov4, e_tr1, e_tr2, e_tr3, e_tr4, e_tr5, e_own1, e_own2, e_reo1, e_reo2, e_of1, e_of2, e_pin1, e_pin2, e_pin3, e_arg1, e_arg2, e_arg3, e_arg4, e_isarg1, e_isarg2, e_conv1, e_conv2, e_conv3, e_conv4, e_conv5, e_conv6, e_sown1, e_sown2, e_sown3, e_sown4, e_put1, e_put2, e_po1, e_po2, e_p1, e_p2, e_ao1, e_ao2, e_nd0, e_nd1, e_nd2, e_sl, e_get1, e_get2, e_is, e_all, e_gets0, e_gets1, e_gets2, e_tms0, e_tms1, e_qg1, e_qg2, e_qg3, e_qgs0, e_qgs1, e_its1, e_its2, e_its3, e_its4, e_jts1, e_jts2, e_jts4, e_mt1, e_mt2, e_ty1, e_add1, e_add2, e_add3, e_sub, e_mul1, e_mul2, e_mul3, e_fdiv, e_mod, e_pow, e_neg, e_len1, e_len2, e_len3, e_len4, e_int1, e_int2, e_abs, e_max, e_min, e_ix1, e_ix2, e_ix3, e_ix4, e_eq1, e_eq2, e_eq3, e_lt1, e_le1, e_gt1, e_ge1, e_lt2, e_in1, e_app, e_ext, e_rev, e_clr, e_set, e_sl1, e_sl2, e_sl3, e_sl4, e_count, e_f1, e_f2, e_osh, e_owh, e_one, e_tt1, e_tt2, e_ctg1, e_ctg2, e_cn0, e_cn1, e_wi0, e_wi1, e_re0, e_re1, e_ifb1, e_ifb2, e_nm0, e_nm1, e_nm2, e_fa0, e_fa1, e_sum, e_allb, e_anyb, e_sp1, e_sp2, e_sp3, e_at0, e_at1, e_at2, e_at3, e_at4, e_at5, e_ixn40, e_ixn41, e_ixn42, e_ixn43, e_cp1, e_cp2, e_cp3, e_cp4, e_cp5, forall_eq, List.getD_cons_zero, List.getD_cons_succ, List.getD_nil, List.set_cons_zero, List.set_cons_succ, List.map_cons, List.map_nil, Option.map_some, Option.map_none, Option.bind_some, Option.bind_none, Option.getD_some, Option.some.injEq, exists_eq_left', exists_eq_left, exists_eq', exists_eq, decide_eq_true_eq, List.length_map, exists_eq_right, exists_and_left, exists_and_right, Option.isSome_some, T.int.injEq, T.str.injEq, T.lst.injEq, T.tup.injEq, T.bl.injEq, List.cons.injEq, Prod.mk.injEq, Hn.tm.injEq, true_and, and_true, and_assoc, and_self, ne_eq, not_false_eq_true, not_true_eq_false, ite_true, ite_false, if_true, if_false, reduceIte, reduceCtorEq, Bool.false_eq_true, false_and, and_false, imp_self, forall_const, implies_true, List.length_cons, List.length_nil, Nat.reduceAdd, Nat.reduceEqDiff, Bool.false_bne, Bool.true_bne, Bool.not_false, Bool.not_true, List.nil_append, List.cons_append, Int.reduceToNat, Int.reducePow, Int.reduceMul, Int.reduceSub, Int.reduceAdd, Int.reduceNeg, kt_NoneType_int, kt_NoneType_bool, kt_NoneType_str, kt_NoneType_list, kt_NoneType_tuple, kt_bool_int, kt_bool_bool, kt_bool_str, kt_bool_list, kt_bool_tuple, kt_int_int, kt_int_bool, kt_int_str, kt_int_list, kt_int_tuple, kt_str_int, kt_str_bool, kt_str_str, kt_str_list, kt_str_tuple, kt_list_int, kt_list_bool, kt_list_str, kt_list_list, kt_list_tuple, kt_tuple_int, kt_tuple_bool, kt_tuple_str, kt_tuple_list, kt_tuple_tuple, kt_dict_int, kt_dict_bool, kt_dict_str, kt_dict_list, kt_dict_tuple, e_ii_non, e_ii_bl, e_ii_int, e_ii_str, e_ii_lst, e_ii_scr, e_ii_tup, e_ii_dK, e_ii_dT, e_ii_ins, dCallL, e_argL, e_fl1, e_fl2, e_fl3, e_fl4, List.all_cons, List.all_nil, dDict, dDict0, e_keys0, e_keysS, e_keysI, e_cl_non, e_cl_bl, e_cl_int, e_pl_int, e_cl_str, e_cl_lst, e_cl_scr, e_cl_tup, e_cl_dK, e_cl_dT, e_iq1, e_iq2, e_nn1, e_nn2, e_nn3, e_nn4, e_inp, e_ixd, Int.cast_ofNat_Int, Int.natCast_succ, decide_true, decide_false, Int.reduceEq, Int.reduceLT, Int.reduceLE, Int.reduceNe, Nat.reduceLT, Nat.reduceLeDiff, Bool.and_true, Bool.true_and, Bool.and_false, Bool.false_and, Bool.not_eq_true, Bool.or_true, Bool.or_false, Int.natCast_add, Int.natCast_one, Int.zero_add, Int.add_zero, h2, h3, B_law_14_2]
    refine slet (b := C + 7000) ib (by decide) (by decide) fun t1 l i1 al hl => ?_
    have rl : rowB l = true := rowB_iff.mpr ⟨by omega, al⟩
    have fa := fAllL_ok (l := l) (by omega)
    have len : (swapsP l).length ≤ 40000 := by
      have := swaps_len (l := l) (by omega)
      rw [swapsT_eq, List.length_map] at this
      omega
    simp only [sSeq, sSet, sPar, sIf, sRet, sRetN, sDrop, sNext, sDead, sBrk, sCnt, sAsg, sFor, dNm, dTm, dC, dOp1, dOp2, dOpN, dMt, dMut, dCall, dLst, dTup, dNil, dCons, dVn, dVc, dSl, dSl3, dNoP, dPrt, dIf, dAndV, dOrV, dNotV, dBv, dTru, dNotT, dAndT, dOrT, dChn, dEqQ, dRpQ, qOp, qNil, qCons, qLs, qTp, dSrc, dRng1, dRng2, dZip2, dEnum, dComp, dYes, gNm, gTp, gCn, gNi, gIt, e_var, e_var1, e_var2, e_var3, e_var4, e_mov, e_mov1, e_mov2, e_mov3, e_mov4, e_tr1, e_tr2, e_tr3, e_tr4, e_tr5, e_own1, e_own2, e_reo1, e_reo2, e_of1, e_of2, e_pin1, e_pin2, e_pin3, e_arg1, e_arg2, e_arg3, e_arg4, e_isarg1, e_isarg2, e_conv1, e_conv2, e_conv3, e_conv4, e_conv5, e_conv6, e_sown1, e_sown2, e_sown3, e_sown4, e_put1, e_put2, e_po1, e_po2, e_p1, e_p2, e_ao1, e_ao2, e_nd0, e_nd1, e_nd2, e_sl, e_get1, e_get2, e_is, e_all, e_gets0, e_gets1, e_gets2, e_tms0, e_tms1, e_qg1, e_qg2, e_qg3, e_qgs0, e_qgs1, e_its1, e_its2, e_its3, e_its4, e_jts1, e_jts2, e_jts4, e_mt1, e_mt2, e_ty1, e_add1, e_add2, e_add3, e_sub, e_mul1, e_mul2, e_mul3, e_fdiv, e_mod, e_pow, e_neg, e_len1, e_len2, e_len3, e_len4, e_int1, e_int2, e_abs, e_max, e_min, e_ix1, e_ix2, e_ix3, e_ix4, e_eq1, e_eq2, e_eq3, e_lt1, e_le1, e_gt1, e_ge1, e_lt2, e_in1, e_app, e_ext, e_rev, e_clr, e_set, e_sl1, e_sl2, e_sl3, e_sl4, e_count, e_f1, e_f2, e_osh, e_owh, e_one, e_tt1, e_tt2, e_ctg1, e_ctg2, e_cn0, e_cn1, e_wi0, e_wi1, e_re0, e_re1, e_ifb1, e_ifb2, e_nm0, e_nm1, e_nm2, e_fa0, e_fa1, e_sum, e_allb, e_anyb, e_sp1, e_sp2, e_sp3, e_at0, e_at1, e_at2, e_at3, e_at4, e_at5, e_ixn40, e_ixn41, e_ixn42, e_ixn43, e_cp1, e_cp2, e_cp3, e_cp4, e_cp5, forall_eq, List.getD_cons_zero, List.getD_cons_succ, List.getD_nil, List.set_cons_zero, List.set_cons_succ, List.map_cons, List.map_nil, Option.map_some, Option.map_none, Option.bind_some, Option.bind_none, Option.getD_some, Option.some.injEq, exists_eq_left', exists_eq_left, exists_eq', exists_eq, decide_eq_true_eq, List.length_map, exists_eq_right, exists_and_left, exists_and_right, Option.isSome_some, T.int.injEq, T.str.injEq, T.lst.injEq, T.tup.injEq, T.bl.injEq, List.cons.injEq, Prod.mk.injEq, Hn.tm.injEq, true_and, and_true, and_assoc, and_self, ne_eq, not_false_eq_true, not_true_eq_false, ite_true, ite_false, if_true, if_false, reduceIte, reduceCtorEq, Bool.false_eq_true, false_and, and_false, imp_self, forall_const, implies_true, List.length_cons, List.length_nil, Nat.reduceAdd, Nat.reduceEqDiff, Bool.false_bne, Bool.true_bne, Bool.not_false, Bool.not_true, List.nil_append, List.cons_append, Int.reduceToNat, Int.reducePow, Int.reduceMul, Int.reduceSub, Int.reduceAdd, Int.reduceNeg, kt_NoneType_int, kt_NoneType_bool, kt_NoneType_str, kt_NoneType_list, kt_NoneType_tuple, kt_bool_int, kt_bool_bool, kt_bool_str, kt_bool_list, kt_bool_tuple, kt_int_int, kt_int_bool, kt_int_str, kt_int_list, kt_int_tuple, kt_str_int, kt_str_bool, kt_str_str, kt_str_list, kt_str_tuple, kt_list_int, kt_list_bool, kt_list_str, kt_list_list, kt_list_tuple, kt_tuple_int, kt_tuple_bool, kt_tuple_str, kt_tuple_list, kt_tuple_tuple, kt_dict_int, kt_dict_bool, kt_dict_str, kt_dict_list, kt_dict_tuple, e_ii_non, e_ii_bl, e_ii_int, e_ii_str, e_ii_lst, e_ii_scr, e_ii_tup, e_ii_dK, e_ii_dT, e_ii_ins, dCallL, e_argL, e_fl1, e_fl2, e_fl3, e_fl4, List.all_cons, List.all_nil, dDict, dDict0, e_keys0, e_keysS, e_keysI, e_cl_non, e_cl_bl, e_cl_int, e_pl_int, e_cl_str, e_cl_lst, e_cl_scr, e_cl_tup, e_cl_dK, e_cl_dT, e_iq1, e_iq2, e_nn1, e_nn2, e_nn3, e_nn4, e_inp, e_ixd, Int.cast_ofNat_Int, Int.natCast_succ, decide_true, decide_false, Int.reduceEq, Int.reduceLT, Int.reduceLE, Int.reduceNe, Nat.reduceLT, Nat.reduceLeDiff, Bool.and_true, Bool.true_and, Bool.and_false, Bool.false_and, Bool.not_eq_true, Bool.or_true, Bool.or_false, Int.natCast_add, Int.natCast_one, Int.zero_add, Int.add_zero, fa]
    refine ⟨h3, comp_if (w := plT) (fun _ => false) plT (fun p m A B hA => ?_) (by omega) ?_⟩
    · have g1 := fRight14_ok rl (sw_mem m)
      simp only [sSeq, sSet, sPar, sIf, sRet, sRetN, sDrop, sNext, sDead, sBrk, sCnt, sAsg, sFor, dNm, dTm, dC, dOp1, dOp2, dOpN, dMt, dMut, dCall, dLst, dTup, dNil, dCons, dVn, dVc, dSl, dSl3, dNoP, dPrt, dIf, dAndV, dOrV, dNotV, dBv, dTru, dNotT, dAndT, dOrT, dChn, dEqQ, dRpQ, qOp, qNil, qCons, qLs, qTp, dSrc, dRng1, dRng2, dZip2, dEnum, dComp, dYes, gNm, gTp, gCn, gNi, gIt, e_var, e_var1, e_var2, e_var3, e_var4, e_mov, e_mov1, e_mov2, e_mov3, e_mov4, e_tr1, e_tr2, e_tr3, e_tr4, e_tr5, e_own1, e_own2, e_reo1, e_reo2, e_of1, e_of2, e_pin1, e_pin2, e_pin3, e_arg1, e_arg2, e_arg3, e_arg4, e_isarg1, e_isarg2, e_conv1, e_conv2, e_conv3, e_conv4, e_conv5, e_conv6, e_sown1, e_sown2, e_sown3, e_sown4, e_put1, e_put2, e_po1, e_po2, e_p1, e_p2, e_ao1, e_ao2, e_nd0, e_nd1, e_nd2, e_sl, e_get1, e_get2, e_is, e_all, e_gets0, e_gets1, e_gets2, e_tms0, e_tms1, e_qg1, e_qg2, e_qg3, e_qgs0, e_qgs1, e_its1, e_its2, e_its3, e_its4, e_jts1, e_jts2, e_jts4, e_mt1, e_mt2, e_ty1, e_add1, e_add2, e_add3, e_sub, e_mul1, e_mul2, e_mul3, e_fdiv, e_mod, e_pow, e_neg, e_len1, e_len2, e_len3, e_len4, e_int1, e_int2, e_abs, e_max, e_min, e_ix1, e_ix2, e_ix3, e_ix4, e_eq1, e_eq2, e_eq3, e_lt1, e_le1, e_gt1, e_ge1, e_lt2, e_in1, e_app, e_ext, e_rev, e_clr, e_set, e_sl1, e_sl2, e_sl3, e_sl4, e_count, e_f1, e_f2, e_osh, e_owh, e_one, e_tt1, e_tt2, e_ctg1, e_ctg2, e_cn0, e_cn1, e_wi0, e_wi1, e_re0, e_re1, e_ifb1, e_ifb2, e_nm0, e_nm1, e_nm2, e_fa0, e_fa1, e_sum, e_allb, e_anyb, e_sp1, e_sp2, e_sp3, e_at0, e_at1, e_at2, e_at3, e_at4, e_at5, e_ixn40, e_ixn41, e_ixn42, e_ixn43, e_cp1, e_cp2, e_cp3, e_cp4, e_cp5, forall_eq, List.getD_cons_zero, List.getD_cons_succ, List.getD_nil, List.set_cons_zero, List.set_cons_succ, List.map_cons, List.map_nil, Option.map_some, Option.map_none, Option.bind_some, Option.bind_none, Option.getD_some, Option.some.injEq, exists_eq_left', exists_eq_left, exists_eq', exists_eq, decide_eq_true_eq, List.length_map, exists_eq_right, exists_and_left, exists_and_right, Option.isSome_some, T.int.injEq, T.str.injEq, T.lst.injEq, T.tup.injEq, T.bl.injEq, List.cons.injEq, Prod.mk.injEq, Hn.tm.injEq, true_and, and_true, and_assoc, and_self, ne_eq, not_false_eq_true, not_true_eq_false, ite_true, ite_false, if_true, if_false, reduceIte, reduceCtorEq, Bool.false_eq_true, false_and, and_false, imp_self, forall_const, implies_true, List.length_cons, List.length_nil, Nat.reduceAdd, Nat.reduceEqDiff, Bool.false_bne, Bool.true_bne, Bool.not_false, Bool.not_true, List.nil_append, List.cons_append, Int.reduceToNat, Int.reducePow, Int.reduceMul, Int.reduceSub, Int.reduceAdd, Int.reduceNeg, kt_NoneType_int, kt_NoneType_bool, kt_NoneType_str, kt_NoneType_list, kt_NoneType_tuple, kt_bool_int, kt_bool_bool, kt_bool_str, kt_bool_list, kt_bool_tuple, kt_int_int, kt_int_bool, kt_int_str, kt_int_list, kt_int_tuple, kt_str_int, kt_str_bool, kt_str_str, kt_str_list, kt_str_tuple, kt_list_int, kt_list_bool, kt_list_str, kt_list_list, kt_list_tuple, kt_tuple_int, kt_tuple_bool, kt_tuple_str, kt_tuple_list, kt_tuple_tuple, kt_dict_int, kt_dict_bool, kt_dict_str, kt_dict_list, kt_dict_tuple, e_ii_non, e_ii_bl, e_ii_int, e_ii_str, e_ii_lst, e_ii_scr, e_ii_tup, e_ii_dK, e_ii_dT, e_ii_ins, dCallL, e_argL, e_fl1, e_fl2, e_fl3, e_fl4, List.all_cons, List.all_nil, dDict, dDict0, e_keys0, e_keysS, e_keysI, e_cl_non, e_cl_bl, e_cl_int, e_pl_int, e_cl_str, e_cl_lst, e_cl_scr, e_cl_tup, e_cl_dK, e_cl_dT, e_iq1, e_iq2, e_nn1, e_nn2, e_nn3, e_nn4, e_inp, e_ixd, Int.cast_ofNat_Int, Int.natCast_succ, decide_true, decide_false, Int.reduceEq, Int.reduceLT, Int.reduceLE, Int.reduceNe, Nat.reduceLT, Nat.reduceLeDiff, Bool.and_true, Bool.true_and, Bool.and_false, Bool.false_and, Bool.not_eq_true, Bool.or_true, Bool.or_false, Int.natCast_add, Int.natCast_one, Int.zero_add, Int.add_zero, plT, pairI, g1]
      exact ifB_f.mp hA
    have o0 : okD (.lst []) := okD_ints []
    have v0 : eqvO (T.lst []).pd (T.lst []).pd = true := by decide
    have fe : (swapsP l).filter (fun _ => false) = [] := List.filter_eq_nil_iff.mpr fun _ _ => Bool.false_ne_true
    simp only [sSeq, sSet, sPar, sIf, sRet, sRetN, sDrop, sNext, sDead, sBrk, sCnt, sAsg, sFor, dNm, dTm, dC, dOp1, dOp2, dOpN, dMt, dMut, dCall, dLst, dTup, dNil, dCons, dVn, dVc, dSl, dSl3, dNoP, dPrt, dIf, dAndV, dOrV, dNotV, dBv, dTru, dNotT, dAndT, dOrT, dChn, dEqQ, dRpQ, qOp, qNil, qCons, qLs, qTp, dSrc, dRng1, dRng2, dZip2, dEnum, dComp, dYes, gNm, gTp, gCn, gNi, gIt, e_var, e_var1, e_var2, e_var3, e_var4, e_mov, e_mov1, e_mov2, e_mov3, e_mov4, e_tr1, e_tr2, e_tr3, e_tr4, e_tr5, e_own1, e_own2, e_reo1, e_reo2, e_of1, e_of2, e_pin1, e_pin2, e_pin3, e_arg1, e_arg2, e_arg3, e_arg4, e_isarg1, e_isarg2, e_conv1, e_conv2, e_conv3, e_conv4, e_conv5, e_conv6, e_sown1, e_sown2, e_sown3, e_sown4, e_put1, e_put2, e_po1, e_po2, e_p1, e_p2, e_ao1, e_ao2, e_nd0, e_nd1, e_nd2, e_sl, e_get1, e_get2, e_is, e_all, e_gets0, e_gets1, e_gets2, e_tms0, e_tms1, e_qg1, e_qg2, e_qg3, e_qgs0, e_qgs1, e_its1, e_its2, e_its3, e_its4, e_jts1, e_jts2, e_jts4, e_mt1, e_mt2, e_ty1, e_add1, e_add2, e_add3, e_sub, e_mul1, e_mul2, e_mul3, e_fdiv, e_mod, e_pow, e_neg, e_len1, e_len2, e_len3, e_len4, e_int1, e_int2, e_abs, e_max, e_min, e_ix1, e_ix2, e_ix3, e_ix4, e_eq1, e_eq2, e_eq3, e_lt1, e_le1, e_gt1, e_ge1, e_lt2, e_in1, e_app, e_ext, e_rev, e_clr, e_set, e_sl1, e_sl2, e_sl3, e_sl4, e_count, e_f1, e_f2, e_osh, e_owh, e_one, e_tt1, e_tt2, e_ctg1, e_ctg2, e_cn0, e_cn1, e_wi0, e_wi1, e_re0, e_re1, e_ifb1, e_ifb2, e_nm0, e_nm1, e_nm2, e_fa0, e_fa1, e_sum, e_allb, e_anyb, e_sp1, e_sp2, e_sp3, e_at0, e_at1, e_at2, e_at3, e_at4, e_at5, e_ixn40, e_ixn41, e_ixn42, e_ixn43, e_cp1, e_cp2, e_cp3, e_cp4, e_cp5, forall_eq, List.getD_cons_zero, List.getD_cons_succ, List.getD_nil, List.set_cons_zero, List.set_cons_succ, List.map_cons, List.map_nil, Option.map_some, Option.map_none, Option.bind_some, Option.bind_none, Option.getD_some, Option.some.injEq, exists_eq_left', exists_eq_left, exists_eq', exists_eq, decide_eq_true_eq, List.length_map, exists_eq_right, exists_and_left, exists_and_right, Option.isSome_some, T.int.injEq, T.str.injEq, T.lst.injEq, T.tup.injEq, T.bl.injEq, List.cons.injEq, Prod.mk.injEq, Hn.tm.injEq, true_and, and_true, and_assoc, and_self, ne_eq, not_false_eq_true, not_true_eq_false, ite_true, ite_false, if_true, if_false, reduceIte, reduceCtorEq, Bool.false_eq_true, false_and, and_false, imp_self, forall_const, implies_true, List.length_cons, List.length_nil, Nat.reduceAdd, Nat.reduceEqDiff, Bool.false_bne, Bool.true_bne, Bool.not_false, Bool.not_true, List.nil_append, List.cons_append, Int.reduceToNat, Int.reducePow, Int.reduceMul, Int.reduceSub, Int.reduceAdd, Int.reduceNeg, kt_NoneType_int, kt_NoneType_bool, kt_NoneType_str, kt_NoneType_list, kt_NoneType_tuple, kt_bool_int, kt_bool_bool, kt_bool_str, kt_bool_list, kt_bool_tuple, kt_int_int, kt_int_bool, kt_int_str, kt_int_list, kt_int_tuple, kt_str_int, kt_str_bool, kt_str_str, kt_str_list, kt_str_tuple, kt_list_int, kt_list_bool, kt_list_str, kt_list_list, kt_list_tuple, kt_tuple_int, kt_tuple_bool, kt_tuple_str, kt_tuple_list, kt_tuple_tuple, kt_dict_int, kt_dict_bool, kt_dict_str, kt_dict_list, kt_dict_tuple, e_ii_non, e_ii_bl, e_ii_int, e_ii_str, e_ii_lst, e_ii_scr, e_ii_tup, e_ii_dK, e_ii_dT, e_ii_ins, dCallL, e_argL, e_fl1, e_fl2, e_fl3, e_fl4, List.all_cons, List.all_nil, dDict, dDict0, e_keys0, e_keysS, e_keysI, e_cl_non, e_cl_bl, e_cl_int, e_pl_int, e_cl_str, e_cl_lst, e_cl_scr, e_cl_tup, e_cl_dK, e_cl_dT, e_iq1, e_iq2, e_nn1, e_nn2, e_nn3, e_nn4, e_inp, e_ixd, Int.cast_ofNat_Int, Int.natCast_succ, decide_true, decide_false, Int.reduceEq, Int.reduceLT, Int.reduceLE, Int.reduceNe, Nat.reduceLT, Nat.reduceLeDiff, Bool.and_true, Bool.true_and, Bool.and_false, Bool.false_and, Bool.not_eq_true, Bool.or_true, Bool.or_false, Int.natCast_add, Int.natCast_one, Int.zero_add, Int.add_zero, fe, o0, v0]
    refine ⟨by omega, by omega, sbag (b := C + 6999) (bound := 2) i1 (by decide) (by decide) fun t2 r i2 a0 a1 => ?_⟩
    obtain ⟨y, ym, ey⟩ := atI_in (xs := [(30 : Int), 200]) a0 a1
    have ey2 : L2.atI [T.int 30, T.int 200] r = some (.int y) := by
      have := atI_map T.int [(30 : Int), 200] r
      rw [ey] at this
      exact this
    have hy : y = 30 ∨ y = 200 := by simpa using ym
    simp only [sSeq, sSet, sPar, sIf, sRet, sRetN, sDrop, sNext, sDead, sBrk, sCnt, sAsg, sFor, dNm, dTm, dC, dOp1, dOp2, dOpN, dMt, dMut, dCall, dLst, dTup, dNil, dCons, dVn, dVc, dSl, dSl3, dNoP, dPrt, dIf, dAndV, dOrV, dNotV, dBv, dTru, dNotT, dAndT, dOrT, dChn, dEqQ, dRpQ, qOp, qNil, qCons, qLs, qTp, dSrc, dRng1, dRng2, dZip2, dEnum, dComp, dYes, gNm, gTp, gCn, gNi, gIt, e_var, e_var1, e_var2, e_var3, e_var4, e_mov, e_mov1, e_mov2, e_mov3, e_mov4, e_tr1, e_tr2, e_tr3, e_tr4, e_tr5, e_own1, e_own2, e_reo1, e_reo2, e_of1, e_of2, e_pin1, e_pin2, e_pin3, e_arg1, e_arg2, e_arg3, e_arg4, e_isarg1, e_isarg2, e_conv1, e_conv2, e_conv3, e_conv4, e_conv5, e_conv6, e_sown1, e_sown2, e_sown3, e_sown4, e_put1, e_put2, e_po1, e_po2, e_p1, e_p2, e_ao1, e_ao2, e_nd0, e_nd1, e_nd2, e_sl, e_get1, e_get2, e_is, e_all, e_gets0, e_gets1, e_gets2, e_tms0, e_tms1, e_qg1, e_qg2, e_qg3, e_qgs0, e_qgs1, e_its1, e_its2, e_its3, e_its4, e_jts1, e_jts2, e_jts4, e_mt1, e_mt2, e_ty1, e_add1, e_add2, e_add3, e_sub, e_mul1, e_mul2, e_mul3, e_fdiv, e_mod, e_pow, e_neg, e_len1, e_len2, e_len3, e_len4, e_int1, e_int2, e_abs, e_max, e_min, e_ix1, e_ix2, e_ix3, e_ix4, e_eq1, e_eq2, e_eq3, e_lt1, e_le1, e_gt1, e_ge1, e_lt2, e_in1, e_app, e_ext, e_rev, e_clr, e_set, e_sl1, e_sl2, e_sl3, e_sl4, e_count, e_f1, e_f2, e_osh, e_owh, e_one, e_tt1, e_tt2, e_ctg1, e_ctg2, e_cn0, e_cn1, e_wi0, e_wi1, e_re0, e_re1, e_ifb1, e_ifb2, e_nm0, e_nm1, e_nm2, e_fa0, e_fa1, e_sum, e_allb, e_anyb, e_sp1, e_sp2, e_sp3, e_at0, e_at1, e_at2, e_at3, e_at4, e_at5, e_ixn40, e_ixn41, e_ixn42, e_ixn43, e_cp1, e_cp2, e_cp3, e_cp4, e_cp5, forall_eq, List.getD_cons_zero, List.getD_cons_succ, List.getD_nil, List.set_cons_zero, List.set_cons_succ, List.map_cons, List.map_nil, Option.map_some, Option.map_none, Option.bind_some, Option.bind_none, Option.getD_some, Option.some.injEq, exists_eq_left', exists_eq_left, exists_eq', exists_eq, decide_eq_true_eq, List.length_map, exists_eq_right, exists_and_left, exists_and_right, Option.isSome_some, T.int.injEq, T.str.injEq, T.lst.injEq, T.tup.injEq, T.bl.injEq, List.cons.injEq, Prod.mk.injEq, Hn.tm.injEq, true_and, and_true, and_assoc, and_self, ne_eq, not_false_eq_true, not_true_eq_false, ite_true, ite_false, if_true, if_false, reduceIte, reduceCtorEq, Bool.false_eq_true, false_and, and_false, imp_self, forall_const, implies_true, List.length_cons, List.length_nil, Nat.reduceAdd, Nat.reduceEqDiff, Bool.false_bne, Bool.true_bne, Bool.not_false, Bool.not_true, List.nil_append, List.cons_append, Int.reduceToNat, Int.reducePow, Int.reduceMul, Int.reduceSub, Int.reduceAdd, Int.reduceNeg, kt_NoneType_int, kt_NoneType_bool, kt_NoneType_str, kt_NoneType_list, kt_NoneType_tuple, kt_bool_int, kt_bool_bool, kt_bool_str, kt_bool_list, kt_bool_tuple, kt_int_int, kt_int_bool, kt_int_str, kt_int_list, kt_int_tuple, kt_str_int, kt_str_bool, kt_str_str, kt_str_list, kt_str_tuple, kt_list_int, kt_list_bool, kt_list_str, kt_list_list, kt_list_tuple, kt_tuple_int, kt_tuple_bool, kt_tuple_str, kt_tuple_list, kt_tuple_tuple, kt_dict_int, kt_dict_bool, kt_dict_str, kt_dict_list, kt_dict_tuple, e_ii_non, e_ii_bl, e_ii_int, e_ii_str, e_ii_lst, e_ii_scr, e_ii_tup, e_ii_dK, e_ii_dT, e_ii_ins, dCallL, e_argL, e_fl1, e_fl2, e_fl3, e_fl4, List.all_cons, List.all_nil, dDict, dDict0, e_keys0, e_keysS, e_keysI, e_cl_non, e_cl_bl, e_cl_int, e_pl_int, e_cl_str, e_cl_lst, e_cl_scr, e_cl_tup, e_cl_dK, e_cl_dT, e_iq1, e_iq2, e_nn1, e_nn2, e_nn3, e_nn4, e_inp, e_ixd, Int.cast_ofNat_Int, Int.natCast_succ, decide_true, decide_false, Int.reduceEq, Int.reduceLT, Int.reduceLE, Int.reduceNe, Nat.reduceLT, Nat.reduceLeDiff, Bool.and_true, Bool.true_and, Bool.and_false, Bool.false_and, Bool.not_eq_true, Bool.or_true, Bool.or_false, Int.natCast_add, Int.natCast_one, Int.zero_add, Int.add_zero, ey2]
    refine slet (b := C + 1999) (i2.less (by omega)) (by omega) (by omega) fun t3 l2 i3 al2 hl2 => ?_
    have rl2 : rowB l2 = true := rowB_iff.mpr ⟨by omega, al2⟩
    simp only [sSeq, sSet, sPar, sIf, sRet, sRetN, sDrop, sNext, sDead, sBrk, sCnt, sAsg, sFor, dNm, dTm, dC, dOp1, dOp2, dOpN, dMt, dMut, dCall, dLst, dTup, dNil, dCons, dVn, dVc, dSl, dSl3, dNoP, dPrt, dIf, dAndV, dOrV, dNotV, dBv, dTru, dNotT, dAndT, dOrT, dChn, dEqQ, dRpQ, qOp, qNil, qCons, qLs, qTp, dSrc, dRng1, dRng2, dZip2, dEnum, dComp, dYes, gNm, gTp, gCn, gNi, gIt, e_var, e_var1, e_var2, e_var3, e_var4, e_mov, e_mov1, e_mov2, e_mov3, e_mov4, e_tr1, e_tr2, e_tr3, e_tr4, e_tr5, e_own1, e_own2, e_reo1, e_reo2, e_of1, e_of2, e_pin1, e_pin2, e_pin3, e_arg1, e_arg2, e_arg3, e_arg4, e_isarg1, e_isarg2, e_conv1, e_conv2, e_conv3, e_conv4, e_conv5, e_conv6, e_sown1, e_sown2, e_sown3, e_sown4, e_put1, e_put2, e_po1, e_po2, e_p1, e_p2, e_ao1, e_ao2, e_nd0, e_nd1, e_nd2, e_sl, e_get1, e_get2, e_is, e_all, e_gets0, e_gets1, e_gets2, e_tms0, e_tms1, e_qg1, e_qg2, e_qg3, e_qgs0, e_qgs1, e_its1, e_its2, e_its3, e_its4, e_jts1, e_jts2, e_jts4, e_mt1, e_mt2, e_ty1, e_add1, e_add2, e_add3, e_sub, e_mul1, e_mul2, e_mul3, e_fdiv, e_mod, e_pow, e_neg, e_len1, e_len2, e_len3, e_len4, e_int1, e_int2, e_abs, e_max, e_min, e_ix1, e_ix2, e_ix3, e_ix4, e_eq1, e_eq2, e_eq3, e_lt1, e_le1, e_gt1, e_ge1, e_lt2, e_in1, e_app, e_ext, e_rev, e_clr, e_set, e_sl1, e_sl2, e_sl3, e_sl4, e_count, e_f1, e_f2, e_osh, e_owh, e_one, e_tt1, e_tt2, e_ctg1, e_ctg2, e_cn0, e_cn1, e_wi0, e_wi1, e_re0, e_re1, e_ifb1, e_ifb2, e_nm0, e_nm1, e_nm2, e_fa0, e_fa1, e_sum, e_allb, e_anyb, e_sp1, e_sp2, e_sp3, e_at0, e_at1, e_at2, e_at3, e_at4, e_at5, e_ixn40, e_ixn41, e_ixn42, e_ixn43, e_cp1, e_cp2, e_cp3, e_cp4, e_cp5, forall_eq, List.getD_cons_zero, List.getD_cons_succ, List.getD_nil, List.set_cons_zero, List.set_cons_succ, List.map_cons, List.map_nil, Option.map_some, Option.map_none, Option.bind_some, Option.bind_none, Option.getD_some, Option.some.injEq, exists_eq_left', exists_eq_left, exists_eq', exists_eq, decide_eq_true_eq, List.length_map, exists_eq_right, exists_and_left, exists_and_right, Option.isSome_some, T.int.injEq, T.str.injEq, T.lst.injEq, T.tup.injEq, T.bl.injEq, List.cons.injEq, Prod.mk.injEq, Hn.tm.injEq, true_and, and_true, and_assoc, and_self, ne_eq, not_false_eq_true, not_true_eq_false, ite_true, ite_false, if_true, if_false, reduceIte, reduceCtorEq, Bool.false_eq_true, false_and, and_false, imp_self, forall_const, implies_true, List.length_cons, List.length_nil, Nat.reduceAdd, Nat.reduceEqDiff, Bool.false_bne, Bool.true_bne, Bool.not_false, Bool.not_true, List.nil_append, List.cons_append, Int.reduceToNat, Int.reducePow, Int.reduceMul, Int.reduceSub, Int.reduceAdd, Int.reduceNeg, kt_NoneType_int, kt_NoneType_bool, kt_NoneType_str, kt_NoneType_list, kt_NoneType_tuple, kt_bool_int, kt_bool_bool, kt_bool_str, kt_bool_list, kt_bool_tuple, kt_int_int, kt_int_bool, kt_int_str, kt_int_list, kt_int_tuple, kt_str_int, kt_str_bool, kt_str_str, kt_str_list, kt_str_tuple, kt_list_int, kt_list_bool, kt_list_str, kt_list_list, kt_list_tuple, kt_tuple_int, kt_tuple_bool, kt_tuple_str, kt_tuple_list, kt_tuple_tuple, kt_dict_int, kt_dict_bool, kt_dict_str, kt_dict_list, kt_dict_tuple, e_ii_non, e_ii_bl, e_ii_int, e_ii_str, e_ii_lst, e_ii_scr, e_ii_tup, e_ii_dK, e_ii_dT, e_ii_ins, dCallL, e_argL, e_fl1, e_fl2, e_fl3, e_fl4, List.all_cons, List.all_nil, dDict, dDict0, e_keys0, e_keysS, e_keysI, e_cl_non, e_cl_bl, e_cl_int, e_pl_int, e_cl_str, e_cl_lst, e_cl_scr, e_cl_tup, e_cl_dK, e_cl_dT, e_iq1, e_iq2, e_nn1, e_nn2, e_nn3, e_nn4, e_inp, e_ixd, Int.cast_ofNat_Int, Int.natCast_succ, decide_true, decide_false, Int.reduceEq, Int.reduceLT, Int.reduceLE, Int.reduceNe, Nat.reduceLT, Nat.reduceLeDiff, Bool.and_true, Bool.true_and, Bool.and_false, Bool.false_and, Bool.not_eq_true, Bool.or_true, Bool.or_false, Int.natCast_add, Int.natCast_one, Int.zero_add, Int.add_zero]
    refine ⟨⟨by decide, by decide⟩, ?_⟩
    rw [rangeT_eq]
    refine loop_law_14_1 _ _ _ ((List.range (12 : Int).toNat).map fun i : Nat => (0 : Int) + (i : Int)) (C + 1999) t3 l2 _ _ _ h4 h5 h6 (by rw [List.length_map, List.length_range]; show 10 * 12 ≤ _; omega) i3 rl2 fun t' s3 s4 s5 s6 ib' h3 h4 h5 h6 => ?_
    exact hK _ (loop_law_14_2 Q s0 xs C t' _ _ _ _ _ rfl h3 h4 h5 h6 (by omega) (ib'.less (by rw [List.length_map, List.length_range]; show C ≤ C + 1999 - 10 * 12; omega)) q)
def SLaw14 : Sx := fun ars Q => ∃ ns : List Int, ars = [.sh (.scr (ns.map T.int))] ∧ ns.length ≤ 63 ∧ Q.ok (false, .bl true) [.no]
theorem en_SLaw14 (ns : List Int) (hl : ns.length ≤ 63) (_ : ∀ z ∈ ns, Builtin.Int.intBits z ≤ 1048576) : SLaw14 [.sh (.scr (ns.map T.int))] ⟨fun r _ => r = (false, .bl true), fun _ _ _ => False⟩ := ⟨ns, rfl, hl, rfl⟩
theorem mn_SLaw14 : Mn SLaw14 := fun ρ Q Q' ⟨ns, a, b, q⟩ k _ => ⟨ns, a, b, k _ _ q⟩
theorem h_law_14 (ars : Rho) (Q : Po Rv) (h : SLaw14 ars Q) : D_law_14 SMake SLet (SP fAllL) (SP fRight14) SBag (SP fSwapped) (ars ++ List.replicate 6 .no) (fwish ars Q) := by
  obtain ⟨ns, rfl, hl, q⟩ := h
  have hs := sizeLine_eq
  show D_law_14 SMake SLet (SP fAllL) (SP fRight14) SBag (SP fSwapped) [.sh (.scr (ns.map T.int)), .no, .no, .no, .no, .no, .no] _
  simp only [sSeq, sSet, sPar, sIf, sRet, sRetN, sDrop, sNext, sDead, sBrk, sCnt, sAsg, sFor, dNm, dTm, dC, dOp1, dOp2, dOpN, dMt, dMut, dCall, dLst, dTup, dNil, dCons, dVn, dVc, dSl, dSl3, dNoP, dPrt, dIf, dAndV, dOrV, dNotV, dBv, dTru, dNotT, dAndT, dOrT, dChn, dEqQ, dRpQ, qOp, qNil, qCons, qLs, qTp, dSrc, dRng1, dRng2, dZip2, dEnum, dComp, dYes, gNm, gTp, gCn, gNi, gIt, e_var, e_var1, e_var2, e_var3, e_var4, e_mov, e_mov1, e_mov2, e_mov3, e_mov4, e_tr1, e_tr2, e_tr3, e_tr4, e_tr5, e_own1, e_own2, e_reo1, e_reo2, e_of1, e_of2, e_pin1, e_pin2, e_pin3, e_arg1, e_arg2, e_arg3, e_arg4, e_isarg1, e_isarg2, e_conv1, e_conv2, e_conv3, e_conv4, e_conv5, e_conv6, e_sown1, e_sown2, e_sown3, e_sown4, e_put1, e_put2, e_po1, e_po2, e_p1, e_p2, e_ao1, e_ao2, e_nd0, e_nd1, e_nd2, e_sl, e_get1, e_get2, e_is, e_all, e_gets0, e_gets1, e_gets2, e_tms0, e_tms1, e_qg1, e_qg2, e_qg3, e_qgs0, e_qgs1, e_its1, e_its2, e_its3, e_its4, e_jts1, e_jts2, e_jts4, e_mt1, e_mt2, e_ty1, e_add1, e_add2, e_add3, e_sub, e_mul1, e_mul2, e_mul3, e_fdiv, e_mod, e_pow, e_neg, e_len1, e_len2, e_len3, e_len4, e_int1, e_int2, e_abs, e_max, e_min, e_ix1, e_ix2, e_ix3, e_ix4, e_eq1, e_eq2, e_eq3, e_lt1, e_le1, e_gt1, e_ge1, e_lt2, e_in1, e_app, e_ext, e_rev, e_clr, e_set, e_sl1, e_sl2, e_sl3, e_sl4, e_count, e_f1, e_f2, e_osh, e_owh, e_one, e_tt1, e_tt2, e_ctg1, e_ctg2, e_cn0, e_cn1, e_wi0, e_wi1, e_re0, e_re1, e_ifb1, e_ifb2, e_nm0, e_nm1, e_nm2, e_fa0, e_fa1, e_sum, e_allb, e_anyb, e_sp1, e_sp2, e_sp3, e_at0, e_at1, e_at2, e_at3, e_at4, e_at5, e_ixn40, e_ixn41, e_ixn42, e_ixn43, e_cp1, e_cp2, e_cp3, e_cp4, e_cp5, forall_eq, List.getD_cons_zero, List.getD_cons_succ, List.getD_nil, List.set_cons_zero, List.set_cons_succ, List.map_cons, List.map_nil, Option.map_some, Option.map_none, Option.bind_some, Option.bind_none, Option.getD_some, Option.some.injEq, exists_eq_left', exists_eq_left, exists_eq', exists_eq, decide_eq_true_eq, List.length_map, exists_eq_right, exists_and_left, exists_and_right, Option.isSome_some, T.int.injEq, T.str.injEq, T.lst.injEq, T.tup.injEq, T.bl.injEq, List.cons.injEq, Prod.mk.injEq, Hn.tm.injEq, true_and, and_true, and_assoc, and_self, ne_eq, not_false_eq_true, not_true_eq_false, ite_true, ite_false, if_true, if_false, reduceIte, reduceCtorEq, Bool.false_eq_true, false_and, and_false, imp_self, forall_const, implies_true, List.length_cons, List.length_nil, Nat.reduceAdd, Nat.reduceEqDiff, Bool.false_bne, Bool.true_bne, Bool.not_false, Bool.not_true, List.nil_append, List.cons_append, Int.reduceToNat, Int.reducePow, Int.reduceMul, Int.reduceSub, Int.reduceAdd, Int.reduceNeg, kt_NoneType_int, kt_NoneType_bool, kt_NoneType_str, kt_NoneType_list, kt_NoneType_tuple, kt_bool_int, kt_bool_bool, kt_bool_str, kt_bool_list, kt_bool_tuple, kt_int_int, kt_int_bool, kt_int_str, kt_int_list, kt_int_tuple, kt_str_int, kt_str_bool, kt_str_str, kt_str_list, kt_str_tuple, kt_list_int, kt_list_bool, kt_list_str, kt_list_list, kt_list_tuple, kt_tuple_int, kt_tuple_bool, kt_tuple_str, kt_tuple_list, kt_tuple_tuple, kt_dict_int, kt_dict_bool, kt_dict_str, kt_dict_list, kt_dict_tuple, e_ii_non, e_ii_bl, e_ii_int, e_ii_str, e_ii_lst, e_ii_scr, e_ii_tup, e_ii_dK, e_ii_dT, e_ii_ins, dCallL, e_argL, e_fl1, e_fl2, e_fl3, e_fl4, List.all_cons, List.all_nil, dDict, dDict0, e_keys0, e_keysS, e_keysI, e_cl_non, e_cl_bl, e_cl_int, e_pl_int, e_cl_str, e_cl_lst, e_cl_scr, e_cl_tup, e_cl_dK, e_cl_dT, e_iq1, e_iq2, e_nn1, e_nn2, e_nn3, e_nn4, e_inp, e_ixd, Int.cast_ofNat_Int, Int.natCast_succ, decide_true, decide_false, Int.reduceEq, Int.reduceLT, Int.reduceLE, Int.reduceNe, Nat.reduceLT, Nat.reduceLeDiff, Bool.and_true, Bool.true_and, Bool.and_false, Bool.false_and, Bool.not_eq_true, Bool.or_true, Bool.or_false, Int.natCast_add, Int.natCast_one, Int.zero_add, Int.add_zero, D_law_14]
  refine smake hl fun b t hb ib => ?_
  simp only [sSeq, sSet, sPar, sIf, sRet, sRetN, sDrop, sNext, sDead, sBrk, sCnt, sAsg, sFor, dNm, dTm, dC, dOp1, dOp2, dOpN, dMt, dMut, dCall, dLst, dTup, dNil, dCons, dVn, dVc, dSl, dSl3, dNoP, dPrt, dIf, dAndV, dOrV, dNotV, dBv, dTru, dNotT, dAndT, dOrT, dChn, dEqQ, dRpQ, qOp, qNil, qCons, qLs, qTp, dSrc, dRng1, dRng2, dZip2, dEnum, dComp, dYes, gNm, gTp, gCn, gNi, gIt, e_var, e_var1, e_var2, e_var3, e_var4, e_mov, e_mov1, e_mov2, e_mov3, e_mov4, e_tr1, e_tr2, e_tr3, e_tr4, e_tr5, e_own1, e_own2, e_reo1, e_reo2, e_of1, e_of2, e_pin1, e_pin2, e_pin3, e_arg1, e_arg2, e_arg3, e_arg4, e_isarg1, e_isarg2, e_conv1, e_conv2, e_conv3, e_conv4, e_conv5, e_conv6, e_sown1, e_sown2, e_sown3, e_sown4, e_put1, e_put2, e_po1, e_po2, e_p1, e_p2, e_ao1, e_ao2, e_nd0, e_nd1, e_nd2, e_sl, e_get1, e_get2, e_is, e_all, e_gets0, e_gets1, e_gets2, e_tms0, e_tms1, e_qg1, e_qg2, e_qg3, e_qgs0, e_qgs1, e_its1, e_its2, e_its3, e_its4, e_jts1, e_jts2, e_jts4, e_mt1, e_mt2, e_ty1, e_add1, e_add2, e_add3, e_sub, e_mul1, e_mul2, e_mul3, e_fdiv, e_mod, e_pow, e_neg, e_len1, e_len2, e_len3, e_len4, e_int1, e_int2, e_abs, e_max, e_min, e_ix1, e_ix2, e_ix3, e_ix4, e_eq1, e_eq2, e_eq3, e_lt1, e_le1, e_gt1, e_ge1, e_lt2, e_in1, e_app, e_ext, e_rev, e_clr, e_set, e_sl1, e_sl2, e_sl3, e_sl4, e_count, e_f1, e_f2, e_osh, e_owh, e_one, e_tt1, e_tt2, e_ctg1, e_ctg2, e_cn0, e_cn1, e_wi0, e_wi1, e_re0, e_re1, e_ifb1, e_ifb2, e_nm0, e_nm1, e_nm2, e_fa0, e_fa1, e_sum, e_allb, e_anyb, e_sp1, e_sp2, e_sp3, e_at0, e_at1, e_at2, e_at3, e_at4, e_at5, e_ixn40, e_ixn41, e_ixn42, e_ixn43, e_cp1, e_cp2, e_cp3, e_cp4, e_cp5, forall_eq, List.getD_cons_zero, List.getD_cons_succ, List.getD_nil, List.set_cons_zero, List.set_cons_succ, List.map_cons, List.map_nil, Option.map_some, Option.map_none, Option.bind_some, Option.bind_none, Option.getD_some, Option.some.injEq, exists_eq_left', exists_eq_left, exists_eq', exists_eq, decide_eq_true_eq, List.length_map, exists_eq_right, exists_and_left, exists_and_right, Option.isSome_some, T.int.injEq, T.str.injEq, T.lst.injEq, T.tup.injEq, T.bl.injEq, List.cons.injEq, Prod.mk.injEq, Hn.tm.injEq, true_and, and_true, and_assoc, and_self, ne_eq, not_false_eq_true, not_true_eq_false, ite_true, ite_false, if_true, if_false, reduceIte, reduceCtorEq, Bool.false_eq_true, false_and, and_false, imp_self, forall_const, implies_true, List.length_cons, List.length_nil, Nat.reduceAdd, Nat.reduceEqDiff, Bool.false_bne, Bool.true_bne, Bool.not_false, Bool.not_true, List.nil_append, List.cons_append, Int.reduceToNat, Int.reducePow, Int.reduceMul, Int.reduceSub, Int.reduceAdd, Int.reduceNeg, kt_NoneType_int, kt_NoneType_bool, kt_NoneType_str, kt_NoneType_list, kt_NoneType_tuple, kt_bool_int, kt_bool_bool, kt_bool_str, kt_bool_list, kt_bool_tuple, kt_int_int, kt_int_bool, kt_int_str, kt_int_list, kt_int_tuple, kt_str_int, kt_str_bool, kt_str_str, kt_str_list, kt_str_tuple, kt_list_int, kt_list_bool, kt_list_str, kt_list_list, kt_list_tuple, kt_tuple_int, kt_tuple_bool, kt_tuple_str, kt_tuple_list, kt_tuple_tuple, kt_dict_int, kt_dict_bool, kt_dict_str, kt_dict_list, kt_dict_tuple, e_ii_non, e_ii_bl, e_ii_int, e_ii_str, e_ii_lst, e_ii_scr, e_ii_tup, e_ii_dK, e_ii_dT, e_ii_ins, dCallL, e_argL, e_fl1, e_fl2, e_fl3, e_fl4, List.all_cons, List.all_nil, dDict, dDict0, e_keys0, e_keysS, e_keysI, e_cl_non, e_cl_bl, e_cl_int, e_pl_int, e_cl_str, e_cl_lst, e_cl_scr, e_cl_tup, e_cl_dK, e_cl_dT, e_iq1, e_iq2, e_nn1, e_nn2, e_nn3, e_nn4, e_inp, e_ixd, Int.cast_ofNat_Int, Int.natCast_succ, decide_true, decide_false, Int.reduceEq, Int.reduceLT, Int.reduceLE, Int.reduceNe, Nat.reduceLT, Nat.reduceLeDiff, Bool.and_true, Bool.true_and, Bool.and_false, Bool.false_and, Bool.not_eq_true, Bool.or_true, Bool.or_false, Int.natCast_add, Int.natCast_one, Int.zero_add, Int.add_zero]
  have hm : (4 : Int) + (if (ns.length : Int) < 6 then (ns.length : Int) else 6) ≤ 10 ∧ 4 ≤ (4 : Int) + (if (ns.length : Int) < 6 then (ns.length : Int) else 6) := by split <;> omega
  refine ⟨⟨by omega, by omega⟩, ?_⟩
  rw [rangeT_eq]
  refine loop_law_14_2 _ _ _ b t .no .no .no .no .no rfl rfl rfl rfl rfl (by rw [hb, List.length_map, List.length_range]; omega) ib fun t' s2 s3 s4 s5 s6 => ?_
  have w1 : Sw [97, 98, 98, 97] 0 2 := sw_mem (p := (0, 2)) (by decide)
  have w2 : Sw [98, 97, 97, 98] 2 0 := sw_mem (p := (2, 0)) (by decide)
  have g1 := fSwapped_ok (show rowB [97, 98, 98, 97] = true by decide) w1
  have g2 := fSwapped_ok (show rowB [98, 97, 97, 98] = true by decide) w2
  have e1 : aftI [97, 98, 98, 97] (0, 2) = [98, 97, 97, 98] := by rfl
  have e2 : aftI [98, 97, 97, 98] (2, 0) = [97, 98, 98, 97] := by rfl
  rw [e1] at g1
  rw [e2] at g2
  simp only [sSeq, sSet, sPar, sIf, sRet, sRetN, sDrop, sNext, sDead, sBrk, sCnt, sAsg, sFor, dNm, dTm, dC, dOp1, dOp2, dOpN, dMt, dMut, dCall, dLst, dTup, dNil, dCons, dVn, dVc, dSl, dSl3, dNoP, dPrt, dIf, dAndV, dOrV, dNotV, dBv, dTru, dNotT, dAndT, dOrT, dChn, dEqQ, dRpQ, qOp, qNil, qCons, qLs, qTp, dSrc, dRng1, dRng2, dZip2, dEnum, dComp, dYes, gNm, gTp, gCn, gNi, gIt, e_var, e_var1, e_var2, e_var3, e_var4, e_mov, e_mov1, e_mov2, e_mov3, e_mov4, e_tr1, e_tr2, e_tr3, e_tr4, e_tr5, e_own1, e_own2, e_reo1, e_reo2, e_of1, e_of2, e_pin1, e_pin2, e_pin3, e_arg1, e_arg2, e_arg3, e_arg4, e_isarg1, e_isarg2, e_conv1, e_conv2, e_conv3, e_conv4, e_conv5, e_conv6, e_sown1, e_sown2, e_sown3, e_sown4, e_put1, e_put2, e_po1, e_po2, e_p1, e_p2, e_ao1, e_ao2, e_nd0, e_nd1, e_nd2, e_sl, e_get1, e_get2, e_is, e_all, e_gets0, e_gets1, e_gets2, e_tms0, e_tms1, e_qg1, e_qg2, e_qg3, e_qgs0, e_qgs1, e_its1, e_its2, e_its3, e_its4, e_jts1, e_jts2, e_jts4, e_mt1, e_mt2, e_ty1, e_add1, e_add2, e_add3, e_sub, e_mul1, e_mul2, e_mul3, e_fdiv, e_mod, e_pow, e_neg, e_len1, e_len2, e_len3, e_len4, e_int1, e_int2, e_abs, e_max, e_min, e_ix1, e_ix2, e_ix3, e_ix4, e_eq1, e_eq2, e_eq3, e_lt1, e_le1, e_gt1, e_ge1, e_lt2, e_in1, e_app, e_ext, e_rev, e_clr, e_set, e_sl1, e_sl2, e_sl3, e_sl4, e_count, e_f1, e_f2, e_osh, e_owh, e_one, e_tt1, e_tt2, e_ctg1, e_ctg2, e_cn0, e_cn1, e_wi0, e_wi1, e_re0, e_re1, e_ifb1, e_ifb2, e_nm0, e_nm1, e_nm2, e_fa0, e_fa1, e_sum, e_allb, e_anyb, e_sp1, e_sp2, e_sp3, e_at0, e_at1, e_at2, e_at3, e_at4, e_at5, e_ixn40, e_ixn41, e_ixn42, e_ixn43, e_cp1, e_cp2, e_cp3, e_cp4, e_cp5, forall_eq, List.getD_cons_zero, List.getD_cons_succ, List.getD_nil, List.set_cons_zero, List.set_cons_succ, List.map_cons, List.map_nil, Option.map_some, Option.map_none, Option.bind_some, Option.bind_none, Option.getD_some, Option.some.injEq, exists_eq_left', exists_eq_left, exists_eq', exists_eq, decide_eq_true_eq, List.length_map, exists_eq_right, exists_and_left, exists_and_right, Option.isSome_some, T.int.injEq, T.str.injEq, T.lst.injEq, T.tup.injEq, T.bl.injEq, List.cons.injEq, Prod.mk.injEq, Hn.tm.injEq, true_and, and_true, and_assoc, and_self, ne_eq, not_false_eq_true, not_true_eq_false, ite_true, ite_false, if_true, if_false, reduceIte, reduceCtorEq, Bool.false_eq_true, false_and, and_false, imp_self, forall_const, implies_true, List.length_cons, List.length_nil, Nat.reduceAdd, Nat.reduceEqDiff, Bool.false_bne, Bool.true_bne, Bool.not_false, Bool.not_true, List.nil_append, List.cons_append, Int.reduceToNat, Int.reducePow, Int.reduceMul, Int.reduceSub, Int.reduceAdd, Int.reduceNeg, kt_NoneType_int, kt_NoneType_bool, kt_NoneType_str, kt_NoneType_list, kt_NoneType_tuple, kt_bool_int, kt_bool_bool, kt_bool_str, kt_bool_list, kt_bool_tuple, kt_int_int, kt_int_bool, kt_int_str, kt_int_list, kt_int_tuple, kt_str_int, kt_str_bool, kt_str_str, kt_str_list, kt_str_tuple, kt_list_int, kt_list_bool, kt_list_str, kt_list_list, kt_list_tuple, kt_tuple_int, kt_tuple_bool, kt_tuple_str, kt_tuple_list, kt_tuple_tuple, kt_dict_int, kt_dict_bool, kt_dict_str, kt_dict_list, kt_dict_tuple, e_ii_non, e_ii_bl, e_ii_int, e_ii_str, e_ii_lst, e_ii_scr, e_ii_tup, e_ii_dK, e_ii_dT, e_ii_ins, dCallL, e_argL, e_fl1, e_fl2, e_fl3, e_fl4, List.all_cons, List.all_nil, dDict, dDict0, e_keys0, e_keysS, e_keysI, e_cl_non, e_cl_bl, e_cl_int, e_pl_int, e_cl_str, e_cl_lst, e_cl_scr, e_cl_tup, e_cl_dK, e_cl_dT, e_iq1, e_iq2, e_nn1, e_nn2, e_nn3, e_nn4, e_inp, e_ixd, Int.cast_ofNat_Int, Int.natCast_succ, decide_true, decide_false, Int.reduceEq, Int.reduceLT, Int.reduceLE, Int.reduceNe, Nat.reduceLT, Nat.reduceLeDiff, Bool.and_true, Bool.true_and, Bool.and_false, Bool.false_and, Bool.not_eq_true, Bool.or_true, Bool.or_false, Int.natCast_add, Int.natCast_one, Int.zero_add, Int.add_zero, g1, g2]
  exact ⟨by omega, by omega, q⟩
end O
namespace K14
open PySem PySem.Spec PyProof.Rows L2 O
def top (i : Nat) : Stmt := PySem.Challenge.pw_paircounts_k14_rows_after_double_swaps.main.body.getD i (.Pass ⟨0, 0, 0, 0⟩)
abbrev s_is_integer : Stmt := top 6
abbrev N_is_integer : List Str := ["value", "low", "high"]
theorem sc_is_integer : FnScope N_is_integer ["value", "low", "high"] (defScope s_is_integer) := ⟨rfl, rfl, rfl, by decide +kernel, rfl, by decide +kernel, by decide +kernel⟩
theorem x_is_integer {P : Program} {w : World} {K : PySem.W.Frag} {mg : Str → Option Value} {base : Heap} {f : Addr} {cdv : Value} {A : Around} {outer : List Env} {s : Shared} {H : Hp} {E : XK}  (n_isinstance : mg "isinstance" = none) (n_int : mg "int" = none) (n_bool : mg "bool" = none)
    (hr : RoomG 0 (A.deeper (envOfC "is_integer" (defScope s_is_integer) s.heap.objs.size f cdv))) : XSs (cxOf (L2N.CX P w) P w K mg base N_is_integer "is_integer" (defScope s_is_integer) f cdv A outer s H E) (fun cls d _ H => E cls d H) (defBody s_is_integer) (D_is_integer ) := by
  have tk : L2N.Takes (cxOf (L2N.CX P w) P w K mg base N_is_integer "is_integer" (defScope s_is_integer) f cdv A outer s H E) (fun cls d _ H => E cls d H) := L2N.takes_of rfl rfl rfl rfl
  have hp : PassesOwn (model P w) (cxOf (L2N.CX P w) P w K mg base N_is_integer "is_integer" (defScope s_is_integer) f cdv A outer s H E).A (cxOf (L2N.CX P w) P w K mg base N_is_integer "is_integer" (defScope s_is_integer) f cdv A outer s H E).env (cxOf (L2N.CX P w) P w K mg base N_is_integer "is_integer" (defScope s_is_integer) f cdv A outer s H E).xe := passes_of rfl
  have nd : (N_is_integer).Nodup := sc_is_integer.nd
  have hu4 := hr.u64; have hu1 := Nat.lt_of_le_of_lt (Nat.add_le_add_left (show 1 ≤ 64 by decide) _) hu4; have hu5 := hr.u65; have hu6 := hr.u66
  exact (xs_cons (xs_if (XW.t (xw_or (xt_not (xt_val (xe_callB call_isi p_isi rfl n_isinstance boot_isinstance (xa_cons (xo_name 0) (xa_cons (xo_val (xe_ty "int" n_int boot_int)) xa_nil))))) (xw_or1 (xt_val (xe_callB call_isi p_isi rfl n_isinstance boot_isinstance (xa_cons (xo_name 0) (xa_cons (xo_val (xe_ty "bool" n_bool boot_bool)) xa_nil))))))) (xs_one (xs_ret xe_bl)) xs_nil)
    (xs_one (xs_ret (xe_and (xe_cmp op_leA p_le (xo_name 1) (xo_name 0)) (xe_one (xe_or (xe_cmp op_isA p_is (xo_name 2) (xo_val xe_non)) (xe_one (xe_cmp op_leA p_le (xo_name 0) (xo_name 2)))))))))
abbrev s_is_row : Stmt := top 7
abbrev N_is_row : List Str := ["value", "letter"]
theorem sc_is_row : FnScope N_is_row ["value"] (defScope s_is_row) := ⟨rfl, rfl, rfl, by decide +kernel, rfl, by decide +kernel, by decide +kernel⟩
theorem x_is_row {P : Program} {w : World} {K : PySem.W.Frag} {mg : Str → Option Value} {base : Heap} {f : Addr} {cdv : Value} {A : Around} {outer : List Env} {s : Shared} {H : Hp} {E : XK}  (n_isinstance : mg "isinstance" = none) (n_str : mg "str" = none) (n_len : mg "len" = none) (n_all : mg "all" = none) (g_MOST_LETTERS : ∃ t, mg "MOST_LETTERS" = some (.int 200 t))
    (hr : RoomG 0 (A.deeper (envOfC "is_row" (defScope s_is_row) s.heap.objs.size f cdv))) : XSs (cxOf (L2N.CX P w) P w K mg base N_is_row "is_row" (defScope s_is_row) f cdv A outer s H E) (fun cls d _ H => E cls d H) (defBody s_is_row) (D_is_row ) := by
  have tk : L2N.Takes (cxOf (L2N.CX P w) P w K mg base N_is_row "is_row" (defScope s_is_row) f cdv A outer s H E) (fun cls d _ H => E cls d H) := L2N.takes_of rfl rfl rfl rfl
  have hp : PassesOwn (model P w) (cxOf (L2N.CX P w) P w K mg base N_is_row "is_row" (defScope s_is_row) f cdv A outer s H E).A (cxOf (L2N.CX P w) P w K mg base N_is_row "is_row" (defScope s_is_row) f cdv A outer s H E).env (cxOf (L2N.CX P w) P w K mg base N_is_row "is_row" (defScope s_is_row) f cdv A outer s H E).xe := passes_of rfl
  have nd : (N_is_row).Nodup := sc_is_row.nd
  have hu4 := hr.u64; have hu1 := Nat.lt_of_le_of_lt (Nat.add_le_add_left (show 1 ≤ 64 by decide) _) hu4; have hu5 := hr.u65; have hu6 := hr.u66
  exact (xs_one (xs_ret (xe_and (xe_callB call_isi p_isi rfl n_isinstance boot_isinstance (xa_cons (xo_name 0) (xa_cons (xo_val (xe_ty "str" n_str boot_str)) xa_nil))) (xe_and (xe_cmp op_leA p_le (xo_val (xe_callB call_lenA p_len rfl n_len boot_len (xa_cons (xo_name 0) xa_nil))) (xo_val (xe_gint g_MOST_LETTERS))) (xe_one (xe_callB (cr_all rfl) p_all rfl n_all boot_all (xa_cons (xo_val (xe_lc rfl nd (xi_src (xe_name 0)) (own := [("letter", 1)]) (blkOk_by (by kernel_rfl)) (by decide) (fun _ _ _ _ _ => (pc_name 1 nd)) (fun _ _ _ _ _ => xts_nil) (fun _ _ _ _ _ => (xe_cmp (op_inA hu5) p_in (xo_name 1) (xo_val (xe_str [97, 98])))))) xa_nil)))))))
abbrev s_check_row : Stmt := top 8
abbrev N_check_row : List Str := ["value"]
theorem sc_check_row : FnScope N_check_row ["value"] (defScope s_check_row) := ⟨rfl, rfl, rfl, by decide +kernel, rfl, by decide +kernel, by decide +kernel⟩
theorem x_check_row {P : Program} {w : World} {K : PySem.W.Frag} {mg : Str → Option Value} {base : Heap} {f : Addr} {cdv : Value} {A : Around} {outer : List Env} {s : Shared} {H : Hp} {E : XK} {S_is_row : Sx} (F_is_row : FnX P w K mg base 1 "is_row" S_is_row)
    (hr : RoomG 1 (A.deeper (envOfC "check_row" (defScope s_check_row) s.heap.objs.size f cdv))) : XSs (cxOf (L2N.CX P w) P w K mg base N_check_row "check_row" (defScope s_check_row) f cdv A outer s H E) (fun cls d _ H => E cls d H) (defBody s_check_row) (D_check_row S_is_row) := by
  have tk : L2N.Takes (cxOf (L2N.CX P w) P w K mg base N_check_row "check_row" (defScope s_check_row) f cdv A outer s H E) (fun cls d _ H => E cls d H) := L2N.takes_of rfl rfl rfl rfl
  have hp : PassesOwn (model P w) (cxOf (L2N.CX P w) P w K mg base N_check_row "check_row" (defScope s_check_row) f cdv A outer s H E).A (cxOf (L2N.CX P w) P w K mg base N_check_row "check_row" (defScope s_check_row) f cdv A outer s H E).env (cxOf (L2N.CX P w) P w K mg base N_check_row "check_row" (defScope s_check_row) f cdv A outer s H E).xe := passes_of rfl
  have nd : (N_check_row).Nodup := sc_check_row.nd
  have hu4 := hr.u64; have hu1 := Nat.lt_of_le_of_lt (Nat.add_le_add_left (show 1 ≤ 64 by decide) _) hu4; have hu5 := hr.u65; have hu6 := hr.u66
  exact (xs_one (xs_if (xt_not (xt_val (xe_call F_is_row hr (by decide) tk (xa_cons (xo_val (xe_name 0)) xa_nil)))) (xs_one xs_dead) xs_nil))
abbrev s_is_swap_of : Stmt := top 12
abbrev N_is_swap_of : List Str := ["row", "value", "place", "fall", "rise"]
theorem sc_is_swap_of : FnScope N_is_swap_of ["row", "value"] (defScope s_is_swap_of) := ⟨rfl, rfl, rfl, by decide +kernel, rfl, by decide +kernel, by decide +kernel⟩
theorem x_is_swap_of {P : Program} {w : World} {K : PySem.W.Frag} {mg : Str → Option Value} {base : Heap} {f : Addr} {cdv : Value} {A : Around} {outer : List Env} {s : Shared} {H : Hp} {E : XK} {S_is_integer : Sx} (F_is_integer : FnX P w K mg base 1 "is_integer" S_is_integer) (n_isinstance : mg "isinstance" = none) (n_tuple : mg "tuple" = none) (n_len : mg "len" = none) (n_all : mg "all" = none) (n_abs : mg "abs" = none) (g_FALL : ∃ t, mg "FALL" = some (.str (S [97, 98]) t)) (g_RISE : ∃ t, mg "RISE" = some (.str (S [98, 97]) t))
    (hr : RoomG 1 (A.deeper (envOfC "is_swap_of" (defScope s_is_swap_of) s.heap.objs.size f cdv))) : XSs (cxOf (L2N.CX P w) P w K mg base N_is_swap_of "is_swap_of" (defScope s_is_swap_of) f cdv A outer s H E) (fun cls d _ H => E cls d H) (defBody s_is_swap_of) (D_is_swap_of S_is_integer) := by
  have tk : L2N.Takes (cxOf (L2N.CX P w) P w K mg base N_is_swap_of "is_swap_of" (defScope s_is_swap_of) f cdv A outer s H E) (fun cls d _ H => E cls d H) := L2N.takes_of rfl rfl rfl rfl
  have hp : PassesOwn (model P w) (cxOf (L2N.CX P w) P w K mg base N_is_swap_of "is_swap_of" (defScope s_is_swap_of) f cdv A outer s H E).A (cxOf (L2N.CX P w) P w K mg base N_is_swap_of "is_swap_of" (defScope s_is_swap_of) f cdv A outer s H E).env (cxOf (L2N.CX P w) P w K mg base N_is_swap_of "is_swap_of" (defScope s_is_swap_of) f cdv A outer s H E).xe := passes_of rfl
  have nd : (N_is_swap_of).Nodup := sc_is_swap_of.nd
  have hu4 := hr.u64; have hu1 := Nat.lt_of_le_of_lt (Nat.add_le_add_left (show 1 ≤ 64 by decide) _) hu4; have hu5 := hr.u65; have hu6 := hr.u66
  exact (xs_cons (xs_if (XW.t (xw_or (xt_not (xt_val (xe_callB call_isi p_isi rfl n_isinstance boot_isinstance (xa_cons (xo_name 1) (xa_cons (xo_val (xe_ty "tuple" n_tuple boot_tuple)) xa_nil))))) (xw_or1 (xt_cmp (op_neA hu4) p_ne (xo_val (xe_callB call_lenA p_len rfl n_len boot_len (xa_cons (xo_name 1) xa_nil))) (xo_val xe_int))))) (xs_one (xs_ret xe_bl)) xs_nil)
    (xs_cons (xs_if (xt_not (xt_val (xe_callB (cr_all rfl) p_all rfl n_all boot_all (xa_cons (xo_val (xe_lc rfl nd (xi_src (xe_name 1)) (own := [("place", 2)]) (blkOk_by (by kernel_rfl)) (by decide) (fun _ _ _ _ _ => (pc_name 2 nd)) (fun _ _ _ _ _ => xts_nil) (fun _ _ _ _ _ => (xe_call F_is_integer hr (by decide) takes_blk (xa_cons (xo_val (xe_name 2)) (xa_cons (xo_val xe_int) (xa_cons (xo_val (xe_op op_sub p_sub (xo_val (xe_callB call_lenA p_len rfl n_len boot_len (xa_cons (xo_name 0) xa_nil))) (xo_val xe_int))) xa_nil))))))) xa_nil)))) (xs_one (xs_ret xe_bl)) xs_nil)
    (xs_cons (xs_asg (xe_name 1) (xg_tup rfl (xgs_cons (xg_name 3 nd) (xgs_cons (xg_name 4 nd) xgs_nil))))
    (xs_one (xs_ret (xe_and (xe_cmp (op_eqA hu4) p_eq (xo_val (xe_sl (xo_name 0) (xp_some (xe_name 3)) (xp_some (xe_op op_addA p_add (xo_name 3) (xo_val xe_int))))) (xo_val (xe_gstr [97, 98] g_FALL))) (xe_and (xe_cmp (op_eqA hu4) p_eq (xo_val (xe_sl (xo_name 0) (xp_some (xe_name 4)) (xp_some (xe_op op_addA p_add (xo_name 4) (xo_val xe_int))))) (xo_val (xe_gstr [98, 97] g_RISE))) (xe_one (xe_cmp op_gtA p_gt (xo_val (xe_callB call_abs p_abs rfl n_abs boot_abs (xa_cons (xo_val (xe_op op_sub p_sub (xo_name 3) (xo_name 4))) xa_nil))) (xo_val xe_int))))))))))
abbrev s_after_swap : Stmt := top 13
abbrev N_after_swap : List Str := ["row", "swap", "letters", "place"]
theorem sc_after_swap : FnScope N_after_swap ["row", "swap"] (defScope s_after_swap) := ⟨rfl, rfl, rfl, by decide +kernel, rfl, by decide +kernel, by decide +kernel⟩
theorem x_after_swap {P : Program} {w : World} {K : PySem.W.Frag} {mg : Str → Option Value} {base : Heap} {f : Addr} {cdv : Value} {A : Around} {outer : List Env} {s : Shared} {H : Hp} {E : XK}  (n_list : mg "list" = none)
    (hr : RoomG 0 (A.deeper (envOfC "after_swap" (defScope s_after_swap) s.heap.objs.size f cdv))) : XSs (cxOf (L2N.CX P w) P w K mg base N_after_swap "after_swap" (defScope s_after_swap) f cdv A outer s H E) (fun cls d _ H => E cls d H) (defBody s_after_swap) (D_after_swap ) := by
  have tk : L2N.Takes (cxOf (L2N.CX P w) P w K mg base N_after_swap "after_swap" (defScope s_after_swap) f cdv A outer s H E) (fun cls d _ H => E cls d H) := L2N.takes_of rfl rfl rfl rfl
  have hp : PassesOwn (model P w) (cxOf (L2N.CX P w) P w K mg base N_after_swap "after_swap" (defScope s_after_swap) f cdv A outer s H E).A (cxOf (L2N.CX P w) P w K mg base N_after_swap "after_swap" (defScope s_after_swap) f cdv A outer s H E).env (cxOf (L2N.CX P w) P w K mg base N_after_swap "after_swap" (defScope s_after_swap) f cdv A outer s H E).xe := passes_of rfl
  have nd : (N_after_swap).Nodup := sc_after_swap.nd
  have hu4 := hr.u64; have hu1 := Nat.lt_of_le_of_lt (Nat.add_le_add_left (show 1 ≤ 64 by decide) _) hu4; have hu5 := hr.u65; have hu6 := hr.u66
  exact (xs_cons (xs_set 2 (xe_callTy (call_listA rfl) p_list rfl n_list boot_list (xa_cons (xo_name 0) xa_nil)) nd)
    (xs_cons (xs_for hp rfl (xi_src (xe_name 1)) (xg_name 3 nd) (xs_one (xs_asg (xe_tup (xa_cons (xo_val (xe_ix ix_seq p_ix (xo_name 2) (xo_val (xe_op op_addA p_add (xo_name 3) (xo_val xe_int))))) (xa_cons (xo_val (xe_ix ix_seq p_ix (xo_name 2) (xo_name 3))) xa_nil))) (xg_tup rfl (xgs_cons (xg_item 2 s_list set_list (xo_name 3)) (xgs_cons (xg_item 2 s_list set_list (xo_val (xe_op op_addA p_add (xo_name 3) (xo_val xe_int)))) xgs_nil))))))
    (xs_one (xs_ret (xe_bm p_join PySem.F.plainAttrs_str PySem.F.slot_str_join PySem.F.type_str_join mt_join (xo_val (xe_str [])) (xa_cons (xo_name 2) xa_nil))))))
abbrev s_is_swap : Stmt := top 14
abbrev N_is_swap : List Str := ["row", "value"]
theorem sc_is_swap : FnScope N_is_swap ["row", "value"] (defScope s_is_swap) := ⟨rfl, rfl, rfl, by decide +kernel, rfl, by decide +kernel, by decide +kernel⟩
theorem x_is_swap {P : Program} {w : World} {K : PySem.W.Frag} {mg : Str → Option Value} {base : Heap} {f : Addr} {cdv : Value} {A : Around} {outer : List Env} {s : Shared} {H : Hp} {E : XK} {S_check_row S_is_swap_of : Sx} (F_check_row : FnX P w K mg base 2 "check_row" S_check_row) (F_is_swap_of : FnX P w K mg base 2 "is_swap_of" S_is_swap_of)
    (hr : RoomG 2 (A.deeper (envOfC "is_swap" (defScope s_is_swap) s.heap.objs.size f cdv))) : XSs (cxOf (L2N.CX P w) P w K mg base N_is_swap "is_swap" (defScope s_is_swap) f cdv A outer s H E) (fun cls d _ H => E cls d H) (defBody s_is_swap) (D_is_swap S_check_row S_is_swap_of) := by
  have tk : L2N.Takes (cxOf (L2N.CX P w) P w K mg base N_is_swap "is_swap" (defScope s_is_swap) f cdv A outer s H E) (fun cls d _ H => E cls d H) := L2N.takes_of rfl rfl rfl rfl
  have hp : PassesOwn (model P w) (cxOf (L2N.CX P w) P w K mg base N_is_swap "is_swap" (defScope s_is_swap) f cdv A outer s H E).A (cxOf (L2N.CX P w) P w K mg base N_is_swap "is_swap" (defScope s_is_swap) f cdv A outer s H E).env (cxOf (L2N.CX P w) P w K mg base N_is_swap "is_swap" (defScope s_is_swap) f cdv A outer s H E).xe := passes_of rfl
  have nd : (N_is_swap).Nodup := sc_is_swap.nd
  have hu4 := hr.u64; have hu1 := Nat.lt_of_le_of_lt (Nat.add_le_add_left (show 1 ≤ 64 by decide) _) hu4; have hu5 := hr.u65; have hu6 := hr.u66
  exact (xs_cons (xs_expr (xe_call F_check_row hr (by decide) tk (xa_cons (xo_val (xe_name 0)) xa_nil)))
    (xs_one (xs_ret (xe_call F_is_swap_of hr (by decide) tk (xa_cons (xo_val (xe_name 0)) (xa_cons (xo_val (xe_name 1)) xa_nil))))))
abbrev s_swapped : Stmt := top 15
abbrev N_swapped : List Str := ["row", "swap"]
theorem sc_swapped : FnScope N_swapped ["row", "swap"] (defScope s_swapped) := ⟨rfl, rfl, rfl, by decide +kernel, rfl, by decide +kernel, by decide +kernel⟩
theorem x_swapped {P : Program} {w : World} {K : PySem.W.Frag} {mg : Str → Option Value} {base : Heap} {f : Addr} {cdv : Value} {A : Around} {outer : List Env} {s : Shared} {H : Hp} {E : XK} {S_is_swap S_after_swap : Sx} (F_is_swap : FnX P w K mg base 3 "is_swap" S_is_swap) (F_after_swap : FnX P w K mg base 1 "after_swap" S_after_swap)
    (hr : RoomG 3 (A.deeper (envOfC "swapped" (defScope s_swapped) s.heap.objs.size f cdv))) : XSs (cxOf (L2N.CX P w) P w K mg base N_swapped "swapped" (defScope s_swapped) f cdv A outer s H E) (fun cls d _ H => E cls d H) (defBody s_swapped) (D_swapped S_is_swap S_after_swap) := by
  have tk : L2N.Takes (cxOf (L2N.CX P w) P w K mg base N_swapped "swapped" (defScope s_swapped) f cdv A outer s H E) (fun cls d _ H => E cls d H) := L2N.takes_of rfl rfl rfl rfl
  have hp : PassesOwn (model P w) (cxOf (L2N.CX P w) P w K mg base N_swapped "swapped" (defScope s_swapped) f cdv A outer s H E).A (cxOf (L2N.CX P w) P w K mg base N_swapped "swapped" (defScope s_swapped) f cdv A outer s H E).env (cxOf (L2N.CX P w) P w K mg base N_swapped "swapped" (defScope s_swapped) f cdv A outer s H E).xe := passes_of rfl
  have nd : (N_swapped).Nodup := sc_swapped.nd
  have hu4 := hr.u64; have hu1 := Nat.lt_of_le_of_lt (Nat.add_le_add_left (show 1 ≤ 64 by decide) _) hu4; have hu5 := hr.u65; have hu6 := hr.u66
  exact (xs_cons (xs_if (xt_not (xt_val (xe_call F_is_swap hr (by decide) tk (xa_cons (xo_val (xe_name 0)) (xa_cons (xo_val (xe_name 1)) xa_nil))))) (xs_one xs_dead) xs_nil)
    (xs_one (xs_ret (xe_call F_after_swap hr (by decide) tk (xa_cons (xo_val (xe_name 0)) (xa_cons (xo_val (xe_name 1)) xa_nil))))))
abbrev s__law_bag : Stmt := top 17
abbrev N__law_bag : List Str := ["script", "total", "cell"]
theorem sc__law_bag : FnScope N__law_bag ["script"] (defScope s__law_bag) := ⟨rfl, rfl, rfl, by decide +kernel, rfl, by decide +kernel, by decide +kernel⟩
theorem x__law_bag {P : Program} {w : World} {K : PySem.W.Frag} {mg : Str → Option Value} {base : Heap} {f : Addr} {cdv : Value} {A : Around} {outer : List Env} {s : Shared} {H : Hp} {E : XK}  (n_list : mg "list" = none)
    (hr : RoomG 0 (A.deeper (envOfC "_law_bag" (defScope s__law_bag) s.heap.objs.size f cdv))) : XSs (cxOf (L2N.CX P w) P w K mg base N__law_bag "_law_bag" (defScope s__law_bag) f cdv A outer s H E) (fun cls d _ H => E cls d H) (defBody s__law_bag) (D__law_bag ) := by
  have tk : L2N.Takes (cxOf (L2N.CX P w) P w K mg base N__law_bag "_law_bag" (defScope s__law_bag) f cdv A outer s H E) (fun cls d _ H => E cls d H) := L2N.takes_of rfl rfl rfl rfl
  have hp : PassesOwn (model P w) (cxOf (L2N.CX P w) P w K mg base N__law_bag "_law_bag" (defScope s__law_bag) f cdv A outer s H E).A (cxOf (L2N.CX P w) P w K mg base N__law_bag "_law_bag" (defScope s__law_bag) f cdv A outer s H E).env (cxOf (L2N.CX P w) P w K mg base N__law_bag "_law_bag" (defScope s__law_bag) f cdv A outer s H E).xe := passes_of rfl
  have nd : (N__law_bag).Nodup := sc__law_bag.nd
  have hu4 := hr.u64; have hu1 := Nat.lt_of_le_of_lt (Nat.add_le_add_left (show 1 ≤ 64 by decide) _) hu4; have hu5 := hr.u65; have hu6 := hr.u66
  exact (xs_cons (xs_set 1 xe_int nd)
    (xs_cons (xs_for hp rfl (xi_src (xe_name 0)) (xg_name 2 nd) (xs_one (xs_set 1 (xe_op op_mod p_mod (xo_val (xe_op op_addA p_add (xo_val (xe_op op_addA p_add (xo_val (xe_op op_mulA p_mul (xo_name 1) (xo_val xe_int))) (xo_val (xe_op op_mod p_mod (xo_name 2) (xo_val xe_int))))) (xo_val xe_int))) (xo_val xe_int)) nd)))
    (xs_one (xs_ret (xe_lst (xa_cons (xo_val (xe_callTy (call_listA rfl) p_list rfl n_list boot_list (xa_cons (xo_name 0) xa_nil))) (xa_cons (xo_val xe_int) (xa_cons (xo_val xe_int) (xa_cons (xo_val xe_int) (xa_cons (xo_val (xe_name 1)) xa_nil))))))))))
abbrev s__law_stir : Stmt := top 18
abbrev N__law_stir : List Str := ["number", "place", "one", "two"]
theorem sc__law_stir : FnScope N__law_stir ["number", "place"] (defScope s__law_stir) := ⟨rfl, rfl, rfl, by decide +kernel, rfl, by decide +kernel, by decide +kernel⟩
theorem x__law_stir {P : Program} {w : World} {K : PySem.W.Frag} {mg : Str → Option Value} {base : Heap} {f : Addr} {cdv : Value} {A : Around} {outer : List Env} {s : Shared} {H : Hp} {E : XK} 
    (hr : RoomG 0 (A.deeper (envOfC "_law_stir" (defScope s__law_stir) s.heap.objs.size f cdv))) : XSs (cxOf (L2N.CX P w) P w K mg base N__law_stir "_law_stir" (defScope s__law_stir) f cdv A outer s H E) (fun cls d _ H => E cls d H) (defBody s__law_stir) (D__law_stir ) := by
  have tk : L2N.Takes (cxOf (L2N.CX P w) P w K mg base N__law_stir "_law_stir" (defScope s__law_stir) f cdv A outer s H E) (fun cls d _ H => E cls d H) := L2N.takes_of rfl rfl rfl rfl
  have hp : PassesOwn (model P w) (cxOf (L2N.CX P w) P w K mg base N__law_stir "_law_stir" (defScope s__law_stir) f cdv A outer s H E).A (cxOf (L2N.CX P w) P w K mg base N__law_stir "_law_stir" (defScope s__law_stir) f cdv A outer s H E).env (cxOf (L2N.CX P w) P w K mg base N__law_stir "_law_stir" (defScope s__law_stir) f cdv A outer s H E).xe := passes_of rfl
  have nd : (N__law_stir).Nodup := sc__law_stir.nd
  have hu4 := hr.u64; have hu1 := Nat.lt_of_le_of_lt (Nat.add_le_add_left (show 1 ≤ 64 by decide) _) hu4; have hu5 := hr.u65; have hu6 := hr.u66
  exact (xs_cons (xs_set 2 (xe_op op_mod p_mod (xo_val (xe_op op_addA p_add (xo_val (xe_op op_addA p_add (xo_val (xe_op op_mulA p_mul (xo_name 0) (xo_val xe_int))) (xo_val (xe_op op_mulA p_mul (xo_name 1) (xo_val xe_int))))) (xo_val xe_int))) (xo_val xe_int)) nd)
    (xs_cons (xs_set 3 (xe_op op_mod p_mod (xo_val (xe_op op_mulA p_mul (xo_name 2) (xo_name 2))) (xo_val xe_int)) nd)
    (xs_one (xs_ret (xe_op op_fdivW p_fdiv (xo_val (xe_op op_mod p_mod (xo_val (xe_op op_addA p_add (xo_val (xe_op op_addA p_add (xo_val (xe_op op_mulA p_mul (xo_name 3) (xo_val xe_int))) (xo_val (xe_op op_mulA p_mul (xo_val (xe_op op_mulA p_mul (xo_name 1) (xo_name 1))) (xo_val xe_int))))) (xo_val (xe_op op_fdivW p_fdiv (xo_name 2) (xo_val xe_int))))) (xo_val xe_int))) (xo_val xe_int))))))
abbrev s__law_draw : Stmt := top 19
abbrev N__law_draw : List Str := ["bag", "bound", "cell", "found"]
theorem sc__law_draw : FnScope N__law_draw ["bag", "bound"] (defScope s__law_draw) := ⟨rfl, rfl, rfl, by decide +kernel, rfl, by decide +kernel, by decide +kernel⟩
theorem x__law_draw {P : Program} {w : World} {K : PySem.W.Frag} {mg : Str → Option Value} {base : Heap} {f : Addr} {cdv : Value} {A : Around} {outer : List Env} {s : Shared} {H : Hp} {E : XK} {S__law_stir : Sx} (F__law_stir : FnX P w K mg base 1 "_law_stir" S__law_stir) (n_len : mg "len" = none)
    (hr : RoomG 1 (A.deeper (envOfC "_law_draw" (defScope s__law_draw) s.heap.objs.size f cdv))) : XSs (cxOf (L2N.CX P w) P w K mg base N__law_draw "_law_draw" (defScope s__law_draw) f cdv A outer s H E) (fun cls d _ H => E cls d H) (defBody s__law_draw) (D__law_draw_2 S__law_stir) := by
  have tk : L2N.Takes (cxOf (L2N.CX P w) P w K mg base N__law_draw "_law_draw" (defScope s__law_draw) f cdv A outer s H E) (fun cls d _ H => E cls d H) := L2N.takes_of rfl rfl rfl rfl
  have hp : PassesOwn (model P w) (cxOf (L2N.CX P w) P w K mg base N__law_draw "_law_draw" (defScope s__law_draw) f cdv A outer s H E).A (cxOf (L2N.CX P w) P w K mg base N__law_draw "_law_draw" (defScope s__law_draw) f cdv A outer s H E).env (cxOf (L2N.CX P w) P w K mg base N__law_draw "_law_draw" (defScope s__law_draw) f cdv A outer s H E).xe := passes_of rfl
  have nd : (N__law_draw).Nodup := sc__law_draw.nd
  have hu4 := hr.u64; have hu1 := Nat.lt_of_le_of_lt (Nat.add_le_add_left (show 1 ≤ 64 by decide) _) hu4; have hu5 := hr.u65; have hu6 := hr.u66
  exact (xs_cons (xs_if (xt_cmp (op_eqA hu4) p_eq (xo_name 1) (xo_val xe_int)) (xs_one (xs_ret xe_int)) xs_nil)
    (xs_cons (xs_asg (xe_op op_addA p_add (xo_val (xe_ix ix_seq p_ix (xo_name 0) (xo_val xe_int))) (xo_val xe_int)) (xg_item 0 s_list set_list (xo_val xe_int)))
    (xs_cons (xs_if (XW.t (xw_and (xt_cmp op_ltA p_lt (xo_val (xe_ix ix_seq p_ix (xo_name 0) (xo_val xe_int))) (xo_val xe_int)) (xw_and1 (xt_cmp (op_eqA hu4) p_eq (xo_val (xe_ix ix_seq p_ix (xo_name 0) (xo_val xe_int))) (xo_val (xe_callB call_lenA p_len rfl n_len boot_len (xa_cons (xo_val (xe_ix ix_seq p_ix (xo_name 0) (xo_val xe_int))) xa_nil))))))) (xs_one (xs_ret (xe_op op_mod p_mod (xo_val (xe_call F__law_stir hr (by decide) tk (xa_cons (xo_val (xe_ix ix_seq p_ix (xo_name 0) (xo_val xe_int))) (xa_cons (xo_val (xe_ix ix_seq p_ix (xo_name 0) (xo_val xe_int))) xa_nil)))) (xo_name 1)))) xs_nil)
    (xs_cons (xs_if (xt_cmp op_ltA p_lt (xo_val (xe_ix ix_seq p_ix (xo_name 0) (xo_val xe_int))) (xo_val xe_int)) (xs_cons (xs_set 2 (xe_ix ix_seq p_ix (xo_val (xe_ix ix_seq p_ix (xo_name 0) (xo_val xe_int))) (xo_val (xe_ix ix_seq p_ix (xo_name 0) (xo_val xe_int)))) nd)
    (xs_cons (xs_asg (xe_op op_addA p_add (xo_val (xe_ix ix_seq p_ix (xo_name 0) (xo_val xe_int))) (xo_val xe_int)) (xg_item 0 s_list set_list (xo_val xe_int)))
    (xs_cons (xs_if (xt_cmp op_ltA p_lt (xo_name 2) (xo_val (xe_op op_pow p_pow (xo_val xe_int) (xo_val xe_int)))) (xs_one (xs_ret (xe_op op_mod p_mod (xo_val (xe_call F__law_stir hr (by decide) tk (xa_cons (xo_val (xe_op op_mod p_mod (xo_name 2) (xo_val xe_int))) (xa_cons (xo_val (xe_ix ix_seq p_ix (xo_name 0) (xo_val xe_int))) xa_nil)))) (xo_name 1)))) xs_nil)
    (xs_one (xs_asg (xe_op op_sub p_sub (xo_name 2) (xo_val (xe_op op_pow p_pow (xo_val xe_int) (xo_val xe_int)))) (xg_item 0 s_list set_list (xo_val xe_int))))))) xs_nil)
    (xs_cons (xs_set 3 (xe_op op_mod p_mod (xo_val (xe_ix ix_seq p_ix (xo_name 0) (xo_val xe_int))) (xo_name 1)) nd)
    (xs_cons (xs_asg (xe_op op_fdivW p_fdiv (xo_val (xe_ix ix_seq p_ix (xo_name 0) (xo_val xe_int))) (xo_name 1)) (xg_item 0 s_list set_list (xo_val xe_int)))
    (xs_one (xs_ret (xe_move 3)))))))))
abbrev s__law_letters : Stmt := top 20
abbrev N__law_letters : List Str := ["bag", "most", "count", "way", "share", "found", "step", "letter"]
theorem sc__law_letters : FnScope N__law_letters ["bag", "most"] (defScope s__law_letters) := ⟨rfl, rfl, rfl, by decide +kernel, rfl, by decide +kernel, by decide +kernel⟩
theorem x__law_letters {P : Program} {w : World} {K : PySem.W.Frag} {mg : Str → Option Value} {base : Heap} {f : Addr} {cdv : Value} {A : Around} {outer : List Env} {s : Shared} {H : Hp} {E : XK} {S__law_draw : Sx} (F__law_draw : FnX P w K mg base 2 "_law_draw" S__law_draw) (n_int : mg "int" = none) (n_range : mg "range" = none) (n_sorted : mg "sorted" = none)
    (hr : RoomG 2 (A.deeper (envOfC "_law_letters" (defScope s__law_letters) s.heap.objs.size f cdv))) : XSs (cxOf (L2N.CX P w) P w K mg base N__law_letters "_law_letters" (defScope s__law_letters) f cdv A outer s H E) (fun cls d _ H => E cls d H) (defBody s__law_letters) (D__law_letters S__law_draw) := by
  have tk : L2N.Takes (cxOf (L2N.CX P w) P w K mg base N__law_letters "_law_letters" (defScope s__law_letters) f cdv A outer s H E) (fun cls d _ H => E cls d H) := L2N.takes_of rfl rfl rfl rfl
  have hp : PassesOwn (model P w) (cxOf (L2N.CX P w) P w K mg base N__law_letters "_law_letters" (defScope s__law_letters) f cdv A outer s H E).A (cxOf (L2N.CX P w) P w K mg base N__law_letters "_law_letters" (defScope s__law_letters) f cdv A outer s H E).env (cxOf (L2N.CX P w) P w K mg base N__law_letters "_law_letters" (defScope s__law_letters) f cdv A outer s H E).xe := passes_of rfl
  have nd : (N__law_letters).Nodup := sc__law_letters.nd
  have hu4 := hr.u64; have hu1 := Nat.lt_of_le_of_lt (Nat.add_le_add_left (show 1 ≤ 64 by decide) _) hu4; have hu5 := hr.u65; have hu6 := hr.u66
  exact (xs_cons (xs_par (i := 2) (j := 3) rfl nd (xv_cons (xe_ix ix_seq p_ix (xo_val (xe_lst (xa_cons (xo_val (xe_call F__law_draw hr (by decide) tk (xa_cons (xo_name 0) (xa_cons (xo_val (xe_op op_addA p_add (xo_name 1) (xo_val xe_int))) xa_nil)))) (xa_cons (xo_val (xe_name 1)) xa_nil)))) (xo_val (xe_callTy call_int1 p_int1 rfl n_int boot_int (xa_cons (xo_val (xe_cmp (op_eqA hu4) p_eq (xo_val (xe_call F__law_draw hr (by decide) tk (xa_cons (xo_name 0) (xa_cons (xo_val xe_int) xa_nil)))) (xo_val xe_int))) xa_nil)))) (xv_cons (xe_call F__law_draw hr (by decide) tk (xa_cons (xo_name 0) (xa_cons (xo_val xe_int) xa_nil))) xv_nil)))
    (xs_cons (xs_set 4 (xe_ix ix_seq p_ix (xo_val (xe_lst (xa_cons (xo_val xe_int) (xa_cons (xo_val xe_int) (xa_cons (xo_val xe_int) (xa_cons (xo_val xe_int) (xa_cons (xo_val xe_int) (xa_cons (xo_val xe_int) (xa_cons (xo_val xe_int) xa_nil))))))))) (xo_name 3)) nd)
    (xs_cons (xs_set 5 (xe_bm p_join PySem.F.plainAttrs_str PySem.F.slot_str_join PySem.F.type_str_join mt_join (xo_val (xe_str [])) (xa_cons (xo_val (xe_lc rfl nd (xi_range1 rfl n_range (xa_cons (xo_val (xe_name 2)) xa_nil)) (own := [("step", 6)]) (blkOk_by (by kernel_rfl)) (by decide) (fun _ _ _ _ _ => (pc_name 6 nd)) (fun _ _ _ _ _ => xts_nil) (fun _ _ _ _ _ => (xe_ix ix_seq p_ix (xo_val (xe_str [97, 98])) (xo_val (xe_callTy call_int1 p_int1 rfl n_int boot_int (xa_cons (xo_val (xe_cmp op_gtA p_gt (xo_val (xe_call F__law_draw hr (by decide) takes_blk (xa_cons (xo_name 0) (xa_cons (xo_val (xe_name 4)) xa_nil)))) (xo_val xe_int))) xa_nil))))))) xa_nil)) nd)
    (xs_cons (xs_if (XW.t (xw_and (xt_cmp (op_eqA hu4) p_eq (xo_name 3) (xo_val xe_int)) (xw_and1 (xt_cmp (op_eqA hu4) p_eq (xo_val (xe_call F__law_draw hr (by decide) tk (xa_cons (xo_name 0) (xa_cons (xo_val xe_int) xa_nil)))) (xo_val xe_int))))) (xs_one (xs_set 5 (xe_bm p_join PySem.F.plainAttrs_str PySem.F.slot_str_join PySem.F.type_str_join mt_join (xo_val (xe_str [])) (xa_cons (xo_val (xe_lc rfl nd (xi_src (xe_name 5)) (own := [("letter", 7)]) (blkOk_by (by kernel_rfl)) (by decide) (fun _ _ _ _ _ => (pc_name 7 nd)) (fun _ _ _ _ _ => xts_nil) (fun _ _ _ _ _ => (xe_ix ix_seq p_ix (xo_val (xe_str [98, 97])) (xo_val (xe_callTy call_int1 p_int1 rfl n_int boot_int (xa_cons (xo_val (xe_cmp (op_eqA hu4) p_eq (xo_name 7) (xo_val (xe_str [98])))) xa_nil))))))) xa_nil)) nd)) xs_nil)
    (xs_cons (xs_if (xt_cmp (op_eqA hu4) p_eq (xo_name 3) (xo_val xe_int)) (xs_one (xs_set 5 (xe_bm p_join PySem.F.plainAttrs_str PySem.F.slot_str_join PySem.F.type_str_join mt_join (xo_val (xe_str [])) (xa_cons (xo_val (xe_lc rfl nd (xi_src (xe_name 5)) (own := [("letter", 7)]) (blkOk_by (by kernel_rfl)) (by decide) (fun _ _ _ _ _ => (pc_name 7 nd)) (fun _ _ _ _ _ => xts_nil) (fun _ _ _ _ _ => (xe_op op_mulA p_mul (xo_name 7) (xo_val (xe_op op_addA p_add (xo_val xe_int) (xo_val (xe_call F__law_draw hr (by decide) takes_blk (xa_cons (xo_name 0) (xa_cons (xo_val xe_int) xa_nil)))))))))) xa_nil)) nd)) xs_nil)
    (xs_cons (xs_if (xt_cmp (op_eqA hu4) p_eq (xo_name 3) (xo_val xe_int)) (xs_one (xs_set 5 (xe_sl3 (xo_val (xe_bm p_join PySem.F.plainAttrs_str PySem.F.slot_str_join PySem.F.type_str_join mt_join (xo_val (xe_str [])) (xa_cons (xo_val (xe_callB (call_sortA rfl hu6) p_sort rfl n_sorted boot_sorted (xa_cons (xo_name 5) xa_nil))) xa_nil))) xp_none xp_none (xp_some (xe_op op_sub p_sub (xo_val xe_int) (xo_val (xe_op op_mulA p_mul (xo_val xe_int) (xo_val (xe_call F__law_draw hr (by decide) tk (xa_cons (xo_name 0) (xa_cons (xo_val xe_int) xa_nil))))))))) nd)) xs_nil)
    (xs_cons (xs_if (xt_cmp (op_eqA hu4) p_eq (xo_name 3) (xo_val xe_int)) (xs_one (xs_set 5 (xe_op op_mulA p_mul (xo_val (xe_sl (xo_name 5) xp_none (xp_some (xe_op op_addA p_add (xo_val xe_int) (xo_val (xe_call F__law_draw hr (by decide) tk (xa_cons (xo_name 0) (xa_cons (xo_val xe_int) xa_nil)))))))) (xo_val (xe_op op_addA p_add (xo_name 2) (xo_val xe_int)))) nd)) xs_nil)
    (xs_one (xs_ret (xe_sl (xo_name 5) xp_none (xp_some (xe_name 2))))))))))))
abbrev s__law_pairs : Stmt := top 21
abbrev N__law_pairs : List Str := ["letters", "found", "many", "letter"]
theorem sc__law_pairs : FnScope N__law_pairs ["letters"] (defScope s__law_pairs) := ⟨rfl, rfl, rfl, by decide +kernel, rfl, by decide +kernel, by decide +kernel⟩
theorem x__law_pairs {P : Program} {w : World} {K : PySem.W.Frag} {mg : Str → Option Value} {base : Heap} {f : Addr} {cdv : Value} {A : Around} {outer : List Env} {s : Shared} {H : Hp} {E : XK}  (n_int : mg "int" = none)
    (hr : RoomG 0 (A.deeper (envOfC "_law_pairs" (defScope s__law_pairs) s.heap.objs.size f cdv))) : XSs (cxOf (L2N.CX P w) P w K mg base N__law_pairs "_law_pairs" (defScope s__law_pairs) f cdv A outer s H E) (fun cls d _ H => E cls d H) (defBody s__law_pairs) (D__law_pairs ) := by
  have tk : L2N.Takes (cxOf (L2N.CX P w) P w K mg base N__law_pairs "_law_pairs" (defScope s__law_pairs) f cdv A outer s H E) (fun cls d _ H => E cls d H) := L2N.takes_of rfl rfl rfl rfl
  have hp : PassesOwn (model P w) (cxOf (L2N.CX P w) P w K mg base N__law_pairs "_law_pairs" (defScope s__law_pairs) f cdv A outer s H E).A (cxOf (L2N.CX P w) P w K mg base N__law_pairs "_law_pairs" (defScope s__law_pairs) f cdv A outer s H E).env (cxOf (L2N.CX P w) P w K mg base N__law_pairs "_law_pairs" (defScope s__law_pairs) f cdv A outer s H E).xe := passes_of rfl
  have nd : (N__law_pairs).Nodup := sc__law_pairs.nd
  have hu4 := hr.u64; have hu1 := Nat.lt_of_le_of_lt (Nat.add_le_add_left (show 1 ≤ 64 by decide) _) hu4; have hu5 := hr.u65; have hu6 := hr.u66
  exact (xs_cons (xs_asg (xe_tup (xa_cons (xo_val xe_int) (xa_cons (xo_val xe_int) xa_nil))) (xg_tup rfl (xgs_cons (xg_name 1 nd) (xgs_cons (xg_name 2 nd) xgs_nil))))
    (xs_cons (xs_for hp rfl (xi_src (xe_name 0)) (xg_name 3 nd) (xs_cons (xs_set 2 (xe_op op_addA p_add (xo_name 2) (xo_val (xe_callTy call_int1 p_int1 rfl n_int boot_int (xa_cons (xo_val (xe_cmp (op_eqA hu4) p_eq (xo_name 3) (xo_val (xe_str [97])))) xa_nil)))) nd)
    (xs_one (xs_set 1 (xe_op op_addA p_add (xo_name 1) (xo_val (xe_op op_mulA p_mul (xo_name 2) (xo_val (xe_callTy call_int1 p_int1 rfl n_int boot_int (xa_cons (xo_val (xe_cmp (op_eqA hu4) p_eq (xo_name 3) (xo_val (xe_str [98])))) xa_nil)))))) nd))))
    (xs_one (xs_ret (xe_move 1)))))
abbrev s__law_prefix : Stmt := top 22
abbrev N__law_prefix : List Str := ["letters", "size"]
theorem sc__law_prefix : FnScope N__law_prefix ["letters"] (defScope s__law_prefix) := ⟨rfl, rfl, rfl, by decide +kernel, rfl, by decide +kernel, by decide +kernel⟩
theorem x__law_prefix {P : Program} {w : World} {K : PySem.W.Frag} {mg : Str → Option Value} {base : Heap} {f : Addr} {cdv : Value} {A : Around} {outer : List Env} {s : Shared} {H : Hp} {E : XK}  (n_len : mg "len" = none) (n_range : mg "range" = none)
    (hr : RoomG 0 (A.deeper (envOfC "_law_prefix" (defScope s__law_prefix) s.heap.objs.size f cdv))) : XSs (cxOf (L2N.CX P w) P w K mg base N__law_prefix "_law_prefix" (defScope s__law_prefix) f cdv A outer s H E) (fun cls d _ H => E cls d H) (defBody s__law_prefix) (D__law_prefix ) := by
  have tk : L2N.Takes (cxOf (L2N.CX P w) P w K mg base N__law_prefix "_law_prefix" (defScope s__law_prefix) f cdv A outer s H E) (fun cls d _ H => E cls d H) := L2N.takes_of rfl rfl rfl rfl
  have hp : PassesOwn (model P w) (cxOf (L2N.CX P w) P w K mg base N__law_prefix "_law_prefix" (defScope s__law_prefix) f cdv A outer s H E).A (cxOf (L2N.CX P w) P w K mg base N__law_prefix "_law_prefix" (defScope s__law_prefix) f cdv A outer s H E).env (cxOf (L2N.CX P w) P w K mg base N__law_prefix "_law_prefix" (defScope s__law_prefix) f cdv A outer s H E).xe := passes_of rfl
  have nd : (N__law_prefix).Nodup := sc__law_prefix.nd
  have hu4 := hr.u64; have hu1 := Nat.lt_of_le_of_lt (Nat.add_le_add_left (show 1 ≤ 64 by decide) _) hu4; have hu5 := hr.u65; have hu6 := hr.u66
  exact (xs_one (xs_ret (xe_lc rfl nd (xi_range1 rfl n_range (xa_cons (xo_val (xe_op op_addA p_add (xo_val (xe_callB call_lenA p_len rfl n_len boot_len (xa_cons (xo_name 0) xa_nil))) (xo_val xe_int))) xa_nil)) (own := [("size", 1)]) (blkOk_by (by kernel_rfl)) (by decide) (fun _ _ _ _ _ => (pc_name 1 nd)) (fun _ _ _ _ _ => xts_nil) (fun _ _ _ _ _ => (xe_bm p_count PySem.F.plainAttrs_str PySem.F.slot_str_count PySem.F.type_str_count mt_count (xo_val (xe_sl (xo_name 0) xp_none (xp_some (xe_name 1)))) (xa_cons (xo_val (xe_str [97])) xa_nil))))))
abbrev s__law_counts : Stmt := top 23
abbrev N__law_counts : List Str := ["letters"]
theorem sc__law_counts : FnScope N__law_counts ["letters"] (defScope s__law_counts) := ⟨rfl, rfl, rfl, by decide +kernel, rfl, by decide +kernel, by decide +kernel⟩
theorem x__law_counts {P : Program} {w : World} {K : PySem.W.Frag} {mg : Str → Option Value} {base : Heap} {f : Addr} {cdv : Value} {A : Around} {outer : List Env} {s : Shared} {H : Hp} {E : XK} {S__law_pairs : Sx} (F__law_pairs : FnX P w K mg base 1 "_law_pairs" S__law_pairs)
    (hr : RoomG 1 (A.deeper (envOfC "_law_counts" (defScope s__law_counts) s.heap.objs.size f cdv))) : XSs (cxOf (L2N.CX P w) P w K mg base N__law_counts "_law_counts" (defScope s__law_counts) f cdv A outer s H E) (fun cls d _ H => E cls d H) (defBody s__law_counts) (D__law_counts_2 S__law_pairs) := by
  have tk : L2N.Takes (cxOf (L2N.CX P w) P w K mg base N__law_counts "_law_counts" (defScope s__law_counts) f cdv A outer s H E) (fun cls d _ H => E cls d H) := L2N.takes_of rfl rfl rfl rfl
  have hp : PassesOwn (model P w) (cxOf (L2N.CX P w) P w K mg base N__law_counts "_law_counts" (defScope s__law_counts) f cdv A outer s H E).A (cxOf (L2N.CX P w) P w K mg base N__law_counts "_law_counts" (defScope s__law_counts) f cdv A outer s H E).env (cxOf (L2N.CX P w) P w K mg base N__law_counts "_law_counts" (defScope s__law_counts) f cdv A outer s H E).xe := passes_of rfl
  have nd : (N__law_counts).Nodup := sc__law_counts.nd
  have hu4 := hr.u64; have hu1 := Nat.lt_of_le_of_lt (Nat.add_le_add_left (show 1 ≤ 64 by decide) _) hu4; have hu5 := hr.u65; have hu6 := hr.u66
  exact (xs_one (xs_ret (xe_tup (xa_cons (xo_val (xe_bm p_count PySem.F.plainAttrs_str PySem.F.slot_str_count PySem.F.type_str_count mt_count (xo_name 0) (xa_cons (xo_val (xe_str [97])) xa_nil))) (xa_cons (xo_val (xe_bm p_count PySem.F.plainAttrs_str PySem.F.slot_str_count PySem.F.type_str_count mt_count (xo_name 0) (xa_cons (xo_val (xe_str [98])) xa_nil))) (xa_cons (xo_val (xe_call F__law_pairs hr (by decide) tk (xa_cons (xo_val (xe_name 0)) xa_nil))) xa_nil))))))
abbrev s__law_all : Stmt := top 24
abbrev N__law_all : List Str := ["letters", "falls", "at", "rises", "found", "one", "two"]
theorem sc__law_all : FnScope N__law_all ["letters"] (defScope s__law_all) := ⟨rfl, rfl, rfl, by decide +kernel, rfl, by decide +kernel, by decide +kernel⟩
theorem x__law_all {P : Program} {w : World} {K : PySem.W.Frag} {mg : Str → Option Value} {base : Heap} {f : Addr} {cdv : Value} {A : Around} {outer : List Env} {s : Shared} {H : Hp} {E : XK}  (n_len : mg "len" = none) (n_range : mg "range" = none)
    (hr : RoomG 0 (A.deeper (envOfC "_law_all" (defScope s__law_all) s.heap.objs.size f cdv))) : XSs (cxOf (L2N.CX P w) P w K mg base N__law_all "_law_all" (defScope s__law_all) f cdv A outer s H E) (fun cls d _ H => E cls d H) (defBody s__law_all) (D__law_all_2 ) := by
  have tk : L2N.Takes (cxOf (L2N.CX P w) P w K mg base N__law_all "_law_all" (defScope s__law_all) f cdv A outer s H E) (fun cls d _ H => E cls d H) := L2N.takes_of rfl rfl rfl rfl
  have hp : PassesOwn (model P w) (cxOf (L2N.CX P w) P w K mg base N__law_all "_law_all" (defScope s__law_all) f cdv A outer s H E).A (cxOf (L2N.CX P w) P w K mg base N__law_all "_law_all" (defScope s__law_all) f cdv A outer s H E).env (cxOf (L2N.CX P w) P w K mg base N__law_all "_law_all" (defScope s__law_all) f cdv A outer s H E).xe := passes_of rfl
  have nd : (N__law_all).Nodup := sc__law_all.nd
  have hu4 := hr.u64; have hu1 := Nat.lt_of_le_of_lt (Nat.add_le_add_left (show 1 ≤ 64 by decide) _) hu4; have hu5 := hr.u65; have hu6 := hr.u66
  exact (xs_cons (xs_setLc 1 rfl nd (xi_range1 rfl n_range (xa_cons (xo_val (xe_callB call_lenA p_len rfl n_len boot_len (xa_cons (xo_name 0) xa_nil))) xa_nil)) (own := [("at", 2)]) (blkOk_by (by kernel_rfl)) (by decide) (fun _ _ _ _ _ => (pc_name 2 nd)) (fun _ _ _ _ _ => (xts_one (xt_cmp (op_eqA hu4) p_eq (xo_val (xe_sl (xo_name 0) (xp_some (xe_name 2)) (xp_some (xe_op op_addA p_add (xo_name 2) (xo_val xe_int))))) (xo_val (xe_str [97, 98]))))) (fun _ _ _ _ _ => (xe_name 2)) (sw_true rfl rfl rfl rfl) rfl)
    (xs_cons (xs_setLc 3 rfl nd (xi_range1 rfl n_range (xa_cons (xo_val (xe_callB call_lenA p_len rfl n_len boot_len (xa_cons (xo_name 0) xa_nil))) xa_nil)) (own := [("at", 2)]) (blkOk_by (by kernel_rfl)) (by decide) (fun _ _ _ _ _ => (pc_name 2 nd)) (fun _ _ _ _ _ => (xts_one (xt_cmp (op_eqA hu4) p_eq (xo_val (xe_sl (xo_name 0) (xp_some (xe_name 2)) (xp_some (xe_op op_addA p_add (xo_name 2) (xo_val xe_int))))) (xo_val (xe_str [98, 97]))))) (fun _ _ _ _ _ => (xe_name 2)) (sw_true rfl rfl rfl rfl) rfl)
    (xs_cons (xs_set 4 (xe_lst xa_nil) nd)
    (xs_cons (xs_for hp rfl (xi_src (xe_name 1)) (xg_name 5 nd) (xs_one (xs_expr (xe_mut 4 m_ext PySem.F.plainAttrs_list PySem.F.slot_list_extend PySem.F.type_list_extend mt_extend (xa_cons (xo_val (xe_lc rfl nd (xi_src (xe_name 3)) (own := [("two", 6)]) (blkOk_by (by kernel_rfl)) (by decide) (fun _ _ _ _ _ => (pc_name 6 nd)) (fun _ _ _ _ _ => (xts_one (xt_cmp (op_ninA hu5) p_nin (xo_name 6) (xo_val (xe_lst (xa_cons (xo_val (xe_op op_sub p_sub (xo_name 5) (xo_val xe_int))) (xa_cons (xo_val (xe_op op_addA p_add (xo_name 5) (xo_val xe_int))) xa_nil))))))) (fun _ _ _ _ _ => (xe_tup (xa_cons (xo_val (xe_name 5)) (xa_cons (xo_val (xe_name 6)) xa_nil)))))) xa_nil)))))
    (xs_one (xs_ret (xe_move 4)))))))
abbrev s__law_after : Stmt := top 25
abbrev N__law_after : List Str := ["letters", "swap", "at", "pair"]
theorem sc__law_after : FnScope N__law_after ["letters", "swap"] (defScope s__law_after) := ⟨rfl, rfl, rfl, by decide +kernel, rfl, by decide +kernel, by decide +kernel⟩
theorem x__law_after {P : Program} {w : World} {K : PySem.W.Frag} {mg : Str → Option Value} {base : Heap} {f : Addr} {cdv : Value} {A : Around} {outer : List Env} {s : Shared} {H : Hp} {E : XK} 
    (hr : RoomG 0 (A.deeper (envOfC "_law_after" (defScope s__law_after) s.heap.objs.size f cdv))) : XSs (cxOf (L2N.CX P w) P w K mg base N__law_after "_law_after" (defScope s__law_after) f cdv A outer s H E) (fun cls d _ H => E cls d H) (defBody s__law_after) (D__law_after ) := by
  have tk : L2N.Takes (cxOf (L2N.CX P w) P w K mg base N__law_after "_law_after" (defScope s__law_after) f cdv A outer s H E) (fun cls d _ H => E cls d H) := L2N.takes_of rfl rfl rfl rfl
  have hp : PassesOwn (model P w) (cxOf (L2N.CX P w) P w K mg base N__law_after "_law_after" (defScope s__law_after) f cdv A outer s H E).A (cxOf (L2N.CX P w) P w K mg base N__law_after "_law_after" (defScope s__law_after) f cdv A outer s H E).env (cxOf (L2N.CX P w) P w K mg base N__law_after "_law_after" (defScope s__law_after) f cdv A outer s H E).xe := passes_of rfl
  have nd : (N__law_after).Nodup := sc__law_after.nd
  have hu4 := hr.u64; have hu1 := Nat.lt_of_le_of_lt (Nat.add_le_add_left (show 1 ≤ 64 by decide) _) hu4; have hu5 := hr.u65; have hu6 := hr.u66
  exact (xs_cons (xs_for hp rfl (xi_src (xe_name 1)) (xg_name 2 nd) (xs_cons (xs_set 3 (xe_sl (xo_name 0) (xp_some (xe_name 2)) (xp_some (xe_op op_addA p_add (xo_name 2) (xo_val xe_int)))) nd)
    (xs_one (xs_set 0 (xe_op op_addA p_add (xo_val (xe_op op_addA p_add (xo_val (xe_sl (xo_name 0) xp_none (xp_some (xe_name 2)))) (xo_val (xe_sl3 (xo_name 3) xp_none xp_none (xp_some (xe_un un_neg p_neg (xo_val xe_int))))))) (xo_val (xe_sl (xo_name 0) (xp_some (xe_op op_addA p_add (xo_name 2) (xo_val xe_int))) xp_none))) nd))))
    (xs_one (xs_ret (xe_move 0))))
abbrev s__law_right : Stmt := top 26
abbrev N__law_right : List Str := ["letters", "swap", "found", "steps", "one", "two", "changed", "place", "step"]
theorem sc__law_right : FnScope N__law_right ["letters", "swap"] (defScope s__law_right) := ⟨rfl, rfl, rfl, by decide +kernel, rfl, by decide +kernel, by decide +kernel⟩
theorem x__law_right {P : Program} {w : World} {K : PySem.W.Frag} {mg : Str → Option Value} {base : Heap} {f : Addr} {cdv : Value} {A : Around} {outer : List Env} {s : Shared} {H : Hp} {E : XK} {S_swapped S__law_after S__law_counts S__law_prefix : Sx} (F_swapped : FnX P w K mg base 4 "swapped" S_swapped) (F__law_after : FnX P w K mg base 1 "_law_after" S__law_after) (F__law_counts : FnX P w K mg base 2 "_law_counts" S__law_counts) (F__law_prefix : FnX P w K mg base 1 "_law_prefix" S__law_prefix) (n_list : mg "list" = none) (n_zip : mg "zip" = none) (n_enumerate : mg "enumerate" = none) (n_sorted : mg "sorted" = none)
    (hr : RoomG 4 (A.deeper (envOfC "_law_right" (defScope s__law_right) s.heap.objs.size f cdv))) : XSs (cxOf (L2N.CX P w) P w K mg base N__law_right "_law_right" (defScope s__law_right) f cdv A outer s H E) (fun cls d _ H => E cls d H) (defBody s__law_right) (D__law_right_5 S_swapped S__law_after S__law_counts S__law_prefix) := by
  have tk : L2N.Takes (cxOf (L2N.CX P w) P w K mg base N__law_right "_law_right" (defScope s__law_right) f cdv A outer s H E) (fun cls d _ H => E cls d H) := L2N.takes_of rfl rfl rfl rfl
  have hp : PassesOwn (model P w) (cxOf (L2N.CX P w) P w K mg base N__law_right "_law_right" (defScope s__law_right) f cdv A outer s H E).A (cxOf (L2N.CX P w) P w K mg base N__law_right "_law_right" (defScope s__law_right) f cdv A outer s H E).env (cxOf (L2N.CX P w) P w K mg base N__law_right "_law_right" (defScope s__law_right) f cdv A outer s H E).xe := passes_of rfl
  have nd : (N__law_right).Nodup := sc__law_right.nd
  have hu4 := hr.u64; have hu1 := Nat.lt_of_le_of_lt (Nat.add_le_add_left (show 1 ≤ 64 by decide) _) hu4; have hu5 := hr.u65; have hu6 := hr.u66
  exact (xs_cons (xs_set 2 (xe_call F_swapped hr (by decide) tk (xa_cons (xo_val (xe_name 0)) (xa_cons (xo_val (xe_name 1)) xa_nil))) nd)
    (xs_cons (xs_if (XW.t (xw_or (xt_cmp (op_neA hu4) p_ne (xo_name 2) (xo_val (xe_call F__law_after hr (by decide) tk (xa_cons (xo_val (xe_name 0)) (xa_cons (xo_val (xe_name 1)) xa_nil))))) (xw_or1 (xt_cmp (op_neA hu4) p_ne (xo_val (xe_call F__law_counts hr (by decide) tk (xa_cons (xo_val (xe_name 2)) xa_nil))) (xo_val (xe_call F__law_counts hr (by decide) tk (xa_cons (xo_val (xe_name 0)) xa_nil))))))) (xs_one (xs_ret xe_bl)) xs_nil)
    (xs_cons (xs_setLc 3 rfl nd (xi_src (xe_listZip rfl rfl n_list rfl n_zip (xa_cons (xo_val (xe_call F__law_prefix hr (by decide) tk (xa_cons (xo_val (xe_name 0)) xa_nil))) (xa_cons (xo_val (xe_call F__law_prefix hr (by decide) tk (xa_cons (xo_val (xe_name 2)) xa_nil))) xa_nil)))) (own := [("one", 4), ("two", 5)]) (blkOk_by (by kernel_rfl)) (by decide) (fun _ _ _ _ _ => (pc_tup rfl (pc_cons 4 nd (pc_cons 5 nd pc_nil)))) (fun _ _ _ _ _ => xts_nil) (fun _ _ _ _ _ => (xe_op op_sub p_sub (xo_name 5) (xo_name 4))) (sw_true rfl rfl rfl rfl) rfl)
    (xs_cons (xs_setLc 6 rfl nd (xi_enum rfl n_enumerate (xa_cons (xo_val (xe_name 3)) xa_nil)) (own := [("place", 7), ("step", 8)]) (blkOk_by (by kernel_rfl)) (by decide) (fun _ _ _ _ _ => (pc_tup rfl (pc_cons 7 nd (pc_cons 8 nd pc_nil)))) (fun _ _ _ _ _ => (xts_one (xt_cmp (op_neA hu4) p_ne (xo_name 8) (xo_val xe_int)))) (fun _ _ _ _ _ => (xe_tup (xa_cons (xo_val (xe_op op_sub p_sub (xo_name 7) (xo_val xe_int))) (xa_cons (xo_val (xe_name 8)) xa_nil)))) (sw_true rfl rfl rfl rfl) rfl)
    (xs_cons (xs_if (xt_cmp (op_neA hu4) p_ne (xo_val (xe_callB (call_sortA rfl hu6) p_sort rfl n_sorted boot_sorted (xa_cons (xo_name 6) xa_nil))) (xo_val (xe_callB (call_sortA rfl hu6) p_sort rfl n_sorted boot_sorted (xa_cons (xo_val (xe_lst (xa_cons (xo_val (xe_tup (xa_cons (xo_val (xe_ix ix_seq p_ix (xo_name 1) (xo_val xe_int))) (xa_cons (xo_val (xe_un un_neg p_neg (xo_val xe_int))) xa_nil)))) (xa_cons (xo_val (xe_tup (xa_cons (xo_val (xe_ix ix_seq p_ix (xo_name 1) (xo_val xe_int))) (xa_cons (xo_val xe_int) xa_nil)))) xa_nil)))) xa_nil)))) (xs_one (xs_ret xe_bl)) xs_nil)
    (xs_one (xs_ret (xe_cmp (op_eqA hu4) p_eq (xo_val (xe_call F_swapped hr (by decide) tk (xa_cons (xo_val (xe_name 2)) (xa_cons (xo_val (xe_tup (xa_cons (xo_val (xe_ix ix_seq p_ix (xo_name 1) (xo_val xe_int))) (xa_cons (xo_val (xe_ix ix_seq p_ix (xo_name 1) (xo_val xe_int))) xa_nil)))) xa_nil)))) (xo_name 0)))))))))
abbrev s_law : Stmt := top 27
abbrev N_law : List Str := ["script", "bag", "turn", "letters", "swap", "step", "some"]
theorem sc_law : FnScope N_law ["script"] (defScope s_law) := ⟨rfl, rfl, rfl, by decide +kernel, rfl, by decide +kernel, by decide +kernel⟩
theorem x_law {P : Program} {w : World} {K : PySem.W.Frag} {mg : Str → Option Value} {base : Heap} {f : Addr} {cdv : Value} {A : Around} {outer : List Env} {s : Shared} {H : Hp} {E : XK} {S__law_bag S__law_letters S__law_all S__law_right S__law_draw S_swapped : Sx} (F__law_bag : FnX P w K mg base 1 "_law_bag" S__law_bag) (F__law_letters : FnX P w K mg base 3 "_law_letters" S__law_letters) (F__law_all : FnX P w K mg base 1 "_law_all" S__law_all) (F__law_right : FnX P w K mg base 5 "_law_right" S__law_right) (F__law_draw : FnX P w K mg base 2 "_law_draw" S__law_draw) (F_swapped : FnX P w K mg base 4 "swapped" S_swapped) (n_min : mg "min" = none) (n_len : mg "len" = none) (n_range : mg "range" = none)
    (hr : RoomG 5 (A.deeper (envOfC "law" (defScope s_law) s.heap.objs.size f cdv))) : XSs (cxOf (L2N.CX P w) P w K mg base N_law "law" (defScope s_law) f cdv A outer s H E) (fun cls d _ H => E cls d H) (defBody s_law) (D_law_14 S__law_bag S__law_letters S__law_all S__law_right S__law_draw S_swapped) := by
  have tk : L2N.Takes (cxOf (L2N.CX P w) P w K mg base N_law "law" (defScope s_law) f cdv A outer s H E) (fun cls d _ H => E cls d H) := L2N.takes_of rfl rfl rfl rfl
  have hp : PassesOwn (model P w) (cxOf (L2N.CX P w) P w K mg base N_law "law" (defScope s_law) f cdv A outer s H E).A (cxOf (L2N.CX P w) P w K mg base N_law "law" (defScope s_law) f cdv A outer s H E).env (cxOf (L2N.CX P w) P w K mg base N_law "law" (defScope s_law) f cdv A outer s H E).xe := passes_of rfl
  have nd : (N_law).Nodup := sc_law.nd
  have hu4 := hr.u64; have hu1 := Nat.lt_of_le_of_lt (Nat.add_le_add_left (show 1 ≤ 64 by decide) _) hu4; have hu5 := hr.u65; have hu6 := hr.u66
  exact (xs_cons (xs_set 1 (xe_call F__law_bag hr (by decide) tk (xa_cons (xo_val (xe_name 0)) xa_nil)) nd)
    (xs_cons (xs_for hp rfl (xi_range1 rfl n_range (xa_cons (xo_val (xe_op op_addA p_add (xo_val xe_int) (xo_val (xe_callB (call_min2 rfl) p_min2 rfl n_min boot_min (xa_cons (xo_val xe_int) (xa_cons (xo_val (xe_callB call_lenA p_len rfl n_len boot_len (xa_cons (xo_name 0) xa_nil))) xa_nil)))))) xa_nil)) (xg_name 2 nd) (xs_cons (xs_set 3 (xe_call F__law_letters hr (by decide) tk (xa_cons (xo_name 1) (xa_cons (xo_val xe_int) xa_nil))) nd)
    (xs_cons (xs_if (xt_neQ hu4 (xq_op (xo_val (xe_lc rfl nd (xi_src (xe_call F__law_all hr (by decide) tk (xa_cons (xo_val (xe_name 3)) xa_nil))) (own := [("swap", 4)]) (blkOk_by (by kernel_rfl)) (by decide) (fun _ _ _ _ _ => (pc_name 4 nd)) (fun _ _ _ _ _ => (xts_one (xt_not (xt_val (xe_call F__law_right hr (by decide) takes_blk (xa_cons (xo_val (xe_name 3)) (xa_cons (xo_val (xe_name 4)) xa_nil))))))) (fun _ _ _ _ _ => (xe_name 4))))) (xq_ls xq_nil)) (xs_one (xs_ret xe_bl)) xs_nil)
    (xs_cons (xs_set 3 (xe_call F__law_letters hr (by decide) tk (xa_cons (xo_name 1) (xa_cons (xo_val (xe_ix ix_seq p_ix (xo_val (xe_lst (xa_cons (xo_val xe_int) (xa_cons (xo_val xe_int) xa_nil)))) (xo_val (xe_call F__law_draw hr (by decide) tk (xa_cons (xo_name 1) (xa_cons (xo_val xe_int) xa_nil)))))) xa_nil))) nd)
    (xs_one (xs_for hp rfl (xi_range1 rfl n_range (xa_cons (xo_val xe_int) xa_nil)) (xg_name 5 nd) (xs_cons (xs_set 6 (xe_call F__law_all hr (by decide) tk (xa_cons (xo_val (xe_name 3)) xa_nil)) nd)
    (xs_one (xs_if (xt_neQ hu4 (xq_op (xo_name 6)) (xq_ls xq_nil)) (xs_cons (xs_set 4 (xe_ix ix_seq p_ix (xo_name 6) (xo_val (xe_call F__law_draw hr (by decide) tk (xa_cons (xo_name 1) (xa_cons (xo_val (xe_callB call_lenA p_len rfl n_len boot_len (xa_cons (xo_name 6) xa_nil))) xa_nil))))) nd)
    (xs_cons (xs_if (xt_not (xt_val (xe_call F__law_right hr (by decide) tk (xa_cons (xo_val (xe_name 3)) (xa_cons (xo_val (xe_name 4)) xa_nil))))) (xs_one (xs_ret xe_bl)) xs_nil)
    (xs_one (xs_set 3 (xe_call F_swapped hr (by decide) tk (xa_cons (xo_val (xe_name 3)) (xa_cons (xo_val (xe_name 4)) xa_nil))) nd)))) xs_nil)))))))))
    (xs_one (xs_ret (xe_and (xe_cmp (op_eqA hu4) p_eq (xo_val (xe_call F_swapped hr (by decide) tk (xa_cons (xo_val (xe_str [97, 98, 98, 97])) (xa_cons (xo_val (xe_tup (xa_cons (xo_val xe_int) (xa_cons (xo_val xe_int) xa_nil)))) xa_nil)))) (xo_val (xe_str [98, 97, 97, 98]))) (xe_one (xe_cmp (op_eqA hu4) p_eq (xo_val (xe_call F_swapped hr (by decide) tk (xa_cons (xo_val (xe_str [98, 97, 97, 98])) (xa_cons (xo_val (xe_tup (xa_cons (xo_val xe_int) (xa_cons (xo_val xe_int) xa_nil)))) xa_nil)))) (xo_val (xe_str [97, 98, 98, 97])))))))))
end K14
namespace K14
open PySem PySem.Spec PyProof.Rows L2 O
def d_is_integer : He5.DefA := ⟨fun K => He.ga K "is_integer", "is_integer", "is_integer", defArgs s_is_integer, defBody s_is_integer, defScope s_is_integer, [], []⟩
def d_is_row : He5.DefA := ⟨fun K => He.ga K "is_row", "is_row", "is_row", defArgs s_is_row, defBody s_is_row, defScope s_is_row, [], []⟩
def d_check_row : He5.DefA := ⟨fun K => He.ga K "check_row", "check_row", "check_row", defArgs s_check_row, defBody s_check_row, defScope s_check_row, [], []⟩
def d_is_swap_of : He5.DefA := ⟨fun K => He.ga K "is_swap_of", "is_swap_of", "is_swap_of", defArgs s_is_swap_of, defBody s_is_swap_of, defScope s_is_swap_of, [], []⟩
def d_after_swap : He5.DefA := ⟨fun K => He.ga K "after_swap", "after_swap", "after_swap", defArgs s_after_swap, defBody s_after_swap, defScope s_after_swap, [], []⟩
def d_is_swap : He5.DefA := ⟨fun K => He.ga K "is_swap", "is_swap", "is_swap", defArgs s_is_swap, defBody s_is_swap, defScope s_is_swap, [], []⟩
def d_swapped : He5.DefA := ⟨fun K => He.ga K "swapped", "swapped", "swapped", defArgs s_swapped, defBody s_swapped, defScope s_swapped, [], []⟩
def d__law_bag : He5.DefA := ⟨fun K => He.ga K "_law_bag", "_law_bag", "_law_bag", defArgs s__law_bag, defBody s__law_bag, defScope s__law_bag, [], []⟩
def d__law_stir : He5.DefA := ⟨fun K => He.ga K "_law_stir", "_law_stir", "_law_stir", defArgs s__law_stir, defBody s__law_stir, defScope s__law_stir, [], []⟩
def d__law_draw : He5.DefA := ⟨fun K => He.ga K "_law_draw", "_law_draw", "_law_draw", defArgs s__law_draw, defBody s__law_draw, defScope s__law_draw, [], []⟩
def d__law_letters : He5.DefA := ⟨fun K => He.ga K "_law_letters", "_law_letters", "_law_letters", defArgs s__law_letters, defBody s__law_letters, defScope s__law_letters, [], []⟩
def d__law_pairs : He5.DefA := ⟨fun K => He.ga K "_law_pairs", "_law_pairs", "_law_pairs", defArgs s__law_pairs, defBody s__law_pairs, defScope s__law_pairs, [], []⟩
def d__law_prefix : He5.DefA := ⟨fun K => He.ga K "_law_prefix", "_law_prefix", "_law_prefix", defArgs s__law_prefix, defBody s__law_prefix, defScope s__law_prefix, [], []⟩
def d__law_counts : He5.DefA := ⟨fun K => He.ga K "_law_counts", "_law_counts", "_law_counts", defArgs s__law_counts, defBody s__law_counts, defScope s__law_counts, [], []⟩
def d__law_all : He5.DefA := ⟨fun K => He.ga K "_law_all", "_law_all", "_law_all", defArgs s__law_all, defBody s__law_all, defScope s__law_all, [], []⟩
def d__law_after : He5.DefA := ⟨fun K => He.ga K "_law_after", "_law_after", "_law_after", defArgs s__law_after, defBody s__law_after, defScope s__law_after, [], []⟩
def d__law_right : He5.DefA := ⟨fun K => He.ga K "_law_right", "_law_right", "_law_right", defArgs s__law_right, defBody s__law_right, defScope s__law_right, [], []⟩
def d_law : He5.DefA := ⟨fun K => He.ga K "law", "law", "law", defArgs s_law, defBody s_law, defScope s_law, [], []⟩
def fn : List He5.DefA := [d_is_integer, d_is_row, d_check_row, d_is_swap_of, d_after_swap, d_is_swap, d_swapped, d__law_bag, d__law_stir, d__law_draw, d__law_letters, d__law_pairs, d__law_prefix, d__law_counts, d__law_all, d__law_after, d__law_right, d_law]
def fa : List He.Fa := [.glo "is_integer", .glo "is_row", .glo "check_row", .glo "is_swap_of", .glo "after_swap", .glo "is_swap", .glo "swapped", .glo "_law_bag", .glo "_law_stir", .glo "_law_draw", .glo "_law_letters", .glo "_law_pairs", .glo "_law_prefix", .glo "_law_counts", .glo "_law_all", .glo "_law_after", .glo "_law_right", .glo "law", .free "isinstance", .free "int", .free "bool", .free "str", .free "len", .free "all", .int "MOST_LETTERS" 200, .free "tuple", .free "abs", .str "FALL" (S [97, 98]), .str "RISE" (S [98, 97]), .free "list", .free "range", .free "sorted", .free "zip", .free "enumerate", .free "min"]
def ex : List (PySem.W.Frag → Bool) := []
abbrev R : PySem.W.OpenRow := PySem.W.OpenLaw.row PySem.Challenge.rw_paircounts_k14_rows_after_double_swaps
abbrev hk : PySem.W.Hook := hookC 5 fa fn ex
def ob (s : PySem.W.SharedT) : He.AlD := obsC 5 fa fn ex (HandSHeadRun.getT s)
theorem ob_eq (s : PySem.W.SharedT) : ob s = hk.obs s.abs := obsC_eq (HandSHeadRun.getT_eq s)
theorem run (w : World) : HandSHeadRun.RunEq R (PySem.W.view R.prog [27]) hk ob 8000 ["PairError", "InvalidRow", "InvalidSwap", "MOST_LETTERS", "is_integer", "is_row", "check_row", "FALL", "RISE", "is_swap_of", "after_swap", "is_swap", "swapped", "_law_bag", "_law_stir", "_law_draw", "_law_letters", "_law_pairs", "_law_prefix", "_law_counts", "_law_all", "_law_after", "_law_right"] w := by
  intro os
  kernel_rfl
theorem facts {P : Program} {w : World} {K : PySem.W.Frag} {h base : Heap} {mg : Str → Option Value} (X : K.In h) (G : h.Ns mainGlobals mg) (c : SaysC fa fn ex K) : FnX P w K mg base 6 "law" SLaw14 := by
  have sy : Sys K := c.sys
  have m_is_integer := He.glo_ok X G (c.fact 0 (f := .glo "is_integer") rfl)
  have m_is_row := He.glo_ok X G (c.fact 1 (f := .glo "is_row") rfl)
  have m_check_row := He.glo_ok X G (c.fact 2 (f := .glo "check_row") rfl)
  have m_is_swap_of := He.glo_ok X G (c.fact 3 (f := .glo "is_swap_of") rfl)
  have m_after_swap := He.glo_ok X G (c.fact 4 (f := .glo "after_swap") rfl)
  have m_is_swap := He.glo_ok X G (c.fact 5 (f := .glo "is_swap") rfl)
  have m_swapped := He.glo_ok X G (c.fact 6 (f := .glo "swapped") rfl)
  have m__law_bag := He.glo_ok X G (c.fact 7 (f := .glo "_law_bag") rfl)
  have m__law_stir := He.glo_ok X G (c.fact 8 (f := .glo "_law_stir") rfl)
  have m__law_draw := He.glo_ok X G (c.fact 9 (f := .glo "_law_draw") rfl)
  have m__law_letters := He.glo_ok X G (c.fact 10 (f := .glo "_law_letters") rfl)
  have m__law_pairs := He.glo_ok X G (c.fact 11 (f := .glo "_law_pairs") rfl)
  have m__law_prefix := He.glo_ok X G (c.fact 12 (f := .glo "_law_prefix") rfl)
  have m__law_counts := He.glo_ok X G (c.fact 13 (f := .glo "_law_counts") rfl)
  have m__law_all := He.glo_ok X G (c.fact 14 (f := .glo "_law_all") rfl)
  have m__law_after := He.glo_ok X G (c.fact 15 (f := .glo "_law_after") rfl)
  have m__law_right := He.glo_ok X G (c.fact 16 (f := .glo "_law_right") rfl)
  have m_law := He.glo_ok X G (c.fact 17 (f := .glo "law") rfl)
  have n_isinstance := He.free_ok X G (c.fact 18 (f := .free "isinstance") rfl)
  have n_int := He.free_ok X G (c.fact 19 (f := .free "int") rfl)
  have n_bool := He.free_ok X G (c.fact 20 (f := .free "bool") rfl)
  have n_str := He.free_ok X G (c.fact 21 (f := .free "str") rfl)
  have n_len := He.free_ok X G (c.fact 22 (f := .free "len") rfl)
  have n_all := He.free_ok X G (c.fact 23 (f := .free "all") rfl)
  have g_MOST_LETTERS := He.int_ok X G (c.fact 24 (f := .int "MOST_LETTERS" 200) rfl)
  have n_tuple := He.free_ok X G (c.fact 25 (f := .free "tuple") rfl)
  have n_abs := He.free_ok X G (c.fact 26 (f := .free "abs") rfl)
  have g_FALL := He.str_ok X G (c.fact 27 (f := .str "FALL" (S [97, 98])) rfl)
  have g_RISE := He.str_ok X G (c.fact 28 (f := .str "RISE" (S [98, 97])) rfl)
  have n_list := He.free_ok X G (c.fact 29 (f := .free "list") rfl)
  have n_range := He.free_ok X G (c.fact 30 (f := .free "range") rfl)
  have n_sorted := He.free_ok X G (c.fact 31 (f := .free "sorted") rfl)
  have n_zip := He.free_ok X G (c.fact 32 (f := .free "zip") rfl)
  have n_enumerate := He.free_ok X G (c.fact 33 (f := .free "enumerate") rfl)
  have n_min := He.free_ok X G (c.fact 34 (f := .free "min") rfl)
  obtain ⟨f_is_integer, Y_is_integer⟩ := c.def_ 0 (d := d_is_integer) rfl
  have Z_is_integer : FunD K "is_integer" "is_integer" (defArgs s_is_integer) (defBody s_is_integer) (defScope s_is_integer) [] [] (d_is_integer.at_ K) f_is_integer := Y_is_integer
  obtain ⟨f_is_row, Y_is_row⟩ := c.def_ 1 (d := d_is_row) rfl
  have Z_is_row : FunD K "is_row" "is_row" (defArgs s_is_row) (defBody s_is_row) (defScope s_is_row) [] [] (d_is_row.at_ K) f_is_row := Y_is_row
  obtain ⟨f_check_row, Y_check_row⟩ := c.def_ 2 (d := d_check_row) rfl
  have Z_check_row : FunD K "check_row" "check_row" (defArgs s_check_row) (defBody s_check_row) (defScope s_check_row) [] [] (d_check_row.at_ K) f_check_row := Y_check_row
  obtain ⟨f_is_swap_of, Y_is_swap_of⟩ := c.def_ 3 (d := d_is_swap_of) rfl
  have Z_is_swap_of : FunD K "is_swap_of" "is_swap_of" (defArgs s_is_swap_of) (defBody s_is_swap_of) (defScope s_is_swap_of) [] [] (d_is_swap_of.at_ K) f_is_swap_of := Y_is_swap_of
  obtain ⟨f_after_swap, Y_after_swap⟩ := c.def_ 4 (d := d_after_swap) rfl
  have Z_after_swap : FunD K "after_swap" "after_swap" (defArgs s_after_swap) (defBody s_after_swap) (defScope s_after_swap) [] [] (d_after_swap.at_ K) f_after_swap := Y_after_swap
  obtain ⟨f_is_swap, Y_is_swap⟩ := c.def_ 5 (d := d_is_swap) rfl
  have Z_is_swap : FunD K "is_swap" "is_swap" (defArgs s_is_swap) (defBody s_is_swap) (defScope s_is_swap) [] [] (d_is_swap.at_ K) f_is_swap := Y_is_swap
  obtain ⟨f_swapped, Y_swapped⟩ := c.def_ 6 (d := d_swapped) rfl
  have Z_swapped : FunD K "swapped" "swapped" (defArgs s_swapped) (defBody s_swapped) (defScope s_swapped) [] [] (d_swapped.at_ K) f_swapped := Y_swapped
  obtain ⟨f__law_bag, Y__law_bag⟩ := c.def_ 7 (d := d__law_bag) rfl
  have Z__law_bag : FunD K "_law_bag" "_law_bag" (defArgs s__law_bag) (defBody s__law_bag) (defScope s__law_bag) [] [] (d__law_bag.at_ K) f__law_bag := Y__law_bag
  obtain ⟨f__law_stir, Y__law_stir⟩ := c.def_ 8 (d := d__law_stir) rfl
  have Z__law_stir : FunD K "_law_stir" "_law_stir" (defArgs s__law_stir) (defBody s__law_stir) (defScope s__law_stir) [] [] (d__law_stir.at_ K) f__law_stir := Y__law_stir
  obtain ⟨f__law_draw, Y__law_draw⟩ := c.def_ 9 (d := d__law_draw) rfl
  have Z__law_draw : FunD K "_law_draw" "_law_draw" (defArgs s__law_draw) (defBody s__law_draw) (defScope s__law_draw) [] [] (d__law_draw.at_ K) f__law_draw := Y__law_draw
  obtain ⟨f__law_letters, Y__law_letters⟩ := c.def_ 10 (d := d__law_letters) rfl
  have Z__law_letters : FunD K "_law_letters" "_law_letters" (defArgs s__law_letters) (defBody s__law_letters) (defScope s__law_letters) [] [] (d__law_letters.at_ K) f__law_letters := Y__law_letters
  obtain ⟨f__law_pairs, Y__law_pairs⟩ := c.def_ 11 (d := d__law_pairs) rfl
  have Z__law_pairs : FunD K "_law_pairs" "_law_pairs" (defArgs s__law_pairs) (defBody s__law_pairs) (defScope s__law_pairs) [] [] (d__law_pairs.at_ K) f__law_pairs := Y__law_pairs
  obtain ⟨f__law_prefix, Y__law_prefix⟩ := c.def_ 12 (d := d__law_prefix) rfl
  have Z__law_prefix : FunD K "_law_prefix" "_law_prefix" (defArgs s__law_prefix) (defBody s__law_prefix) (defScope s__law_prefix) [] [] (d__law_prefix.at_ K) f__law_prefix := Y__law_prefix
  obtain ⟨f__law_counts, Y__law_counts⟩ := c.def_ 13 (d := d__law_counts) rfl
  have Z__law_counts : FunD K "_law_counts" "_law_counts" (defArgs s__law_counts) (defBody s__law_counts) (defScope s__law_counts) [] [] (d__law_counts.at_ K) f__law_counts := Y__law_counts
  obtain ⟨f__law_all, Y__law_all⟩ := c.def_ 14 (d := d__law_all) rfl
  have Z__law_all : FunD K "_law_all" "_law_all" (defArgs s__law_all) (defBody s__law_all) (defScope s__law_all) [] [] (d__law_all.at_ K) f__law_all := Y__law_all
  obtain ⟨f__law_after, Y__law_after⟩ := c.def_ 15 (d := d__law_after) rfl
  have Z__law_after : FunD K "_law_after" "_law_after" (defArgs s__law_after) (defBody s__law_after) (defScope s__law_after) [] [] (d__law_after.at_ K) f__law_after := Y__law_after
  obtain ⟨f__law_right, Y__law_right⟩ := c.def_ 16 (d := d__law_right) rfl
  have Z__law_right : FunD K "_law_right" "_law_right" (defArgs s__law_right) (defBody s__law_right) (defScope s__law_right) [] [] (d__law_right.at_ K) f__law_right := Y__law_right
  obtain ⟨f_law, Y_law⟩ := c.def_ 17 (d := d_law) rfl
  have Z_law : FunD K "law" "law" (defArgs s_law) (defBody s_law) (defScope s_law) [] [] (d_law.at_ K) f_law := Y_law
  have F_is_integer : FnX P w K mg base 1 "is_integer" (SP fIsInt) := FnX.of (D_is_integer) Z_is_integer  m_is_integer sc_is_integer (fun _ _ _ _ _ _ us hl => match us, hl with | [_, _, _], _ => rfl) (mn_SP _) (len_SP fun ts p => by unfold fIsInt at p; split at p <;> first | rfl | exact False.elim p) (fun cdv A outer s H E hr => x_is_integer n_isinstance n_int n_bool hr) h_is_integer
  have F_is_row : FnX P w K mg base 1 "is_row" (SP fIsRow) := FnX.of (D_is_row) Z_is_row  m_is_row sc_is_row (fun _ _ _ _ _ _ us hl => match us, hl with | [_], _ => rfl) (mn_SP _) (len_SP fun ts p => by unfold fIsRow at p; split at p <;> first | rfl | exact False.elim p) (fun cdv A outer s H E hr => x_is_row n_isinstance n_str n_len n_all g_MOST_LETTERS hr) h_is_row
  have F_after_swap : FnX P w K mg base 1 "after_swap" (SP fAftI) := FnX.of (D_after_swap) Z_after_swap  m_after_swap sc_after_swap (fun _ _ _ _ _ _ us hl => match us, hl with | [_, _], _ => rfl) (mn_SP _) (len_SP fun ts p => by unfold fAftI at p; split at p <;> first | rfl | exact False.elim p) (fun cdv A outer s H E hr => x_after_swap n_list hr) h_after_swap
  have F__law_bag : FnX P w K mg base 1 "_law_bag" SMake := FnX.of (D__law_bag) Z__law_bag  m__law_bag sc__law_bag (fun _ _ _ _ _ _ us hl => match us, hl with | [_], _ => rfl) mn_SMake (fun _ _ ⟨_, e, _⟩ => by rw [e]; rfl) (fun cdv A outer s H E hr => x__law_bag n_list hr) h__law_bag
  have F__law_stir : FnX P w K mg base 1 "_law_stir" (SP fStir) := FnX.of (D__law_stir) Z__law_stir  m__law_stir sc__law_stir (fun _ _ _ _ _ _ us hl => match us, hl with | [_, _], _ => rfl) (mn_SP _) (len_SP fun ts p => by unfold fStir at p; split at p <;> first | rfl | exact False.elim p) (fun cdv A outer s H E hr => x__law_stir  hr) h__law_stir
  have F__law_pairs : FnX P w K mg base 1 "_law_pairs" (SP fLP) := FnX.of (D__law_pairs) Z__law_pairs  m__law_pairs sc__law_pairs (fun _ _ _ _ _ _ us hl => match us, hl with | [_], _ => rfl) (mn_SP _) (len_SP fun ts p => by unfold fLP at p; split at p <;> first | rfl | exact False.elim p) (fun cdv A outer s H E hr => x__law_pairs n_int hr) h__law_pairs
  have F__law_prefix : FnX P w K mg base 1 "_law_prefix" (SP fLPre) := FnX.of (D__law_prefix) Z__law_prefix  m__law_prefix sc__law_prefix (fun _ _ _ _ _ _ us hl => match us, hl with | [_], _ => rfl) (mn_SP _) (len_SP fun ts p => by unfold fLPre at p; split at p <;> first | rfl | exact False.elim p) (fun cdv A outer s H E hr => x__law_prefix n_len n_range hr) h__law_prefix
  have F__law_all : FnX P w K mg base 1 "_law_all" (SP fAllL) := FnX.of (D__law_all_2) Z__law_all  m__law_all sc__law_all (fun _ _ _ _ _ _ us hl => match us, hl with | [_], _ => rfl) (mn_SP _) (len_SP fun ts p => by unfold fAllL at p; split at p <;> first | rfl | exact False.elim p) (fun cdv A outer s H E hr => x__law_all n_len n_range hr) h__law_all_2
  have F__law_after : FnX P w K mg base 1 "_law_after" (SP fAftP) := FnX.of (D__law_after) Z__law_after  m__law_after sc__law_after (fun _ _ _ _ _ _ us hl => match us, hl with | [_, _], _ => rfl) (mn_SP _) (len_SP fun ts p => by unfold fAftP at p; split at p <;> first | rfl | exact False.elim p) (fun cdv A outer s H E hr => x__law_after  hr) h__law_after
  have F_check_row : FnX P w K mg base 2 "check_row" (SP fChk) := FnX.of (D_check_row (SP fIsRow)) Z_check_row  m_check_row sc_check_row (fun _ _ _ _ _ _ us hl => match us, hl with | [_], _ => rfl) (mn_SP _) (len_SP fun ts p => by unfold fChk at p; split at p <;> first | rfl | exact False.elim p) (fun cdv A outer s H E hr => x_check_row F_is_row hr) h_check_row
  have F_is_swap_of : FnX P w K mg base 2 "is_swap_of" (SP fSwOf) := FnX.of (D_is_swap_of (SP fIsInt)) Z_is_swap_of  m_is_swap_of sc_is_swap_of (fun _ _ _ _ _ _ us hl => match us, hl with | [_, _], _ => rfl) (mn_SP _) (len_SP fun ts p => by unfold fSwOf at p; split at p <;> first | rfl | exact False.elim p) (fun cdv A outer s H E hr => x_is_swap_of F_is_integer n_isinstance n_tuple n_len n_all n_abs g_FALL g_RISE hr) h_is_swap_of
  have F__law_draw : FnX P w K mg base 2 "_law_draw" SBag := FnX.of (D__law_draw_2 (SP fStir)) Z__law_draw  m__law_draw sc__law_draw (fun _ _ _ _ _ _ us hl => match us, hl with | [_, _], _ => rfl) mn_SBag (fun _ _ ⟨_, _, _, e, _⟩ => by rw [e]; rfl) (fun cdv A outer s H E hr => x__law_draw F__law_stir n_len hr) h__law_draw_2
  have F__law_counts : FnX P w K mg base 2 "_law_counts" (SP fLC) := FnX.of (D__law_counts_2 (SP fLP)) Z__law_counts  m__law_counts sc__law_counts (fun _ _ _ _ _ _ us hl => match us, hl with | [_], _ => rfl) (mn_SP _) (len_SP fun ts p => by unfold fLC at p; split at p <;> first | rfl | exact False.elim p) (fun cdv A outer s H E hr => x__law_counts F__law_pairs hr) h__law_counts_2
  have F_is_swap : FnX P w K mg base 3 "is_swap" (SP fIsSwap) := FnX.of (D_is_swap (SP fChk) (SP fSwOf)) Z_is_swap  m_is_swap sc_is_swap (fun _ _ _ _ _ _ us hl => match us, hl with | [_, _], _ => rfl) (mn_SP _) (len_SP fun ts p => by unfold fIsSwap at p; split at p <;> first | rfl | exact False.elim p) (fun cdv A outer s H E hr => x_is_swap F_check_row F_is_swap_of hr) h_is_swap
  have F__law_letters : FnX P w K mg base 3 "_law_letters" SLet := FnX.of (D__law_letters SBag) Z__law_letters  m__law_letters sc__law_letters (fun _ _ _ _ _ _ us hl => match us, hl with | [_, _], _ => rfl) mn_SLet (fun _ _ ⟨_, _, _, e, _⟩ => by rw [e]; rfl) (fun cdv A outer s H E hr => x__law_letters F__law_draw n_int n_range n_sorted hr) h__law_letters
  have F_swapped : FnX P w K mg base 4 "swapped" (SP fSwapped) := FnX.of (D_swapped (SP fIsSwap) (SP fAftI)) Z_swapped  m_swapped sc_swapped (fun _ _ _ _ _ _ us hl => match us, hl with | [_, _], _ => rfl) (mn_SP _) (len_SP fun ts p => by unfold fSwapped at p; split at p <;> first | rfl | exact False.elim p) (fun cdv A outer s H E hr => x_swapped F_is_swap F_after_swap hr) h_swapped
  have F__law_right : FnX P w K mg base 5 "_law_right" (SP fRight14) := FnX.of (D__law_right_5 (SP fSwapped) (SP fAftP) (SP fLC) (SP fLPre)) Z__law_right  m__law_right sc__law_right (fun _ _ _ _ _ _ us hl => match us, hl with | [_, _], _ => rfl) (mn_SP _) (len_SP fun ts p => by unfold fRight14 at p; split at p <;> first | rfl | exact False.elim p) (fun cdv A outer s H E hr => x__law_right F_swapped F__law_after F__law_counts F__law_prefix n_list n_zip n_enumerate n_sorted hr) h__law_right_5
  have F_law : FnX P w K mg base 6 "law" SLaw14 := FnX.of (D_law_14 SMake SLet (SP fAllL) (SP fRight14) SBag (SP fSwapped)) Z_law  m_law sc_law (fun _ _ _ _ _ _ us hl => match us, hl with | [_], _ => rfl) mn_SLaw14 (fun _ _ ⟨_, e, _⟩ => by rw [e]; rfl) (fun cdv A outer s H E hr => x_law F__law_bag F__law_letters F__law_all F__law_right F__law_draw F_swapped n_min n_len n_range hr) h_law_14
  exact F_law
end K14
open PySem PySem.W PySem.Calls PyProof.Rows
theorem PySem.Challenge.cw_paircounts_k14_rows_after_double_swaps_holds : PySem.Challenge.rw_paircounts_k14_rows_after_double_swaps.Holds := by
  w_on; o_law
  refine HandSHeadRun.head_any (r := OpenLaw.row PySem.Challenge.rw_paircounts_k14_rows_after_double_swaps) (q := view (OpenLaw.row PySem.Challenge.rw_paircounts_k14_rows_after_double_swaps).prog [27]) (H := K14.hk) (ob := K14.ob) (M := 8000) (loose := ["PairError", "InvalidRow", "InvalidSwap", "MOST_LETTERS", "is_integer", "is_row", "check_row", "FALL", "RISE", "is_swap_of", "after_swap", "is_swap", "swapped", "_law_bag", "_law_stir", "_law_draw", "_law_letters", "_law_pairs", "_law_prefix", "_law_counts", "_law_all", "_law_after", "_law_right"]) (d := HandSHeadRun.topDef (OpenLaw.row PySem.Challenge.rw_paircounts_k14_rows_after_double_swaps).prog 27) (kwd := []) K14.ob_eq
    (by kernel_rfl) (fun s => by kernel_rfl) K14.run (by kernel_rfl) (by kernel_rfl) (by kernel_rfl) (by rfl) (by first | assumption | decide +kernel) (by decide +kernel) ⟨rfl, rfl, rfl, rfl, rfl, by decide +kernel⟩ ?hw ?hc
  case hw => w_witness2
  case hc =>
    refine O.walk_G (l := PySem.Challenge.rw_paircounts_k14_rows_after_double_swaps) (n := 63) (k := 6) (S := O.SLaw14) rfl (by decide) (by kernel_rfl) ⟨⟨rfl, by decide, by decide⟩, rfl⟩ ?F ?hS
    · intro w mg fa h Y G hmg
      obtain ⟨K, KX, c⟩ := Y
      refine ⟨K, KX, fun base _ _ => ?_⟩
      have e : (HandSHeadRun.topDef (OpenLaw.row PySem.Challenge.rw_paircounts_k14_rows_after_double_swaps).prog 27).name = ("law" : PySem.Str) := by kernel_rfl
      rw [e]
      exact K14.facts KX G c
    · exact fun ns hl hb => O.en_SLaw14 ns hl hb
