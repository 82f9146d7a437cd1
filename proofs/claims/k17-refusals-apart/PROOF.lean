import PyProof.Rows.All
import Wide.All
import OpenK.AllK
import Wide.FinOn
import HandS.ForMost
import HandS.Style
import HandS.IsInst
import HandS.Exc
import HandS.ExcOwn
import HandS.TryOnly
import HandS.WordsExc
import HandS.SortInts
import HandS.Head0
import HandS.Head1
import HandS.Head2
import HandS.HeadEnd
import HandS.HeadHook1
import HandS.HeadHook2
import HandS.HeadHook4
import HandS.Defaults
import KE.KExcIs
import HandS.TryMany
import KE.LtData
import HandS.SortRule
import HandS.SetFor
import HandS.ExcInit
import HandS.ExcField
import HandS.Conv
import HandS.HotCalls
import PySem.Challenge.RW_truthtoll_k17_refusals_apart
set_option Elab.async false
set_option linter.all false
set_option maxRecDepth 100000
set_option maxHeartbeats 4000000
/-! Z, part A: plain data D, what it is to stand for data (Is), the state word SS, outcomes Rs, judgements of expressions. -/
namespace Z
open PySem L2
/-! ### data -/
inductive D where
  | non | bl (b : Bool) | int (i : Int) | str (x : Str)
  | lst (ds : List D) | tup (ds : List D)
  | web (n : Int) (ds : List D)
  | scr (ns : List Int)
  | adr (a : Addr)
def webF (n : Int) (r : Addr) : List (Str × V) := putF "roads" (.ref r) (putF "places" (.int n) [])
mutual
inductive Is (K : PySem.W.Frag) (C : Addr) (F : Hp) : V → D → Prop
  | non : Is K C F .non .non
  | bl (b : Bool) : Is K C F (.bl b) (.bl b)
  | int (i : Int) : Is K C F (.int i) (.int i)
  | str (x : Str) : Is K C F (.str x) (.str x)
  | lst {a : Addr} {vs : List V} {ds : List D} : F a = some (.lst vs) → IsA K C F vs ds → Is K C F (.ref a) (.lst ds)
  | tup {a : Addr} {vs : List V} {ds : List D} : F a = some (.tup vs) → IsA K C F vs ds → Is K C F (.ref a) (.tup ds)
  | web {a dx r : Addr} {vs : List V} {ds : List D} {n : Int} : F a = some (.ins C dx (webF n r)) → F dx = some (.own a) → F r = some (.lst vs) → IsA K C F vs ds → Is K C F (.ref a) (.web n ds)
  | scr {a : Addr} {ns : List Int} : SqL K F a (ns.map V.int) → Is K C F (.ref a) (.scr ns)
  | adr (a : Addr) : Is K C F (.ref a) (.adr a)
inductive IsA (K : PySem.W.Frag) (C : Addr) (F : Hp) : List V → List D → Prop
  | nil : IsA K C F [] []
  | cons {v : V} {vs : List V} {d : D} {ds : List D} : Is K C F v d → IsA K C F vs ds → IsA K C F (v :: vs) (d :: ds)
end
section
variable {K : PySem.W.Frag} {C : Addr} {F F' : Hp}
mutual
theorem Is.mono (e : Same F F') : ∀ (d : D) (v : V), Is K C F v d → Is K C F' v d
  | .non, _, h => by cases h; exact .non
  | .bl b, _, h => by cases h; exact .bl b
  | .int i, _, h => by cases h; exact .int i
  | .str x, _, h => by cases h; exact .str x
  | .lst ds, _, h => by
    cases h with
    | lst h1 h2 => exact .lst (e _ _ h1) (IsA.mono e ds _ h2)
  | .tup ds, _, h => by
    cases h with
    | tup h1 h2 => exact .tup (e _ _ h1) (IsA.mono e ds _ h2)
  | .web n ds, _, h => by
    cases h with
    | web h1 h2 h3 h4 => exact .web (e _ _ h1) (e _ _ h2) (e _ _ h3) (IsA.mono e ds _ h4)
  | .scr ns, _, h => by
    cases h with
    | scr h1 => exact .scr (e.seq h1)
  | .adr a, _, h => by cases h; exact .adr a
theorem IsA.mono (e : Same F F') : ∀ (ds : List D) (vs : List V), IsA K C F vs ds → IsA K C F' vs ds
  | [], _, h => by cases h; exact .nil
  | d :: ds, _, h => by
    cases h with
    | cons h1 h2 => exact .cons (Is.mono e d _ h1) (IsA.mono e ds _ h2)
end
theorem IsA.len : ∀ {vs : List V} {ds : List D}, IsA K C F vs ds → vs.length = ds.length
  | _, _, .nil => rfl
  | _, _, .cons _ t => congrArg Nat.succ (IsA.len t)
theorem IsA.get : ∀ {vs : List V} {ds : List D} {i : Nat} {d : D}, IsA K C F vs ds → ds[i]? = some d → ∃ v, vs[i]? = some v ∧ Is K C F v d
  | _, _, _, _, .nil, e => by simp at e
  | _, _, 0, d, .cons h _, e => by
    have e' := Option.some.inj e
    subst e'
    exact ⟨_, rfl, h⟩
  | _, _, i + 1, d, .cons _ t, e => by
    obtain ⟨v, h1, h2⟩ := IsA.get (i := i) (d := d) t (by simpa using e)
    exact ⟨v, by simpa using h1, h2⟩
theorem IsA.at : ∀ {vs : List V} {ds : List D} {i : Nat} {v : V}, IsA K C F vs ds → vs[i]? = some v → ∃ d, ds[i]? = some d ∧ Is K C F v d
  | _, _, _, _, .nil, e => by simp at e
  | _, _, 0, v, .cons h _, e => by
    have e' := Option.some.inj e
    subst e'
    exact ⟨_, rfl, h⟩
  | _, _, i + 1, v, .cons _ t, e => by
    obtain ⟨d, h1, h2⟩ := IsA.at (i := i) (v := v) t (by simpa using e)
    exact ⟨d, by simpa using h1, h2⟩
theorem IsA.append : ∀ {vs ws : List V} {ds es : List D}, IsA K C F vs ds → IsA K C F ws es → IsA K C F (vs ++ ws) (ds ++ es)
  | _, _, _, _, .nil, s => s
  | _, _, _, _, .cons r t, s => .cons r (IsA.append t s)
theorem IsA.take : ∀ {vs : List V} {ds : List D} (n : Nat), IsA K C F vs ds → IsA K C F (vs.take n) (ds.take n)
  | _, _, 0, _ => .nil
  | _, _, _ + 1, .nil => .nil
  | _, _, n + 1, .cons r t => .cons r (IsA.take n t)
theorem IsA.drop : ∀ {vs : List V} {ds : List D} (n : Nat), IsA K C F vs ds → IsA K C F (vs.drop n) (ds.drop n)
  | _, _, 0, r => r
  | _, _, _ + 1, .nil => .nil
  | _, _, n + 1, .cons _ t => IsA.drop n t
theorem IsA.reverse : ∀ {vs : List V} {ds : List D}, IsA K C F vs ds → IsA K C F vs.reverse ds.reverse
  | _, _, .nil => .nil
  | _, _, .cons r t => by
    rw [List.reverse_cons, List.reverse_cons]
    exact (IsA.reverse t).append (.cons r .nil)
theorem IsA.set {v : V} {d : D} (r : Is K C F v d) : ∀ {vs : List V} {ds : List D} (n : Nat), IsA K C F vs ds → IsA K C F (vs.set n v) (ds.set n d)
  | _, _, _, .nil => .nil
  | _, _, 0, .cons _ t => .cons r t
  | _, _, n + 1, .cons q t => .cons q (IsA.set r n t)
theorem IsA.ints : ∀ {ns : List Int} {vs : List V}, IsA K C F vs (ns.map D.int) → vs = ns.map V.int
  | [], _, h => by cases h; rfl
  | n :: ns, _, h => by
    cases h with
    | cons h1 h2 =>
      cases h1
      rw [IsA.ints h2]
      rfl
theorem IsA.bls : ∀ {ns : List Bool} {vs : List V}, IsA K C F vs (ns.map D.bl) → vs = ns.map V.bl
  | [], _, h => by cases h; rfl
  | n :: ns, _, h => by
    cases h with
    | cons h1 h2 =>
      cases h1
      rw [IsA.bls h2]
      rfl
theorem isA_ints : ∀ (ns : List Int), IsA K C F (ns.map V.int) (ns.map D.int)
  | [] => .nil
  | n :: ns => .cons (.int n) (isA_ints ns)
theorem IsA.rep {vs : List V} {ds : List D} (h : IsA K C F vs ds) : ∀ n : Nat, IsA K C F (List.replicate n vs).flatten (List.replicate n ds).flatten
  | 0 => .nil
  | n + 1 => by
    rw [List.replicate_succ, List.replicate_succ, List.flatten_cons, List.flatten_cons]
    exact h.append (IsA.rep h n)
end
/-! ### outcomes -/
inductive Rs (α : Type) where
  | ok (a : α)
  | ex (c : Addr) (r : Option Int)
  | no
def Rs.bind {α β : Type} (o : Rs α) (f : α → Rs β) : Rs β := match o with
  | .ok a => f a
  | .ex c r => .ex c r
  | .no => .no
def Rs.of {α : Type} : Option α → Rs α
  | some a => .ok a
  | none => .no
@[simp] theorem Rs.bind_ok {α β : Type} (a : α) (f : α → Rs β) : (Rs.ok a).bind f = f a := rfl
@[simp] theorem Rs.bind_ex {α β : Type} (c : Addr) (r : Option Int) (f : α → Rs β) : (Rs.ex c r).bind f = .ex c r := rfl
@[simp] theorem Rs.bind_no {α β : Type} (f : α → Rs β) : (Rs.no).bind f = .no := rfl
@[simp] theorem Rs.of_some {α : Type} (a : α) : Rs.of (some a) = .ok a := rfl
@[simp] theorem Rs.of_none {α : Type} : Rs.of (none : Option α) = .no := rfl
/-! ### the state: F is the frozen part of the heap H; P the cells that may still change; T what is held besides the names -/
structure Bs where
  K : PySem.W.Frag
  C : Addr
  F : Hp
  H : Hp
abbrev G := List (Option D)
structure Fz (B : Bs) (g : G) (P : List (Addr × List V)) (T : List (V × D)) (σ : L2.St) (H F : Hp) : Prop where
  eF : Same B.F F
  eH : Same F H
  e0 : Same B.H H
  nw : ∀ p, B.H p ≠ none → B.F p = none → F p = none
  sl : ∀ (i : Nat) (d : D), g[i]? = some (some d) → ∃ v, σ[i]? = some (some v) ∧ Is B.K B.C F v d
  ln : σ.length = g.length
  ts : ∀ x ∈ T, Is B.K B.C F x.1 x.2
  pr : ∀ x ∈ P, F x.1 = none ∧ B.H x.1 = none ∧ H x.1 = some (.lst x.2)
def SS (B : Bs) (g : G) (P : List (Addr × List V)) (T : List (V × D)) (σ : L2.St) (H : Hp) : Prop := ∃ F, Fz B g P T σ H F
section
variable {B : Bs} {g g' : G} {P P' : List (Addr × List V)} {T T' : List (V × D)} {σ σ' : L2.St} {H H2 F F2 : Hp} {v : V} {d : D}
theorem Fz.grow (h : Fz B g P T σ H F) (a : Same F F2) (b : Same F2 H2) (c : Same H H2) (n : ∀ p, H p ≠ none → F p = none → F2 p = none) : Fz B g P T σ H2 F2 where
  eF := h.eF.trans a
  eH := b
  e0 := h.e0.trans c
  nw := fun p hp hf => by
    refine n p (fun z => ?_) (h.nw p hp hf)
    cases q : B.H p with
    | none => exact hp q
    | some o =>
      rw [h.e0 p o q] at z
      cases z
  sl := fun i d e => by
    obtain ⟨v, h1, h2⟩ := h.sl i d e
    exact ⟨v, h1, Is.mono a d v h2⟩
  ln := h.ln
  ts := fun x hx => Is.mono a _ _ (h.ts x hx)
  pr := fun x hx => by
    obtain ⟨h1, h2, h3⟩ := h.pr x hx
    exact ⟨n x.1 (by rw [h3]; exact fun z => nomatch z) h1, h2, c _ _ h3⟩
theorem Fz.addT (h : Fz B g P T σ H F) (i : Is B.K B.C F v d) : Fz B g P ((v, d) :: T) σ H F := by
  have z : ∀ x ∈ (v, d) :: T, Is B.K B.C F x.1 x.2 := fun x hx => by
    rcases List.mem_cons.mp hx with e | e
    · rw [e]
      exact i
    · exact h.ts x e
  exact { h with ts := z }
theorem Fz.sub (h : Fz B g P T σ H F) (t : ∀ x ∈ T', x ∈ T) : Fz B g P T' σ H F := { h with ts := fun x hx => h.ts x (t x hx) }
theorem Fz.subP (h : Fz B g P T σ H F) (t : ∀ x ∈ P', x ∈ P) : Fz B g P' T σ H F := { h with pr := fun x hx => h.pr x (t x hx) }
theorem SS.sub (h : SS B g P T σ H) (t : ∀ x ∈ T', x ∈ T) : SS B g P T' σ H := let ⟨F, f⟩ := h; ⟨F, f.sub t⟩
theorem SS.subP (h : SS B g P T σ H) (t : ∀ x ∈ P', x ∈ P) : SS B g P' T σ H := let ⟨F, f⟩ := h; ⟨F, f.subP t⟩
theorem SS.tail {x : V × D} (h : SS B g P (x :: T) σ H) : SS B g P T σ H := h.sub fun _ m => List.mem_cons_of_mem _ m
theorem Fz.free (h : Fz B g P T σ H F) {p : Addr} (n : H p = none) : F p = none := h.eH.free n
/-- a new thing at p -/
theorem Fz.new (h : Fz B g P T σ H F) {p : Addr} (n : H p = none) (o : HO) : Fz B g P T σ (upd H p o) (upd F p o) := by
  have nf := h.free n
  refine h.grow (fun b u e => ?_) (fun b u e => ?_) (fun b u e => ?_) (fun q hq hf => ?_)
  · rw [upd_ne (ne_of_none e nf)]; exact e
  · by_cases z : b = p
    · subst z
      rw [upd_same] at e ⊢
      exact e
    · rw [upd_ne z] at e ⊢
      exact h.eH b u e
  · rw [upd_ne (ne_of_none e n)]; exact e
  · have z : q ≠ p := fun z => hq (by rw [z]; exact n)
    rw [upd_ne z]
    exact hf
/-- the heap gets a thing that nobody holds yet -/
theorem Fz.mut (h : Fz B g P T σ H F) {p : Addr} (n : H p = none) (o : HO) : Fz B g P T σ (upd H p o) F := by
  refine h.grow (Same.refl F) (fun b u e => ?_) (fun b u e => ?_) (fun q _ hf => hf)
  · have z := h.eH b u e
    rw [upd_ne (ne_of_none z n)]
    exact z
  · rw [upd_ne (ne_of_none e n)]; exact e
abbrev Al (T : List (V × D)) : List V → List D → Prop := Paired fun v d => (v, d) ∈ T
theorem Fz.all (h : Fz B g P T σ H F) : ∀ {vs : List V} {ds : List D}, Al T vs ds → IsA B.K B.C F vs ds
  | _, _, .nil => .nil
  | _, _, .cons r t => .cons (h.ts _ r) (Fz.all h t)
theorem Al.mono (t : ∀ x ∈ T, x ∈ T') : ∀ {vs : List V} {ds : List D}, Al T vs ds → Al T' vs ds
  | _, _, .nil => .nil
  | _, _, .cons r q => .cons (t _ r) (Al.mono t q)
theorem Al.len : ∀ {vs : List V} {ds : List D}, Al T vs ds → vs.length = ds.length
  | _, _, .nil => rfl
  | _, _, .cons _ q => congrArg Nat.succ (Al.len q)
theorem SS.newT (h : SS B g P T σ H) {p : Addr} {vs : List V} {ds : List D} (n : H p = none) (a : Al T vs ds) : SS B g P ((.ref p, .tup ds) :: T) σ (upd H p (.tup vs)) := by
  obtain ⟨F, f⟩ := h
  have f2 := f.new n (.tup vs)
  exact ⟨_, f2.addT (.tup upd_same (f2.all a))⟩
theorem SS.newL (h : SS B g P T σ H) {p : Addr} {vs : List V} {ds : List D} (n : H p = none) (a : Al T vs ds) : SS B g P ((.ref p, .lst ds) :: T) σ (upd H p (.lst vs)) := by
  obtain ⟨F, f⟩ := h
  have f2 := f.new n (.lst vs)
  exact ⟨_, f2.addT (.lst upd_same (f2.all a))⟩
/-- a thing held holds its things -/
theorem SS.addT (h : SS B g P T σ H) (i : ∀ F, Fz B g P T σ H F → Is B.K B.C F v d) : SS B g P ((v, d) :: T) σ H := let ⟨F, f⟩ := h; ⟨F, f.addT (i F f)⟩
end
/-! ### wishes -/
def XOk (H0 : Hp) (E : XK) (c : Addr) : Option Int → Prop
  | none => ∀ H', Same H0 H' → E (.ref c) none H'
  | some r => ∀ d H', Same H0 H' → H0 d = none → H' d = some (.xd [(("road" : Str), .int r)]) → E (.ref c) (some d) H'
def Wish {α : Type} (H0 : Hp) (E : XK) : Rs α → (α → Prop) → Prop
  | .ok a, Q => Q a
  | .ex c r, _ => XOk H0 E c r
  | .no, _ => False
section
variable {α β : Type} {H0 : Hp} {E : XK}
theorem Wish.mono {o : Rs α} {Q Q' : α → Prop} (h : Wish H0 E o Q) (q : ∀ a, Q a → Q' a) : Wish H0 E o Q' := by
  cases o with
  | ok a => exact q a h
  | ex c r => exact h
  | no => exact h
theorem Wish.bind {o : Rs α} {f : α → Rs β} {Q : β → Prop} (h : Wish H0 E (o.bind f) Q) : Wish H0 E o fun a => Wish H0 E (f a) Q := by
  cases o with
  | ok a => exact h
  | ex c r => exact h
  | no => exact h
theorem Wish.of {o : Option α} {Q : α → Prop} (h : Wish H0 E (Rs.of o) Q) : ∃ a, o = some a ∧ Q a := by
  cases o with
  | some a => exact ⟨a, rfl, h⟩
  | none => exact h.elim
end
/-! ### judgements of readings -/
structure EM (K : PySem.W.Frag) (C : Addr) (E : XK) (te : TE) (m : G → Rs D) : Prop where
  run : ∀ F0 H0 g P T σ H Q, SS ⟨K, C, F0, H0⟩ g P T σ H → Wish H0 E (m g) (fun d => ∀ v H', SS ⟨K, C, F0, H0⟩ g P ((v, d) :: T) σ H' → Q v H') → te σ H Q
structure TM (K : PySem.W.Frag) (C : Addr) (E : XK) (tt : TT) (m : G → Rs Bool) : Prop where
  run : ∀ F0 H0 g P T σ H Q, SS ⟨K, C, F0, H0⟩ g P T σ H → Wish H0 E (m g) (fun b => ∀ H', SS ⟨K, C, F0, H0⟩ g P T σ H' → Q b H') → tt σ H Q
structure AM (K : PySem.W.Frag) (C : Addr) (E : XK) (ta : TA) (m : G → Rs (List D)) : Prop where
  run : ∀ F0 H0 g P T σ H Q, SS ⟨K, C, F0, H0⟩ g P T σ H → Wish H0 E (m g) (fun ds => ∀ vs T' H', (∀ x ∈ T, x ∈ T') → Al T' vs ds → SS ⟨K, C, F0, H0⟩ g P T' σ H' → Q vs H') → ta σ H Q
/-- a new list, not frozen yet -/
structure LM (K : PySem.W.Frag) (C : Addr) (E : XK) (te : TE) (m : G → Rs (List D)) : Prop where
  run : ∀ F0 H0 g P T σ H Q, SS ⟨K, C, F0, H0⟩ g P T σ H → Wish H0 E (m g) (fun ds => ∀ p vs T' H', (∀ x ∈ T, x ∈ T') → Al T' vs ds → (∀ x ∈ P, x.1 ≠ p) → SS ⟨K, C, F0, H0⟩ g ((p, vs) :: P) T' σ H' → Q (.ref p) H') → te σ H Q
structure PEM (X : Cx) (K : PySem.W.Frag) (C : Addr) (E : XK) (e : Expr) (te : TE) (m : G → Rs D) : Prop where
  p : PE X e te
  q : EM K C E te m
structure PTM (X : Cx) (K : PySem.W.Frag) (C : Addr) (E : XK) (e : Expr) (tt : TT) (m : G → Rs Bool) : Prop where
  p : PT X e tt
  q : TM K C E tt m
structure PWM (X : Cx) (K : PySem.W.Frag) (C : Addr) (E : XK) (e : Expr) (tt : TT) (m : G → Rs Bool) : Prop where
  p : PW X e tt
  q : TM K C E tt m
structure PAM (X : Cx) (K : PySem.W.Frag) (C : Addr) (E : XK) (es : List Expr) (ta : TA) (m : G → Rs (List D)) : Prop where
  p : PA X es ta
  q : AM K C E ta m
structure PLM (X : Cx) (K : PySem.W.Frag) (C : Addr) (E : XK) (e : Expr) (te : TE) (m : G → Rs (List D)) : Prop where
  p : PE X e te
  q : LM K C E te m
/-! ### mirrors of expressions -/
def mV (i : Nat) : G → Rs D := fun g => match g[i]? with
  | some (some d) => .ok d
  | _ => .no
def mC (d : D) : G → Rs D := fun _ => .ok d
def m1 (f : D → Option D) (a : G → Rs D) : G → Rs D := fun g => (a g).bind fun x => .of (f x)
def m2 (f : D → D → Option D) (a b : G → Rs D) : G → Rs D := fun g => (a g).bind fun x => (b g).bind fun y => .of (f x y)
def mNil : G → Rs (List D) := fun _ => .ok []
def mCons (a : G → Rs D) (r : G → Rs (List D)) : G → Rs (List D) := fun g => (a g).bind fun x => (r g).bind fun xs => .ok (x :: xs)
def mA (f : List D → Option D) (a : G → Rs (List D)) : G → Rs D := fun g => (a g).bind fun xs => .of (f xs)
def mCall (f : List D → Rs D) (a : G → Rs (List D)) : G → Rs D := fun g => (a g).bind f
def mTup (a : G → Rs (List D)) : G → Rs D := fun g => (a g).bind fun xs => .ok (.tup xs)
def mLst (a : G → Rs (List D)) : G → Rs D := fun g => (a g).bind fun xs => .ok (.lst xs)
def mT (a : G → Rs D) : G → Rs Bool := fun g => (a g).bind fun x => match x with
  | .bl b => .ok b
  | _ => .no
def mAnd (a b : G → Rs Bool) : G → Rs Bool := fun g => (a g).bind fun x => if x = true then b g else .ok false
def mOr (a b : G → Rs Bool) : G → Rs Bool := fun g => (a g).bind fun x => if x = true then .ok true else b g
def mNot (a : G → Rs Bool) : G → Rs Bool := fun g => (a g).bind fun x => .ok (!x)
def mB (a : G → Rs Bool) : G → Rs D := fun g => (a g).bind fun b => .ok (.bl b)
def mIf (c : G → Rs Bool) (a b : G → Rs D) : G → Rs D := fun g => (c g).bind fun x => if x = true then a g else b g
section
variable {K : PySem.W.Frag} {C : Addr} {E : XK} {te ta tb : TE} {m ma mb : G → Rs D}
theorem em_v (i : Nat) : EM K C E (tVar i) (mV i) := ⟨fun F0 H0 g P T σ H Q S h => by
  unfold mV at h
  split at h
  · rename_i d e
    obtain ⟨F, f⟩ := S
    obtain ⟨v, h1, h2⟩ := f.sl i d e
    exact ⟨v, h1, h v H ⟨F, f.addT h2⟩⟩
  · exact h.elim⟩
theorem em_c {v : V} {d : D} (hi : ∀ F, Is K C F v d) : EM K C E (tC v) (mC d) := ⟨fun F0 H0 g P T σ H Q S h => h v H (S.addT fun F _ => hi F)⟩
def R1M (K : PySem.W.Frag) (C : Addr) (r : V → Hp → VK → Prop) (f : D → Option D) : Prop := ∀ F0 H0 g P T σ H (Q : VK) x dx d, SS ⟨K, C, F0, H0⟩ g P T σ H → (x, dx) ∈ T → f dx = some d → (∀ v H', SS ⟨K, C, F0, H0⟩ g P ((v, d) :: T) σ H' → Q v H') → r x H Q
def R2M (K : PySem.W.Frag) (C : Addr) (r : R2) (f : D → D → Option D) : Prop := ∀ F0 H0 g P T σ H (Q : VK) x y dx dy d, SS ⟨K, C, F0, H0⟩ g P T σ H → (x, dx) ∈ T → (y, dy) ∈ T → f dx dy = some d → (∀ v H', SS ⟨K, C, F0, H0⟩ g P ((v, d) :: T) σ H' → Q v H') → r x y H Q
def RAM (K : PySem.W.Frag) (C : Addr) (r : List V → Hp → VK → Prop) (f : List D → Option D) : Prop := ∀ F0 H0 g P T σ H (Q : VK) xs ds d, SS ⟨K, C, F0, H0⟩ g P T σ H → Al T xs ds → f ds = some d → (∀ v H', SS ⟨K, C, F0, H0⟩ g P ((v, d) :: T) σ H' → Q v H') → r xs H Q
theorem em_1 {r : V → Hp → VK → Prop} {f : D → Option D} (hr : R1M K C r f) (a : EM K C E ta ma) : EM K C E (tUn r ta) (m1 f ma) := ⟨fun F0 H0 g P T σ H Q S h =>
  a.run F0 H0 g P T σ H _ S (h.bind.mono fun x hx v H' S1 => by
    obtain ⟨d, e, q⟩ := hx.of
    exact hr F0 H0 g P _ σ H' Q v x d S1 List.mem_cons_self e fun v2 H2 S2 => q v2 H2 (S2.sub fun z hz => by
      rcases List.mem_cons.mp hz with e | e
      · exact List.mem_cons.mpr (.inl e)
      · exact List.mem_cons_of_mem _ (List.mem_cons_of_mem _ e)))⟩
theorem em_2 {r : R2} {f : D → D → Option D} (hr : R2M K C r f) (a : EM K C E ta ma) (b : EM K C E tb mb) : EM K C E (tOp r ta tb) (m2 f ma mb) := ⟨fun F0 H0 g P T σ H Q S h =>
  a.run F0 H0 g P T σ H _ S (h.bind.mono fun x hx v H' S1 => b.run F0 H0 g P _ σ H' _ S1 (hx.bind.mono fun y hy v' H'' S2 => by
    obtain ⟨d, e, q⟩ := hy.of
    exact hr F0 H0 g P _ σ H'' Q v v' x y d S2 (List.mem_cons_of_mem _ List.mem_cons_self) List.mem_cons_self e fun v2 H2 S3 => q v2 H2 (S3.sub fun z hz => by
      rcases List.mem_cons.mp hz with e | e
      · exact List.mem_cons.mpr (.inl e)
      · exact List.mem_cons_of_mem _ (List.mem_cons_of_mem _ (List.mem_cons_of_mem _ e)))))⟩
theorem am_nil : AM K C E tNil mNil := ⟨fun F0 H0 g P T σ H Q S h => h [] T H (fun _ z => z) .nil S⟩
theorem am_cons {tr : TA} {mr : G → Rs (List D)} (a : EM K C E ta ma) (r : AM K C E tr mr) : AM K C E (tCons ta tr) (mCons ma mr) := ⟨fun F0 H0 g P T σ H Q S h =>
  a.run F0 H0 g P T σ H _ S (h.bind.mono fun x hx v H' S1 => r.run F0 H0 g P _ σ H' _ S1 (hx.bind.mono fun xs hxs vs T' H'' ht al S2 =>
    hxs (v :: vs) T' H'' (fun z hz => ht z (List.mem_cons_of_mem _ hz)) (.cons (ht _ List.mem_cons_self) al) S2))⟩
theorem em_cb {r : List V → Hp → VK → Prop} {f : List D → Option D} {t : TA} {ms : G → Rs (List D)} (hr : RAM K C r f) (a : AM K C E t ms) : EM K C E (tCB r t) (mA f ms) := ⟨fun F0 H0 g P T σ H Q S h =>
  a.run F0 H0 g P T σ H _ S (h.bind.mono fun xs hx vs T' H' ht al S1 => by
    obtain ⟨d, e, q⟩ := hx.of
    exact hr F0 H0 g P _ σ H' Q vs xs d S1 al e fun v2 H2 S2 => q v2 H2 (S2.sub fun z hz => by
      rcases List.mem_cons.mp hz with e | e
      · exact List.mem_cons.mpr (.inl e)
      · exact List.mem_cons_of_mem _ (ht z e)))⟩
theorem em_tup {t : TA} {ms : G → Rs (List D)} (a : AM K C E t ms) (hl : ∀ g ds, ms g = .ok ds → ds.length ≤ 1000) : EM K C E (tTup t) (mTup ms) := ⟨fun F0 H0 g P T σ H Q S h =>
  a.run F0 H0 g P T σ H _ S (by
    unfold mTup at h
    cases e : ms g with
    | ok ds =>
      rw [e] at h
      show ∀ vs T' H', _ → _ → _ → _
      intro vs T' H' ht al S1
      refine ⟨by rw [al.len]; exact Nat.le_of_lt (small1000 (hl g ds e)), fun p hp => ?_⟩
      exact h _ _ ((S1.newT hp al).sub fun z hz => by
        rcases List.mem_cons.mp hz with e | e
        · exact List.mem_cons.mpr (.inl e)
        · exact List.mem_cons_of_mem _ (ht z e))
    | ex c r =>
      rw [e] at h
      exact h
    | no =>
      rw [e] at h
      exact h)⟩
/-- a new list that one holds -/
theorem em_l {ms : G → Rs (List D)} (a : LM K C E te ms) : EM K C E te (mLst ms) := ⟨fun F0 H0 g P T σ H Q S h =>
  a.run F0 H0 g P T σ H _ S (h.bind.mono fun ds hd p vs T' H' ht al hp S1 => by
    obtain ⟨F, f⟩ := S1
    obtain ⟨p1, p2, p3⟩ := f.pr (p, vs) List.mem_cons_self
    have f' : Fz ⟨K, C, F0, H0⟩ g P T' σ H' F := f.subP fun z hz => List.mem_cons_of_mem _ hz
    have f2 : Fz ⟨K, C, F0, H0⟩ g P T' σ H' (upd F p (.lst vs)) :=
      { eF := fun b u e => by
          have z := f'.eF b u e
          rw [upd_ne (ne_of_none z p1)]
          exact z
        eH := fun b u e => by
          by_cases z : b = p
          · subst z
            rw [upd_same] at e
            rw [← e]
            exact p3
          · rw [upd_ne z] at e
            exact f'.eH b u e
        e0 := f'.e0
        nw := fun q hq hf => by
          have z : q ≠ p := fun z => hq (by rw [z]; exact p2)
          rw [upd_ne z]
          exact f'.nw q hq hf
        sl := fun i d e => by
          obtain ⟨v, h1, h2⟩ := f'.sl i d e
          exact ⟨v, h1, Is.mono (fun b u e => by rw [upd_ne (ne_of_none e p1)]; exact e) d v h2⟩
        ln := f'.ln
        ts := fun x hx => Is.mono (fun b u e => by rw [upd_ne (ne_of_none e p1)]; exact e) _ _ (f'.ts x hx)
        pr := fun x hx => by
          obtain ⟨q1, q2, q3⟩ := f'.pr x hx
          exact ⟨by rw [upd_ne (hp x hx)]; exact q1, q2, q3⟩ }
    exact hd _ _ ⟨_, (f2.addT (.lst upd_same (f2.all al))).sub fun z hz => by
      rcases List.mem_cons.mp hz with e | e
      · exact List.mem_cons.mpr (.inl e)
      · exact List.mem_cons_of_mem _ (ht z e)⟩)⟩
theorem lm_new {P : List (Addr × List V)} {g : G} {T : List (V × D)} {σ : L2.St} {H : Hp} {B : Bs} {p : Addr} (S : SS B g P T σ H) (n : H p = none) (vs : List V) : (∀ x ∈ P, x.1 ≠ p) ∧ SS B g ((p, vs) :: P) T σ (upd H p (.lst vs)) := by
  obtain ⟨F, f⟩ := S
  refine ⟨fun x hx z => ?_, F, ?_⟩
  · obtain ⟨_, _, q3⟩ := f.pr x hx
    rw [z, n] at q3
    cases q3
  · have f2 := f.mut n (.lst vs)
    have z : ∀ x ∈ (p, vs) :: P, F x.1 = none ∧ B.H x.1 = none ∧ (upd H p (.lst vs)) x.1 = some (.lst x.2) := fun x hx => by
      rcases List.mem_cons.mp hx with e | e
      · subst e
        exact ⟨f.free n, f.e0.free n, upd_same⟩
      · exact f2.pr x e
    exact { f2 with pr := z }
theorem lm_lst {t : TA} {ms : G → Rs (List D)} (a : AM K C E t ms) (hl : ∀ g ds, ms g = .ok ds → ds.length ≤ 1000) : LM K C E (tLst t) ms := ⟨fun F0 H0 g P T σ H Q S h =>
  a.run F0 H0 g P T σ H _ S (by
    cases e : ms g with
    | ok ds =>
      rw [e] at h
      show ∀ vs T' H', _ → _ → _ → _
      intro vs T' H' ht al S1
      refine ⟨by rw [al.len]; exact Nat.le_of_lt (small1000 (hl g ds e)), fun p hp => ?_⟩
      obtain ⟨h1, h2⟩ := lm_new S1 hp vs
      exact h p vs T' _ ht al h1 h2
    | ex c r =>
      rw [e] at h
      exact h
    | no =>
      rw [e] at h
      exact h)⟩
theorem tm_t (a : EM K C E ta ma) : TM K C E (tTest ta) (mT ma) := ⟨fun F0 H0 g P T σ H Q S h =>
  a.run F0 H0 g P T σ H _ S (h.bind.mono fun d hd v H' S1 => by
    cases d with
    | bl b =>
      have hv : v = .bl b := by
        obtain ⟨F, f⟩ := S1
        have i := f.ts (v, .bl b) List.mem_cons_self
        cases i
        rfl
      exact ⟨b, hv, hd H' S1.tail⟩
    | non => exact hd.elim
    | int i => exact hd.elim
    | str x => exact hd.elim
    | lst x => exact hd.elim
    | tup x => exact hd.elim
    | web n x => exact hd.elim
    | scr x => exact hd.elim
    | adr x => exact hd.elim)⟩
theorem tm_or {t u : TT} {a b : G → Rs Bool} (h1 : TM K C E t a) (h2 : TM K C E u b) : TM K C E (tOr t u) (mOr a b) := ⟨fun F0 H0 g P T σ H Q S h =>
  h1.run F0 H0 g P T σ H _ S (h.bind.mono fun c hc H' S1 => by
    cases c with
    | true => exact hc H' S1
    | false => exact h2.run F0 H0 g P T σ H' _ S1 hc)⟩
theorem tm_not {t : TT} {a : G → Rs Bool} (h1 : TM K C E t a) : TM K C E (tNot t) (mNot a) := ⟨fun F0 H0 g P T σ H Q S h =>
  h1.run F0 H0 g P T σ H _ S (h.bind.mono fun c hc H' S1 => hc H' S1)⟩
theorem em_if {t : TT} {c : G → Rs Bool} (h1 : TM K C E t c) (a : EM K C E ta ma) (b : EM K C E tb mb) : EM K C E (tIf t ta tb) (mIf c ma mb) := ⟨fun F0 H0 g P T σ H Q S h =>
  h1.run F0 H0 g P T σ H _ S (h.bind.mono fun c hc H' S1 => by
    cases c with
    | true => exact a.run F0 H0 g P T σ H' _ S1 hc
    | false => exact b.run F0 H0 g P T σ H' _ S1 hc)⟩
end
end Z
set_option Elab.async false
set_option linter.all false
set_option maxRecDepth 100000
set_option maxHeartbeats 4000000
/-! Z, part B: the operations upon data, each with its rule of the hand layer. -/
namespace Z
open PySem L2
def LIM : Nat := 1000000
theorem lim_ok {n : Nat} (h : n ≤ LIM) : n ≤ sizeLine := Nat.le_trans h (by decide)
theorem lim_lt {n : Nat} (h : n ≤ LIM) : n < sizeLine := Nat.lt_of_le_of_lt h (by decide)
/-! ### reading data -/
def asInts : List D → Option (List Int)
  | [] => some []
  | .int i :: r => (asInts r).map (i :: ·)
  | _ :: _ => none
def asBls : List D → Option (List Bool)
  | [] => some []
  | .bl i :: r => (asBls r).map (i :: ·)
  | _ :: _ => none
@[simp] theorem asInts_map : ∀ ns : List Int, asInts (ns.map D.int) = some ns
  | [] => rfl
  | n :: r => by
    show (asInts (r.map D.int)).map (n :: ·) = some (n :: r)
    rw [asInts_map r]
    rfl
@[simp] theorem asBls_map : ∀ ns : List Bool, asBls (ns.map D.bl) = some ns
  | [] => rfl
  | n :: r => by
    show (asBls (r.map D.bl)).map (n :: ·) = some (n :: r)
    rw [asBls_map r]
    rfl
theorem asInts_some : ∀ {ds : List D} {ns : List Int}, asInts ds = some ns → ds = ns.map D.int
  | [], ns, h => by cases h; rfl
  | .int i :: r, ns, h => by
    unfold asInts at h
    cases e : asInts r with
    | none => rw [e] at h; cases h
    | some ms =>
      rw [e] at h
      cases h
      rw [asInts_some e]
      rfl
  | .non :: _, _, h => by cases h
  | .bl _ :: _, _, h => by cases h
  | .str _ :: _, _, h => by cases h
  | .lst _ :: _, _, h => by cases h
  | .tup _ :: _, _, h => by cases h
  | .web _ _ :: _, _, h => by cases h
  | .scr _ :: _, _, h => by cases h
theorem asBls_some : ∀ {ds : List D} {ns : List Bool}, asBls ds = some ns → ds = ns.map D.bl
  | [], ns, h => by cases h; rfl
  | .bl i :: r, ns, h => by
    unfold asBls at h
    cases e : asBls r with
    | none => rw [e] at h; cases h
    | some ms =>
      rw [e] at h
      cases h
      rw [asBls_some e]
      rfl
  | .non :: _, _, h => by cases h
  | .int _ :: _, _, h => by cases h
  | .str _ :: _, _, h => by cases h
  | .lst _ :: _, _, h => by cases h
  | .tup _ :: _, _, h => by cases h
  | .web _ _ :: _, _, h => by cases h
  | .scr _ :: _, _, h => by cases h
section
variable {K : PySem.W.Frag} {C : Addr} {B : Bs} {g : G} {P : List (Addr × List V)} {T : List (V × D)} {σ : L2.St} {H F : Hp}
theorem Fz.newL (f : Fz B g P T σ H F) {p : Addr} {vs : List V} {ds : List D} (n : H p = none) (a : IsA B.K B.C F vs ds) : SS B g P ((.ref p, .lst ds) :: T) σ (upd H p (.lst vs)) := by
  have f2 := f.new n (.lst vs)
  refine ⟨_, f2.addT (.lst upd_same (IsA.mono (fun b u e => ?_) ds vs a))⟩
  rw [upd_ne (ne_of_none e (f.free n))]
  exact e
theorem Fz.newT (f : Fz B g P T σ H F) {p : Addr} {vs : List V} {ds : List D} (n : H p = none) (a : IsA B.K B.C F vs ds) : SS B g P ((.ref p, .tup ds) :: T) σ (upd H p (.tup vs)) := by
  have f2 := f.new n (.tup vs)
  refine ⟨_, f2.addT (.tup upd_same (IsA.mono (fun b u e => ?_) ds vs a))⟩
  rw [upd_ne (ne_of_none e (f.free n))]
  exact e
theorem Fz.sqL (f : Fz B g P T σ H F) {a : Addr} {vs : List V} (h : F a = some (.lst vs)) : SqL B.K H a vs := .inl (.inl (f.eH _ _ h))
theorem Fz.sqT (f : Fz B g P T σ H F) {a : Addr} {vs : List V} (h : F a = some (.tup vs)) : SqT B.K H a vs := .inl (.inl (f.eH _ _ h))
theorem IsA.atI {vs : List V} {ds : List D} {i : Int} {d : D} (h : IsA K C F vs ds) (e : atI ds i = some d) : ∃ v, atI vs i = some v ∧ Is K C F v d := by
  unfold L2.atI at e ⊢
  rw [h.len]
  cases q : ixN ds.length i with
  | none => rw [q] at e; cases e
  | some j =>
    rw [q] at e
    exact h.get e
end
/-! ### + - * // % ** -/
def dAdd : D → D → Option D
  | .int i, .int j => some (.int (i + j))
  | .lst a, .lst b => if a.length + b.length ≤ LIM then some (.lst (a ++ b)) else none
  | _, _ => none
def dSub : D → D → Option D
  | .int i, .int j => some (.int (i - j))
  | _, _ => none
def dMod : D → D → Option D
  | .int i, .int j => if 0 < j then some (.int (i % j)) else none
  | _, _ => none
def dNeg : D → Option D
  | .int i => some (.int (-i))
  | _ => none
abbrev rAdd2 : R2 := fun x y H Q => rI0 (fun i j => .int (i + j)) x y H Q ∨ rCat x y H Q
abbrev rMul2 : R2 := fun x y H Q => rI CMul (fun i j => .int (i * j)) x y H Q ∨ rRep x y H Q
section
variable {K : PySem.W.Frag} {C : Addr}
theorem r_add : R2M K C rAdd2 dAdd := by
  intro F0 H0 g P T σ H Q x y dx dy d S hx hy e q
  obtain ⟨F, f⟩ := S
  have ix := f.ts _ hx
  have iy := f.ts _ hy
  unfold dAdd at e
  split at e
  · cases ix
    cases iy
    cases e
    exact .inl ⟨_, _, rfl, rfl, q _ H ⟨F, f.addT (.int _)⟩⟩
  · split at e
    · rename_i hl
      cases e
      cases ix with
      | lst ha hb =>
        cases iy with
        | lst hc hd =>
          refine .inr ⟨_, _, _, _, rfl, rfl, f.eH _ _ ha, f.eH _ _ hc, ?_, fun p hp => q _ _ (f.newL hp (hb.append hd))⟩
          rw [hb.len, hd.len]
          exact lim_ok hl
    · cases e
  · cases e
theorem r_sub : R2M K C (rI0 fun i j => .int (i - j)) dSub := by
  intro F0 H0 g P T σ H Q x y dx dy d S hx hy e q
  obtain ⟨F, f⟩ := S
  have ix := f.ts _ hx
  have iy := f.ts _ hy
  unfold dSub at e
  split at e
  · cases ix
    cases iy
    cases e
    exact ⟨_, _, rfl, rfl, q _ H ⟨F, f.addT (.int _)⟩⟩
  · cases e
theorem r_mod : R2M K C (rI (fun _ j => 0 < j) fun i j => .int (i % j)) dMod := by
  intro F0 H0 g P T σ H Q x y dx dy d S hx hy e q
  obtain ⟨F, f⟩ := S
  have ix := f.ts _ hx
  have iy := f.ts _ hy
  unfold dMod at e
  split at e
  · split at e
    · rename_i hc
      cases ix
      cases iy
      cases e
      exact ⟨_, _, rfl, rfl, hc, q _ H ⟨F, f.addT (.int _)⟩⟩
    · cases e
  · cases e
theorem r_neg : R1M K C (rU fun i => .int (-i)) dNeg := by
  intro F0 H0 g P T σ H Q x dx d S hx e q
  obtain ⟨F, f⟩ := S
  have ix := f.ts _ hx
  unfold dNeg at e
  split at e
  · cases ix
    cases e
    exact ⟨_, rfl, q _ H ⟨F, f.addT (.int _)⟩⟩
  · cases e
/-! ### subscripts, slices -/
def dIx : D → D → Option D
  | .lst ds, .int i => atI ds i
  | .tup ds, .int i => atI ds i
  | .scr ns, .int i => (atI ns i).map D.int
  | _, _ => none
abbrev rIx2 (K : PySem.W.Frag) : R2 := fun x y H Q => rIxL K x y H Q ∨ rIxT K x y H Q
theorem r_ix : R2M K C (rIx2 K) dIx := by
  intro F0 H0 g P T σ H Q x y dx dy d S hx hy e q
  obtain ⟨F, f⟩ := S
  have ix := f.ts _ hx
  have iy := f.ts _ hy
  unfold dIx at e
  split at e
  · cases iy
    cases ix with
    | lst ha hb =>
      obtain ⟨v, h1, h2⟩ := hb.atI e
      exact .inl ⟨_, _, _, _, rfl, rfl, f.sqL ha, h1, q _ H ⟨F, f.addT h2⟩⟩
  · cases iy
    cases ix with
    | tup ha hb =>
      obtain ⟨v, h1, h2⟩ := hb.atI e
      exact .inr ⟨_, _, _, _, rfl, rfl, f.sqT ha, h1, q _ H ⟨F, f.addT h2⟩⟩
  · rename_i ns i
    cases iy
    cases ix with
    | scr ha =>
      cases e2 : atI ns i with
      | none => rw [e2] at e; cases e
      | some n =>
        rw [e2] at e
        cases e
        have e3 : atI (ns.map V.int) i = some (.int n) := by
          unfold L2.atI at e2 ⊢
          rw [List.length_map]
          cases q2 : ixN ns.length i with
          | none => rw [q2] at e2; cases e2
          | some j =>
            rw [q2] at e2
            show (ns.map V.int)[j]? = some (.int n)
            rw [List.getElem?_map, show ns[j]? = some n from e2]
            rfl
        exact .inl ⟨_, _, _, _, rfl, rfl, (f.eH.seq ha), e3, q _ H ⟨F, f.addT (.int _)⟩⟩
  · cases e
def cutD {α : Type} (xs : List α) (lo hi : Option Int) : List α := (xs.drop (HT.sIx xs.length 0 lo)).take (HT.sIx xs.length xs.length hi - HT.sIx xs.length 0 lo)
theorem IsA.cut {vs : List V} {ds : List D} {F : Hp} (h : IsA K C F vs ds) (lo hi : Option Int) : IsA K C F (cutV vs lo hi) (cutD ds lo hi) := by
  unfold cutV cutD
  rw [h.len]
  exact (h.drop _).take _
def dSl : D → Option Int → Option Int → Option D
  | .lst ds, lo, hi => some (.lst (cutD ds lo hi))
  | _, _, _ => none
/-- the parts of a slice -/
structure OM (K : PySem.W.Frag) (C : Addr) (E : XK) (to : TO) (m : G → Rs (Option Int)) : Prop where
  run : ∀ F0 H0 g P T σ H Q, SS ⟨K, C, F0, H0⟩ g P T σ H → Wish H0 E (m g) (fun o => ∀ H', SS ⟨K, C, F0, H0⟩ g P T σ H' → Q o H') → to σ H Q
structure POM (X : Cx) (K : PySem.W.Frag) (C : Addr) (E : XK) (e : Option Expr) (to : TO) (m : G → Rs (Option Int)) : Prop where
  p : PO X e to
  q : OM K C E to m
def mN : G → Rs (Option Int) := fun _ => .ok none
def mS (a : G → Rs D) : G → Rs (Option Int) := fun g => (a g).bind fun x => match x with
  | .int i => .ok (some i)
  | _ => .no
def mSl (a : G → Rs D) (lo hi : G → Rs (Option Int)) : G → Rs D := fun g => (a g).bind fun x => (lo g).bind fun l => (hi g).bind fun h => .of (dSl x l h)
variable {E : XK} {te ta tb tc : TE} {m ma mb mc : G → Rs D}
theorem om_n : OM K C E tNoPart mN := ⟨fun F0 H0 g P T σ H Q S h => h H S⟩
theorem om_s (a : EM K C E ta ma) : OM K C E (tPart ta) (mS ma) := ⟨fun F0 H0 g P T σ H Q S h =>
  a.run F0 H0 g P T σ H _ S (h.bind.mono fun d hd v H' S1 => by
    cases d with
    | int i =>
      have hv : v = .int i := by
        obtain ⟨F, f⟩ := S1
        have z := f.ts (v, .int i) List.mem_cons_self
        cases z
        rfl
      exact ⟨i, hv, hd H' S1.tail⟩
    | bl b => exact hd.elim
    | non => exact hd.elim
    | str x => exact hd.elim
    | lst x => exact hd.elim
    | tup x => exact hd.elim
    | web n x => exact hd.elim
    | scr x => exact hd.elim
    | adr x => exact hd.elim)⟩
theorem em_sl {tl th : TO} {ml mh : G → Rs (Option Int)} (a : EM K C E ta ma) (l : OM K C E tl ml) (h : OM K C E th mh) : EM K C E (tSl (rSlL K) ta tl th) (mSl ma ml mh) := ⟨fun F0 H0 g P T σ H Q S w =>
  a.run F0 H0 g P T σ H _ S (w.bind.mono fun x hx v H' S1 => l.run F0 H0 g P _ σ H' _ S1 (hx.bind.mono fun lo hlo H2 S2 => h.run F0 H0 g P _ σ H2 _ S2 (hlo.bind.mono fun hi hhi H3 S3 => by
    obtain ⟨d, e, q⟩ := hhi.of
    obtain ⟨F, f⟩ := S3
    have ix := f.ts _ List.mem_cons_self
    unfold dSl at e
    split at e
    · cases e
      cases ix with
      | lst ha hb => exact ⟨_, _, rfl, f.sqL ha, fun p hp => q _ _ ((f.newL hp (hb.cut lo hi)).sub fun z hz => by
          rcases List.mem_cons.mp hz with e | e
          · exact List.mem_cons.mpr (.inl e)
          · exact List.mem_cons_of_mem _ (List.mem_cons_of_mem _ e))⟩
    · cases e)))⟩
/-- xs[::-1] -/
def dRev : D → Option D
  | .lst ds => some (.lst ds.reverse)
  | _ => none
/-! ### comparisons -/
def dLt : D → D → Option D
  | .int i, .int j => some (.bl (decide (i < j)))
  | _, _ => none
def dLe : D → D → Option D
  | .int i, .int j => some (.bl (decide (i ≤ j)))
  | _, _ => none
def dGt : D → D → Option D
  | .int i, .int j => some (.bl (decide (j < i)))
  | _, _ => none
def dGe : D → D → Option D
  | .int i, .int j => some (.bl (decide (j ≤ i)))
  | _, _ => none
theorem r_lt : R2M K C (rI0 fun i j => .bl (decide (i < j))) dLt := by
  intro F0 H0 g P T σ H Q x y dx dy d S hx hy e q
  obtain ⟨F, f⟩ := S
  have ix := f.ts _ hx
  have iy := f.ts _ hy
  unfold dLt at e
  split at e
  · cases ix
    cases iy
    cases e
    exact ⟨_, _, rfl, rfl, q _ H ⟨F, f.addT (.bl _)⟩⟩
  · cases e
theorem r_le : R2M K C (rI0 fun i j => .bl (decide (i ≤ j))) dLe := by
  intro F0 H0 g P T σ H Q x y dx dy d S hx hy e q
  obtain ⟨F, f⟩ := S
  have ix := f.ts _ hx
  have iy := f.ts _ hy
  unfold dLe at e
  split at e
  · cases ix
    cases iy
    cases e
    exact ⟨_, _, rfl, rfl, q _ H ⟨F, f.addT (.bl _)⟩⟩
  · cases e
theorem r_gt : R2M K C (rI0 fun i j => .bl (decide (j < i))) dGt := by
  intro F0 H0 g P T σ H Q x y dx dy d S hx hy e q
  obtain ⟨F, f⟩ := S
  have ix := f.ts _ hx
  have iy := f.ts _ hy
  unfold dGt at e
  split at e
  · cases ix
    cases iy
    cases e
    exact ⟨_, _, rfl, rfl, q _ H ⟨F, f.addT (.bl _)⟩⟩
  · cases e
theorem r_ge : R2M K C (rI0 fun i j => .bl (decide (j ≤ i))) dGe := by
  intro F0 H0 g P T σ H Q x y dx dy d S hx hy e q
  obtain ⟨F, f⟩ := S
  have ix := f.ts _ hx
  have iy := f.ts _ hy
  unfold dGe at e
  split at e
  · cases ix
    cases iy
    cases e
    exact ⟨_, _, rfl, rfl, q _ H ⟨F, f.addT (.bl _)⟩⟩
  · cases e
mutual
def toP : D → Option PyData
  | .non => some .none
  | .bl b => some (.bool b)
  | .int i => some (.int i)
  | .str x => some (.str x)
  | .lst ds => (toPs ds).map PyData.list
  | .tup ds => (toPs ds).map PyData.tuple
  | .web _ _ => none
  | .scr _ => none
  | .adr _ => none
def toPs : List D → Option (List PyData)
  | [] => some []
  | d :: ds => (toP d).bind fun p => (toPs ds).map (p :: ·)
end
mutual
theorem Is.dp {F H : Hp} (e : Same F H) : ∀ (d : D) (v : V) (p : PyData), Is K C F v d → toP d = some p → Dp K H v p
  | .non, _, _, h, q => by cases h; cases q; exact .non
  | .bl b, _, _, h, q => by cases h; cases q; exact .bl b
  | .int i, _, _, h, q => by cases h; cases q; exact .int i
  | .str x, _, _, h, q => by cases h; cases q; exact .str x
  | .lst ds, _, p, h, q => by
    cases h with
    | lst h1 h2 =>
      unfold toP at q
      cases e2 : toPs ds with
      | none => rw [e2] at q; cases q
      | some ps =>
        rw [e2] at q
        cases q
        exact .lst (.inl (.inl (e _ _ h1))) (IsA.dp e ds _ ps h2 e2)
  | .tup ds, _, p, h, q => by
    cases h with
    | tup h1 h2 =>
      unfold toP at q
      cases e2 : toPs ds with
      | none => rw [e2] at q; cases q
      | some ps =>
        rw [e2] at q
        cases q
        exact .tup (.inl (.inl (e _ _ h1))) (IsA.dp e ds _ ps h2 e2)
  | .web n ds, _, _, h, q => by cases q
  | .scr ns, _, _, h, q => by cases q
  | .adr a, _, _, h, q => by cases q
theorem IsA.dp {F H : Hp} (e : Same F H) : ∀ (ds : List D) (vs : List V) (ps : List PyData), IsA K C F vs ds → toPs ds = some ps → DpAll K H vs ps
  | [], _, _, h, q => by cases h; cases q; exact .nil
  | d :: ds, _, ps, h, q => by
    cases h with
    | cons h1 h2 =>
      unfold toPs at q
      cases e1 : toP d with
      | none => rw [e1] at q; cases q
      | some p =>
        rw [e1] at q
        cases e2 : toPs ds with
        | none => rw [e2] at q; cases q
        | some qs =>
          rw [e2] at q
          cases q
          exact .cons (Is.dp e d _ p h1 e1) (IsA.dp e ds _ qs h2 e2)
end
def deq (x y : D) : Option Bool := match toP x, toP y with
  | some p, some q => if SeqAt.shaped p = true ∧ SeqAt.shaped q = true then some (PyData.eqv p q) else none
  | _, _ => none
def dEq (x y : D) : Option D := (deq x y).map D.bl
def dNe (x y : D) : Option D := (deq x y).map fun b => D.bl (!b)
theorem deq_some {x y : D} {b : Bool} (h : deq x y = some b) : ∃ p q, toP x = some p ∧ toP y = some q ∧ SeqAt.shaped p = true ∧ SeqAt.shaped q = true ∧ b = PyData.eqv p q := by
  unfold deq at h
  split at h
  · rename_i p q e1 e2
    split at h
    · rename_i hc
      cases h
      exact ⟨p, q, e1, e2, hc.1, hc.2, rfl⟩
    · cases h
  · cases h
theorem r_eq : R2M K C (rEqD K) dEq := by
  intro F0 H0 g P T σ H Q x y dx dy d S hx hy e q
  obtain ⟨F, f⟩ := S
  have ix := f.ts _ hx
  have iy := f.ts _ hy
  unfold dEq at e
  cases e2 : deq dx dy with
  | none => rw [e2] at e; cases e
  | some b =>
    rw [e2] at e
    cases e
    obtain ⟨p1, p2, h1, h2, h3, h4, rfl⟩ := deq_some e2
    exact ⟨p1, p2, Is.dp f.eH _ _ _ ix h1, Is.dp f.eH _ _ _ iy h2, h3, h4, q _ H ⟨F, f.addT (.bl _)⟩⟩
theorem r_ne : R2M K C (rNeD K) dNe := by
  intro F0 H0 g P T σ H Q x y dx dy d S hx hy e q
  obtain ⟨F, f⟩ := S
  have ix := f.ts _ hx
  have iy := f.ts _ hy
  unfold dNe at e
  cases e2 : deq dx dy with
  | none => rw [e2] at e; cases e
  | some b =>
    rw [e2] at e
    cases e
    obtain ⟨p1, p2, h1, h2, h3, h4, rfl⟩ := deq_some e2
    exact ⟨p1, p2, Is.dp f.eH _ _ _ ix h1, Is.dp f.eH _ _ _ iy h2, h3, h4, q _ H ⟨F, f.addT (.bl _)⟩⟩
/-- in, not in: ints in a list or tuple of ints -/
def dInB : D → D → Option Bool
  | .int i, .lst ds => (asInts ds).map fun ns => decide (i ∈ ns)
  | .int i, .tup ds => (asInts ds).map fun ns => decide (i ∈ ns)
  | _, _ => none
def dIn (x y : D) : Option D := (dInB x y).map D.bl
def dNi (x y : D) : Option D := (dInB x y).map fun b => D.bl (!b)
theorem inV_ints (i : Int) : ∀ ns : List Int, inV (.int i) (ns.map V.int) = decide (i ∈ ns)
  | [] => by simp [inV]
  | n :: r => by
    have ih := inV_ints i r
    unfold inV at ih ⊢
    rw [List.map_cons, List.any_cons, ih]
    show ((n == i) || decide (i ∈ r)) = decide (i ∈ n :: r)
    by_cases h : n = i
    · subst h; simp
    · have h2 : (n == i) = false := by simp [h]
      rw [h2]
      simp [List.mem_cons, Ne.symm h]
theorem flat_ints : ∀ ns : List Int, (ns.map V.int).all flatV = true
  | [] => rfl
  | n :: r => by
    rw [List.map_cons, List.all_cons, flat_ints r]
    rfl
theorem in_fact {F0 H0 F : Hp} {g : G} {P : List (Addr × List V)} {T : List (V × D)} {σ : L2.St} {H : Hp} {x y : V} {dx dy : D} {b : Bool} (f : Fz ⟨K, C, F0, H0⟩ g P T σ H F) (hx : (x, dx) ∈ T) (hy : (y, dy) ∈ T) (e : dInB dx dy = some b) :
    ∃ p xs, y = .ref p ∧ (SqL K H p xs ∨ SqT K H p xs) ∧ flatV x = true ∧ xs.all flatV = true ∧ inV x xs = b := by
  have ix := f.ts _ hx
  have iy := f.ts _ hy
  unfold dInB at e
  split at e
  · rename_i i ds
    cases e2 : asInts ds with
    | none => rw [e2] at e; cases e
    | some ns =>
      rw [e2] at e
      cases e
      have e3 := asInts_some e2
      subst e3
      cases ix
      cases iy with
      | lst ha hb =>
        have e4 := hb.ints
        subst e4
        exact ⟨_, _, rfl, .inl (f.sqL ha), rfl, flat_ints ns, inV_ints i ns⟩
  · rename_i i ds
    cases e2 : asInts ds with
    | none => rw [e2] at e; cases e
    | some ns =>
      rw [e2] at e
      cases e
      have e3 := asInts_some e2
      subst e3
      cases ix
      cases iy with
      | tup ha hb =>
        have e4 := hb.ints
        subst e4
        exact ⟨_, _, rfl, .inr (f.sqT ha), rfl, flat_ints ns, inV_ints i ns⟩
  · cases e
theorem r_in : R2M K C (rIn K false) dIn := by
  intro F0 H0 g P T σ H Q x y dx dy d S hx hy e q
  obtain ⟨F, f⟩ := S
  unfold dIn at e
  cases e2 : dInB dx dy with
  | none => rw [e2] at e; cases e
  | some b =>
    rw [e2] at e
    cases e
    obtain ⟨p, xs, h1, h2, h3, h4, rfl⟩ := in_fact f hx hy e2
    exact ⟨p, xs, h1, h2, h3, h4, q _ H ⟨F, f.addT (.bl _)⟩⟩
theorem r_ni : R2M K C (rIn K true) dNi := by
  intro F0 H0 g P T σ H Q x y dx dy d S hx hy e q
  obtain ⟨F, f⟩ := S
  unfold dNi at e
  cases e2 : dInB dx dy with
  | none => rw [e2] at e; cases e
  | some b =>
    rw [e2] at e
    cases e
    obtain ⟨p, xs, h1, h2, h3, h4, rfl⟩ := in_fact f hx hy e2
    exact ⟨p, xs, h1, h2, h3, h4, q _ H ⟨F, f.addT (.bl _)⟩⟩
/-- x is None, x is not None -/
def dIsN : D → D → Option D
  | .non, .non => some (.bl true)
  | .web _ _, .non => none
  | .scr _, .non => none
  | _, .non => some (.bl false)
  | _, _ => none
def dNotN : D → D → Option D
  | .non, .non => some (.bl false)
  | .web _ _, .non => none
  | .scr _, .non => none
  | _, .non => some (.bl true)
  | _, _ => none
theorem r_isN : R2M K C (fun x y H Q => y = .non ∧ Q (.bl (decide (x = .non))) H) dIsN := by
  intro F0 H0 g P T σ H Q x y dx dy d S hx hy e q
  obtain ⟨F, f⟩ := S
  have ix := f.ts _ hx
  have iy := f.ts _ hy
  have q' : ∀ b, d = .bl b → Q (.bl b) H := fun b hb => q _ H ⟨F, f.addT (by rw [hb]; exact .bl _)⟩
  cases ix <;> cases iy <;> cases e <;> exact ⟨rfl, q' _ (by simp)⟩
/-- a chain of two comparisons -/
def mCh (f f' : D → D → Option D) (ma mb mc : G → Rs D) : G → Rs D := fun g => (ma g).bind fun x => (mb g).bind fun y => (Rs.of (f x y)).bind fun z => match z with
  | .bl true => (mc g).bind fun w => .of (f' y w)
  | .bl false => .ok (.bl false)
  | _ => .no
theorem em_ch {r r' : R2} {f f' : D → D → Option D} (hr : R2M K C r f) (hr' : R2M K C r' f') (a : EM K C E ta ma) (b : EM K C E tb mb) (c : EM K C E tc mc) : EM K C E (tChain r r' ta tb tc) (mCh f f' ma mb mc) := ⟨fun F0 H0 g P T σ H Q S h =>
  a.run F0 H0 g P T σ H _ S (h.bind.mono fun x hx v H1 S1 => b.run F0 H0 g P _ σ H1 _ S1 (hx.bind.mono fun y hy v' H2 S2 => by
    obtain ⟨d, e, hd⟩ := hy.bind.of
    refine hr F0 H0 g P _ σ H2 _ v v' x y d S2 (List.mem_cons_of_mem _ List.mem_cons_self) List.mem_cons_self e fun u H3 S3 => ?_
    have iu : Is K C (Classical.choose S3) u d := (Classical.choose_spec S3).ts (u, d) List.mem_cons_self
    split at hd
    · cases iu
      refine ⟨true, rfl, ?_⟩
      rw [if_pos rfl]
      refine c.run F0 H0 g P _ σ H3 _ S3 (hd.bind.mono fun w hw t H4 S4 => ?_)
      obtain ⟨d2, e2, q2⟩ := hw.of
      refine hr' F0 H0 g P _ σ H4 _ v' t y w d2 S4 (List.mem_cons_of_mem _ (List.mem_cons_of_mem _ List.mem_cons_self)) List.mem_cons_self e2 fun u2 H5 S5 => q2 u2 H5 (S5.sub fun z hz => ?_)
      rcases List.mem_cons.mp hz with e | e
      · exact List.mem_cons.mpr (.inl e)
      · exact List.mem_cons_of_mem _ (List.mem_cons_of_mem _ (List.mem_cons_of_mem _ (List.mem_cons_of_mem _ (List.mem_cons_of_mem _ e))))
    · cases iu
      refine ⟨false, rfl, ?_⟩
      rw [if_neg Bool.false_ne_true]
      refine hd _ H3 ((S3.sub fun z hz => ?_).addT fun F f => .bl _)
      exact List.mem_cons_of_mem _ (List.mem_cons_of_mem _ (List.mem_cons_of_mem _ hz))
    · exact hd.elim))⟩
/-! ### and, or, not as values; a value as a test -/
def mAndV (a b : G → Rs D) : G → Rs D := fun g => (a g).bind fun x => match x with
  | .bl true => b g
  | .bl false => .ok (.bl false)
  | _ => .no
def mOrV (a b : G → Rs D) : G → Rs D := fun g => (a g).bind fun x => match x with
  | .bl true => .ok (.bl true)
  | .bl false => b g
  | _ => .no
def dNot : D → Option D
  | .bl b => some (.bl (!b))
  | _ => none
theorem tm_b (a : EM K C E ta ma) : TM K C E (tB ta) (mT ma) := ⟨fun F0 H0 g P T σ H Q S h => (tm_t a).run F0 H0 g P T σ H Q S h⟩
/-! ### built-ins by name -/
def dLen : List D → Option D
  | [.lst ds] => some (.int ds.length)
  | [.tup ds] => some (.int ds.length)
  | [.scr ns] => some (.int ns.length)
  | _ => none
abbrev rLenS (K : PySem.W.Frag) : List V → Hp → VK → Prop := fun xs H Q => ∃ p ys, xs = [.ref p] ∧ (SqL K H p ys ∨ SqT K H p ys) ∧ Q (.int ys.length) H
theorem al1 {T : List (V × D)} {xs : List V} {d : D} (h : Al T xs [d]) : ∃ x, xs = [x] ∧ (x, d) ∈ T := by
  cases h with
  | cons r t =>
    cases t
    exact ⟨_, rfl, r⟩
theorem al2 {T : List (V × D)} {xs : List V} {d e : D} (h : Al T xs [d, e]) : ∃ x y, xs = [x, y] ∧ (x, d) ∈ T ∧ (y, e) ∈ T := by
  cases h with
  | cons r t =>
    obtain ⟨y, rfl, h2⟩ := al1 t
    exact ⟨_, y, rfl, r, h2⟩
theorem r_len : RAM K C (rLenS K) dLen := by
  intro F0 H0 g P T σ H Q xs ds d S al e q
  obtain ⟨F, f⟩ := S
  unfold dLen at e
  split at e
  · cases e
    obtain ⟨x, rfl, hx⟩ := al1 al
    have ix := f.ts _ hx
    cases ix with
    | lst ha hb => exact ⟨_, _, rfl, .inl (f.sqL ha), q _ H ⟨F, f.addT (by rw [hb.len]; exact .int _)⟩⟩
  · cases e
    obtain ⟨x, rfl, hx⟩ := al1 al
    have ix := f.ts _ hx
    cases ix with
    | tup ha hb => exact ⟨_, _, rfl, .inr (f.sqT ha), q _ H ⟨F, f.addT (by rw [hb.len]; exact .int _)⟩⟩
  · cases e
    obtain ⟨x, rfl, hx⟩ := al1 al
    have ix := f.ts _ hx
    cases ix with
    | scr ha => exact ⟨_, _, rfl, .inl (f.eH.seq ha), q _ H ⟨F, f.addT (by rw [List.length_map]; exact .int _)⟩⟩
  · cases e
def dSum : List D → Option D
  | [.lst ds] => (asInts ds).map fun ns => D.int ns.sum
  | _ => none
theorem ints_at {F0 H0 F : Hp} {g : G} {P : List (Addr × List V)} {T : List (V × D)} {σ : L2.St} {H : Hp} {x : V} {ds : List D} {ns : List Int} (f : Fz ⟨K, C, F0, H0⟩ g P T σ H F) (hx : (x, .lst ds) ∈ T) (e : asInts ds = some ns) :
    ∃ a, x = .ref a ∧ SqL K H a (ns.map V.int) := by
  have e3 := asInts_some e
  subst e3
  have ix := f.ts _ hx
  cases ix with
  | lst ha hb =>
    have e4 := hb.ints
    subst e4
    exact ⟨_, rfl, f.sqL ha⟩
theorem r_sum : RAM K C (rSum K) dSum := by
  intro F0 H0 g P T σ H Q xs ds d S al e q
  obtain ⟨F, f⟩ := S
  unfold dSum at e
  split at e
  · rename_i es
    cases e2 : asInts es with
    | none => rw [e2] at e; cases e
    | some ns =>
      rw [e2] at e
      cases e
      obtain ⟨x, rfl, hx⟩ := al1 al
      obtain ⟨a, rfl, h1⟩ := ints_at f hx e2
      exact ⟨a, ns, rfl, h1, q _ H ⟨F, f.addT (.int _)⟩⟩
  · cases e
def dMax2 : List D → Option D
  | [.int i, .int j] => some (.int (if j > i then j else i))
  | _ => none
def dMin2 : List D → Option D
  | [.int i, .int j] => some (.int (if j < i then j else i))
  | _ => none
abbrev rMin2 : List V → Hp → VK → Prop := fun xs H Q => ∃ i j, xs = [.int i, .int j] ∧ Q (.int (if j < i then j else i)) H
theorem r_min2 : RAM K C rMin2 dMin2 := by
  intro F0 H0 g P T σ H Q xs ds d S al e q
  obtain ⟨F, f⟩ := S
  unfold dMin2 at e
  split at e
  · cases e
    obtain ⟨x, y, rfl, hx, hy⟩ := al2 al
    have ix := f.ts _ hx
    have iy := f.ts _ hy
    cases ix
    cases iy
    exact ⟨_, _, rfl, q _ H ⟨F, f.addT (.int _)⟩⟩
  · cases e
def dAll : List D → Option D
  | [.lst ds] => (asBls ds).map fun bs => D.bl (bs.all id)
  | _ => none
theorem r_all : RAM K C (rAll K) dAll := by
  intro F0 H0 g P T σ H Q xs ds d S al e q
  obtain ⟨F, f⟩ := S
  unfold dAll at e
  split at e
  · rename_i es
    cases e2 : asBls es with
    | none => rw [e2] at e; cases e
    | some ns =>
      rw [e2] at e
      cases e
      obtain ⟨x, rfl, hx⟩ := al1 al
      have e3 := asBls_some e2
      subst e3
      have ix := f.ts _ hx
      cases ix with
      | lst ha hb =>
        have e4 := hb.bls
        subst e4
        exact ⟨_, ns, rfl, f.sqL ha, q _ H ⟨F, f.addT (.bl _)⟩⟩
  · cases e
/-- int(x) -/
def dInt : List D → Option D
  | [.int i] => some (.int i)
  | [.bl b] => some (.int (if b then 1 else 0))
  | _ => none
/-- list(xs) -/
def dList : List D → Option D
  | [.lst ds] => some (.lst ds)
  | [.tup ds] => some (.lst ds)
  | _ => none
abbrev rListS (K : PySem.W.Frag) : List V → Hp → VK → Prop := fun xs H Q => ∃ p ys, xs = [.ref p] ∧ (SqL K H p ys ∨ SqT K H p ys) ∧ ∀ l, H l = none → Q (.ref l) (upd H l (.lst ys))
/-- o.places, o.roads -/
def dFld (n : Str) : D → Option D
  | .web k ds => if n = "places" then some (.int k) else if n = "roads" then some (.lst ds) else none
  | _ => none
theorem places_ne : ¬ ("places" : Str) = "roads" := by decide +kernel
theorem webF_places (n : Int) (r : Addr) : (webF n r).lookup ("places" : Str) = some (.int n) := by
  unfold webF
  rw [lookup_putF, if_neg places_ne, lookup_putF, if_pos rfl]
theorem webF_roads (n : Int) (r : Addr) : (webF n r).lookup ("roads" : Str) = some (.ref r) := by
  unfold webF
  rw [lookup_putF, if_pos rfl]
theorem em_fld {n : Str} (hc : Cls K C) (ha : NoAttr K C n) (a : EM K C E ta ma) : EM K C E (tFld K ta n) (m1 (dFld n) ma) := ⟨fun F0 H0 g P T σ H Q S h =>
  a.run F0 H0 g P T σ H _ S (h.bind.mono fun x hx v H1 S1 => by
    obtain ⟨d, e, q⟩ := hx.of
    obtain ⟨F, f⟩ := S1
    have ix := f.ts _ List.mem_cons_self
    unfold dFld at e
    split at e
    · cases ix with
      | web h1 h2 h3 h4 =>
        split at e
        · rename_i hn
          subst hn
          cases e
          exact ⟨_, C, _, _, _, rfl, f.eH _ _ h1, hc, ha, webF_places _ _, q _ H1 ((SS.tail ⟨F, f⟩).addT fun _ _ => .int _)⟩
        · split at e
          · rename_i hn
            subst hn
            cases e
            exact ⟨_, C, _, _, _, rfl, f.eH _ _ h1, hc, ha, webF_roads _ _, q _ H1 ⟨F, (f.sub fun z hz => List.mem_cons_of_mem _ hz).addT (.lst h3 h4)⟩⟩
          · cases e
    · cases e)⟩
end
end Z
set_option Elab.async false
set_option linter.all false
set_option maxRecDepth 100000
set_option maxHeartbeats 4000000
/-! Z, part C: what is walked, comprehensions, calls, statements, defs. -/
namespace Z
set_option autoImplicit false
open PySem L2
/-! ### slots -/
def Sl (T : List (V × D)) (g : G) (σ : L2.St) : Prop := σ.length = g.length ∧ ∀ (i : Nat) (d : D), g[i]? = some (some d) → ∃ v, σ[i]? = some (some v) ∧ (v, d) ∈ T
def killG (ks : List Nat) (g : G) : G := match ks with
  | [] => g
  | k :: r => (killG r g).set k none
section
variable {B : Bs} {g g' : G} {P P' : List (Addr × List V)} {T T' : List (V × D)} {σ σ' : L2.St} {H H2 F F2 : Hp} {v : V} {d : D}
theorem Sl.mono (h : Sl T g σ) (t : ∀ x ∈ T, x ∈ T') : Sl T' g σ := ⟨h.1, fun i d e => let ⟨v, h1, h2⟩ := h.2 i d e; ⟨v, h1, t _ h2⟩⟩
theorem get_set {α : Type} {l : List α} {i j : Nat} {a b : α} (h : (l.set i a)[j]? = some b) : (i = j ∧ b = a ∧ i < l.length) ∨ (i ≠ j ∧ l[j]? = some b) := by
  by_cases e : i = j
  · subst e
    rw [List.getElem?_set_self'] at h
    cases q : l[i]? with
    | none => rw [q] at h; cases h
    | some z =>
      rw [q] at h
      have z2 : b = a := (Option.some.inj h).symm
      exact .inl ⟨rfl, z2, (List.getElem?_eq_some_iff.mp q).1⟩
  · rw [List.getElem?_set_ne e] at h
    exact .inr ⟨e, h⟩
theorem Sl.set (h : Sl T g σ) {i : Nat} (m : (v, d) ∈ T) : Sl T (g.set i (some d)) (σ.set i (some v)) := by
  refine ⟨by rw [List.length_set, List.length_set]; exact h.1, fun j e he => ?_⟩
  rcases get_set he with ⟨z, z2, z3⟩ | ⟨z, z2⟩
  · subst z
    cases z2
    refine ⟨v, ?_, m⟩
    rw [List.getElem?_set_self (by rw [h.1]; exact z3)]
  · obtain ⟨w, h1, h2⟩ := h.2 j e z2
    exact ⟨w, by rw [List.getElem?_set_ne z]; exact h1, h2⟩
theorem Sl.set0 (h : Sl T g σ) {i : Nat} {o : Option V} : Sl T (g.set i none) (σ.set i o) := by
  refine ⟨by rw [List.length_set, List.length_set]; exact h.1, fun j e he => ?_⟩
  rcases get_set he with ⟨z, z2, z3⟩ | ⟨z, z2⟩
  · cases z2
  · obtain ⟨w, h1, h2⟩ := h.2 j e z2
    exact ⟨w, by rw [List.getElem?_set_ne z]; exact h1, h2⟩
theorem Sl.kill1 (h : Sl T g σ) {i : Nat} : Sl T (g.set i none) σ := by
  refine ⟨by rw [List.length_set]; exact h.1, fun j e he => ?_⟩
  rcases get_set he with ⟨z, z2, z3⟩ | ⟨z, z2⟩
  · cases z2
  · exact h.2 j e z2
theorem Sl.kill (h : Sl T g σ) : ∀ ks : List Nat, Sl T (killG ks g) σ
  | [] => h
  | k :: r => (h.kill r).kill1
theorem Sl.wipe (h : Sl T g σ) : ∀ ks : List Nat, Sl T (killG ks g) (L2.wipe σ ks)
  | [] => h
  | k :: r => (h.wipe r).set0
theorem SS.reslot (h : SS B g' P T σ' H) (s : Sl T g σ) : SS B g P T σ H := by
  obtain ⟨F, f⟩ := h
  refine ⟨F, ⟨f.eF, f.eH, f.e0, f.nw, fun i d e => ?_, s.1, f.ts, f.pr⟩⟩
  obtain ⟨v, h1, h2⟩ := s.2 i d e
  exact ⟨v, h1, f.ts _ h2⟩
theorem slots_at (f : Fz B g P T σ H F) : ∀ n : Nat, ∃ Ts : List (V × D), (∀ x ∈ Ts, Is B.K B.C F x.1 x.2) ∧ ∀ i d, i < n → g[i]? = some (some d) → ∃ v, σ[i]? = some (some v) ∧ (v, d) ∈ Ts
  | 0 => ⟨[], fun _ h => (by cases h), fun i d h => absurd h (Nat.not_lt_zero i)⟩
  | n + 1 => by
    obtain ⟨Ts, h1, h2⟩ := slots_at f n
    cases q : g[n]? with
    | none =>
      refine ⟨Ts, h1, fun i d hi e => ?_⟩
      rcases Nat.lt_succ_iff_lt_or_eq.mp hi with z | z
      · exact h2 i d z e
      · subst z
        rw [q] at e
        cases e
    | some o =>
      cases o with
      | none =>
        refine ⟨Ts, h1, fun i d hi e => ?_⟩
        rcases Nat.lt_succ_iff_lt_or_eq.mp hi with z | z
        · exact h2 i d z e
        · subst z
          rw [q] at e
          cases e
      | some d0 =>
        obtain ⟨v, e1, e2⟩ := f.sl n d0 q
        refine ⟨(v, d0) :: Ts, fun x hx => ?_, fun i d hi e => ?_⟩
        · rcases List.mem_cons.mp hx with z | z
          · rw [z]; exact e2
          · exact h1 x z
        · rcases Nat.lt_succ_iff_lt_or_eq.mp hi with z | z
          · obtain ⟨w, w1, w2⟩ := h2 i d z e
            exact ⟨w, w1, List.mem_cons_of_mem _ w2⟩
          · subst z
            rw [q] at e
            cases e
            exact ⟨v, e1, List.mem_cons_self⟩
/-- the slots' things are held -/
theorem SS.slots (h : SS B g P T σ H) : ∃ T', (∀ x ∈ T, x ∈ T') ∧ Sl T' g σ ∧ SS B g P T' σ H := by
  obtain ⟨F, f⟩ := h
  obtain ⟨Ts, h1, h2⟩ := slots_at f g.length
  refine ⟨Ts ++ T, fun x hx => List.mem_append_right _ hx, ⟨f.ln, fun i d e => ?_⟩, F, { f with ts := fun x hx => ?_ }⟩
  · obtain ⟨v, e1, e2⟩ := h2 i d (List.getElem?_eq_some_iff.mp e).1 e
    exact ⟨v, e1, List.mem_append_left _ e2⟩
  · rcases List.mem_append.mp hx with z | z
    · exact h1 x z
    · exact f.ts x z
theorem SS.set (h : SS B g P T σ H) {i : Nat} (m : (v, d) ∈ T) : SS B (g.set i (some d)) P T (σ.set i (some v)) H := by
  obtain ⟨T', t, s, h'⟩ := h.slots
  exact (h'.reslot (s.set (t _ m))).sub t
theorem SS.set0 (h : SS B g P T σ H) {i : Nat} {o : Option V} : SS B (g.set i none) P T (σ.set i o) H := by
  obtain ⟨T', t, s, h'⟩ := h.slots
  exact (h'.reslot s.set0).sub t
theorem SS.kill (h : SS B g P T σ H) (ks : List Nat) : SS B (killG ks g) P T σ H := by
  obtain ⟨T', t, s, h'⟩ := h.slots
  exact (h'.reslot (s.kill ks)).sub t
/-- a cell that may change is frozen -/
theorem SS.frz {p : Addr} {vs : List V} {ds : List D} (h : SS B g ((p, vs) :: P) T σ H) (hp : ∀ x ∈ P, x.1 ≠ p) (al : Al T vs ds) : SS B g P ((.ref p, .lst ds) :: T) σ H := by
  obtain ⟨F, f⟩ := h
  obtain ⟨p1, p2, p3⟩ := f.pr (p, vs) List.mem_cons_self
  have f' : Fz B g P T σ H F := f.subP fun z hz => List.mem_cons_of_mem _ hz
  have up : Same F (upd F p (.lst vs)) := fun b u e => by rw [upd_ne (ne_of_none e p1)]; exact e
  have f2 : Fz B g P T σ H (upd F p (.lst vs)) :=
    { eF := f'.eF.trans up
      eH := fun b u e => by
        by_cases z : b = p
        · subst z
          rw [upd_same] at e
          rw [← e]
          exact p3
        · rw [upd_ne z] at e
          exact f'.eH b u e
      e0 := f'.e0
      nw := fun q hq hf => by
        have z : q ≠ p := fun z => hq (by rw [z]; exact p2)
        rw [upd_ne z]
        exact f'.nw q hq hf
      sl := fun i d e => by
        obtain ⟨v, h1, h2⟩ := f'.sl i d e
        exact ⟨v, h1, Is.mono up d v h2⟩
      ln := f'.ln
      ts := fun x hx => Is.mono up _ _ (f'.ts x hx)
      pr := fun x hx => by
        obtain ⟨q1, q2, q3⟩ := f'.pr x hx
        exact ⟨by rw [upd_ne (hp x hx)]; exact q1, q2, q3⟩ }
  exact ⟨_, f2.addT (.lst upd_same (f2.all al))⟩
/-- such a cell is written -/
theorem SS.write {p : Addr} {vs ws : List V} (h : SS B g ((p, vs) :: P) T σ H) (hp : ∀ x ∈ P, x.1 ≠ p) : SS B g ((p, ws) :: P) T σ (upd H p (.lst ws)) := by
  obtain ⟨F, f⟩ := h
  obtain ⟨p1, p2, p3⟩ := f.pr (p, vs) List.mem_cons_self
  refine ⟨F, ⟨f.eF, fun b u e => ?_, fun b u e => ?_, f.nw, f.sl, f.ln, f.ts, fun x hx => ?_⟩⟩
  · rw [upd_ne (ne_of_none e p1)]
    exact f.eH b u e
  · rw [upd_ne (ne_of_none e p2)]
    exact f.e0 b u e
  · rcases List.mem_cons.mp hx with e | e
    · subst e
      exact ⟨p1, p2, upd_same⟩
    · obtain ⟨q1, q2, q3⟩ := f.pr x (List.mem_cons_of_mem _ e)
      exact ⟨q1, q2, by show upd H p (.lst ws) x.1 = _; rw [upd_ne (hp x e)]; exact q3⟩
theorem SS.cell {p : Addr} {vs : List V} (h : SS B g ((p, vs) :: P) T σ H) : H p = some (.lst vs) := let ⟨F, f⟩ := h; (f.pr (p, vs) List.mem_cons_self).2.2
theorem isA_zip {K : PySem.W.Frag} {C : Addr} {F : Hp} : ∀ {vs : List V} {ds : List D}, IsA K C F vs ds → ∀ x ∈ vs.zip ds, Is K C F x.1 x.2
  | _, _, .nil, _, h => by simp at h
  | _, _, .cons h t, x, hx => by
    rw [List.zip_cons_cons] at hx
    rcases List.mem_cons.mp hx with e | e
    · rw [e]
      exact h
    · exact isA_zip t x e
theorem al_zip {T : List (V × D)} {K : PySem.W.Frag} {C : Addr} {F : Hp} : ∀ {vs : List V} {ds : List D}, IsA K C F vs ds → (∀ x ∈ vs.zip ds, x ∈ T) → Al T vs ds
  | _, _, .nil, _ => .nil
  | _, _, .cons h t, hT => .cons (hT _ (by rw [List.zip_cons_cons]; exact List.mem_cons_self)) (al_zip t fun x hx => hT x (by rw [List.zip_cons_cons]; exact List.mem_cons_of_mem _ hx))
theorem SS.openT {ds : List D} (h : SS B g P T σ H) (m : (v, .tup ds) ∈ T) : ∃ a vs, v = .ref a ∧ H a = some (.tup vs) ∧ Al (vs.zip ds ++ T) vs ds ∧ SS B g P (vs.zip ds ++ T) σ H := by
  obtain ⟨F, f⟩ := h
  have i := f.ts _ m
  cases i with
  | tup ha hb =>
    refine ⟨_, _, rfl, f.eH _ _ ha, al_zip hb fun x hx => List.mem_append_left _ hx, F, { f with ts := fun x hx => ?_ }⟩
    rcases List.mem_append.mp hx with z | z
    · exact isA_zip hb x z
    · exact f.ts x z
end
/-! ### what is walked -/
def Walks (K : PySem.W.Frag) (C : Addr) (F0 H0 : Hp) (J : It) (ds : List D) (T0 : List (V × D)) : Prop := ∀ (i : Nat) g P T σ H, (∀ x ∈ T0, x ∈ T) → SS ⟨K, C, F0, H0⟩ g P T σ H →
  (∀ d, ds[i]? = some d → J.go i H ∧ ∀ x H', J.yld i H x H' → SS ⟨K, C, F0, H0⟩ g P ((x, d) :: T) σ H') ∧ (i = ds.length → J.stop i H)
structure IM (K : PySem.W.Frag) (C : Addr) (E : XK) (wi : TI) (m : G → Rs (List D)) : Prop where
  run : ∀ F0 H0 g P T σ H R, SS ⟨K, C, F0, H0⟩ g P T σ H → Wish H0 E (m g) (fun ds => ∀ J T' H1, (∀ x ∈ T, x ∈ T') → SS ⟨K, C, F0, H0⟩ g P T' σ H1 → Walks K C F0 H0 J ds T' → R J H1) → wi σ H R
structure PIM (X : Cx) (K : PySem.W.Frag) (C : Addr) (E : XK) (tg iter : Expr) (wi : TI) (m : G → Rs (List D)) : Prop where
  p : PI X tg iter wi
  q : IM K C E wi m
def mItems (a : G → Rs D) : G → Rs (List D) := fun g => (a g).bind fun x => match x with
  | .lst ds => .ok ds
  | _ => .no
def rgD (lo hi : Int) : List D := (List.range (hi - lo).toNat).map fun (i : Nat) => D.int (lo + (i : Int))
def mRng1 (a : G → Rs (List D)) : G → Rs (List D) := fun g => (a g).bind fun xs => match xs with
  | [.int n] => if -1000000 ≤ n ∧ n ≤ 1000000 then .ok (rgD 0 n) else .no
  | _ => .no
def mRng2 (a : G → Rs (List D)) : G → Rs (List D) := fun g => (a g).bind fun xs => match xs with
  | [.int m, .int n] => if -1000000 ≤ n ∧ n ≤ 1000000 ∧ -1000000 ≤ m ∧ m ≤ 1000000 then .ok (rgD m n) else .no
  | _ => .no
def enumD (ds : List D) : List D := (List.range ds.length).map fun i => D.tup [.int (i : Nat), ds.getD i .non]
def mEnum (a : G → Rs (List D)) : G → Rs (List D) := fun g => (a g).bind fun xs => match xs with
  | [.lst ds] => .ok (enumD ds)
  | _ => .no
def zipD (ds es : List D) : List D := List.zipWith (fun x y => D.tup [x, y]) ds es
def mZip (a : G → Rs (List D)) : G → Rs (List D) := fun g => (a g).bind fun xs => match xs with
  | [.lst ds, .lst es] => .ok (zipD ds es)
  | _ => .no
def mRevI (a : G → Rs (List D)) : G → Rs (List D) := fun g => (a g).bind fun xs => match xs with
  | [.lst ds] => .ok ds.reverse
  | _ => .no
section
variable {K : PySem.W.Frag} {C : Addr} {E : XK} {te ta tb tc : TE} {m ma mb mc : G → Rs D} {t : TA} {ms : G → Rs (List D)}
theorem walks_list {F0 H0 : Hp} {a : Addr} {ds : List D} {T0 : List (V × D)} (h0 : (V.ref a, D.lst ds) ∈ T0) : Walks K C F0 H0 (Itl K a) ds T0 := fun i g P T σ H ht S => by
  obtain ⟨F, f⟩ := S
  have z := f.ts _ (ht _ h0)
  cases z with
  | lst ha hb =>
    refine ⟨fun d e => ?_, fun e => ⟨_, f.sqL ha, by rw [hb.len, e]; exact Nat.le_refl _⟩⟩
    obtain ⟨v, h1, h2⟩ := hb.get e
    refine ⟨⟨_, v, f.sqL ha, h1⟩, fun x H' y => ?_⟩
    obtain ⟨rfl, y⟩ := y
    have e2 : some v = some x := h1.symm.trans (y _ (f.sqL ha))
    cases e2
    exact ⟨F, f.addT h2⟩
theorem walks_rev {F0 H0 : Hp} {a : Addr} {ds : List D} {T0 : List (V × D)} (h0 : (V.ref a, D.lst ds) ∈ T0) : Walks K C F0 H0 (Itv K a ds.length) ds.reverse T0 := fun i g P T σ H ht S => by
  obtain ⟨F, f⟩ := S
  have z := f.ts _ (ht _ h0)
  cases z with
  | lst ha hb =>
    refine ⟨fun d e => ?_, fun e => by show ds.length ≤ i; rw [e, List.length_reverse]; exact Nat.le_refl _⟩
    have hi : i < ds.length := by
      have := (List.getElem?_eq_some_iff.mp e).1
      rwa [List.length_reverse] at this
    rw [List.getElem?_reverse hi] at e
    obtain ⟨v, h1, h2⟩ := hb.get e
    refine ⟨⟨hi, _, v, f.sqL ha, h1⟩, fun x H' y => ?_⟩
    obtain ⟨rfl, y⟩ := y
    have e2 : some v = some x := h1.symm.trans (y _ (f.sqL ha))
    cases e2
    exact ⟨F, f.addT h2⟩
theorem walks_range {F0 H0 : Hp} {lo hi : Int} {T0 : List (V × D)} : Walks K C F0 H0 (Itr lo (hi - lo).toNat) (rgD lo hi) T0 := fun i g P T σ H ht S => by
  have hl : (rgD lo hi).length = (hi - lo).toNat := by unfold rgD; rw [List.length_map, List.length_range]
  refine ⟨fun d e => ?_, fun e => by show (hi - lo).toNat ≤ i; rw [e, hl]; exact Nat.le_refl _⟩
  have hi2 := (List.getElem?_eq_some_iff.mp e).1
  rw [hl] at hi2
  unfold rgD at e
  rw [List.getElem?_map, List.getElem?_range hi2] at e
  cases e
  refine ⟨hi2, fun x H' y => ?_⟩
  obtain ⟨rfl, rfl⟩ := y
  exact S.addT fun _ _ => .int _
theorem walks_enum {F0 H0 : Hp} {a : Addr} {ds : List D} {T0 : List (V × D)} (h0 : (V.ref a, D.lst ds) ∈ T0) : Walks K C F0 H0 (Ite K a) (enumD ds) T0 := fun i g P T σ H ht S => by
  obtain ⟨F, f⟩ := S
  have z := f.ts _ (ht _ h0)
  have hl : (enumD ds).length = ds.length := by unfold enumD; rw [List.length_map, List.length_range]
  cases z with
  | lst ha hb =>
    refine ⟨fun d e => ?_, fun e => ⟨_, f.sqL ha, by rw [hb.len, e, hl]; exact Nat.le_refl _⟩⟩
    have hi := (List.getElem?_eq_some_iff.mp e).1
    rw [hl] at hi
    unfold enumD at e
    rw [List.getElem?_map, List.getElem?_range hi] at e
    cases e
    have e2 : ds[i]? = some (ds.getD i .non) := by
      rw [List.getD_eq_getElem?_getD, List.getElem?_eq_getElem hi]
      rfl
    obtain ⟨v, h1, h2⟩ := hb.get e2
    refine ⟨⟨_, v, f.sqL ha, h1⟩, fun x H' y => ?_⟩
    obtain ⟨T', x', rfl, hn, rfl, y⟩ := y
    have e3 : some v = some x' := h1.symm.trans (y _ (f.sqL ha))
    cases e3
    exact f.newT hn (.cons (.int _) (.cons h2 .nil))
theorem im_list (a : EM K C E ta ma) : IM K C E (iList K ta) (mItems ma) := ⟨fun F0 H0 g P T σ H R S h =>
  a.run F0 H0 g P T σ H _ S (h.bind.mono fun x hx v H' S1 => by
    split at hx
    · rename_i ds
      obtain ⟨F, f⟩ := S1
      have z := f.ts _ List.mem_cons_self
      cases z with
      | lst ha hb => exact ⟨_, rfl, ⟨_, f.sqL ha⟩, hx _ _ H' (fun z hz => List.mem_cons_of_mem _ hz) ⟨F, f⟩ (walks_list List.mem_cons_self)⟩
    · exact hx.elim)⟩
theorem im_rng1 (a : AM K C E t ms) : IM K C E (iRng1 t) (mRng1 ms) := ⟨fun F0 H0 g P T σ H R S h =>
  a.run F0 H0 g P T σ H _ S (h.bind.mono fun xs hx vs T' H' ht al S1 => by
    split at hx
    · rename_i n
      split at hx
      · rename_i hn
        obtain ⟨v, rfl, hv⟩ := al1 al
        obtain ⟨F, f⟩ := S1
        have z := f.ts _ hv
        cases z
        refine ⟨n, rfl, by omega, by omega, hx _ T' H' ht ⟨F, f⟩ ?_⟩
        have w : Walks K C F0 H0 (Itr 0 (n - 0).toNat) (rgD 0 n) T' := walks_range
        rw [Int.sub_zero] at w
        exact w
      · exact hx.elim
    · exact hx.elim)⟩
theorem im_rng2 (a : AM K C E t ms) : IM K C E (iRng2 t) (mRng2 ms) := ⟨fun F0 H0 g P T σ H R S h =>
  a.run F0 H0 g P T σ H _ S (h.bind.mono fun xs hx vs T' H' ht al S1 => by
    split at hx
    · rename_i lo n
      split at hx
      · rename_i hn
        obtain ⟨v, w, rfl, hv, hw⟩ := al2 al
        obtain ⟨F, f⟩ := S1
        have z := f.ts _ hv
        have z' := f.ts _ hw
        cases z
        cases z'
        exact ⟨lo, n, rfl, ⟨by omega, by omega, by omega, by omega⟩, hx _ T' H' ht ⟨F, f⟩ walks_range⟩
      · exact hx.elim
    · exact hx.elim)⟩
theorem im_enum (a : AM K C E t ms) : IM K C E (iEnum K t) (mEnum ms) := ⟨fun F0 H0 g P T σ H R S h =>
  a.run F0 H0 g P T σ H _ S (h.bind.mono fun xs hx vs T' H' ht al S1 => by
    split at hx
    · rename_i ds
      obtain ⟨v, rfl, hv⟩ := al1 al
      obtain ⟨F, f⟩ := S1
      have z := f.ts _ hv
      cases z with
      | lst ha hb => exact ⟨_, _, rfl, f.sqL ha, hx _ T' H' ht ⟨F, f⟩ (walks_enum hv)⟩
    · exact hx.elim)⟩
theorem im_rev (a : AM K C E t ms) : IM K C E (iRev K t) (mRevI ms) := ⟨fun F0 H0 g P T σ H R S h =>
  a.run F0 H0 g P T σ H _ S (h.bind.mono fun xs hx vs T' H' ht al S1 => by
    split at hx
    · rename_i ds
      obtain ⟨v, rfl, hv⟩ := al1 al
      obtain ⟨F, f⟩ := S1
      have z := f.ts _ hv
      cases z with
      | lst ha hb =>
        refine ⟨_, _, rfl, f.sqL ha, hx _ T' H' ht ⟨F, f⟩ ?_⟩
        rw [hb.len]
        exact walks_rev hv
    · exact hx.elim)⟩
end
/-! ### targets: one name, or a pair of names -/
inductive Tg where
  | one (i : Nat)
  | two (i j : Nat)
def Tg.g (K : PySem.W.Frag) : Tg → TG
  | .one i => gName i
  | .two i j => gTup K 2 (gCons (gName i) (gCons (gName j) gNil))
def Tg.put' : Tg → D → Rs (List (Nat × D))
  | .one i, d => .ok [(i, d)]
  | .two i j, .tup [a, b] => .ok [(i, a), (j, b)]
  | .two _ _, _ => .no
def setsG (g : G) (ps : List (Nat × D)) : G := ps.foldl (fun g p => g.set p.1 (some p.2)) g
def setsS (σ : L2.St) (ps : List (Nat × V)) : L2.St := ps.foldl (fun g p => g.set p.1 (some p.2)) σ
theorem Tg.run {K : PySem.W.Frag} {C : Addr} {F0 H0 : Hp} {g0 : G} {P : List (Addr × List V)} {T : List (V × D)} {σ0 σ : L2.St} {H : Hp} {E : XK} {x : V} {d : D} {Q : L2.St → Hp → Prop} (tg : Tg) (S : SS ⟨K, C, F0, H0⟩ g0 P T σ0 H) (hx : (x, d) ∈ T)
    (h : Wish H0 E (tg.put' d) fun ps => ∀ qs T', (∀ z ∈ T, z ∈ T') → Paired (fun (p : Nat × D) (q : Nat × V) => p.1 = q.1 ∧ (q.2, p.2) ∈ T') ps qs → SS ⟨K, C, F0, H0⟩ g0 P T' σ0 H → Q (setsS σ qs) H) : tg.g K x σ H Q := by
  cases tg with
  | one i => exact h [(i, x)] T (fun _ z => z) (.cons ⟨rfl, hx⟩ .nil) S
  | two i j =>
    unfold Tg.put' at h
    split at h
    · rename_i z
      cases z
    · rename_i i' j' a b z
      cases z
      obtain ⟨p, vs, rfl, hp, al, S2⟩ := S.openT hx
      cases al with
      | cons r1 t1 =>
        cases t1 with
        | cons r2 t2 =>
          cases t2
          exact ⟨p, _, rfl, .inl (.inl hp), rfl, _, _, rfl, _, _, rfl, rfl, h [(i, _), (j, _)] _ (fun z hz => List.mem_append_right _ hz) (.cons ⟨rfl, r1⟩ (.cons ⟨rfl, r2⟩ .nil)) S2⟩
    · exact h.elim
theorem Sl.sets {T : List (V × D)} {ps : List (Nat × D)} {qs : List (Nat × V)} (r : Paired (fun (p : Nat × D) (q : Nat × V) => p.1 = q.1 ∧ (q.2, p.2) ∈ T) ps qs) : ∀ {g : G} {σ : L2.St}, Sl T g σ → Sl T (setsG g ps) (setsS σ qs) := by
  induction r with
  | nil => exact fun h => h
  | cons h1 t ih =>
    intro g σ h
    obtain ⟨e, m⟩ := h1
    rename_i p q _ _
    obtain ⟨i, d⟩ := p
    obtain ⟨j, v⟩ := q
    cases e
    exact ih (h.set m)
/-! ### comprehensions -/
theorem al_snoc {T : List (V × D)} {v : V} {d : D} (hv : (v, d) ∈ T) : ∀ {vs : List V} {ds : List D}, Al T vs ds → Al T (vs ++ [v]) (ds ++ [d])
  | _, _, .nil => .cons hv .nil
  | _, _, .cons r t => .cons r (al_snoc hv t)
def Rs.nx {α : Type} : Rs α → Rs α
  | .ok a => .ok a
  | _ => .no
@[simp] theorem Rs.nx_ok {α : Type} (a : α) : (Rs.ok a).nx = .ok a := rfl
theorem Wish.nx {α : Type} {H0 : Hp} {E E' : XK} {o : Rs α} {Q : α → Prop} (h : Wish H0 E o.nx Q) : Wish H0 E' o Q := by
  cases o with
  | ok a => exact h
  | ex c r => exact h.elim
  | no => exact h.elim
def lcGo (g0 : G) (tg : Tg) (c : G → Rs Bool) (e : G → Rs D) : List D → Rs (List D)
  | [] => .ok []
  | d :: r => (tg.put' d).bind fun ps => (c (setsG g0 ps)).nx.bind fun b => if b = true then (e (setsG g0 ps)).nx.bind fun y => (lcGo g0 tg c e r).bind fun ys => .ok (y :: ys) else lcGo g0 tg c e r
def mLc (vs : List Nat) (mi : G → Rs (List D)) (tg : Tg) (c : G → Rs Bool) (e : G → Rs D) : G → Rs (List D) := fun g => (mi g).bind fun ds => if ds.length ≤ LIM then lcGo (killG vs g) tg c e ds else .no
def mYes : G → Rs Bool := fun _ => .ok true
theorem tm_yes {K : PySem.W.Frag} {C : Addr} {E : XK} : TM K C E tYes mYes := ⟨fun F0 H0 g P T σ H Q S h => h H S⟩
theorem wipe_sets {vs : List Nat} {σ : L2.St} : ∀ {qs : List (Nat × V)}, (∀ q ∈ qs, q.1 ∈ vs) → ∀ τ : L2.St, L2.wipe (setsS τ qs) vs = L2.wipe τ vs
  | [], _, τ => rfl
  | q :: r, h, τ => by
    have ih := wipe_sets (σ := σ) (qs := r) (fun q hq => h q (List.mem_cons_of_mem _ hq)) (τ.set q.1 (some q.2))
    show L2.wipe (setsS (τ.set q.1 (some q.2)) r) vs = _
    rw [ih]
    have hq := h q List.mem_cons_self
    clear ih h
    induction vs with
    | nil => cases hq
    | cons v vs ihv =>
      show (L2.wipe (τ.set q.1 (some q.2)) vs).set v none = (L2.wipe τ vs).set v none
      by_cases hm : q.1 ∈ vs
      · rw [ihv hm]
      · have e : q.1 = v := by
          rcases List.mem_cons.mp hq with z | z
          · exact z
          · exact absurd z hm
        have ind : ∀ (ws : List Nat), q.1 ∉ ws → L2.wipe (τ.set q.1 (some q.2)) ws = (L2.wipe τ ws).set q.1 (some q.2) := by
          intro ws hw
          induction ws with
          | nil => rfl
          | cons w ws ihw =>
            show (L2.wipe (τ.set q.1 (some q.2)) ws).set w none = ((L2.wipe τ ws).set w none).set q.1 (some q.2)
            rw [ihw fun z => hw (List.mem_cons_of_mem _ z), List.set_comm _ _ fun z => hw (by rw [← z]; exact List.mem_cons_self)]
        rw [ind vs hm, e, List.set_set]
theorem wipe_idem (σ : L2.St) : ∀ vs : List Nat, L2.wipe (L2.wipe σ vs) vs = L2.wipe σ vs := by
  have aux : ∀ (ws : List Nat) (τ : L2.St) (v : Nat), L2.wipe (τ.set v none) ws = (L2.wipe τ ws).set v none := by
    intro ws
    induction ws with
    | nil => intro τ v; rfl
    | cons w ws ih =>
      intro τ v
      show (L2.wipe (τ.set v none) ws).set w none = ((L2.wipe τ ws).set w none).set v none
      rw [ih]
      by_cases e : v = w
      · subst e
        rfl
      · rw [List.set_comm _ _ e]
  intro vs
  induction vs with
  | nil => rfl
  | cons v vs ih =>
    show (L2.wipe ((L2.wipe σ vs).set v none) vs).set v none = (L2.wipe σ vs).set v none
    rw [aux, List.set_set, ih]
def Tg.slots : Tg → List Nat
  | .one i => [i]
  | .two i j => [i, j]
theorem Tg.put_slots {tg : Tg} {d : D} {ps : List (Nat × D)} (h : tg.put' d = .ok ps) : ∀ p ∈ ps, p.1 ∈ tg.slots := by
  unfold Tg.put' at h
  split at h
  · cases h
    intro p hp
    rw [List.mem_singleton] at hp
    subst hp
    simp [Tg.slots]
  · cases h
    intro p hp
    simp only [List.mem_cons, List.not_mem_nil, or_false] at hp
    rcases hp with e | e <;> subst e <;> simp [Tg.slots]
  · cases h
theorem paired_fst {T : List (V × D)} {ps : List (Nat × D)} {qs : List (Nat × V)} (r : Paired (fun (p : Nat × D) (q : Nat × V) => p.1 = q.1 ∧ (q.2, p.2) ∈ T) ps qs) {vs : List Nat} (h : ∀ p ∈ ps, p.1 ∈ vs) : ∀ q ∈ qs, q.1 ∈ vs := by
  induction r with
  | nil => intro q hq; cases hq
  | cons h1 t ih =>
    intro q hq
    rcases List.mem_cons.mp hq with e | e
    · subst e
      rw [← h1.1]
      exact h _ List.mem_cons_self
    · exact ih (fun p hp => h p (List.mem_cons_of_mem _ hp)) q e
section
variable {K : PySem.W.Frag} {C : Addr} {E E' : XK} {te : TE} {me : G → Rs D} {tt : TT} {mc : G → Rs Bool} {wi : TI} {mi : G → Rs (List D)}
theorem lm_lc {vs : List Nat} {tg : Tg} (hi : IM K C E wi mi) (hc : TM K C E' tt mc) (he : EM K C E' te me) (hv : ∀ i ∈ tg.slots, i ∈ vs) : LM K C E (tLc wi (tg.g K) tt te vs) (mLc vs mi tg mc me) := ⟨fun F0 H0 g P T σ H Q S h =>
  hi.run F0 H0 g P T σ H _ S (h.bind.mono fun ds hd J T1 H1 ht1 S1 wk => by
    split at hd
    · rename_i hl
      intro p hp
      obtain ⟨T2, t2, sl, S2⟩ := S1.slots
      obtain ⟨hne, S3⟩ := lm_new S2 hp []
      refine ⟨fun i n H' => ∃ T' ys ws, i ≤ ds.length ∧ n = ds.length - i ∧ (∀ x ∈ T2, x ∈ T') ∧ Al T' ws ys ∧ ws.length ≤ i ∧ SS ⟨K, C, F0, H0⟩ g ((p, ws) :: P) T' σ H' ∧
        Wish H0 E (lcGo (killG vs g) tg mc me (ds.drop i)) (fun rest => ∀ zs T'' H'', (∀ x ∈ T', x ∈ T'') → Al T'' zs (ys ++ rest) → SS ⟨K, C, F0, H0⟩ g ((p, zs) :: P) T'' σ H'' → Q (.ref p) H''),
        ⟨ds.length, T2, [], [], Nat.zero_le _, rfl, fun _ z => z, .nil, Nat.le_refl _, S3, ?_⟩, ?_⟩
      · rw [List.drop_zero]
        exact hd.mono fun rest hr zs T'' H'' t' al S' => hr p zs T'' H'' (fun x hx => t' x (t2 x (ht1 x hx))) al hne S'
      · rintro i n H' ⟨T', ys, ws, hil, rfl, t', al, hlw, S4, w⟩
        obtain ⟨wk1, wk2⟩ := wk i g _ T' σ H' (fun x hx => t' x (t2 x hx)) S4
        by_cases hlt : i < ds.length
        · obtain ⟨go, yl⟩ := wk1 ds[i] (List.getElem?_eq_getElem hlt)
          rw [List.drop_eq_getElem_cons hlt] at w
          refine .inr ⟨go, fun H5 => ∃ T' ys ws, i + 1 ≤ ds.length ∧ (∀ x ∈ T2, x ∈ T') ∧ Al T' ws ys ∧ ws.length ≤ i + 1 ∧ SS ⟨K, C, F0, H0⟩ g ((p, ws) :: P) T' σ H5 ∧
            Wish H0 E (lcGo (killG vs g) tg mc me (ds.drop (i + 1))) (fun rest => ∀ zs T'' H'', (∀ x ∈ T', x ∈ T'') → Al T'' zs (ys ++ rest) → SS ⟨K, C, F0, H0⟩ g ((p, zs) :: P) T'' σ H'' → Q (.ref p) H''), ?_, ?_⟩
          · rintro H5 ⟨T5, ys5, ws5, a1, a2, a3, a4, a5, a6⟩
            exact ⟨ds.length - (i + 1), by omega, T5, ys5, ws5, a1, rfl, a2, a3, a4, a5, a6⟩
          · intro x H5 y
            have S5 := yl x H5 y
            have sl5 : Sl ((x, ds[i]) :: T') g σ := sl.mono fun z hz => List.mem_cons_of_mem _ (t' z hz)
            have S6 := S5.reslot (sl5.wipe vs)
            refine Tg.run (E := E) (g0 := killG vs g) (σ0 := L2.wipe σ vs) tg S6 List.mem_cons_self ?_
            have w0 := w.bind
            cases ep : tg.put' ds[i] with
            | ex c r =>
              rw [ep] at w0
              exact w0
            | no =>
              rw [ep] at w0
              exact w0
            | ok ps =>
              rw [ep] at w0
              intro qs T6 t6 pr S7
              have w1 := (show Wish H0 E ((mc (setsG (killG vs g) ps)).nx.bind _) _ from w0).bind
              have sl6 : Sl T6 (killG vs g) (L2.wipe σ vs) := (sl5.wipe vs).mono t6
              have S8 := S7.reslot (sl6.sets pr)
              refine ⟨?_, ?_⟩
              · have e1 := wipe_sets (σ := σ) (paired_fst pr fun q hq => hv _ (Tg.put_slots ep q hq)) (L2.wipe σ vs)
                rw [e1, wipe_idem]
              · refine hc.run F0 H0 _ _ _ _ H5 _ S8 ((w1.nx (E' := E')).mono fun b hb H6 S9 => ?_)
                cases b with
                | false =>
                  rw [if_neg Bool.false_ne_true] at hb ⊢
                  have S10 := S9.reslot (sl5.mono t6)
                  refine ⟨T6, ys, ws, hlt, fun z hz => t6 z (List.mem_cons_of_mem _ (t' z hz)), al.mono fun z hz => t6 z (List.mem_cons_of_mem _ hz), by omega, S10, ?_⟩
                  exact hb.mono fun rest hr zs T'' H'' tz alz Sz => hr zs T'' H'' (fun x hx => tz x (t6 x (List.mem_cons_of_mem _ hx))) alz Sz
                | true =>
                  rw [if_pos rfl] at hb ⊢
                  refine he.run F0 H0 _ _ _ _ H6 _ S9 ((hb.bind.nx (E' := E')).mono fun yd hy v H7 S11 => ?_)
                  have S12 := S11.reslot ((sl5.mono t6).mono fun z hz => List.mem_cons_of_mem (v, yd) hz)
                  refine ⟨ws, S12.cell, by have := lim_lt hl; omega, (v, yd) :: T6, ys ++ [yd], ws ++ [v], hlt, fun z hz => List.mem_cons_of_mem _ (t6 z (List.mem_cons_of_mem _ (t' z hz))), ?_, ?_, S12.write hne, ?_⟩
                  · exact al_snoc List.mem_cons_self (al.mono fun z hz => List.mem_cons_of_mem _ (t6 z (List.mem_cons_of_mem _ hz)))
                  · rw [List.length_append]
                    show ws.length + 1 ≤ i + 1
                    omega
                  · refine hy.bind.mono fun rest hr zs T'' H'' tz alz Sz => hr zs T'' H'' (fun x hx => tz x (List.mem_cons_of_mem _ (t6 x (List.mem_cons_of_mem _ hx)))) ?_ Sz
                    rw [List.append_assoc] at alz
                    exact alz
        · have e : i = ds.length := by omega
          refine .inl ⟨wk2 e, ?_⟩
          rw [List.drop_of_length_le (by omega)] at w
          have w' := (show ∀ zs T'' H'', _ → Al T'' zs (ys ++ []) → _ → _ from w) ws T' H' (fun _ z => z)
          rw [List.append_nil] at w'
          exact w' al S4
    · exact hd.elim)⟩
end
/-! ### calls -/
def spM (K : PySem.W.Frag) (C : Addr) (n : Nat) (φ : List D → Rs D) : Sp := fun vs H Q E => ∃ F ds, Same F H ∧ IsA K C F vs ds ∧ vs.length = n ∧
  Wish H E (φ ds) (fun d => ∀ v H' g P T σ, SS ⟨K, C, F, H⟩ g P ((v, d) :: T) σ H' → Q v H')
theorem XOk.mono {H0 H1 : Hp} {E : XK} {c : Addr} {r : Option Int} (h : XOk H0 E c r) (e : Same H0 H1) : XOk H1 E c r := by
  cases r with
  | none => exact fun H' s => h H' (e.trans s)
  | some r => exact fun d H' s n => h d H' (e.trans s) (e.free n)
section
variable {K : PySem.W.Frag} {C : Addr} {E E' : XK} {t : TA} {ms : G → Rs (List D)} {φ : List D → Rs D} {n : Nat}
theorem em_call (hn : ∀ g ds, ms g = .ok ds → ds.length = n) (a : AM K C E t ms) : EM K C E (tCall (spM K C n φ) [] E t) (mCall φ ms) := ⟨fun F0 H0 g P T σ H Q S h =>
  a.run F0 H0 g P T σ H _ S (by
    cases e : ms g with
    | ex c r =>
      unfold mCall at h
      rw [e] at h
      exact h
    | no =>
      unfold mCall at h
      rw [e] at h
      exact h
    | ok ds =>
      unfold mCall at h
      rw [e] at h
      show ∀ vs T' H', _ → _ → _ → _
      intro vs T' H' ht al S1
      obtain ⟨F, f⟩ := S1
      rw [List.append_nil]
      refine ⟨F, ds, f.eH, f.all al, by rw [al.len]; exact hn g ds e, ?_⟩
      have h' : Wish H0 E (φ ds) _ := h
      cases eo : φ ds with
      | no =>
        rw [eo] at h'
        exact h'.elim
      | ex c r =>
        rw [eo] at h'
        exact XOk.mono h' f.e0
      | ok d =>
        rw [eo] at h'
        intro v H2 g2 P2 T2 σ2 S2
        obtain ⟨F2, f2⟩ := S2
        refine h' v H2 ?_
        have f3 : Fz ⟨K, C, F0, H0⟩ g P T' σ H2 F2 := f.grow f2.eF f2.eH f2.e0 fun p hp hf => f2.nw p hp hf
        exact ⟨F2, (f3.sub ht).addT (f2.ts _ List.mem_cons_self)⟩)⟩
/-- a call of a def that nothing leaves -/
theorem em_call0 (hn : ∀ g ds, ms g = .ok ds → ds.length = n) (a : AM K C E t ms) : EM K C E (tCall (spM K C n φ) [] E' t) (mCall (fun ds => (φ ds).nx) ms) := ⟨fun F0 H0 g P T σ H Q S h =>
  a.run F0 H0 g P T σ H _ S (by
    cases e : ms g with
    | ex c r =>
      unfold mCall at h
      rw [e] at h
      exact h
    | no =>
      unfold mCall at h
      rw [e] at h
      exact h
    | ok ds =>
      unfold mCall at h
      rw [e] at h
      show ∀ vs T' H', _ → _ → _ → _
      intro vs T' H' ht al S1
      obtain ⟨F, f⟩ := S1
      rw [List.append_nil]
      refine ⟨F, ds, f.eH, f.all al, by rw [al.len]; exact hn g ds e, ?_⟩
      have h' : Wish H0 E (φ ds).nx _ := h
      cases eo : φ ds with
      | no =>
        rw [eo] at h'
        exact h'.elim
      | ex c r =>
        rw [eo] at h'
        exact h'.elim
      | ok d =>
        rw [eo] at h'
        intro v H2 g2 P2 T2 σ2 S2
        obtain ⟨F2, f2⟩ := S2
        refine h' v H2 ?_
        have f3 : Fz ⟨K, C, F0, H0⟩ g P T' σ H2 F2 := f.grow f2.eF f2.eH f2.e0 fun p hp hf => f2.nw p hp hf
        exact ⟨F2, (f3.sub ht).addT (f2.ts _ List.mem_cons_self)⟩)⟩
end
/-! ### statements -/
structure Sta where
  g : G
  mu : Option (Nat × List D)
inductive Ou where
  | nx (s : Sta)
  | rt (d : D)
  | bk (s : Sta)
  | ct (s : Sta)
def MuOk (mu : Option (Nat × List D)) (g : G) (P : List (Addr × List V)) (T : List (V × D)) (σ : L2.St) : Prop := match mu with
  | none => P = []
  | some (i, ds) => ∃ p vs, P = [(p, vs)] ∧ σ[i]? = some (some (.ref p)) ∧ Al T vs ds ∧ g[i]? = some none
def SSm (B : Bs) (s : Sta) (T : List (V × D)) (σ : L2.St) (H : Hp) : Prop := ∃ P T', (∀ x ∈ T, x ∈ T') ∧ MuOk s.mu s.g P T' σ ∧ SS B s.g P T' σ H
def Post (K : PySem.W.Frag) (C : Addr) (F0 H0 : Hp) (T : List (V × D)) (D' : Ends) : Ou → Prop
  | .nx s => ∀ σ H, SSm ⟨K, C, F0, H0⟩ s T σ H → D'.nx σ H
  | .rt d => ∀ v H g P T' σ, SS ⟨K, C, F0, H0⟩ g P ((v, d) :: T') σ H → D'.rt v H
  | .bk s => ∀ σ H, SSm ⟨K, C, F0, H0⟩ s T σ H → D'.bk σ H
  | .ct s => ∀ σ H, SSm ⟨K, C, F0, H0⟩ s T σ H → D'.ct σ H
structure SM (K : PySem.W.Frag) (C : Addr) (E : XK) (t : TS) (m : Sta → Rs Ou) : Prop where
  run : ∀ F0 H0 s T σ H D', SSm ⟨K, C, F0, H0⟩ s T σ H → Wish H0 E (m s) (Post K C F0 H0 T D') → t D' σ H
structure PSM (X : Cx) (K : PySem.W.Frag) (C : Addr) (E : XK) (st : Stmt) (t : TS) (m : Sta → Rs Ou) : Prop where
  p : PS X st t
  q : SM K C E t m
structure PSSM (X : Cx) (K : PySem.W.Frag) (C : Addr) (E : XK) (st : List Stmt) (t : TS) (m : Sta → Rs Ou) : Prop where
  p : PSs X st t
  q : SM K C E t m
def Sta.set (s : Sta) (i : Nat) (d : D) : Sta := ⟨s.g.set i (some d), match s.mu with
  | none => none
  | some (j, ds) => if j = i then none else some (j, ds)⟩
def Sta.frz (s : Sta) : Sta := match s.mu with
  | none => s
  | some (i, ds) => ⟨s.g.set i (some (.lst ds)), none⟩
def Sta.kill (ks : List Nat) (s : Sta) : Sta := ⟨killG ks s.g, s.mu⟩
def sNil : Sta → Rs Ou := fun s => .ok (.nx s)
def sSeq (a b : Sta → Rs Ou) : Sta → Rs Ou := fun s => (a s).bind fun o => match o with
  | .nx s' => b s'
  | o => .ok o
def sSet (i : Nat) (e : G → Rs D) : Sta → Rs Ou := fun s => (e s.g).bind fun d => .ok (.nx (s.set i d))
def sSet2 (i j : Nat) (e : G → Rs D) : Sta → Rs Ou := fun s => (e s.g).bind fun d => match d with
  | .tup [a, b] => .ok (.nx ((s.set i a).set j b))
  | _ => .no
def sPar (i j : Nat) (e : G → Rs (List D)) : Sta → Rs Ou := fun s => (e s.g).bind fun d => match d with
  | [a, b] => .ok (.nx ((s.set i a).set j b))
  | _ => .no
def sNew (i : Nat) (e : G → Rs (List D)) : Sta → Rs Ou := fun s => (e s.g).bind fun ds => if i < s.g.length then .ok (.nx ⟨s.g.set i none, some (i, ds)⟩) else .no
def sFrz (m : Sta → Rs Ou) : Sta → Rs Ou := fun s => m s.frz
def sKill (ks : List Nat) (m : Sta → Rs Ou) : Sta → Rs Ou := fun s => m (s.kill ks)
def sApp (i : Nat) (e : G → Rs D) : Sta → Rs Ou := fun s => match s.mu with
  | some (j, ds) => if j = i ∧ ds.length ≤ LIM then (e s.g).bind fun d => .ok (.nx ⟨s.g, some (j, ds ++ [d])⟩) else .no
  | none => .no
def sPut (i : Nat) (k e : G → Rs D) : Sta → Rs Ou := fun s => match s.mu with
  | some (j, ds) => if j = i then (e s.g).bind fun d => (k s.g).bind fun z => (match z with
      | .int z => (match ixN ds.length z with
        | some n => .ok (.nx ⟨s.g, some (j, ds.set n d)⟩)
        | none => .no)
      | _ => .no) else .no
  | none => .no
def sIf (c : G → Rs Bool) (a b : Sta → Rs Ou) : Sta → Rs Ou := fun s => (c s.g).bind fun x => if x = true then a s else b s
def sRet (e : G → Rs D) : Sta → Rs Ou := fun s => (e s.g).bind fun d => .ok (.rt d)
def sExp (e : G → Rs D) : Sta → Rs Ou := fun s => (e s.g).bind fun _ => .ok (.nx s)
def sRaise (c : Addr) : Sta → Rs Ou := fun _ => .ex c none
def Sta.sets (s : Sta) (ps : List (Nat × D)) : Sta := ⟨setsG s.g ps, s.mu⟩
def muFree (mu : Option (Nat × List D)) (ks : List Nat) : Bool := match mu with
  | none => true
  | some (j, _) => !ks.contains j
def forGo (tg : Tg) (ks : List Nat) (b : Sta → Rs Ou) : List D → Sta → Rs Ou
  | [], s => .ok (.nx s)
  | d :: r, s => (tg.put' d).bind fun ps => if muFree s.mu tg.slots = true then (b (s.sets ps)).bind fun o => match o with
      | .nx s' => forGo tg ks b r (s'.kill ks)
      | .ct s' => forGo tg ks b r (s'.kill ks)
      | .bk s' => .ok (.nx s')
      | .rt d => .ok (.rt d) else .no
def sFor (mi : G → Rs (List D)) (tg : Tg) (ks : List Nat) (b : Sta → Rs Ou) : Sta → Rs Ou := fun s => (mi s.g).bind fun ds => forGo tg ks b ds (s.kill ks)
section
variable {B : Bs} {s s' : Sta} {T T' : List (V × D)} {σ σ' : L2.St} {H H' : Hp} {P : List (Addr × List V)} {v : V} {d : D} {mu : Option (Nat × List D)} {g : G}
theorem MuOk.mono (h : MuOk mu g P T σ) (t : ∀ x ∈ T, x ∈ T') : MuOk mu g P T' σ := by
  unfold MuOk at h ⊢
  split at h
  · exact h
  · obtain ⟨p, vs, h1, h2, h3, h4⟩ := h
    exact ⟨p, vs, h1, h2, h3.mono t, h4⟩
theorem SSm.sub (h : SSm B s T σ H) (t : ∀ x ∈ T', x ∈ T) : SSm B s T' σ H := by
  obtain ⟨P, T1, t1, mu, S⟩ := h
  exact ⟨P, T1, fun x hx => t1 x (t x hx), mu, S⟩
theorem SSm.of (S : SS B s.g P T' σ H) (m : MuOk s.mu s.g P T' σ) (t : ∀ x ∈ T, x ∈ T') : SSm B s T σ H := ⟨P, T', t, m, S⟩
theorem MuOk.set (h : MuOk s.mu s.g P T σ) {i : Nat} : ∃ P', (∀ x ∈ P', x ∈ P) ∧ MuOk (s.set i d).mu (s.set i d).g P' T (σ.set i (some v)) := by
  unfold Sta.set
  cases e : s.mu with
  | none =>
    rw [e] at h
    exact ⟨P, fun _ z => z, h⟩
  | some q =>
    obtain ⟨j, ds⟩ := q
    rw [e] at h
    obtain ⟨p, vs, h1, h2, h3, h4⟩ := h
    dsimp only
    by_cases z : j = i
    · rw [if_pos z]
      exact ⟨[], fun _ z => (by cases z), rfl⟩
    · rw [if_neg z]
      refine ⟨P, fun _ z => z, p, vs, h1, ?_, h3, ?_⟩
      · rw [List.getElem?_set_ne (Ne.symm z)]
        exact h2
      · rw [List.getElem?_set_ne (Ne.symm z)]
        exact h4
theorem SSm.set (S : SS B s.g P T σ H) (m : MuOk s.mu s.g P T σ) {i : Nat} (hv : (v, d) ∈ T) : ∃ P', MuOk (s.set i d).mu (s.set i d).g P' T (σ.set i (some v)) ∧ SS B (s.set i d).g P' T (σ.set i (some v)) H := by
  obtain ⟨P', p1, p2⟩ := m.set (i := i) (d := d) (v := v)
  exact ⟨P', p2, (S.set hv).subP p1⟩
theorem SSm.frz (h : SSm B s T σ H) : SSm B s.frz T σ H := by
  obtain ⟨P, T1, t1, mu, S⟩ := h
  unfold Sta.frz
  cases e : s.mu with
  | none => exact ⟨P, T1, t1, mu, S⟩
  | some q =>
    obtain ⟨i, ds⟩ := q
    rw [e] at mu
    obtain ⟨p, vs, h1, h2, h3, h4⟩ := mu
    subst h1
    have S2 := S.frz (fun x hx => by cases hx) h3
    have S3 := S2.set (i := i) List.mem_cons_self
    have e2 : σ.set i (some (.ref p)) = σ := by
      obtain ⟨h1, h2⟩ := List.getElem?_eq_some_iff.mp h2
      rw [← h2]
      exact List.set_getElem_self h1
    rw [e2] at S3
    exact ⟨[], _, fun x hx => List.mem_cons_of_mem _ (t1 x hx), rfl, S3⟩
theorem killG_none {g : G} {i : Nat} (h : g[i]? = some none) : ∀ ks : List Nat, (killG ks g)[i]? = some none
  | [] => h
  | k :: r => by
    have ih := killG_none h r
    show ((killG r g).set k none)[i]? = some none
    by_cases e : k = i
    · subst e
      rw [List.getElem?_set_self (List.getElem?_eq_some_iff.mp ih).1]
    · rw [List.getElem?_set_ne e]
      exact ih
theorem SSm.kill (h : SSm B s T σ H) (ks : List Nat) : SSm B (s.kill ks) T σ H := by
  obtain ⟨P, T1, t1, mu, S⟩ := h
  refine ⟨P, T1, t1, ?_, S.kill ks⟩
  unfold Sta.kill
  unfold MuOk at mu ⊢
  split at mu
  · rename_i e
    rw [e]
    exact mu
  · rename_i i ds e
    rw [e]
    obtain ⟨p, vs, h1, h2, h3, h4⟩ := mu
    exact ⟨p, vs, h1, h2, h3, killG_none h4 ks⟩
theorem setsG_get {i : Nat} {o : Option D} : ∀ {ps : List (Nat × D)} {g : G}, (∀ p ∈ ps, p.1 ≠ i) → g[i]? = some o → (setsG g ps)[i]? = some o
  | [], g, _, h => h
  | p :: r, g, hn, h => setsG_get (ps := r) (g := g.set p.1 (some p.2)) (fun q hq => hn q (List.mem_cons_of_mem _ hq)) (by rw [List.getElem?_set_ne (hn p List.mem_cons_self)]; exact h)
theorem setsS_get {i : Nat} {o : Option V} : ∀ {ps : List (Nat × V)} {g : L2.St}, (∀ p ∈ ps, p.1 ≠ i) → g[i]? = some o → (setsS g ps)[i]? = some o
  | [], g, _, h => h
  | p :: r, g, hn, h => setsS_get (ps := r) (g := g.set p.1 (some p.2)) (fun q hq => hn q (List.mem_cons_of_mem _ hq)) (by rw [List.getElem?_set_ne (hn p List.mem_cons_self)]; exact h)
theorem muFree_ne {mu : Option (Nat × List D)} {ks : List Nat} {j : Nat} {ds : List D} (h : muFree mu ks = true) (e : mu = some (j, ds)) : ∀ k ∈ ks, k ≠ j := by
  subst e
  intro k hk z
  subst z
  have h2 : (!ks.contains k) = true := h
  rw [Bool.not_eq_true', List.contains_eq_mem, decide_eq_false_iff_not] at h2
  exact h2 hk
end
section
variable {K : PySem.W.Frag} {C : Addr} {E E' : XK} {te ta ti : TE} {me mi' : G → Rs D} {t u : TS} {m m' a b : Sta → Rs Ou} {tt : TT} {mc : G → Rs Bool} {wi : TI} {mi : G → Rs (List D)}
theorem sm_nil : SM K C E tNext sNil := ⟨fun F0 H0 s T σ H D' S h => h σ H S⟩
theorem sm_seq (h1 : SM K C E t a) (h2 : SM K C E u b) : SM K C E (tSeq t u) (sSeq a b) := ⟨fun F0 H0 s T σ H D' S h =>
  h1.run F0 H0 s T σ H _ S (h.bind.mono fun o ho => by
    cases o with
    | nx s' => exact fun σ' H' S' => h2.run F0 H0 s' T σ' H' D' S' ho
    | rt d => exact ho
    | bk s' => exact ho
    | ct s' => exact ho)⟩
theorem sm_frz (h : SM K C E t m) : SM K C E t (sFrz m) := ⟨fun F0 H0 s T σ H D' S w => h.run F0 H0 s.frz T σ H D' S.frz w⟩
theorem sm_set {i : Nat} (h : EM K C E te me) : SM K C E (tAsg te (gName i)) (sSet i me) := ⟨fun F0 H0 s T σ H D' S w => by
  obtain ⟨P, T1, t1, mu, S1⟩ := S
  refine h.run F0 H0 s.g P T1 σ H _ S1 (w.bind.mono fun d hd v H' S2 => ?_)
  obtain ⟨P', p1, p2⟩ := SSm.set S2 (mu.mono fun z hz => List.mem_cons_of_mem _ hz) (i := i) List.mem_cons_self
  exact hd _ _ ⟨P', _, fun x hx => List.mem_cons_of_mem _ (t1 x hx), p1, p2⟩⟩
theorem two_set {i j : Nat} {F0 H0 : Hp} {s : Sta} {P : List (Addr × List V)} {T1 : List (V × D)} {σ : L2.St} {H : Hp} {v w : V} {a b : D} (S : SS ⟨K, C, F0, H0⟩ s.g P T1 σ H) (mu : MuOk s.mu s.g P T1 σ) (h1 : (v, a) ∈ T1) (h2 : (w, b) ∈ T1) {T : List (V × D)} (t : ∀ x ∈ T, x ∈ T1) :
    SSm ⟨K, C, F0, H0⟩ ((s.set i a).set j b) T ((σ.set i (some v)).set j (some w)) H := by
  obtain ⟨P1, p1, p2⟩ := SSm.set S mu (i := i) h1
  obtain ⟨P2, p3, p4⟩ := SSm.set (s := s.set i a) p2 p1 (i := j) h2
  exact ⟨P2, T1, t, p3, p4⟩
theorem sm_set2 {i j : Nat} (h : EM K C E te me) : SM K C E (tAsg te ((Tg.two i j).g K)) (sSet2 i j me) := ⟨fun F0 H0 s T σ H D' S w => by
  obtain ⟨P, T1, t1, mu, S1⟩ := S
  refine h.run F0 H0 s.g P T1 σ H _ S1 (w.bind.mono fun d hd v H' S2 => ?_)
  split at hd
  · rename_i a b
    obtain ⟨p, vs, rfl, hp, al, S3⟩ := S2.openT List.mem_cons_self
    cases al with
    | cons r1 q1 =>
      cases q1 with
      | cons r2 q2 =>
        cases q2
        exact ⟨p, _, rfl, .inl (.inl hp), rfl, _, _, rfl, _, _, rfl, rfl, hd _ _ (two_set S3 (mu.mono fun z hz => List.mem_append_right _ (List.mem_cons_of_mem _ hz)) r1 r2 fun x hx => List.mem_append_right _ (List.mem_cons_of_mem _ (t1 x hx)))⟩
  · exact hd.elim⟩
theorem sm_new {i : Nat} {ms : G → Rs (List D)} (h : LM K C E te ms) : SM K C E (tAsg te (gName i)) (sNew i ms) := ⟨fun F0 H0 s T σ H D' S w => by
  obtain ⟨P, T1, t1, mu, S1⟩ := S
  refine h.run F0 H0 s.g P T1 σ H _ S1 (w.bind.mono fun ds hd p vs T' H' ht al hp S2 => ?_)
  split at hd
  · rename_i hi
    have S3 := (S2.set0 (i := i) (o := some (.ref p))).subP (P' := [(p, vs)]) fun x hx => by
      rw [List.mem_singleton] at hx
      rw [hx]
      exact List.mem_cons_self
    have hl : σ.length = s.g.length := by
      obtain ⟨F, f⟩ := S2
      exact f.ln
    refine hd _ _ ⟨_, T', fun x hx => ht x (t1 x hx), ⟨p, vs, rfl, ?_, al, ?_⟩, S3⟩
    · rw [List.getElem?_set_self (by rw [hl]; exact hi)]
    · rw [List.getElem?_set_self hi]
  · exact hd.elim⟩
theorem al_set {T : List (V × D)} {v : V} {d : D} (hv : (v, d) ∈ T) : ∀ {vs : List V} {ds : List D} (n : Nat), Al T vs ds → Al T (vs.set n v) (ds.set n d)
  | _, _, _, .nil => .nil
  | _, _, 0, .cons _ t => .cons hv t
  | _, _, n + 1, .cons r t => .cons r (al_set hv n t)
theorem sm_app {i : Nat} (h : EM K C E te me) : SM K C E (tDrop (tBM K "list" rAppend (tVar i) (tCons te tNil))) (sApp i me) := ⟨fun F0 H0 s T σ H D' S w => by
  obtain ⟨P, T1, t1, mu, S1⟩ := S
  unfold sApp at w
  cases e : s.mu with
  | none =>
    rw [e] at w
    exact w.elim
  | some q =>
    obtain ⟨j, ds⟩ := q
    rw [e] at w mu
    dsimp only at w
    split at w
    · rename_i hc
      obtain ⟨rfl, hl⟩ := hc
      obtain ⟨p, vs, h1, h2, h3, h4⟩ := mu
      subst h1
      refine ⟨.ref p, h2, .inl ⟨rfl, vs, .inl (.inl S1.cell)⟩, ?_⟩
      refine h.run F0 H0 s.g _ T1 σ H _ S1 (w.bind.mono fun d hd v H' S2 => ?_)
      refine ⟨p, vs, v, rfl, rfl, S2.cell, by rw [h3.len]; exact lim_lt hl, ?_⟩
      refine hd _ _ ⟨[(p, vs ++ [v])], _, fun x hx => List.mem_cons_of_mem _ (t1 x hx), ⟨p, _, rfl, h2, al_snoc List.mem_cons_self (h3.mono fun z hz => List.mem_cons_of_mem _ hz), h4⟩, S2.write fun x hx => by cases hx⟩
    · exact w.elim⟩
theorem sm_put {i : Nat} {k : G → Rs D} {tk : TE} (h : EM K C E te me) (hk : EM K C E tk k) : SM K C E (tAsg te (gSub (tVar i) tk rSetL)) (sPut i k me) := ⟨fun F0 H0 s T σ H D' S w => by
  obtain ⟨P, T1, t1, mu, S1⟩ := S
  unfold sPut at w
  cases e : s.mu with
  | none =>
    rw [e] at w
    exact w.elim
  | some q =>
    obtain ⟨j, ds⟩ := q
    rw [e] at w mu
    dsimp only at w
    split at w
    · rename_i hc
      subst hc
      obtain ⟨p, vs, h1, h2, h3, h4⟩ := mu
      subst h1
      refine h.run F0 H0 s.g _ T1 σ H _ S1 (w.bind.mono fun d hd v H' S2 => ?_)
      refine ⟨.ref p, h2, ?_⟩
      refine hk.run F0 H0 s.g _ _ σ H' _ S2 (hd.bind.mono fun z hz kv H2 S3 => ?_)
      split at hz
      · rename_i zi
        split at hz
        · rename_i n en
          have ek : kv = .int zi := by
            obtain ⟨F, f⟩ := S3
            have q := f.ts (kv, .int zi) List.mem_cons_self
            cases q
            rfl
          refine ⟨p, vs, zi, n, rfl, ek, S3.cell, by rw [h3.len]; exact en, ?_⟩
          refine hz _ _ ⟨[(p, vs.set n v)], _, fun x hx => List.mem_cons_of_mem _ (List.mem_cons_of_mem _ (t1 x hx)), ⟨p, _, rfl, h2, al_set (List.mem_cons_of_mem _ List.mem_cons_self) n (h3.mono fun z hz => List.mem_cons_of_mem _ (List.mem_cons_of_mem _ hz)), h4⟩, S3.write fun x hx => by cases hx⟩
        · exact hz.elim
      · exact hz.elim
    · exact w.elim⟩
theorem sm_if (hc : TM K C E tt mc) (h1 : SM K C E t a) (h2 : SM K C E u b) : SM K C E (tIfS tt t u) (sIf mc a b) := ⟨fun F0 H0 s T σ H D' S w => by
  obtain ⟨P, T1, t1, mu, S1⟩ := S
  refine hc.run F0 H0 s.g P T1 σ H _ S1 (w.bind.mono fun x hx H' S2 => ?_)
  cases x with
  | true => exact h1.run F0 H0 s T σ H' D' ⟨P, T1, t1, mu, S2⟩ hx
  | false => exact h2.run F0 H0 s T σ H' D' ⟨P, T1, t1, mu, S2⟩ hx⟩
theorem sm_ret (h : EM K C E te me) : SM K C E (tRet te) (sRet me) := ⟨fun F0 H0 s T σ H D' S w => by
  obtain ⟨P, T1, t1, mu, S1⟩ := S
  exact h.run F0 H0 s.g P T1 σ H _ S1 (w.bind.mono fun d hd v H' S2 => hd v H' _ _ _ _ S2)⟩
theorem sm_exp (h : EM K C E te me) : SM K C E (tDrop te) (sExp me) := ⟨fun F0 H0 s T σ H D' S w => by
  obtain ⟨P, T1, t1, mu, S1⟩ := S
  exact h.run F0 H0 s.g P T1 σ H _ S1 (w.bind.mono fun d hd v H' S2 => hd σ H' ⟨P, _, fun x hx => List.mem_cons_of_mem _ (t1 x hx), mu.mono fun z hz => List.mem_cons_of_mem _ hz, S2⟩)⟩
theorem sm_raise {c : Addr} : SM K C E (fun _ _ H => E (.ref c) none H) (sRaise c) := ⟨fun F0 H0 s T σ H D' S w => by
  obtain ⟨P, T1, t1, mu, F, f⟩ := S
  exact w H f.e0⟩
theorem paired_in {T1 : List (V × D)} {ps : List (Nat × D)} {qs : List (Nat × V)} (r : Paired (fun (p : Nat × D) (q : Nat × V) => p.1 = q.1 ∧ (q.2, p.2) ∈ T1) ps qs) : ∀ q ∈ qs, ∃ p ∈ ps, p.1 = q.1 := by
  induction r with
  | nil =>
    intro q hq
    cases hq
  | cons h1 t ih =>
    intro q hq
    rcases List.mem_cons.mp hq with e | e
    · subst e
      exact ⟨_, List.mem_cons_self, h1.1⟩
    · obtain ⟨p, hp, e2⟩ := ih q e
      exact ⟨p, List.mem_cons_of_mem _ hp, e2⟩
theorem SSm.sets {F0 H0 : Hp} {s : Sta} {P : List (Addr × List V)} {T1 T : List (V × D)} {σ : L2.St} {H : Hp} {ps : List (Nat × D)} {qs : List (Nat × V)} (S : SS ⟨K, C, F0, H0⟩ s.g P T1 σ H) (mu : MuOk s.mu s.g P T1 σ) (hf : ∀ j ds, s.mu = some (j, ds) → ∀ p ∈ ps, p.1 ≠ j)
    (r : Paired (fun (p : Nat × D) (q : Nat × V) => p.1 = q.1 ∧ (q.2, p.2) ∈ T1) ps qs) (t : ∀ x ∈ T, x ∈ T1) : SSm ⟨K, C, F0, H0⟩ (s.sets ps) T (setsS σ qs) H := by
  obtain ⟨T2, t2, sl, S2⟩ := S.slots
  have r2 : Paired (fun (p : Nat × D) (q : Nat × V) => p.1 = q.1 ∧ (q.2, p.2) ∈ T2) ps qs := Paired.mapP r fun a b h => ⟨h.1, t2 _ h.2⟩
  refine ⟨P, T2, fun x hx => t2 x (t x hx), ?_, S2.reslot (sl.sets r2)⟩
  have mu2 := mu.mono t2
  unfold MuOk at mu2 ⊢
  show match s.mu with | none => _ | some (i, ds) => _
  split
  · rename_i e
    rw [e] at mu2
    exact mu2
  · rename_i j ds e
    rw [e] at mu2
    obtain ⟨p, vs, h1, h2, h3, h4⟩ := mu2
    have hn := hf j ds e
    refine ⟨p, vs, h1, setsS_get (fun q hq z => ?_) h2, h3, setsG_get hn h4⟩
    obtain ⟨p, hp, e2⟩ := paired_in r q hq
    exact hn p hp (e2.trans z)
theorem sm_for {tg : Tg} {ks : List Nat} (hi : IM K C E wi mi) (hb : SM K C E t b) : SM K C E (tFor wi (tg.g K) t) (sFor mi tg ks b) := ⟨fun F0 H0 s T σ H D' S w => by
  obtain ⟨P, T1, t1, mu, S1⟩ := S
  refine hi.run F0 H0 s.g P T1 σ H _ S1 (w.bind.mono fun ds hd J T2 H1 ht2 S2 wk => ?_)
  have S3 : SSm ⟨K, C, F0, H0⟩ s T2 σ H1 := ⟨P, T2, fun _ z => z, mu.mono ht2, S2⟩
  refine ⟨fun i n σ' H' => ∃ s', i ≤ ds.length ∧ n = ds.length - i ∧ SSm ⟨K, C, F0, H0⟩ s' T2 σ' H' ∧ Wish H0 E (forGo tg ks b (ds.drop i) s') (Post K C F0 H0 T D'), ⟨ds.length, s.kill ks, Nat.zero_le _, rfl, S3.kill ks, by rw [List.drop_zero]; exact hd⟩, ?_⟩
  rintro i n σ' H' ⟨s', hil, rfl, S4, w4⟩
  obtain ⟨P4, T4, t4, mu4, S5⟩ := S4
  obtain ⟨wk1, wk2⟩ := wk i s'.g P4 T4 σ' H' t4 S5
  by_cases hlt : i < ds.length
  · obtain ⟨go, yl⟩ := wk1 ds[i] (List.getElem?_eq_getElem hlt)
    rw [List.drop_eq_getElem_cons hlt] at w4
    refine .inr ⟨go, fun σ'' H'' => ∃ s'', SSm ⟨K, C, F0, H0⟩ s'' T2 σ'' H'' ∧ Wish H0 E (forGo tg ks b (ds.drop (i + 1)) s'') (Post K C F0 H0 T D'), ?_, ?_⟩
    · rintro σ'' H'' ⟨s'', a1, a2⟩
      exact ⟨ds.length - (i + 1), by omega, s'', hlt, rfl, a1, a2⟩
    · intro x H5 y
      have S6 := yl x H5 y
      refine Tg.run (E := E) (g0 := s'.g) (σ0 := σ') tg S6 List.mem_cons_self ?_
      have w0 := w4.bind
      cases ep : tg.put' ds[i] with
      | ex c r =>
        rw [ep] at w0
        exact w0
      | no =>
        rw [ep] at w0
        exact w0
      | ok ps =>
        rw [ep] at w0
        intro qs T6 t6 pr S7
        have w1 : Wish H0 E (if muFree s'.mu tg.slots = true then _ else _) _ := w0
        split at w1
        · rename_i hf
          have S8 : SSm ⟨K, C, F0, H0⟩ (s'.sets ps) T2 (setsS σ' qs) H5 := SSm.sets S7 (mu4.mono fun z hz => t6 z (List.mem_cons_of_mem _ hz)) (fun j es e p hp => muFree_ne hf e _ (Tg.put_slots ep p hp)) pr fun x hx => t6 x (List.mem_cons_of_mem _ (t4 x hx))
          refine hb.run F0 H0 _ T2 _ H5 _ S8 (w1.bind.mono fun o ho => ?_)
          cases o with
          | nx s2 => exact fun σ7 H7 S9 => ⟨s2.kill ks, S9.kill ks, ho⟩
          | ct s2 => exact fun σ7 H7 S9 => ⟨s2.kill ks, S9.kill ks, ho⟩
          | bk s2 => exact fun σ7 H7 S9 => (show ∀ σ H, SSm ⟨K, C, F0, H0⟩ s2 T σ H → D'.nx σ H from ho) σ7 H7 (S9.sub fun x hx => ht2 x (t1 x hx))
          | rt d => exact ho
        · exact w1.elim
  · have e : i = ds.length := by omega
    refine .inl ⟨wk2 e, ?_⟩
    rw [List.drop_of_length_le (by omega)] at w4
    exact (show ∀ σ H, SSm ⟨K, C, F0, H0⟩ s' T σ H → D'.nx σ H from w4) σ' H' ⟨P4, T4, fun x hx => t4 x (ht2 x (t1 x hx)), mu4, S5⟩⟩
end
/-! ### defs -/
def startG (n : Nat) (ds : List D) : G := ds.map some ++ List.replicate (n - ds.length) none
def runM (n : Nat) (m : Sta → Rs Ou) (ds : List D) : Rs D := (m ⟨startG n ds, none⟩).bind fun o => match o with
  | .rt d => .ok d
  | .nx _ => .ok .non
  | _ => .no
theorem start_SS {K : PySem.W.Frag} {C : Addr} {F H : Hp} {N : List Str} {vs : List V} {ds : List D} (e : Same F H) (a : IsA K C F vs ds) : SS ⟨K, C, F, H⟩ (startG N.length ds) [] [] (L2.start N vs) H := by
  refine ⟨F, ⟨Same.refl F, e, Same.refl H, fun _ _ h => h, fun i d h => ?_, ?_, fun x hx => (by cases hx), fun x hx => (by cases hx)⟩⟩
  · unfold startG at h
    by_cases hi : i < ds.length
    · rw [List.getElem?_append_left (by rw [List.length_map]; exact hi), List.getElem?_map] at h
      cases q : ds[i]? with
      | none => rw [q] at h; cases h
      | some d0 =>
        rw [q] at h
        cases h
        obtain ⟨v, h1, h2⟩ := a.get q
        refine ⟨v, ?_, h2⟩
        unfold L2.start
        rw [List.getElem?_append_left (by rw [List.length_map, a.len]; exact hi), List.getElem?_map, h1]
        rfl
    · rw [List.getElem?_append_right (by rw [List.length_map]; omega), List.getElem?_replicate] at h
      split at h
      · cases h
      · cases h
  · unfold L2.start startG
    rw [List.length_append, List.length_append, List.length_map, List.length_map, List.length_replicate, List.length_replicate, a.len]
section
variable {P : Program} {w : World} {K : PySem.W.Frag} {mg : Str → Option Value} {base : Heap} {C : Addr}
/-- a def that nothing leaves -/
theorem def_ok {x qual : Str} {st : Stmt} {f : Addr} {fd : FuncData} {N ps : List Str} {k : Nat} {m : Sta → Rs Ou} (F : Fun K x qual st f fd) (S : FnScope N ps (defScope st))
    (hb : ∀ (cdv : Value) (A : Around) (outer : List Env) (s : Shared) (H : Hp) (E : XK), Room k (A.deeper (PyProof.Rows.envOfC qual (defScope st) s.heap.objs.size f cdv)) →
      ∃ t, PSSM (cxOf CX0 P w K mg base N qual (defScope st) f cdv A outer s H E).nox K C E0 (defBody st) t m) : FnOk P w K mg base CX0 (k + 1) f fd ps (spM K C ps.length fun ds => (runM N.length m ds).nx) := by
  refine F.ok S (fun vs H Q E h => ?_) (fun cdv A outer s H vs Q E hr h => ?_)
  · obtain ⟨_, _, _, _, h, _⟩ := h
    exact h
  · obtain ⟨F, ds, e, a, hl, h⟩ := h
    obtain ⟨t, pt⟩ := hb cdv A outer s H E hr
    refine ⟨t, pt.p, pt.q.run F H ⟨startG N.length ds, none⟩ [] _ H _ ⟨[], [], fun _ z => z, rfl, start_SS e a⟩ ?_⟩
    have h2 := (h.nx (E' := E0)).bind
    exact h2.mono fun o ho => by
      cases o with
      | rt d => exact fun v H' g P T' σ S => ho v H' g P T' σ S
      | nx s =>
        intro σ H' S
        obtain ⟨P, T', t, mu, S⟩ := S
        exact ho .non H' _ _ _ _ (S.addT fun _ _ => .non)
      | bk s => exact ho.elim
      | ct s => exact ho.elim
/-- a def that may raise -/
theorem def_okX {x qual : Str} {st : Stmt} {f : Addr} {fd : FuncData} {N ps : List Str} {k : Nat} {m : Sta → Rs Ou} (F : Fun K x qual st f fd) (S : FnScope N ps (defScope st))
    (hb : ∀ (cdv : Value) (A : Around) (outer : List Env) (s : Shared) (H : Hp) (E : XK), Room k (A.deeper (PyProof.Rows.envOfC qual (defScope st) s.heap.objs.size f cdv)) →
      ∃ t, PSSM (cxOf (L2.CX P w) P w K mg base N qual (defScope st) f cdv A outer s H E) K C E (defBody st) t m) : FnOk P w K mg base (L2.CX P w) (k + 1) f fd ps (spM K C ps.length (runM N.length m)) := by
  refine F.okX S (fun vs H Q E h => ?_) (fun cdv A outer s H vs Q E hr h => ?_)
  · obtain ⟨_, _, _, _, h, _⟩ := h
    exact h
  · obtain ⟨F, ds, e, a, hl, h⟩ := h
    obtain ⟨t, pt⟩ := hb cdv A outer s H E hr
    refine ⟨t, pt.p, pt.q.run F H ⟨startG N.length ds, none⟩ [] _ H _ ⟨[], [], fun _ z => z, rfl, start_SS e a⟩ ?_⟩
    exact h.bind.mono fun o ho => by
      cases o with
      | rt d => exact fun v H' g P T' σ S => ho v H' g P T' σ S
      | nx s =>
        intro σ H' S
        obtain ⟨P, T', t, mu, S⟩ := S
        exact ho .non H' _ _ _ _ (S.addT fun _ _ => .non)
      | bk s => exact ho.elim
      | ct s => exact ho.elim
end
end Z
set_option Elab.async false
set_option linter.all false
set_option maxRecDepth 100000
set_option maxHeartbeats 4000000
/-! Z, part D: for each construct the rule that gives the reading and the mirror at once. -/
namespace Z
set_option autoImplicit false
open PySem L2
abbrev qSub : R2 := rI0 fun i j => .int (i - j)
abbrev qMod : R2 := rI (fun _ j => 0 < j) fun i j => .int (i % j)
abbrev qNeg : V → Hp → VK → Prop := rU fun i => .int (-i)
abbrev qLt : R2 := rI0 fun i j => .bl (decide (i < j))
abbrev qLe : R2 := rI0 fun i j => .bl (decide (i ≤ j))
abbrev qGt : R2 := rI0 fun i j => .bl (decide (j < i))
abbrev qGe : R2 := rI0 fun i j => .bl (decide (j ≤ i))
abbrev qIsN : R2 := fun x y H Q => y = .non ∧ Q (.bl (decide (x = .non))) H
section
variable {X : Cx} {K : PySem.W.Frag} {C : Addr} {E : XK} {e a b c : Expr} {es ifs : List Expr} {te ta tb tc : TE} {m ma mb mc : G → Rs D} {t : TA} {ms : G → Rs (List D)} {pos p p2 : Pos} {tt tA tB' : TT} {mt mA' mB' : G → Rs Bool}
/-! ### expressions -/
theorem x_v (i : Nat) {x : Str} (hN : X.N[i]? = some x := by rfl) (hv : Vis X.env.scope x := by first | exact Or.inl rfl | exact Or.inr (Or.inl rfl) | exact Or.inr (Or.inr rfl)) (hd : (x == ("__debug__" : Str)) = false := by decide)
    (hcd : (x == ("__classdict__" : Str)) = false := by decide) : PEM X K C E (.Name x pos) (tVar i) (mV i) := ⟨pe_var hN hv hd hcd, em_v i⟩
theorem x_int {i : Int} {j : Nat} : PEM X K C E (.Constant (.int i) j pos) (tC (.int i)) (mC (.int i)) := ⟨pe_int, em_c fun _ => .int i⟩
theorem x_bl {i : Bool} {j : Nat} : PEM X K C E (.Constant (.bool i) j pos) (tC (.bl i)) (mC (.bl i)) := ⟨pe_bl, em_c fun _ => .bl i⟩
theorem x_non {j : Nat} : PEM X K C E (.Constant .none j pos) (tC .non) (mC .non) := ⟨pe_non, em_c fun _ => .non⟩
theorem x_str {i : Str} {j : Nat} : PEM X K C E (.Constant (.str i) j pos) (tC (.str i)) (mC (.str i)) := ⟨pe_str, em_c fun _ => .str i⟩
theorem x_glob {x : Str} {n : Int} (hm : ∃ tk, X.mg x = some (.int n tk)) (hg : Gl X x := by rfl) (hd : (x == ("__debug__" : Str)) = false := by decide) : PEM X K C E (.Name x pos) (tC (.int n)) (mC (.int n)) := ⟨hm.elim fun tk h => pe_glob hg h ⟨tk, rfl⟩ hd, em_c fun _ => .int n⟩
theorem x_bin {op : Operator} {r : R2} {f : D → D → Option D} (ho : OpR X (binaryOp op) r) (hf : R2M K C r f) (ha : PEM X K C E a ta ma) (hb : PEM X K C E b tb mb) : PEM X K C E (.BinOp a op b pos) (tOp r ta tb) (m2 f ma mb) := ⟨pe_op ho ha.p hb.p, em_2 hf ha.q hb.q⟩
theorem x_add (ha : PEM X K C E a ta ma) (hb : PEM X K C E b tb mb) : PEM X K C E (.BinOp a .Add b pos) (tOp rAdd2 ta tb) (m2 dAdd ma mb) := x_bin (op_add.or op_cat) r_add ha hb
theorem x_sub (ha : PEM X K C E a ta ma) (hb : PEM X K C E b tb mb) : PEM X K C E (.BinOp a .Sub b pos) (tOp qSub ta tb) (m2 dSub ma mb) := x_bin op_sub r_sub ha hb
theorem x_mod (ha : PEM X K C E a ta ma) (hb : PEM X K C E b tb mb) : PEM X K C E (.BinOp a .Mod b pos) (tOp qMod ta tb) (m2 dMod ma mb) := x_bin op_mod r_mod ha hb
theorem x_neg (ha : PEM X K C E a ta ma) : PEM X K C E (.UnaryOp .USub a pos) (tUn qNeg ta) (m1 dNeg ma) := ⟨pe_un un_neg ha.p, em_1 r_neg ha.q⟩
theorem x_cmp {op : CmpOp} {r : R2} {f : D → D → Option D} (ho : OpR X (compareOp op) r) (hf : R2M K C r f) (hm : behindInMarks op b = false) (ha : PEM X K C E a ta ma) (hb : PEM X K C E b tb mb) : PEM X K C E (.Compare a [op] [b] pos) (tOp r ta tb) (m2 f ma mb) := ⟨pe_cmpR ho ha.p hb.p hm, em_2 hf ha.q hb.q⟩
theorem x_ge (ha : PEM X K C E a ta ma) (hb : PEM X K C E b tb mb) : PEM X K C E (.Compare a [.GtE] [b] pos) (tOp qGe ta tb) (m2 dGe ma mb) := x_cmp op_ge r_ge (nomark _) ha hb
theorem x_chLeLe (ha : PEM X K C E a ta ma) (hb : PEM X K C E b tb mb) (hc : PEM X K C E c tc mc) (hm : lastMarks [.LtE, .LtE] [b, c] = false := by with_unfolding_all rfl) : PEM X K C E (.Compare a [.LtE, .LtE] [b, c] pos) (tChain qLe qLe ta tb tc) (mCh dLe dLe ma mb mc) := ⟨pe_chain op_le op_le ha.p hb.p hc.p hm, em_ch r_le r_le ha.q hb.q hc.q⟩
theorem x_ix (ha : PEM X K C E a ta ma) (hb : PEM X K C E b tb mb) (hs : PlainIx b := by exact fun _ _ => rfl) (hK : X.K = K := by rfl) : PEM X K C E (.Subscript a b pos) (tOp (rIx2 K) ta tb) (m2 dIx ma mb) := by
  subst hK
  exact ⟨pe_ix (ix_list.or ix_tup) ha.p hb.p hs, em_2 r_ix ha.q hb.q⟩
theorem o_n : POM X K C E none tNoPart mN := ⟨po_none, om_n⟩
theorem o_s (ha : PEM X K C E a ta ma) : POM X K C E (some a) (tPart ta) (mS ma) := ⟨po_some ha.p, om_s ha.q⟩
theorem x_sl {lo hi : Option Expr} {tl th : TO} {ml mh : G → Rs (Option Int)} (ha : PEM X K C E a ta ma) (hl : POM X K C E lo tl ml) (hh : POM X K C E hi th mh) (hK : X.K = K := by rfl) : PEM X K C E (.Subscript a (.Slice lo hi none p2) pos) (tSl (rSlL K) ta tl th) (mSl ma ml mh) := by
  subst hK
  exact ⟨pe_slice sl_list ha.p hl.p hh.p, em_sl ha.q hl.q hh.q⟩
theorem x_fld {n : Str} (hc : Cls K C) (hn : NoAttr K C n) (ha : PEM X K C E a ta ma) (hb : attributeBase a n X.env (eval a X.env) = eval a X.env := by rfl) (hK : X.K = K := by rfl) : PEM X K C E (.Attribute a n pos) (tFld K ta n) (m1 (dFld n) ma) := by
  subst hK
  exact ⟨pe_fld ha.p hb, em_fld hc hn ha.q⟩
/-! ### arguments, displays -/
theorem a_nil : PAM X K C E [] tNil mNil := ⟨pa_nil, am_nil⟩
theorem a_cons (ha : PEM X K C E e te m) (hr : PAM X K C E es t ms) (hs : starEach (e :: es) X.env = (false, eval e X.env) :: starEach es X.env := by rfl) : PAM X K C E (e :: es) (tCons te t) (mCons m ms) := ⟨pa_cons ha.p hr.p hs, am_cons ha.q hr.q⟩
theorem mNil_len : ∀ (g : G) ds, mNil g = .ok ds → ds.length = 0 := fun g ds h => by cases h; rfl
theorem mCons_len {n : Nat} (h : ∀ (g : G) ds, ms g = .ok ds → ds.length = n) : ∀ (g : G) ds, mCons m ms g = .ok ds → ds.length = n + 1 := fun g ds q => by
  unfold mCons at q
  cases e1 : m g with
  | ok x =>
    rw [e1] at q
    cases e2 : ms g with
    | ok xs =>
      rw [Rs.bind_ok, e2, Rs.bind_ok] at q
      cases q
      exact congrArg Nat.succ (h g xs e2)
    | ex c r => rw [Rs.bind_ok, e2] at q; cases q
    | no => rw [Rs.bind_ok, e2] at q; cases q
  | ex c r => rw [e1] at q; cases q
  | no => rw [e1] at q; cases q
theorem len_le {n : Nat} (h : ∀ (g : G) ds, ms g = .ok ds → ds.length = n) (hn : n ≤ 1000) : ∀ (g : G) ds, ms g = .ok ds → ds.length ≤ 1000 := fun g ds q => by rw [h g ds q]; exact hn
theorem x_tup {n : Nat} {k : Nat} (hn : n ≤ 1000) (ha : PAM X K C E es t ms) (hl : ∀ (g : G) ds, ms g = .ok ds → ds.length = n) : PEM X K C E (.Tuple es k pos) (tTup t) (mTup ms) := ⟨pe_tup ha.p, em_tup ha.q (len_le hl hn)⟩
/-- a display of a list, not frozen yet; frozen -/
theorem l_lst {n : Nat} (hn : n ≤ 1000) (ha : PAM X K C E es t ms) (hl : ∀ (g : G) ds, ms g = .ok ds → ds.length = n) : PLM X K C E (.List es pos) (tLst t) ms := ⟨pe_lst ha.p, lm_lst ha.q (len_le hl hn)⟩
theorem x_l (h : PLM X K C E e te ms) : PEM X K C E e te (mLst ms) := ⟨h.p, em_l h.q⟩
/-! ### built-ins -/
theorem x_cb {x : Str} {id : String} {r : List V → Hp → VK → Prop} {f : List D → Option D} (hc : CallR X (.builtin id) r) (hf : RAM K C r f) (hm : X.mg x = none) (hv : bootBuiltins x = some (.builtin id)) (ha : PAM X K C E (e :: es) t ms) (hg : Gl X x := by rfl) (hn : x ≠ "__name__" := by decide) (hdb : (x == ("__debug__" : Str)) = false := by decide)
    (he : starEach (e :: es) X.env = (false, eval e X.env) :: starEach es X.env := by rfl) (hpl : (backTo pos (starEach es X.env)).any (·.1) = false := by rfl) : PEM X K C E (.Call (.Name x p) (e :: es) [] pos) (tCB r t) (mA f ms) := ⟨pe_callB hc hg hm hv ha.p hn hdb he hpl, em_cb hf ha.q⟩
/-! the built-ins by name -/
section
variable {x1 : Expr}
theorem x_len (hm : X.mg "len" = none) (ha : PAM X K C E (e :: es) t ms) (hg : Gl X "len" := by rfl) (he : starEach (e :: es) X.env = (false, eval e X.env) :: starEach es X.env := by rfl) (hpl : (backTo pos (starEach es X.env)).any (·.1) = false := by rfl) (hK : X.K = K := by rfl) : PEM X K C E (.Call (.Name "len" p) (e :: es) [] pos) (tCB (rLenS K) t) (mA dLen ms) := by
  subst hK
  exact x_cb call_len_seq r_len hm PySem.boot_len ha hg (by decide) (by decide) he hpl
theorem x_sum (hc : X.calm = true) (hm : X.mg "sum" = none) (ha : PAM X K C E (e :: es) t ms) (hg : Gl X "sum" := by rfl) (he : starEach (e :: es) X.env = (false, eval e X.env) :: starEach es X.env := by rfl) (hpl : (backTo pos (starEach es X.env)).any (·.1) = false := by rfl) (hK : X.K = K := by rfl) : PEM X K C E (.Call (.Name "sum" p) (e :: es) [] pos) (tCB (rSum K) t) (mA dSum ms) := by
  subst hK
  exact x_cb (cr_sum hc) r_sum hm (by decide +kernel) ha hg (by decide) (by decide) he hpl
theorem x_min2 (hc : X.calm = true) (hm : X.mg "min" = none) (ha : PAM X K C E (e :: es) t ms) (hg : Gl X "min" := by rfl) (he : starEach (e :: es) X.env = (false, eval e X.env) :: starEach es X.env := by rfl) (hpl : (backTo pos (starEach es X.env)).any (·.1) = false := by rfl) : PEM X K C E (.Call (.Name "min" p) (e :: es) [] pos) (tCB rMin2 t) (mA dMin2 ms) := x_cb (call_min2 hc) r_min2 hm (by decide +kernel) ha hg (by decide) (by decide) he hpl
theorem x_all (hc : X.calm = true) (hm : X.mg "all" = none) (ha : PAM X K C E (e :: es) t ms) (hg : Gl X "all" := by rfl) (he : starEach (e :: es) X.env = (false, eval e X.env) :: starEach es X.env := by rfl) (hpl : (backTo pos (starEach es X.env)).any (·.1) = false := by rfl) (hK : X.K = K := by rfl) : PEM X K C E (.Call (.Name "all" p) (e :: es) [] pos) (tCB (rAll K) t) (mA dAll ms) := by
  subst hK
  exact x_cb (cr_all hc) r_all hm (by decide +kernel) ha hg (by decide) (by decide) he hpl
end
/-! ### tests -/
theorem y_cmp {op : CmpOp} {r : R2} {f : D → D → Option D} (ho : OpR X (compareOp op) r) (hf : R2M K C r f) (hm : behindInMarks op b = false) (ha : PEM X K C E a ta ma) (hb : PEM X K C E b tb mb) : PTM X K C E (.Compare a [op] [b] pos) (tTest (tOp r ta tb)) (mT (m2 f ma mb)) := ⟨pt_cmpR ho ha.p hb.p hm, tm_t (em_2 hf ha.q hb.q)⟩
theorem y_lt (ha : PEM X K C E a ta ma) (hb : PEM X K C E b tb mb) : PTM X K C E (.Compare a [.Lt] [b] pos) (tTest (tOp qLt ta tb)) (mT (m2 dLt ma mb)) := y_cmp op_lt r_lt (nomark _) ha hb
theorem y_gt (ha : PEM X K C E a ta ma) (hb : PEM X K C E b tb mb) : PTM X K C E (.Compare a [.Gt] [b] pos) (tTest (tOp qGt ta tb)) (mT (m2 dGt ma mb)) := y_cmp op_gt r_gt (nomark _) ha hb
theorem y_eq (hu : X.A.units + 64 < cLine) (ha : PEM X K C E a ta ma) (hb : PEM X K C E b tb mb) (hK : X.K = K := by rfl) : PTM X K C E (.Compare a [.Eq] [b] pos) (tTest (tOp (rEqD K) ta tb)) (mT (m2 dEq ma mb)) := by
  subst hK
  exact y_cmp (op_eqD hu) r_eq (nomark _) ha hb
theorem y_ne (hu : X.A.units + 64 < cLine) (ha : PEM X K C E a ta ma) (hb : PEM X K C E b tb mb) (hK : X.K = K := by rfl) : PTM X K C E (.Compare a [.NotEq] [b] pos) (tTest (tOp (rNeD K) ta tb)) (mT (m2 dNe ma mb)) := by
  subst hK
  exact y_cmp (op_neD hu) r_ne (nomark _) ha hb
theorem y_in (ha : PEM X K C E a ta ma) (hb : PEM X K C E b tb mb) (hm : behindInMarks .In b = false := by rfl) (hK : X.K = K := by rfl) : PTM X K C E (.Compare a [.In] [b] pos) (tTest (tOp (rIn K false) ta tb)) (mT (m2 dIn ma mb)) := by
  subst hK
  exact y_cmp op_in_seq r_in hm ha hb
theorem y_ni (ha : PEM X K C E a ta ma) (hb : PEM X K C E b tb mb) (hm : behindInMarks .NotIn b = false := by rfl) (hK : X.K = K := by rfl) : PTM X K C E (.Compare a [.NotIn] [b] pos) (tTest (tOp (rIn K true) ta tb)) (mT (m2 dNi ma mb)) := by
  subst hK
  exact y_cmp op_notIn_seq r_ni hm ha hb
theorem y_isN (ha : PEM X K C E a ta ma) (hb : PEM X K C E b tb mb) : PTM X K C E (.Compare a [.Is] [b] pos) (tTest (tOp qIsN ta tb)) (mT (m2 dIsN ma mb)) := y_cmp op_isN r_isN (nomark _) ha hb
theorem y_chLeLe (ha : PEM X K C E a ta ma) (hb : PEM X K C E b tb mb) (hc : PEM X K C E c tc mc) (hm : lastMarks [.LtE, .LtE] [b, c] = false := by with_unfolding_all rfl) : PTM X K C E (.Compare a [.LtE, .LtE] [b, c] pos) (tTest (tChain qLe qLe ta tb tc)) (mT (mCh dLe dLe ma mb mc)) := ⟨pt_chain op_le op_le ha.p hb.p hc.p hm, tm_t (em_ch r_le r_le ha.q hb.q hc.q)⟩
theorem y_chLeLt (ha : PEM X K C E a ta ma) (hb : PEM X K C E b tb mb) (hc : PEM X K C E c tc mc) (hm : lastMarks [.LtE, .Lt] [b, c] = false := by with_unfolding_all rfl) : PTM X K C E (.Compare a [.LtE, .Lt] [b, c] pos) (tTest (tChain qLe qLt ta tb tc)) (mT (mCh dLe dLt ma mb mc)) := ⟨pt_chain op_le op_lt ha.p hb.p hc.p hm, tm_t (em_ch r_le r_lt ha.q hb.q hc.q)⟩
theorem y_val (h : PEM X K C E e te m) (he : ∀ whole, isTrue e X.env whole = (do let v ← whole; standAt e.pos; holding [v] (truthy v)) := by intro _; rfl) : PTM X K C E e (tB te) (mT m) := ⟨pt_val h.p he, tm_b h.q⟩
theorem y_not (h : PTM X K C E a tt mt) : PTM X K C E (.UnaryOp .Not a pos) (tNot tt) (mNot mt) := ⟨pt_not h.p, tm_not h.q⟩
theorem w_or1 (h : PTM X K C E a tt mt) : PWM X K C E (.BoolOp .Or [a] pos) tt mt := ⟨pw_or1 h.p, h.q⟩
theorem w_or (h : PTM X K C E a tA mA') (h2 : PWM X K C E (.BoolOp .Or (b :: es) pos) tB' mB') : PWM X K C E (.BoolOp .Or (a :: b :: es) pos) (tOr tA tB') (mOr mA' mB') := ⟨pw_or h.p h2.p, tm_or h.q h2.q⟩
theorem y_w (h : PWM X K C E e tt mt) : PTM X K C E e tt mt := ⟨h.p.pt, h.q⟩
/-! ### and, or, not as values; conditional -/
theorem x_if (h : PTM X K C E c tt mt) (ha : PEM X K C E a ta ma) (hb : PEM X K C E b tb mb) : PEM X K C E (.IfExp c a b pos) (tIf tt ta tb) (mIf mt ma mb) := ⟨pe_ifExp h.p ha.p hb.p, em_if h.q ha.q hb.q⟩
/-! ### calls of the program's defs -/
theorem x_call {x : Str} {k n : Nat} {f : Addr} {fd : FuncData} {ps : List Str} {φ : List D → Rs D} (hn : ∀ (g : G) ds, ms g = .ok ds → ds.length = n) (F : FnOk X.prog X.w K X.mg X.base CX0 k f fd ps (spM K C n φ)) (hr : Room k X.A) (hm : X.mg x = some (.ref f)) (hk : PySem.W.keepIn K (.ref f) = true) (hb : Binds K fd ps [])
    (ha : PAM X K C E (e :: es) t ms) (hg : Gl X x := by rfl) (hdb : (x == ("__debug__" : Str)) = false := by decide) (he : starEach (e :: es) X.env = (false, eval e X.env) :: starEach es X.env := by rfl) (hpl : (backTo pos (starEach es X.env)).any (·.1) = false := by rfl) (hK : X.K = K := by rfl) :
    PEM X K C E (.Call (.Name x p) (e :: es) [] pos) (tCall (spM K C n φ) [] E0 t) (mCall (fun ds => (φ ds).nx) ms) := by
  subst hK
  exact ⟨pe_call F hr hg hm hk hb .nil pass0 ha.p hdb he hpl, em_call0 hn ha.q⟩
/-- a def that may raise, called in a def that may raise -/
theorem x_callX {x : Str} {k n : Nat} {f : Addr} {fd : FuncData} {ps : List Str} {φ : List D → Rs D} (hn : ∀ (g : G) ds, ms g = .ok ds → ds.length = n) (hx : Passes (L2.CX X.prog X.w) X E) (F : FnOk X.prog X.w K X.mg X.base (L2.CX X.prog X.w) k f fd ps (spM K C n φ)) (hr : Room k X.A) (hm : X.mg x = some (.ref f)) (hk : PySem.W.keepIn K (.ref f) = true) (hb : Binds K fd ps [])
    (ha : PAM X K C E (e :: es) t ms) (hg : Gl X x := by rfl) (hdb : (x == ("__debug__" : Str)) = false := by decide) (he : starEach (e :: es) X.env = (false, eval e X.env) :: starEach es X.env := by rfl) (hpl : (backTo pos (starEach es X.env)).any (·.1) = false := by rfl) (hK : X.K = K := by rfl) :
    PEM X K C E (.Call (.Name x p) (e :: es) [] pos) (tCall (spM K C n φ) [] E t) (mCall φ ms) := by
  subst hK
  exact ⟨pe_call F hr hg hm hk hb .nil hx ha.p hdb he hpl, em_call hn ha.q⟩
/-! ### what is walked -/
variable {tg iter : Expr} {wi : TI} {mi : G → Rs (List D)}
theorem i_list (ha : PEM X K C E a ta ma) (hK : X.K = K := by rfl) : PIM X K C E tg a (iList K ta) (mItems ma) := by
  subst hK
  exact ⟨pi_list ha.p, im_list ha.q⟩
theorem i_rng1 (hm : X.mg "range" = none) (ha : PAM X K C E [a] t ms) (hg : Gl X "range" := by rfl) (hs : starEach [a] X.env = [(false, eval a X.env)] := by rfl) : PIM X K C E tg (.Call (.Name "range" p) [a] [] pos) (iRng1 t) (mRng1 ms) := ⟨pi_range1 hg hm ha.p hs, im_rng1 ha.q⟩
theorem i_rng2 (hm : X.mg "range" = none) (ha : PAM X K C E [a, b] t ms) (hg : Gl X "range" := by rfl) (hs : starEach [a, b] X.env = [(false, eval a X.env), (false, eval b X.env)] := by rfl) (hs2 : starEach [b] X.env = [(false, eval b X.env)] := by rfl) : PIM X K C E tg (.Call (.Name "range" p) [a, b] [] pos) (iRng2 t) (mRng2 ms) := ⟨pi_range2 hg hm ha.p hs hs2, im_rng2 ha.q⟩
theorem i_enum {elts : List Expr} {kk : Nat} {tpos : Pos} (hm : X.mg "enumerate" = none) (ha : PAM X K C E [a] t ms) (hg : Gl X "enumerate" := by rfl) (hs : starEach [a] X.env = [(false, eval a X.env)] := by rfl) (hK : X.K = K := by rfl) : PIM X K C E (.Tuple elts kk tpos) (.Call (.Name "enumerate" p) [a] [] pos) (iEnum K t) (mEnum ms) := by
  subst hK
  exact ⟨pi_enum hg hm ha.p hs, im_enum ha.q⟩
theorem i_rev (hm : X.mg "reversed" = none) (ha : PAM X K C E [a] t ms) (hg : Gl X "reversed" := by rfl) (hs : starEach [a] X.env = [(false, eval a X.env)] := by rfl) (hK : X.K = K := by rfl) : PIM X K C E tg (.Call (.Name "reversed" p) [a] [] pos) (iRev K t) (mRevI ms) := by
  subst hK
  exact ⟨pi_reversed hg hm ha.p hs, im_rev ha.q⟩
/-! ### targets -/
theorem g_one {i : Nat} {x : Str} (hN : X.N.Nodup) (hi : X.N[i]? = some x) (hx : Loc X.env.scope x) (hf : X.fn x = true ∨ X.env.scope.names.lookup x = some .local := by first | exact .inl rfl | exact .inr rfl | assumption) (hK : X.K = K := by rfl) : PG X (.Name x pos) ((Tg.one i).g K) := by
  subst hK
  exact pg_name hN hi hx hf
theorem g_two {i j k : Nat} {x y : Str} {px py : Pos} (hN : X.N.Nodup) (hi : X.N[i]? = some x) (hj : X.N[j]? = some y) (hx : Loc X.env.scope x) (hy : Loc X.env.scope y) (hc : X.calm = true) (hf : X.fn x = true ∨ X.env.scope.names.lookup x = some .local := by first | exact .inl rfl | exact .inr rfl | assumption) (hf2 : X.fn y = true ∨ X.env.scope.names.lookup y = some .local := by first | exact .inl rfl | exact .inr rfl | assumption)
    (hs : (assignEach [.Name x px, .Name y py] X.env).map (·.2) = assign (.Name x px) X.env :: (assignEach [.Name y py] X.env).map (·.2) := by rfl) (hs2 : (assignEach [.Name y py] X.env).map (·.2) = assign (.Name y py) X.env :: (assignEach [] X.env).map (·.2) := by rfl)
    (hn : (assignEach [.Name x px, .Name y py] X.env).length = 2 := by rfl) (hst : (assignEach [.Name x px, .Name y py] X.env).findIdx? (·.1) = none := by rfl) (hK : X.K = K := by rfl) : PG X (.Tuple [.Name x px, .Name y py] k pos) ((Tg.two i j).g K) := by
  subst hK
  exact pg_tup hc (pgs_cons (pg_name hN hi hx hf) (pgs_cons (pg_name hN hj hy hf2) pgs_nil hs2) hs) hn hst
/-! ### comprehensions -/
structure PTsM (X : Cx) (K : PySem.W.Frag) (C : Addr) (E : XK) (ifs : List Expr) (tt : TT) (m : G → Rs Bool) : Prop where
  p : PTs X ifs tt
  q : TM K C E tt m
theorem ts_nil : PTsM X K C E [] tYes mYes := ⟨pts_nil, tm_yes⟩
theorem ts_one (h : PTM X K C E a tt mt) : PTsM X K C E [a] tt mt := ⟨pts_one h.p, h.q⟩
theorem l_lc {elt : Expr} {scope : Scope} {own : List (Str × Nat)} {vs : List Nat} {T : Tg} {me : G → Rs D} {mc : G → Rs Bool} (hvs : own.map (·.2) = vs) (hc : X.calm = true) (hN : X.N.Nodup) (hi : PIM X K C E tg iter wi mi) (ok : BlkOk X.N X.env.scope scope own)
    (hg : ∀ (s : Shared) (H : Hp) (Cc : Addr) (cl : List (Str × Addr)) (fp : List Addr), PG (X.blk s H scope (compEnvC scope cl Cc X.env) fp) tg (T.g K)) (ht : ∀ (s : Shared) (H : Hp) (Cc : Addr) (cl : List (Str × Addr)) (fp : List Addr), PTsM (X.blk s H scope (compEnvC scope cl Cc X.env) fp) K C E0 ifs tt mc)
    (he : ∀ (s : Shared) (H : Hp) (Cc : Addr) (cl : List (Str × Addr)) (fp : List Addr), PEM (X.blk s H scope (compEnvC scope cl Cc X.env) fp) K C E0 elt te me) (hv : ∀ i ∈ T.slots, i ∈ vs) (hs : ∀ x, foldedSetIterable iter X.env x = pure x := by intro _; rfl) (hK : X.K = K := by rfl) :
    PLM X K C E (.ListComp elt [⟨tg, iter, ifs, 0⟩] scope pos) (tLc wi (T.g K) tt te vs) (mLc vs mi T mc me) := by
  subst hK
  subst hvs
  exact ⟨pe_lc hc hN hi.p ok hg (fun s H Cc cl fp => (ht s H Cc cl fp).p) (fun s H Cc cl fp => (he s H Cc cl fp).p) hs, lm_lc hi.q (ht X.s_0 (fun _ => none) 0 [] []).q (he X.s_0 (fun _ => none) 0 [] []).q hv⟩
/-! ### statements -/
variable {st st2 : Stmt} {sts sts2 : List Stmt} {tS uS : TS} {sS sU : Sta → Rs Ou}
theorem z_nil : PSSM X K C E [] tNext sNil := ⟨pss_nil, sm_nil⟩
theorem z_cons (h : PSM X K C E st tS sS) (h2 : PSSM X K C E sts uS sU) : PSSM X K C E (st :: sts) (tSeq tS uS) (sSeq sS sU) := ⟨pss_cons h.p h2.p, sm_seq h.q h2.q⟩
theorem z_frz (h : PSM X K C E st tS sS) : PSM X K C E st tS (sFrz sS) := ⟨h.p, sm_frz h.q⟩
theorem z_set {i : Nat} {x : Str} {pos' : Pos} (hN : X.N.Nodup) (hi : X.N[i]? = some x) (hx : Loc X.env.scope x) (he : PEM X K C E e te m) (hs : swapsWith e (some (.Name x pos')) pos.line X.env = pure false := by rfl) (hf : X.fn x = true ∨ X.env.scope.names.lookup x = some .local := by first | exact .inl rfl | exact .inr rfl | assumption) :
    PSM X K C E (.Assign [.Name x pos'] e pos) (tAsg te (gName i)) (sSet i m) := ⟨ps_set hN hi hx he.p hs hf, sm_set he.q⟩
theorem z_new {i : Nat} {x : Str} {pos' : Pos} (hN : X.N.Nodup) (hi : X.N[i]? = some x) (hx : Loc X.env.scope x) (he : PLM X K C E e te ms) (hs : swapsWith e (some (.Name x pos')) pos.line X.env = pure false := by rfl) (hf : X.fn x = true ∨ X.env.scope.names.lookup x = some .local := by first | exact .inl rfl | exact .inr rfl | assumption) :
    PSM X K C E (.Assign [.Name x pos'] e pos) (tAsg te (gName i)) (sNew i ms) := ⟨ps_set hN hi hx he.p hs hf, sm_new he.q⟩
/-- name = [..] of a comprehension, the name a local -/
theorem z_setLc {i : Nat} {y : Str} {py : Pos} {elt : Expr} {scope : Scope} {own : List (Str × Nat)} {vs : List Nat} {T : Tg} {me : G → Rs D} {mc : G → Rs Bool} (hvs : own.map (·.2) = vs) (hc : X.calm = true) (hN : X.N.Nodup) (hy : X.N[i]? = some y) (hyl : X.env.scope.names.lookup y = some .local)
    (hsw : swapsWith (.ListComp elt [⟨tg, iter, ifs, 0⟩] scope p) (some (.Name y py)) pos.line X.env = pure true) (hi : PIM X K C E tg iter wi mi) (ok : BlkOk X.N X.env.scope scope own)
    (hg : ∀ (s : Shared) (H : Hp) (Cc : Addr) (cl : List (Str × Addr)) (fp : List Addr), PG (X.blk s H scope (compEnvC scope cl Cc X.env) fp) tg (T.g K)) (ht : ∀ (s : Shared) (H : Hp) (Cc : Addr) (cl : List (Str × Addr)) (fp : List Addr), PTsM (X.blk s H scope (compEnvC scope cl Cc X.env) fp) K C E0 ifs tt mc)
    (he : ∀ (s : Shared) (H : Hp) (Cc : Addr) (cl : List (Str × Addr)) (fp : List Addr), PEM (X.blk s H scope (compEnvC scope cl Cc X.env) fp) K C E0 elt te me) (hv : ∀ i ∈ T.slots, i ∈ vs) (hs : ∀ x, foldedSetIterable iter X.env x = pure x := by intro _; rfl) (hK : X.K = K := by rfl) :
    PSM X K C E (.Assign [.Name y py] (.ListComp elt [⟨tg, iter, ifs, 0⟩] scope p) pos) (tAsg (tLc wi (T.g K) tt te vs) (gName i)) (sSet i (mLst (mLc vs mi T mc me))) := by
  subst hK
  subst hvs
  exact ⟨ps_setLc hc hN hy hyl hsw hi.p ok hg (fun s H Cc cl fp => (ht s H Cc cl fp).p) (fun s H Cc cl fp => (he s H Cc cl fp).p) hs, sm_set (em_l (lm_lc hi.q (ht X.s_0 (fun _ => none) 0 [] []).q (he X.s_0 (fun _ => none) 0 [] []).q hv))⟩
theorem z_set2 {i j : Nat} (he : PEM X K C E e te m) (hg : PG X tg ((Tg.two i j).g K)) (hs : swapsWithSole [tg] e pos.line X.env = pure false := by rfl) (hw : swappedStores [tg] e X.env = pure none := by rfl)
    (h1 : (assignEach [tg] X.env).map (·.2) = [assign tg X.env] := by rfl) (hK : X.K = K := by rfl) : PSM X K C E (.Assign [tg] e pos) (tAsg te ((Tg.two i j).g K)) (sSet2 i j m) := by
  subst hK
  exact ⟨ps_asg he.p hg hs hw h1, sm_set2 he.q⟩
theorem z_app {i : Nat} {x : Str} {px apos cpos : Pos} (hN : X.N[i]? = some x) (hv : Vis X.env.scope x) (he : PEM X K C E e te m) (hd : (x == ("__debug__" : Str)) = false := by decide) (hcd : (x == ("__classdict__" : Str)) = false := by decide)
    (hbase : attributeBase (.Name x px) "append" X.env (eval (.Name x px) X.env) = eval (.Name x px) X.env := by rfl)
    (hfew : ((backTo cpos (starEach [e] X.env)).all (fun x => !x.1) && (backToKw cpos (keywordEach [] X.env)).all (fun x => x.1.isSome) && decide ([e].length + ([] : List Keyword).length + (if ([] : List Keyword).isEmpty then 0 else 1) < 30)) = true := by rfl)
    (hline : (apos.endLine == cpos.line) = true := by rfl) (hs : starEach [e] X.env = (false, eval e X.env) :: starEach [] X.env := by rfl) (hplain : (backTo cpos (starEach [] X.env)).any (·.1) = false := by rfl)
    (hsw : swapsWith (.Call (.Attribute (.Name x px) "append" apos) [e] [] cpos) none pos.line X.env = pure false := by rfl) (hK : X.K = K := by rfl) :
    PSM X K C E (.Expr (.Call (.Attribute (.Name x px) "append" apos) [e] [] cpos) pos) (tDrop (tBM K "list" rAppend (tVar i) (tCons te tNil))) (sApp i m) := by
  subst hK
  exact ⟨ps_expr (pe_bm PySem.F.plainAttrs_list PySem.F.slot_list_append PySem.F.type_list_append mt_append (pe_var hN hv hd hcd) (pa_cons he.p pa_nil hs) hbase hfew hline hs hplain) hsw, sm_app he.q⟩
theorem z_if (h : PTM X K C E c tt mt) (ha : PSSM X K C E sts tS sS) (hb : PSSM X K C E sts2 uS sU) : PSM X K C E (.If c sts sts2 pos) (tIfS tt tS uS) (sIf mt sS sU) := ⟨ps_if h.p ha.p hb.p, sm_if h.q ha.q hb.q⟩
theorem z_ret (he : PEM X K C E e te m) : PSM X K C E (.Return (some e) pos) (tRet te) (sRet m) := ⟨ps_ret he.p, sm_ret he.q⟩
theorem z_exp (he : PEM X K C E e te m) (hsw : swapsWith e none pos.line X.env = pure false := by rfl) : PSM X K C E (.Expr e pos) (tDrop te) (sExp m) := ⟨ps_expr he.p hsw, sm_exp he.q⟩
theorem z_for {T : Tg} (ks : List Nat) (hp : PassesOwn (model X.prog X.w) X.A X.env X.xe) (hc : X.calm = true) (hi : PIM X K C E tg iter wi mi) (hg : PG X tg (T.g K)) (hb : PSSM X K C E sts tS sS) (hs : ∀ x, foldedSetIterable iter X.env x = pure x := by intro _; rfl) (hK : X.K = K := by rfl) :
    PSM X K C E (.For tg iter sts [] pos) (tFor wi (T.g K) tS) (sFor mi T ks sS) := by
  subst hK
  exact ⟨ps_for hp hc hi.p hg hb.p hs, sm_for hi.q hb.q⟩
/-- raise C('..'), C an own class over ValueError without __init__ -/
theorem z_raise {x msg : Str} {Cx : Addr} {j : Nat} {pe p1 p3 : Pos} {bm : List Value} (hc : X.calm = true) (tk : Takes X (fun cls d _ H => E cls d H)) (q : PySem.W.excIn K Cx bm "ValueError.__new__" = true) (gC : X.mg x = some (.ref Cx)) (kC : PySem.W.keepIn K (.ref Cx) = true) (r : Raises X (.ref Cx))
    (hbm : ExcBaseFacts "ValueError" "ValueError.__new__" "ValueError.__init__" bm) (hg : Gl X x := by rfl) (hdb : (x == ("__debug__" : Str)) = false := by decide) (hK : X.K = K := by rfl) : PSM X K C E (.Raise (some (.Call (.Name x pe) [.Constant (.str msg) j p1] [] p3)) none pos) (fun _ _ H => E (.ref Cx) none H) (sRaise Cx) := by
  subst hK
  exact ⟨ps_raise hc tk (pmk_own hbm q gC kC r hg hdb), sm_raise⟩
end
end Z
namespace Z
set_option autoImplicit false
open PySem L2
/-! ### defs and callees in one word each -/
section
variable (P : Program) (w : World) (K : PySem.W.Frag) (mg : Str → Option Value) (base : Heap) (C : Addr)
/-- the def nm stands as st says -/
def Dn (nm : Str) (st : Stmt) (ps : List Str) : Prop := ∃ f fd, Fun K nm nm st f fd ∧ mg nm = some (.ref f) ∧ Binds K fd ps []
/-- the def nm, called with n arguments, does what φ says -/
def Cal (CX : CXT) (k : Nat) (nm : Str) (n : Nat) (φ : List D → Rs D) : Prop := ∃ f fd ps, FnOk P w K mg base CX k f fd ps (spM K C n φ) ∧ mg nm = some (.ref f) ∧ PySem.W.keepIn K (.ref f) = true ∧ Binds K fd ps []
end
section
variable {P : Program} {w : World} {K : PySem.W.Frag} {mg : Str → Option Value} {base : Heap} {C : Addr} {CX : CXT} {k n : Nat} {nm : Str} {φ φ' : List D → Rs D}
theorem Cal.mono {j : Nat} (h : Cal P w K mg base C CX k nm n φ) (hj : k ≤ j) : Cal P w K mg base C CX j nm n φ := by
  obtain ⟨f, fd, ps, F, r⟩ := h
  exact ⟨f, fd, ps, F.mono hj, r⟩
/-- a weaker word: where φ' tells an outcome, φ tells it too -/
theorem Cal.impX (h : Cal P w K mg base C CX k nm n φ) (hl : ∀ ds, φ' ds ≠ .no → φ ds = φ' ds) : Cal P w K mg base C CX k nm n φ' := by
  obtain ⟨f, fd, ps, F, r⟩ := h
  refine ⟨f, fd, ps, ⟨fun vs H Q E q => ?_, fun A outer s H args us vs Q E hr he hb hv q => ?_⟩, r⟩
  all_goals
    have q' : spM K C n φ vs H Q E := by
      obtain ⟨F0, ds, e, a, hl2, z⟩ := q
      refine ⟨F0, ds, e, a, hl2, ?_⟩
      have ne : φ' ds ≠ .no := fun z2 => by
        rw [z2] at z
        exact z
      rw [hl ds ne]
      exact z
  · exact F.len vs H Q E q'
  · exact F.run A outer s H args us vs Q E hr he hb hv q'
theorem Cal.imp (h : Cal P w K mg base C CX k nm n φ) (hl : ∀ ds d, φ' ds = .ok d → φ ds = .ok d) (hx : ∀ ds c r, φ' ds ≠ .ex c r) : Cal P w K mg base C CX k nm n φ' :=
  h.impX fun ds ne => by
    cases e : φ' ds with
    | ok d => exact hl ds d e
    | ex c r => exact absurd e (hx ds c r)
    | no => exact absurd e ne
theorem Cal.zero {nm : Str} {st : Stmt} {ps : List Str} (h : Dn K mg nm st ps) (hn : n = ps.length) : Cal P w K mg base C CX 0 nm n fun _ => .no := by
  obtain ⟨f, fd, F, g, b⟩ := h
  refine ⟨f, fd, ps, ⟨fun vs H Q E q => ?_, fun A outer s H args us vs Q E hr he hb hv q => ?_⟩, g, F.kp, b⟩
  all_goals
    obtain ⟨F0, ds, e, a, hl2, z⟩ := q
    exact z.elim
end
end Z
set_option Elab.async false
set_option linter.all false
set_option maxRecDepth 100000
set_option maxHeartbeats 4000000
/-! Z, part E: sorted, new lists that change (list(), repetition, +). -/
namespace Z
set_option autoImplicit false
open PySem L2
/-! ### sorted(ints) -/
def insI (x : Int) : List Int → List Int
  | [] => [x]
  | y :: r => if x ≤ y then x :: y :: r else y :: insI x r
def isort : List Int → List Int
  | [] => []
  | x :: r => insI x (isort r)
theorem insI_perm (x : Int) : ∀ l : List Int, (insI x l).Perm (x :: l)
  | [] => List.Perm.refl _
  | y :: r => by
    unfold insI
    split
    · exact List.Perm.refl _
    · exact ((insI_perm x r).cons y).trans (List.Perm.swap x y r)
theorem isort_perm : ∀ l : List Int, (isort l).Perm l
  | [] => List.Perm.refl _
  | x :: r => (insI_perm x (isort r)).trans ((isort_perm r).cons x)
theorem insI_le {x : Int} : ∀ {l : List Int}, l.Pairwise (· ≤ ·) → (insI x l).Pairwise (· ≤ ·)
  | [], _ => by simp [insI]
  | y :: r, h => by
    unfold insI
    have h1 := List.pairwise_cons.mp h
    split
    · rename_i hx
      refine List.pairwise_cons.mpr ⟨fun z hz => ?_, h⟩
      rcases List.mem_cons.mp hz with e | e
      · rw [e]; exact hx
      · exact Int.le_trans hx (h1.1 z e)
    · rename_i hx
      refine List.pairwise_cons.mpr ⟨fun z hz => ?_, insI_le h1.2⟩
      rcases List.mem_cons.mp ((insI_perm x r).mem_iff.mp hz) with e | e
      · rw [e]; omega
      · exact h1.1 z e
theorem isort_le : ∀ l : List Int, (isort l).Pairwise (· ≤ ·)
  | [] => List.Pairwise.nil
  | x :: r => insI_le (isort_le r)
theorem perm_le_eq : ∀ {a b : List Int}, a.Perm b → a.Pairwise (· ≤ ·) → b.Pairwise (· ≤ ·) → a = b
  | [], b, p, _, _ => (List.Perm.eq_nil p.symm).symm
  | x :: a, [], p, _, _ => absurd p.length_eq (by simp)
  | x :: a, y :: b, p, h1, h2 => by
    have q1 := List.pairwise_cons.mp h1
    have q2 := List.pairwise_cons.mp h2
    have e : x = y := by
      have m1 : x ∈ y :: b := p.mem_iff.mp List.mem_cons_self
      have m2 : y ∈ x :: a := p.mem_iff.mpr List.mem_cons_self
      rcases List.mem_cons.mp m1 with z | z
      · exact z
      · rcases List.mem_cons.mp m2 with z2 | z2
        · exact z2.symm
        · exact Int.le_antisymm (q1.1 y z2) (q2.1 x z)
    subst e
    rw [perm_le_eq p.cons_inv q1.2 q2.2]
def dSorted : List D → Option D
  | [.lst ds] => (asInts ds).map fun ns => D.lst ((isort ns).map D.int)
  | _ => none
section
variable {K : PySem.W.Frag} {C : Addr}
theorem r_sorted : RAM K C (rSortedI K) dSorted := by
  intro F0 H0 g P T σ H Q xs ds d S al e q
  obtain ⟨F, f⟩ := S
  unfold dSorted at e
  split at e
  · rename_i es
    cases e2 : asInts es with
    | none => rw [e2] at e; cases e
    | some ns =>
      rw [e2] at e
      cases e
      obtain ⟨x, rfl, hx⟩ := al1 al
      obtain ⟨a, rfl, h1⟩ := ints_at f hx e2
      refine ⟨a, ns, rfl, h1, fun ns' p pm le hp => q _ _ ?_⟩
      have e3 : ns' = isort ns := perm_le_eq (pm.trans (isort_perm ns).symm) le (isort_le ns)
      rw [e3]
      exact f.newL hp (isA_ints _)
  · cases e
/-! ### new lists that may change -/
def mLs2 (f : D → D → Option (List D)) (a b : G → Rs D) : G → Rs (List D) := fun g => (a g).bind fun x => (b g).bind fun y => .of (f x y)
def dRepL : D → D → Option (List D)
  | .lst a, .int k => if -1000000 ≤ k ∧ k ≤ 1000000 ∧ a.length * k.toNat ≤ LIM then some (List.replicate k.toNat a).flatten else none
  | _, _ => none
variable {E : XK} {ta tb : TE} {ma mb : G → Rs D} {t : TA} {ms : G → Rs (List D)}
theorem Fz.newM {B : Bs} {g : G} {P : List (Addr × List V)} {T : List (V × D)} {σ : L2.St} {H F : Hp} (f : Fz B g P T σ H F) {p : Addr} {vs : List V} {ds : List D} (n : H p = none) (a : IsA B.K B.C F vs ds) :
    (∀ x ∈ P, x.1 ≠ p) ∧ SS B g ((p, vs) :: P) (vs.zip ds ++ T) σ (upd H p (.lst vs)) ∧ Al (vs.zip ds ++ T) vs ds := by
  have S : SS B g P (vs.zip ds ++ T) σ H := ⟨F, { f with ts := fun x hx => (List.mem_append.mp hx).elim (fun z => isA_zip a x z) fun z => f.ts x z }⟩
  obtain ⟨h1, h2⟩ := lm_new S n vs
  exact ⟨h1, h2, al_zip a fun x hx => List.mem_append_left _ hx⟩
theorem lm_2 {r : R2} {fn : D → D → Option (List D)} (hr : ∀ F0 H0 g P T σ H F (Q : VK) x y dx dy ds, Fz ⟨K, C, F0, H0⟩ g P T σ H F → (x, dx) ∈ T → (y, dy) ∈ T → fn dx dy = some ds → (∀ p vs, H p = none → IsA K C F vs ds → Q (.ref p) (upd H p (.lst vs))) → r x y H Q) (a : EM K C E ta ma) (b : EM K C E tb mb) : LM K C E (tOp r ta tb) (mLs2 fn ma mb) := ⟨fun F0 H0 g P T σ H Q S h =>
  a.run F0 H0 g P T σ H _ S (h.bind.mono fun x hx v H' S1 => b.run F0 H0 g P _ σ H' _ S1 (hx.bind.mono fun y hy v' H'' S2 => by
    obtain ⟨ds, e, q⟩ := hy.of
    obtain ⟨F, f⟩ := S2
    refine hr F0 H0 g P _ σ H'' F Q v v' x y ds f (List.mem_cons_of_mem _ List.mem_cons_self) List.mem_cons_self e fun p vs hp ia => ?_
    obtain ⟨h1, h2, h3⟩ := f.newM hp ia
    exact q p vs _ _ (fun z hz => List.mem_append_right _ (List.mem_cons_of_mem _ (List.mem_cons_of_mem _ hz))) h3 h1 h2))⟩
theorem lm_rep (a : EM K C E ta ma) (b : EM K C E tb mb) : LM K C E (tOp rMul2 ta tb) (mLs2 dRepL ma mb) := lm_2 (fun F0 H0 g P T σ H F Q x y dx dy ds f hx hy e q => by
  have ix := f.ts _ hx
  have iy := f.ts _ hy
  unfold dRepL at e
  split at e
  · split at e
    · rename_i hc
      cases e
      cases iy
      cases ix with
      | lst ha hb =>
        refine .inr ⟨_, _, _, rfl, rfl, f.eH _ _ ha, by omega, by omega, ?_, fun p hp => q p _ hp (hb.rep _)⟩
        rw [hb.len]
        exact lim_ok hc.2.2
    · cases e
  · cases e) a b
end
section
variable {X : Cx} {K : PySem.W.Frag} {C : Addr} {E : XK} {e a b c : Expr} {es ifs : List Expr} {te ta tb tc : TE} {m ma mb mc : G → Rs D} {t : TA} {ms : G → Rs (List D)} {pos p p2 : Pos}
theorem x_sorted (hm : X.mg "sorted" = none) (ha : PAM X K C E (e :: es) t ms) (hg : Gl X "sorted" := by rfl) (he : starEach (e :: es) X.env = (false, eval e X.env) :: starEach es X.env := by rfl) (hpl : (backTo pos (starEach es X.env)).any (·.1) = false := by rfl) (hK : X.K = K := by rfl) : PEM X K C E (.Call (.Name "sorted" p) (e :: es) [] pos) (tCB (rSortedI K) t) (mA dSorted ms) := by
  subst hK
  exact x_cb cr_sortedI r_sorted hm (by decide +kernel) ha hg (by decide) (by decide) he hpl
theorem l_rep (ha : PEM X K C E a ta ma) (hb : PEM X K C E b tb mb) : PLM X K C E (.BinOp a .Mult b pos) (tOp rMul2 ta tb) (mLs2 dRepL ma mb) := ⟨pe_op (op_mul.or op_rep) ha.p hb.p, lm_rep ha.q hb.q⟩
end
end Z
set_option Elab.async false
set_option linter.all false
set_option maxRecDepth 100000
set_option maxHeartbeats 4000000
/-! Z, part F: how mirrors are evaluated. -/
namespace Z
set_option autoImplicit false
open PySem L2
theorem dAdd_i (i j : Int) : dAdd (.int i) (.int j) = some (.int (i + j)) := rfl
theorem dAdd_l {a b : List D} (h : a.length + b.length ≤ LIM) : dAdd (.lst a) (.lst b) = some (.lst (a ++ b)) := if_pos h
theorem dSub_i (i j : Int) : dSub (.int i) (.int j) = some (.int (i - j)) := rfl
theorem dMod_i {i j : Int} (h : 0 < j) : dMod (.int i) (.int j) = some (.int (i % j)) := if_pos h
theorem dNeg_i (i : Int) : dNeg (.int i) = some (.int (-i)) := rfl
theorem dIx_l (ds : List D) (i : Int) : dIx (.lst ds) (.int i) = atI ds i := rfl
theorem dIx_t (ds : List D) (i : Int) : dIx (.tup ds) (.int i) = atI ds i := rfl
theorem dIx_s (ns : List Int) (i : Int) : dIx (.scr ns) (.int i) = (atI ns i).map D.int := rfl
theorem dSl_l (ds : List D) (lo hi : Option Int) : dSl (.lst ds) lo hi = some (.lst (cutD ds lo hi)) := rfl
theorem dRev_l (ds : List D) : dRev (.lst ds) = some (.lst ds.reverse) := rfl
theorem dLt_i (i j : Int) : dLt (.int i) (.int j) = some (.bl (decide (i < j))) := rfl
theorem dLe_i (i j : Int) : dLe (.int i) (.int j) = some (.bl (decide (i ≤ j))) := rfl
theorem dGt_i (i j : Int) : dGt (.int i) (.int j) = some (.bl (decide (j < i))) := rfl
theorem dGe_i (i j : Int) : dGe (.int i) (.int j) = some (.bl (decide (j ≤ i))) := rfl
theorem shaped_int (i : Int) : SeqAt.shaped (.int i) = true := by
  show ((PyData.int i).canLay0 && decide ((PyData.int i).depth ≤ 64)) = true
  simp [PyData.canLay0, PyData.depth]
theorem shaped_bool (i : Bool) : SeqAt.shaped (.bool i) = true := by
  show ((PyData.bool i).canLay0 && decide ((PyData.bool i).depth ≤ 64)) = true
  simp [PyData.canLay0, PyData.depth]
theorem deq_i (i j : Int) : deq (.int i) (.int j) = some (decide (i = j)) := by
  unfold deq
  show (if SeqAt.shaped (.int i) = true ∧ SeqAt.shaped (.int j) = true then some (PyData.eqv (.int i) (.int j)) else none) = _
  rw [if_pos ⟨shaped_int i, shaped_int j⟩]
  simp only [PyData.eqv]
  rw [Bool.beq_eq_decide_eq]
theorem deq_b (i j : Bool) : deq (.bl i) (.bl j) = some (decide (i = j)) := by
  unfold deq
  show (if SeqAt.shaped (.bool i) = true ∧ SeqAt.shaped (.bool j) = true then some (PyData.eqv (.bool i) (.bool j)) else none) = _
  rw [if_pos ⟨shaped_bool i, shaped_bool j⟩]
  simp only [PyData.eqv]
  rw [Bool.beq_eq_decide_eq]
theorem dEq_of {x y : D} {b : Bool} (h : deq x y = some b) : dEq x y = some (.bl b) := by
  unfold dEq
  rw [h]
  rfl
theorem dNe_of {x y : D} {b : Bool} (h : deq x y = some b) : dNe x y = some (.bl (!b)) := by
  unfold dNe
  rw [h]
  rfl
theorem dEq_i (i j : Int) : dEq (.int i) (.int j) = some (.bl (decide (i = j))) := dEq_of (deq_i i j)
theorem dNe_i (i j : Int) : dNe (.int i) (.int j) = some (.bl (!decide (i = j))) := dNe_of (deq_i i j)
theorem dEq_b (i j : Bool) : dEq (.bl i) (.bl j) = some (.bl (decide (i = j))) := dEq_of (deq_b i j)
theorem dNe_b (i j : Bool) : dNe (.bl i) (.bl j) = some (.bl (!decide (i = j))) := dNe_of (deq_b i j)
/-! deep equality: data of lists and tuples of ints -/
def intsD (ns : List Int) : D := .lst (ns.map D.int)
theorem dLen_l (ds : List D) : dLen [.lst ds] = some (.int ds.length) := rfl
theorem dLen_t2 (a b : D) : dLen [.tup [a, b]] = some (.int 2) := rfl
theorem dLen_s (ds : List Int) : dLen [.scr ds] = some (.int ds.length) := rfl
theorem dSum_l (ns : List Int) : dSum [.lst (ns.map D.int)] = some (.int ns.sum) := by
  show (asInts (ns.map D.int)).map _ = _
  rw [asInts_map]
  rfl
theorem dAll_l (ns : List Bool) : dAll [.lst (ns.map D.bl)] = some (.bl (ns.all id)) := by
  show (asBls (ns.map D.bl)).map _ = _
  rw [asBls_map]
  rfl
theorem dSorted_l (ns : List Int) : dSorted [.lst (ns.map D.int)] = some (.lst ((isort ns).map D.int)) := by
  show (asInts (ns.map D.int)).map _ = _
  rw [asInts_map]
  rfl
theorem dInB_l (i : Int) (ns : List Int) : dInB (.int i) (.lst (ns.map D.int)) = some (decide (i ∈ ns)) := by
  show (asInts (ns.map D.int)).map _ = _
  rw [asInts_map]
  rfl
theorem dIn_l (i : Int) (ns : List Int) : dIn (.int i) (.lst (ns.map D.int)) = some (.bl (decide (i ∈ ns))) := by
  unfold dIn
  rw [dInB_l]
  rfl
theorem dNi_l (i : Int) (ns : List Int) : dNi (.int i) (.lst (ns.map D.int)) = some (.bl (!decide (i ∈ ns))) := by
  unfold dNi
  rw [dInB_l]
  rfl
theorem dMax2_i (i j : Int) : dMax2 [.int i, .int j] = some (.int (if j > i then j else i)) := rfl
theorem dMin2_i (i j : Int) : dMin2 [.int i, .int j] = some (.int (if j < i then j else i)) := rfl
theorem dInt_i (i : Int) : dInt [.int i] = some (.int i) := rfl
theorem dInt_b (i : Bool) : dInt [.bl i] = some (.int (if i then 1 else 0)) := rfl
theorem dList_l (ds : List D) : dList [.lst ds] = some (.lst ds) := rfl
theorem dList_t (ds : List D) : dList [.tup ds] = some (.lst ds) := rfl
theorem atI_some {α : Type} {xs : List α} {k : Nat} (h : k < xs.length) : atI xs (k : Int) = some xs[k] := atI_nat (List.getElem?_eq_getElem h)
theorem atI_int {α : Type} {xs : List α} {k : Int} {v : α} (h0 : 0 ≤ k) (h : xs[k.toNat]? = some v) : atI xs k = some v := by
  have e : k = ((k.toNat : Nat) : Int) := by omega
  rw [e]
  exact atI_nat h
theorem Sta.set_no (g : G) (i : Nat) (d : D) : (⟨g, none⟩ : Sta).set i d = ⟨g.set i (some d), none⟩ := rfl
theorem Sta.set_mu {g : G} {i j : Nat} {d : D} {ds : List D} (h : (j == i) = false) : (⟨g, some (j, ds)⟩ : Sta).set i d = ⟨g.set i (some d), some (j, ds)⟩ := by
  show (⟨g.set i (some d), if j = i then none else some (j, ds)⟩ : Sta) = _
  rw [if_neg (by simpa using h)]
theorem Sta.set_at {g : G} {j : Nat} {d : D} {ds : List D} : (⟨g, some (j, ds)⟩ : Sta).set j d = ⟨g.set j (some d), none⟩ := by
  show (⟨g.set j (some d), if j = j then none else some (j, ds)⟩ : Sta) = _
  rw [if_pos rfl]
theorem sApp_eq {i : Nat} {e : G → Rs D} {g : G} {ds : List D} {d : D} (h : e g = .ok d) (hl : ds.length ≤ LIM) : sApp i e ⟨g, some (i, ds)⟩ = .ok (.nx ⟨g, some (i, ds ++ [d])⟩) := by
  show (if i = i ∧ ds.length ≤ LIM then _ else _) = _
  rw [if_pos ⟨rfl, hl⟩]
  show (e g).bind _ = _
  rw [h, Rs.bind_ok]
theorem sNew_eq {i : Nat} {e : G → Rs (List D)} {g : G} {mu : Option (Nat × List D)} {ds : List D} (h : e g = .ok ds) (hi : i < g.length) : sNew i e ⟨g, mu⟩ = .ok (.nx ⟨g.set i none, some (i, ds)⟩) := by
  show (e g).bind _ = _
  rw [h, Rs.bind_ok]
  show (if i < g.length then _ else _) = _
  rw [if_pos hi]
theorem Sta.frz_mu (g : G) (i : Nat) (ds : List D) : (⟨g, some (i, ds)⟩ : Sta).frz = ⟨g.set i (some (.lst ds)), none⟩ := rfl
theorem Sta.frz_no (g : G) : (⟨g, none⟩ : Sta).frz = ⟨g, none⟩ := rfl
/-! one statement at a time -/
section
variable {a b : Sta → Rs Ou} {s s' : Sta} {r : Rs Ou} {d x y : D} {e : G → Rs D} {c : G → Rs Bool} {i j n : Nat} {m : Sta → Rs Ou} {ds : List D}
theorem sSeq_eq (h1 : a s = .ok (.nx s')) (h2 : b s' = r) : sSeq a b s = r := by
  unfold sSeq
  rw [h1, Rs.bind_ok]
  exact h2
theorem sSeq_rt (h1 : a s = .ok (.rt d)) : sSeq a b s = .ok (.rt d) := by
  unfold sSeq
  rw [h1, Rs.bind_ok]
theorem sSeq_ex {c : Addr} {z : Option Int} (h1 : a s = .ex c z) : sSeq a b s = .ex c z := by
  unfold sSeq
  rw [h1, Rs.bind_ex]
theorem sSeq_nil (h1 : a s = r) : sSeq a sNil s = r := by
  unfold sSeq
  rw [h1]
  cases r with
  | ok o => cases o <;> rfl
  | ex c z => rfl
  | no => rfl
theorem sSet_eq (h : e s.g = .ok d) : sSet i e s = .ok (.nx (s.set i d)) := by
  unfold sSet
  rw [h, Rs.bind_ok]
theorem sSet2_eq (h : e s.g = .ok (.tup [x, y])) : sSet2 i j e s = .ok (.nx ((s.set i x).set j y)) := by
  unfold sSet2
  rw [h, Rs.bind_ok]
theorem sRet_eq (h : e s.g = .ok d) : sRet e s = .ok (.rt d) := by
  unfold sRet
  rw [h, Rs.bind_ok]
theorem sExp_eq (h : e s.g = .ok d) : sExp e s = .ok (.nx s) := by
  unfold sExp
  rw [h, Rs.bind_ok]
theorem sExp_ex {c : Addr} {z : Option Int} (h : e s.g = .ex c z) : sExp e s = .ex c z := by
  unfold sExp
  rw [h, Rs.bind_ex]
theorem sIf_t (h : c s.g = .ok true) (h2 : a s = r) : sIf c a b s = r := by
  unfold sIf
  rw [h, Rs.bind_ok, if_pos rfl, h2]
theorem sIf_f (h : c s.g = .ok false) (h2 : b s = r) : sIf c a b s = r := by
  unfold sIf
  rw [h, Rs.bind_ok, if_neg Bool.false_ne_true, h2]
theorem sFrz_eq (h : m s.frz = r) : sFrz m s = r := h
theorem runM_rt (h : m ⟨startG n ds, none⟩ = .ok (.rt d)) : runM n m ds = .ok d := by
  unfold runM
  rw [h, Rs.bind_ok]
theorem runM_nx (h : m ⟨startG n ds, none⟩ = .ok (.nx s)) : runM n m ds = .ok .non := by
  unfold runM
  rw [h, Rs.bind_ok]
theorem runM_ex {c : Addr} {z : Option Int} (h : m ⟨startG n ds, none⟩ = .ex c z) : runM n m ds = .ex c z := by
  unfold runM
  rw [h, Rs.bind_ex]
theorem runM_rt' (h : m ⟨startG n ds, none⟩ = .ok (.rt d)) : (runM n m ds).nx = .ok d := by
  rw [runM_rt h]
  rfl
end
/-! loops and comprehensions as plain recursions -/
/-- without a test, over a list of encoded items -/
theorem lcGo_enc {α : Type} {g0 : G} {tg : Tg} {e : G → Rs D} (en : α → D) (v : α → D) : ∀ ds : List α, (∀ a ∈ ds, ∃ ps, tg.put' (en a) = .ok ps ∧ e (setsG g0 ps) = .ok (v a)) → lcGo g0 tg mYes e (ds.map en) = .ok (ds.map v)
  | [], _ => rfl
  | d :: r, h => by
    obtain ⟨ps, h1, h2⟩ := h d List.mem_cons_self
    have ih := lcGo_enc en v r fun x hx => h x (List.mem_cons_of_mem _ hx)
    rw [List.map_cons]
    unfold lcGo
    rw [h1, Rs.bind_ok]
    show ((Rs.ok true).nx.bind _) = _
    rw [Rs.nx_ok, Rs.bind_ok, if_pos rfl, h2, Rs.nx_ok, Rs.bind_ok, ih]
    rfl
theorem lcGo_encF {α : Type} {g0 : G} {tg : Tg} {c : G → Rs Bool} {e : G → Rs D} (en : α → D) (f : α → Bool) (v : α → D) : ∀ ds : List α, (∀ a ∈ ds, ∃ ps, tg.put' (en a) = .ok ps ∧ c (setsG g0 ps) = .ok (f a) ∧ (f a = true → e (setsG g0 ps) = .ok (v a))) → lcGo g0 tg c e (ds.map en) = .ok ((ds.filter f).map v)
  | [], _ => rfl
  | d :: r, h => by
    obtain ⟨ps, h1, h2, h3⟩ := h d List.mem_cons_self
    have ih := lcGo_encF en f v r fun x hx => h x (List.mem_cons_of_mem _ hx)
    rw [List.map_cons]
    unfold lcGo
    rw [h1, Rs.bind_ok, h2, Rs.nx_ok, Rs.bind_ok, ih]
    cases q : f d with
    | true =>
      rw [if_pos rfl, h3 q, Rs.nx_ok, Rs.bind_ok, Rs.bind_ok, List.filter_cons_of_pos q]
      rfl
    | false =>
      rw [if_neg Bool.false_ne_true, List.filter_cons_of_neg (by rw [q]; exact Bool.false_ne_true)]
theorem mLc_eq {vs : List Nat} {mi : G → Rs (List D)} {tg : Tg} {c : G → Rs Bool} {e : G → Rs D} {g : G} {ds : List D} {r : Rs (List D)} (h1 : mi g = .ok ds) (hl : ds.length ≤ LIM) (h2 : lcGo (killG vs g) tg c e ds = r) : mLc vs mi tg c e g = r := by
  unfold mLc
  rw [h1, Rs.bind_ok, if_pos hl, h2]
theorem sFor_eq {mi : G → Rs (List D)} {tg : Tg} {ks : List Nat} {b : Sta → Rs Ou} {s : Sta} {ds : List D} {r : Rs Ou} (h1 : mi s.g = .ok ds) (h2 : forGo tg ks b ds (s.kill ks) = r) : sFor mi tg ks b s = r := by
  unfold sFor
  rw [h1, Rs.bind_ok, h2]
/-- a loop whose turns all go on: a fold -/
theorem forGo_fold {α β : Type} {tg : Tg} {ks : List Nat} {b : Sta → Rs Ou} (en : α → D) (st : β → Sta) (f : β → α → β) : ∀ (ds : List α) (x : β), (∀ a ∈ ds, ∀ x, ∃ ps s', tg.put' (en a) = .ok ps ∧ muFree (st x).mu tg.slots = true ∧ b ((st x).sets ps) = .ok (.nx s') ∧ s'.kill ks = st (f x a)) →
    forGo tg ks b (ds.map en) (st x) = .ok (.nx (st (ds.foldl f x)))
  | [], x, _ => rfl
  | a :: r, x, h => by
    obtain ⟨ps, s', h1, h2, h3, h4⟩ := h a List.mem_cons_self x
    have ih := forGo_fold en st f r (f x a) fun y hy => h y (List.mem_cons_of_mem _ hy)
    rw [List.map_cons]
    unfold forGo
    rw [h1, Rs.bind_ok, if_pos h2, h3, Rs.bind_ok]
    show forGo tg ks b (r.map en) (s'.kill ks) = _
    rw [h4, ih]
    rfl
end Z
set_option Elab.async false
set_option linter.all false
set_option maxRecDepth 100000
set_option maxHeartbeats 4000000
/-! Z, part G: mirrors evaluated piece by piece. -/
namespace Z
set_option autoImplicit false
open PySem L2
section
variable {a b c : G → Rs D} {ar r : G → Rs (List D)} {t u : G → Rs Bool} {g : G} {x y z d : D} {xs : List D} {i j : Int}
theorem m1_eq {f : D → Option D} (h : a g = .ok x) (e : f x = some d) : m1 f a g = .ok d := by
  unfold m1; rw [h, Rs.bind_ok, e]; rfl
theorem m2_eq {f : D → D → Option D} (h : a g = .ok x) (h2 : b g = .ok y) (e : f x y = some d) : m2 f a b g = .ok d := by
  unfold m2; rw [h, Rs.bind_ok, h2, Rs.bind_ok, e]; rfl
theorem mNil_eq : mNil g = .ok [] := rfl
theorem mCons_eq (h : a g = .ok x) (h2 : r g = .ok xs) : mCons a r g = .ok (x :: xs) := by
  unfold mCons; rw [h, Rs.bind_ok, h2]; rfl
theorem mA_eq {f : List D → Option D} (h : ar g = .ok xs) (e : f xs = some d) : mA f ar g = .ok d := by
  unfold mA; rw [h, Rs.bind_ok, e]; rfl
theorem mCall_eq {φ : List D → Rs D} (h : ar g = .ok xs) (e : φ xs = .ok d) : mCall φ ar g = .ok d := by
  unfold mCall; rw [h, Rs.bind_ok, e]
theorem mCall_ex {φ : List D → Rs D} {q : Addr} {k : Option Int} (h : ar g = .ok xs) (e : φ xs = .ex q k) : mCall φ ar g = .ex q k := by
  unfold mCall; rw [h, Rs.bind_ok, e]
theorem mCalln_eq {φ : List D → Rs D} (h : ar g = .ok xs) (e : φ xs = .ok d) : mCall (fun ds => (φ ds).nx) ar g = .ok d := by
  unfold mCall; rw [h, Rs.bind_ok, e]; rfl
theorem mTup_eq (h : ar g = .ok xs) : mTup ar g = .ok (.tup xs) := by
  unfold mTup; rw [h]; rfl
theorem mLst_eq (h : ar g = .ok xs) : mLst ar g = .ok (.lst xs) := by
  unfold mLst; rw [h]; rfl
theorem mT_eq {k : Bool} (h : a g = .ok (.bl k)) : mT a g = .ok k := by
  unfold mT; rw [h]; rfl
theorem mNot_eq {k : Bool} (h : t g = .ok k) : mNot t g = .ok (!k) := by
  unfold mNot; rw [h]; rfl
theorem mOr_eq {k l : Bool} (h : t g = .ok k) (h2 : k = false → u g = .ok l) : mOr t u g = .ok (k || l) := by
  unfold mOr; rw [h, Rs.bind_ok]
  cases k with
  | true => rw [if_pos rfl, Bool.true_or]
  | false => rw [if_neg Bool.false_ne_true, h2 rfl, Bool.false_or]
theorem mIf_t (h : t g = .ok true) (h2 : a g = .ok x) : mIf t a b g = .ok x := by
  unfold mIf; rw [h, Rs.bind_ok, if_pos rfl, h2]
theorem mIf_f (h : t g = .ok false) (h2 : b g = .ok x) : mIf t a b g = .ok x := by
  unfold mIf; rw [h, Rs.bind_ok, if_neg Bool.false_ne_true, h2]
theorem chain_le {k : Int} (ha : a g = .ok (.int i)) (hb : b g = .ok (.int j)) (hc : c g = .ok (.int k)) : mCh dLe dLe a b c g = .ok (.bl (decide (i ≤ j) && decide (j ≤ k))) := by
  unfold mCh
  rw [ha, Rs.bind_ok, hb, Rs.bind_ok, dLe_i, Rs.of_some, Rs.bind_ok]
  cases decide (i ≤ j) with
  | false => rfl
  | true =>
    show (c g).bind _ = _
    rw [hc, Rs.bind_ok, dLe_i]
    rfl
theorem chain_lt {k : Int} (ha : a g = .ok (.int i)) (hb : b g = .ok (.int j)) (hc : c g = .ok (.int k)) : mCh dLe dLt a b c g = .ok (.bl (decide (i ≤ j) && decide (j < k))) := by
  unfold mCh
  rw [ha, Rs.bind_ok, hb, Rs.bind_ok, dLe_i, Rs.of_some, Rs.bind_ok]
  cases decide (i ≤ j) with
  | false => rfl
  | true =>
    show (c g).bind _ = _
    rw [hc, Rs.bind_ok, dLt_i]
    rfl
theorem mItems_l (h : a g = .ok (.lst xs)) : mItems a g = .ok xs := by
  unfold mItems; rw [h]; rfl
theorem rgD_0 (n : Nat) : rgD 0 (n : Int) = (List.range n).map fun (i : Nat) => D.int (i : Int) := by
  unfold rgD
  rw [show ((n : Int) - 0).toNat = n by omega]
  refine List.map_congr_left fun i _ => ?_
  rw [Int.zero_add]
theorem rng1_nat {n : Nat} (hn : n ≤ LIM) (h : ar g = .ok [.int n]) : mRng1 ar g = .ok ((List.range n).map fun (i : Nat) => D.int (i : Int)) := by
  unfold mRng1
  rw [h]
  show (if _ then _ else _) = _
  rw [if_pos (by unfold LIM at hn; omega), rgD_0]
theorem rng2_eq {lo hi : Int} (hn : -1000000 ≤ lo ∧ lo ≤ 1000000 ∧ -1000000 ≤ hi ∧ hi ≤ 1000000) (h : ar g = .ok [.int lo, .int hi]) : mRng2 ar g = .ok (rgD lo hi) := by
  unfold mRng2
  rw [h]
  show (if _ then _ else _) = _
  rw [if_pos (by omega)]
theorem dLen_map {α : Type} (f : α → D) (l : List α) : dLen [.lst (l.map f)] = some (.int l.length) := by rw [dLen_l, List.length_map]
theorem tst {k l : Bool} (h : t g = .ok k) (e : k = l) : t g = .ok l := e ▸ h
theorem dEq_t (h : i = j) : dEq (.int i) (.int j) = some (.bl true) := by rw [dEq_i, decide_eq_true h]
theorem dEq_f (h : i ≠ j) : dEq (.int i) (.int j) = some (.bl false) := by rw [dEq_i, decide_eq_false h]
theorem dNe_t (h : i ≠ j) : dNe (.int i) (.int j) = some (.bl true) := by rw [dNe_i, decide_eq_false h]; rfl
theorem dNe_f (h : i = j) : dNe (.int i) (.int j) = some (.bl false) := by rw [dNe_i, decide_eq_true h]; rfl
theorem dLt_t (h : i < j) : dLt (.int i) (.int j) = some (.bl true) := by rw [dLt_i, decide_eq_true h]
theorem dLt_f (h : ¬ i < j) : dLt (.int i) (.int j) = some (.bl false) := by rw [dLt_i, decide_eq_false h]
theorem atI_0 {α : Type} (x : α) (l : List α) : atI (x :: l) 0 = some x := atI_nat (j := 0) rfl
theorem atI_1 {α : Type} (x y : α) (l : List α) : atI (x :: y :: l) 1 = some y := atI_nat (j := 1) rfl
end
/-! ### comprehensions and loops in one word -/
theorem mLc_enc {α : Type} {vs : List Nat} {mi : G → Rs (List D)} {tg : Tg} {e : G → Rs D} {g : G} (en : α → D) (v : α → D) (xs : List α) (h1 : mi g = .ok (xs.map en)) (hl : xs.length ≤ LIM)
    (h : ∀ a ∈ xs, ∃ ps, tg.put' (en a) = .ok ps ∧ e (setsG (killG vs g) ps) = .ok (v a)) : mLc vs mi tg mYes e g = .ok (xs.map v) :=
  mLc_eq h1 (by rw [List.length_map]; exact hl) (lcGo_enc en v xs h)
theorem mLc_encF {α : Type} {vs : List Nat} {mi : G → Rs (List D)} {tg : Tg} {c : G → Rs Bool} {e : G → Rs D} {g : G} (en : α → D) (f : α → Bool) (v : α → D) (xs : List α) (h1 : mi g = .ok (xs.map en)) (hl : xs.length ≤ LIM)
    (h : ∀ a ∈ xs, ∃ ps, tg.put' (en a) = .ok ps ∧ c (setsG (killG vs g) ps) = .ok (f a) ∧ (f a = true → e (setsG (killG vs g) ps) = .ok (v a))) : mLc vs mi tg c e g = .ok ((xs.filter f).map v) :=
  mLc_eq h1 (by rw [List.length_map]; exact hl) (lcGo_encF en f v xs h)
/-- a loop that only looks: it goes on while f says so, else it ends with r -/
theorem forGo_look {α : Type} {tg : Tg} {ks : List Nat} {b : Sta → Rs Ou} {st : Sta} (en : α → D) (f : α → Bool) (r : Rs Ou) (hr : ∀ s, r ≠ .ok (.nx s) ∧ r ≠ .ok (.ct s) ∧ r ≠ .ok (.bk s)) : ∀ xs : List α, (∀ a ∈ xs, ∃ ps, tg.put' (en a) = .ok ps ∧ muFree st.mu tg.slots = true ∧
      (f a = true → ∃ s', b (st.sets ps) = .ok (.nx s') ∧ s'.kill ks = st) ∧ (f a = false → b (st.sets ps) = r)) → forGo tg ks b (xs.map en) st = if xs.all f then .ok (.nx st) else r
  | [], _ => rfl
  | a :: xs, h => by
    obtain ⟨ps, h1, h2, h3, h4⟩ := h a List.mem_cons_self
    have ih := forGo_look en f r hr xs fun x hx => h x (List.mem_cons_of_mem _ hx)
    rw [List.map_cons, List.all_cons]
    unfold forGo
    rw [h1, Rs.bind_ok, if_pos h2]
    cases q : f a with
    | true =>
      obtain ⟨s', h5, h6⟩ := h3 q
      rw [h5, Rs.bind_ok]
      show forGo tg ks b (xs.map en) (s'.kill ks) = _
      rw [h6, ih, Bool.true_and]
    | false =>
      rw [h4 q, Bool.false_and]
      cases e : r with
      | ok o =>
        cases o with
        | nx s => exact absurd e (hr s).1
        | ct s => exact absurd e (hr s).2.1
        | bk s => exact absurd e (hr s).2.2
        | rt d => rfl
      | ex c z => rfl
      | no => rfl
/-- a loop that only looks and never ends early -/
theorem forGo_pass {α : Type} {tg : Tg} {ks : List Nat} {b : Sta → Rs Ou} {st : Sta} (en : α → D) (xs : List α) (h : ∀ a ∈ xs, ∃ ps, tg.put' (en a) = .ok ps ∧ muFree st.mu tg.slots = true ∧ ∃ s', b (st.sets ps) = .ok (.nx s') ∧ s'.kill ks = st) : forGo tg ks b (xs.map en) st = .ok (.nx st) := by
  have e := forGo_look (b := b) en (fun _ => true) (.no) (fun s => ⟨(fun z => nomatch z), (fun z => nomatch z), (fun z => nomatch z)⟩) xs fun a ha => by
    obtain ⟨ps, h1, h2, h3⟩ := h a ha
    exact ⟨ps, h1, h2, fun _ => h3, fun z => nomatch z⟩
  rw [e, if_pos (List.all_eq_true.mpr fun _ _ => rfl)]
end Z
set_option Elab.async false
set_option linter.all false
set_option maxRecDepth 100000
set_option maxHeartbeats 4000000
/-! Z, part H: from the top's facts to the defs; the law's end. -/
namespace Z
set_option autoImplicit false
open PySem L2
theorem passL {X : Cx} {P : Program} {w : World} : Passes (L2.CX P w) X E0 := fun _ _ _ _ _ _ _ h => by
  obtain ⟨_, _, _, _, _, _, _, _, _, _, _, _, z⟩ := h
  exact z.elim
section
variable {P : Program} {w : World} {K : PySem.W.Frag} {mg : Str → Option Value} {base : Heap} {C : Addr} {h : Heap} {fa : List He.Fa} {fn : List He.DefD}
theorem funD_fun {x qual : Str} {st : Stmt} {f : Addr} {fd : FuncData} (F : FunD K x qual (defArgs st) (defBody st) (defScope st) [] [] f fd) : Fun K x qual st f fd := by
  obtain ⟨⟨oc, od, dV, kV, doc, pm, an, cdv, ct, osl, e, lk, hcd, hD, _⟩, kp⟩ := F
  rcases hD with ⟨_, rfl⟩ | ⟨z, _⟩
  · exact ⟨⟨oc, od, kV, doc, pm, an, cdv, ct, osl, e, lk, hcd⟩, kp⟩
  · exact absurd rfl z
/-- the datum of a def -/
def dat (x : Str) (st : Stmt) : He.DefD := ⟨(x, none), x, x, defArgs st, defBody st, defScope st, [], []⟩
theorem dn_of (X : K.In h) (G : h.Ns mainGlobals mg) (c : He.SaysD fa fn K) (i j : Nat) {x : Str} {st : Stmt} {ps : List Str} (hi : fn[i]? = some (dat x st)) (hj : fa[j]? = some (.glo x))
    (hb : ∀ (kV doc pm : Value) (an : Option Addr) (cdv ct : Value) (us : List Value), us.length = ps.length → bindArgs (PySem.W.fnOf x x (defArgs st) (defBody st) (defScope st) .none kV doc pm an cdv ct) ⟨us, []⟩ = pure (ps.zip us)) : Dn K mg x st ps := by
  obtain ⟨fd, F⟩ := c.def_ i hi
  have F2 : Fun K x x st (He.fAd K (x, none)) fd := funD_fun F
  exact ⟨_, fd, F2, He.glo_ok X G (c.fact j hj), F2.binds hb⟩
end
/-! the law's end: what its mirror tells is True -/
theorem spM_law {K : PySem.W.Frag} {C : Addr} {φ : List D → Rs D} {H : Hp} {a : Addr} {ns : List Int} (hS : SqL K H a (ns.map V.int)) (hq : φ [.scr ns] = .ok (.bl true)) : spM K C 1 φ [.ref a] H (fun v _ => v = .bl true) fun _ _ _ => False := by
  refine ⟨H, [.scr ns], Same.refl H, .cons (.scr hS) .nil, rfl, ?_⟩
  rw [hq]
  intro v H' g P T σ S
  obtain ⟨F, f⟩ := S
  have z := f.ts _ List.mem_cons_self
  cases z
  rfl
end Z
set_option Elab.async false
set_option linter.all false
set_option maxRecDepth 100000
set_option maxHeartbeats 4000000
/-! Z, part M: a list that was told is changed. -/
namespace Z
set_option autoImplicit false
open PySem L2
section
variable {K : PySem.W.Frag} {C : Addr}
/-- where the list that is changed lies in what was told -/
inductive Pth where
  | here
  | snd
def Pth.get : Pth → D → Option (List D)
  | .here, .lst ds => some ds
  | .snd, .tup [_, .lst ds] => some ds
  | _, _ => none
def Pth.te (K : PySem.W.Frag) (f : Nat) : Pth → TE
  | .here => tVar f
  | .snd => tOp (rIx2 K) (tVar f) (tC (.int 1))
theorem Pth.run {pth : Pth} {f : Nat} {σ : L2.St} {H F : Hp} {v : V} {d : D} {ds : List D} {Q : VK} (hf : σ[f]? = some (some v)) (e : Same F H) (iv : Is K C F v d) (h : pth.get d = some ds) (q : ∀ p vs, F p = some (.lst vs) → IsA K C F vs ds → Q (.ref p) H) : pth.te K f σ H Q := by
  cases pth with
  | here =>
    cases iv <;> try cases h
    rename_i h1 h2
    exact ⟨_, hf, q _ _ h1 h2⟩
  | snd =>
    cases iv with
    | @tup a vs dd h1 h2 =>
      unfold Pth.get at h
      split at h
      · rename_i ez; cases ez
      · rename_i x ds' ez
        cases ez
        cases h
        cases h2 with
        | cons i1 i2 =>
          cases i2 with
          | cons i3 i4 =>
            cases i4
            cases i3 with
            | lst h5 h6 =>
              exact ⟨_, hf, .inr ⟨_, _, 1, _, rfl, rfl, .inl (.inl (e _ _ h1)), atI_nat (j := 1) rfl, q _ _ h5 h6⟩⟩
      · cases h
    | _ => cases h
variable {E : XK}
end
end Z
set_option Elab.async false
set_option linter.all false
set_option maxRecDepth 100000
set_option maxHeartbeats 4000000
/-! Z, part T: try .. except. -/
namespace Z
set_option autoImplicit false
open PySem L2
/-! ### a wish that every state of the frame grants -/
def EWn (n : Nat) (W : WX) : XK := fun cls d H => ∀ σ : L2.St, σ.length = n → W cls d σ H
theorem passes_n {X : Cx} {W : WX} {n : Nat} (tk : Takes X W) (hn : X.N.length = n) : Passes (L2.CX X.prog X.w) X (EWn n W) :=
  fun pins σ H s e s' I c => tk e s' (XE.of_call I (fun cls d H' h => h σ (I.len.trans hn)) c)
/-- another base of a state -/
theorem SS.rebase {K : PySem.W.Frag} {C : Addr} {F0 H0 F H H' : Hp} {g g' : G} {P P' : List (Addr × List V)} {T T' : List (V × D)} {σ σ' : L2.St} (f : Fz ⟨K, C, F0, H0⟩ g P T σ H F) (S : SS ⟨K, C, F, H⟩ g' P' T' σ' H') : SS ⟨K, C, F0, H0⟩ g' P' T' σ' H' := by
  obtain ⟨F2, f2⟩ := S
  exact ⟨F2,
    { eF := f.eF.trans f2.eF
      eH := f2.eH
      e0 := f.e0.trans f2.e0
      nw := fun p hp hf => by
        cases q : H0 p with
        | none => exact absurd q hp
        | some o =>
          have h1 : H p = some o := f.e0 p o q
          exact f2.nw p (by show H p ≠ none; rw [h1]; exact fun z => nomatch z) (f.nw p hp hf)
      sl := f2.sl
      ln := f2.ln
      ts := f2.ts
      pr := fun x hx => by
        obtain ⟨a, b, c⟩ := f2.pr x hx
        exact ⟨a, f.e0.free b, c⟩ }⟩
theorem SSm.rebase {K : PySem.W.Frag} {C : Addr} {F0 H0 F H H' : Hp} {g : G} {P : List (Addr × List V)} {T T' : List (V × D)} {σ σ' : L2.St} {s : Sta} (f : Fz ⟨K, C, F0, H0⟩ g P T σ H F) (S : SSm ⟨K, C, F, H⟩ s T' σ' H') : SSm ⟨K, C, F0, H0⟩ s T' σ' H' := by
  obtain ⟨P2, T2, t, mu, S⟩ := S
  exact ⟨P2, T2, t, mu, SS.rebase f S⟩
def sTry (n : Nat) (m : Sta → Rs Ou) (hnd : Addr → Option Int → Rs D) : Sta → Rs Ou := fun s => match s.mu with
  | some _ => .no
  | none => if s.g.length = n then (match m s with
    | .ok o => .ok o
    | .ex c r => (hnd c r).nx.bind fun d => .ok (.rt d)
    | .no => .no) else .no
/-- the error's own dict -/
def Xd (H : Hp) (dd : Option Addr) : Option Int → Prop
  | none => dd = none
  | some m => ∃ p, dd = some p ∧ H p = some (.xd [(("road" : Str), .int m)])
/-- what the clauses do with an error -/
structure SuW (K : PySem.W.Frag) (C : Addr) (n : Nat) (wW : Ends → WX) (hnd : Addr → Option Int → Rs D) : Prop where
  run : ∀ F0 H0 F H c r dd d D' σ, Fz ⟨K, C, F0, H0⟩ (List.replicate n none) [] [] σ H F → Xd H dd r → hnd c r = .ok d → (∀ v H' T g P σ', SS ⟨K, C, F0, H0⟩ g P ((v, d) :: T) σ' H' → D'.rt v H') → wW D' (.ref c) dd σ H
section
variable {K : PySem.W.Frag} {C : Addr} {E : XK}
theorem sm_try {n : Nat} {tb : XK → TS} {m : Sta → Rs Ou} {wW : Ends → WX} {hnd : Addr → Option Int → Rs D} (hb : ∀ E, SM K C E (tb E) m) (hw : SuW K C n wW hnd) : SM K C E (fun D' σ H => tb (EWn n (wW D')) D' σ H) (sTry n m hnd) := ⟨fun F0 H0 s T σ H D' S wsh => by
  obtain ⟨P, T1, t1, mu, S1⟩ := S
  obtain ⟨F, f⟩ := S1
  unfold sTry at wsh
  cases emu : s.mu with
  | some q =>
    rw [emu] at wsh
    exact wsh.elim
  | none =>
    rw [emu] at wsh mu
    have mu' : P = [] := mu
    subst mu'
    dsimp only at wsh
    split at wsh
    · rename_i hn
      have S2 : SSm ⟨K, C, F, H⟩ s T σ H := ⟨[], T1, t1, by rw [emu]; rfl, F,
        { eF := Same.refl F, eH := f.eH, e0 := Same.refl H, nw := fun _ _ z => z, sl := f.sl, ln := f.ln, ts := f.ts, pr := fun x hx => by cases hx }⟩
      refine (hb (EWn n (wW D'))).run F H s T σ H D' S2 ?_
      have growH : ∀ {H' : Hp}, Same H H' → Fz ⟨K, C, F0, H0⟩ s.g [] T1 σ H' F := fun e => f.grow (Same.refl F) (f.eH.trans e) e fun _ _ z => z
      cases em : m s with
      | no =>
        rw [em] at wsh
        exact wsh.elim
      | ok o =>
        rw [em] at wsh
        show Post K C F H T D' o
        have wsh' : Post K C F0 H0 T D' o := wsh
        cases o with
        | nx s' => exact fun σ' H' Z => wsh' σ' H' (SSm.rebase f Z)
        | rt d => exact fun v H' g P T' σ' Z => wsh' v H' g P T' σ' (SS.rebase f Z)
        | bk s' => exact fun σ' H' Z => wsh' σ' H' (SSm.rebase f Z)
        | ct s' => exact fun σ' H' Z => wsh' σ' H' (SSm.rebase f Z)
      | ex c r =>
        rw [em] at wsh
        dsimp only at wsh
        have key : ∃ d, hnd c r = .ok d ∧ ∀ v H' g P T' σ', SS ⟨K, C, F0, H0⟩ g P ((v, d) :: T') σ' H' → D'.rt v H' := by
          cases eh : hnd c r with
          | ok d =>
            rw [eh] at wsh
            exact ⟨d, rfl, wsh⟩
          | ex _ _ => rw [eh] at wsh; exact wsh.elim
          | no => rw [eh] at wsh; exact wsh.elim
        obtain ⟨d, eh, hd⟩ := key
        have go : ∀ (dd : Option Addr) (H' : Hp), Same H H' → Xd H' dd r → EWn n (wW D') (.ref c) dd H' := fun dd H' e x σ' hσ => by
          refine hw.run F0 H0 F H' c r dd d D' σ' ?_ x eh fun v H2 T2 g2 P2 σ2 S => hd v H2 g2 P2 T2 σ2 S
          have g1 := growH e
          exact
            { eF := g1.eF
              eH := g1.eH
              e0 := g1.e0
              nw := g1.nw
              sl := fun i d' z => by
                rw [List.getElem?_replicate] at z
                split at z <;> cases z
              ln := by rw [hσ, List.length_replicate]
              ts := fun x hx => by cases hx
              pr := fun x hx => by cases hx }
        show XOk H (EWn n (wW D')) c r
        cases r with
        | none => exact fun H' e => go none H' e rfl
        | some k => exact fun dx H' e hn hx => go (some dx) H' e ⟨dx, rfl, hx⟩
    · exact wsh.elim⟩
end
/-! ### isinstance of a caught error -/
structure ExF (K : PySem.W.Frag) (c : Addr) : Prop where
  hcl : (PySem.W.clsIn K c).isSome = true
  hga : PySem.W.findIn K (.ref c) "__getattribute__" = some (some (.builtin "BaseException.__getattribute__"))
  hgt : PySem.W.findIn K (.ref c) "__getattr__" = some none
  hsub : PySem.W.subIn K (.ref c) (.type "BaseException") = some true
  ha : PySem.W.findIn K (.ref c) "__class__" = some (some (.builtin "object.__class__"))
  hn : PySem.W.specialIn K (.builtin "object.__class__") "__get__" = some (some (.builtin "getset_descriptor.__get__"))
  ht : PySem.W.takesIn K (.builtin "object.__class__") = some true
  hm : PySem.W.mroIn K c (.type "object") = some true
def exFB (K : PySem.W.Frag) (c : Addr) : Bool := (PySem.W.clsIn K c).isSome && (decide (PySem.W.findIn K (.ref c) "__getattribute__" = some (some (.builtin "BaseException.__getattribute__"))) && (decide (PySem.W.findIn K (.ref c) "__getattr__" = some none) && (decide (PySem.W.subIn K (.ref c) (.type "BaseException") = some true) &&
  (decide (PySem.W.findIn K (.ref c) "__class__" = some (some (.builtin "object.__class__"))) && (decide (PySem.W.specialIn K (.builtin "object.__class__") "__get__" = some (some (.builtin "getset_descriptor.__get__"))) && (decide (PySem.W.takesIn K (.builtin "object.__class__") = some true) && decide (PySem.W.mroIn K c (.type "object") = some true)))))))
theorem exFB_ok {K : PySem.W.Frag} {c : Addr} (h : exFB K c = true) : ExF K c := by
  unfold exFB at h
  simp only [Bool.and_eq_true, decide_eq_true_eq] at h
  obtain ⟨h1, h2, h3, h4, h5, h6, h7, h8⟩ := h
  exact ⟨h1, h2, h3, h4, h5, h6, h7, h8⟩
def Xfs (H : Hp) (dd : Option Addr) : Prop := dd = none ∨ ∃ p fs, dd = some p ∧ H p = some (.xd fs)
theorem Xd.fs {H : Hp} {dd : Option Addr} {r : Option Int} (h : Xd H dd r) : Xfs H dd := by
  cases r with
  | none => exact .inl h
  | some m =>
    obtain ⟨p, e, z⟩ := h
    exact .inr ⟨p, _, e, z⟩
def rIsO (K : PySem.W.Frag) (a : Addr) (cls : Value) (dd : Option Addr) (t : Value) : List V → Hp → VK → Prop := fun xs H Q => ∃ (c : Addr) (u : V) (b : Bool), xs = [.ref a, u] ∧ (∀ z, RelV u z → z = t) ∧ cls = .ref c ∧ ExF K c ∧ Xfs H dd ∧ PySem.W.kitOne K (.ref c) t = some b ∧ Q (.bl b) H
/-- isinstance(e, T) of the error that the suite holds -/
def tIsE (K : PySem.W.Frag) (i a : Addr) (cls : Value) (dd : Option Addr) (u : V) (t : Value) : TE := tCB (rIsO K a cls dd t) (tCons (tVar i) (tCons (tC u) tNil))
section
variable {X : Cx} {K : PySem.W.Frag} {C : Addr} {E : XK}
/-- xs[k] = e, xs a list that may still change -/
theorem z_put {i : Nat} {x : Str} {e k : Expr} {te tk : TE} {m mk : G → Rs D} {p1 p2 pos : Pos} (hN : X.N[i]? = some x) (hv : Vis X.env.scope x) (he : PEM X K C E e te m) (hk : PEM X K C E k tk mk) (hd : (x == ("__debug__" : Str)) = false := by decide) (hcd : (x == ("__classdict__" : Str)) = false := by decide)
    (ha : ∀ v, assign (.Subscript (.Name x p1) k p2) X.env v = (do
      let ov ← holding [v] (eval (.Name x p1) X.env)
      let iv ← holding [v, ov] (eval k X.env)
      standAt p2
      holding [v, ov, iv] (setItem ov iv v)
      release [v, ov, iv] []) := by intro _; rfl)
    (hs : swapsWithSole [.Subscript (.Name x p1) k p2] e pos.line X.env = pure false := by rfl) (hw : swappedStores [.Subscript (.Name x p1) k p2] e X.env = pure none := by rfl)
    (h1 : (assignEach [.Subscript (.Name x p1) k p2] X.env).map (·.2) = [assign (.Subscript (.Name x p1) k p2) X.env] := by rfl) : PSM X K C E (.Assign [.Subscript (.Name x p1) k p2] e pos) (tAsg te (gSub (tVar i) tk rSetL)) (sPut i mk m) :=
  ⟨ps_asg he.p (pg_sub (pe_var hN hv hd hcd) hk.p set_list ha) hs hw h1, sm_put he.q hk.q⟩
end
end Z
set_option Elab.async false
set_option linter.all false
set_option maxRecDepth 100000
set_option maxHeartbeats 4000000
/-! Z, part W: what the roads want of operators and built-ins. -/
namespace Z
set_option autoImplicit false
open PySem L2
/-! ### (cost, roads) < (cost, roads) -/
theorem toPs_ints : ∀ ns : List Int, toPs (ns.map D.int) = some (ns.map PyData.int)
  | [] => rfl
  | n :: ns => by
    rw [List.map_cons]
    unfold toPs
    rw [toPs_ints ns]
    rfl
abbrev tk (ns : List Int) : List (Int ⊕ List Nat) := PySem.W.keyToksAll (ns.map PyData.int)
abbrev lx : List (Int ⊕ List Nat) → List (Int ⊕ List Nat) → Bool := PyProof.Rows.lexLt PyProof.Rows.itemOrd
theorem lx_cons (p q : Int) (a b : List (Int ⊕ List Nat)) : lx (.inl p :: a) (.inl q :: b) = (decide (p < q) || (!decide (q < p) && lx a b)) := PyProof.Rows.lex_cons (O := PyProof.Rows.itemOrd) _ _ _ _
theorem tk_nil : tk [] = [.inl 0] := by
  show PySem.W.keyToksAll [] = _
  rw [PySem.W.keyToksAll]
theorem tk_cons (n : Int) (ns : List Int) : tk (n :: ns) = .inl 1 :: .inl n :: tk ns := by
  show PySem.W.keyToksAll (.int n :: ns.map PyData.int) = _
  rw [PySem.W.keyToksAll, PySem.W.keyToks]
  rfl
theorem lx_ints (l : List (Int ⊕ List Nat)) (hl : lx l l = false) : ∀ xs ys : List Int, lx (tk xs ++ l) (tk ys ++ l) = HT.lexLt xs ys
  | [], [] => by
    rw [tk_nil]
    show lx (.inl 0 :: l) (.inl 0 :: l) = false
    rw [lx_cons, hl]
    decide
  | [], y :: ys => by
    rw [tk_nil, tk_cons]
    show lx (.inl 0 :: l) (.inl 1 :: .inl y :: (tk ys ++ l)) = true
    rw [lx_cons]
    simp
  | x :: xs, [] => by
    rw [tk_nil, tk_cons]
    show lx (.inl 1 :: .inl x :: (tk xs ++ l)) (.inl 0 :: l) = false
    rw [lx_cons]
    simp
  | x :: xs, y :: ys => by
    rw [tk_cons, tk_cons]
    show lx (.inl 1 :: .inl x :: (tk xs ++ l)) (.inl 1 :: .inl y :: (tk ys ++ l)) = if x = y then HT.lexLt xs ys else decide (x < y)
    rw [lx_cons, lx_cons, lx_ints l hl xs ys]
    by_cases h : x = y
    · subst h
      simp
    · rw [if_neg h]
      by_cases h2 : x < y
      · simp [h2]
      · have h3 : y < x := by omega
        simp [h2, h3]
def ltR (a : Int) (xs : List Int) (b : Int) (ys : List Int) : Bool := if a = b then HT.lexLt xs ys else decide (a < b)
def tupP (a : Int) (xs : List Int) : PyData := .tuple [.int a, .list (xs.map PyData.int)]
theorem dataLt_R (a b : Int) (xs ys : List Int) : PySem.W.dataLt (tupP a xs) (tupP b ys) = ltR a xs b ys := by
  unfold tupP
  rw [PySem.W.dataLt_tuple]
  simp only [PySem.W.keyToksAll, PySem.W.keyToks, List.cons_append, List.nil_append]
  show lx (.inl 1 :: .inl a :: .inl 1 :: (tk xs ++ [.inl 0])) (.inl 1 :: .inl b :: .inl 1 :: (tk ys ++ [.inl 0])) = _
  rw [lx_cons, lx_cons, lx_cons, lx_ints [.inl 0] (by rw [lx_cons]; decide)]
  unfold ltR
  by_cases h : a = b
  · subst h
    simp
  · rw [if_neg h]
    by_cases h2 : a < b
    · simp [h2]
    · have h3 : b < a := by omega
      simp [h2, h3]
theorem alike_ints : ∀ xs ys : List Int, PySem.W.alikeAll (xs.map PyData.int) (ys.map PyData.int) = true
  | [], _ => by rw [List.map_nil, PySem.W.alikeAll]
  | _ :: _, [] => by rw [List.map_cons, List.map_nil, PySem.W.alikeAll]
  | x :: xs, y :: ys => by
    rw [List.map_cons, List.map_cons, PySem.W.alikeAll, alike_ints xs ys, PySem.W.alike]
    rfl
theorem alike_R (a b : Int) (xs ys : List Int) : PySem.W.alike (tupP a xs) (tupP b ys) = true := by
  unfold tupP
  rw [PySem.W.alike, PySem.W.alikeAll, PySem.W.alikeAll, PySem.W.alikeAll, PySem.W.alike, PySem.W.alike, alike_ints]
  rfl
theorem depth_ints : ∀ xs : List Int, PyData.depthAll (xs.map PyData.int) = 0
  | [] => by simp [PyData.depthAll]
  | x :: xs => by
    rw [List.map_cons]
    simp [PyData.depthAll, PyData.depth, depth_ints xs]
theorem depth_R (a : Int) (xs : List Int) : (tupP a xs).depth ≤ 8 := by
  unfold tupP
  simp only [PyData.depth, PyData.depthAll, depth_ints]
  omega
def rLtD (K : PySem.W.Frag) : R2 := fun x y H Q => ∃ d e, Dp K H x d ∧ Dp K H y e ∧ PySem.W.alike d e = true ∧ d ≠ .none ∧ d.depth ≤ 8 ∧ Q (.bl (PySem.W.dataLt d e)) H
theorem op_ltD {X : Cx} (hu : X.A.units + 64 < cLine) : OpR X (compareOp .Lt) (rLtD X.K) := by
  intro pins s σ H x y v u Q I rx ry h
  obtain ⟨d, e, hd, he, hal, hn, hdp, q⟩ := h
  obtain ⟨as, r1⟩ := Dp.reads I d x v hd rx
  obtain ⟨bs, r2⟩ := Dp.reads I e y u he ry
  exact PySem.W.rcLt_alike d e X.A s v u as bs r1 r2 hal hn (by have := Nat.min_le_left d.depth e.depth; omega) X.prog X.w _ _ ⟨.bl _, H, I, rfl, q⟩
def dLtR : D → D → Option D
  | .tup [.int a, .lst ds], .tup [.int b, .lst es] => (asInts ds).bind fun xs => (asInts es).map fun ys => .bl (ltR a xs b ys)
  | _, _ => none
theorem toP_R (a : Int) (xs : List Int) : toP (.tup [.int a, .lst (xs.map D.int)]) = some (tupP a xs) := by
  simp only [toP, toPs, toPs_ints]
  rfl
section
variable {K : PySem.W.Frag} {C : Addr}
theorem r_ltR : R2M K C (rLtD K) dLtR := by
  intro F0 H0 g P T σ H Q x y dx dy d S hx hy e q
  obtain ⟨F, f⟩ := S
  unfold dLtR at e
  split at e
  · rename_i a ds b es
    cases e1 : asInts ds with
    | none => rw [e1] at e; cases e
    | some xs =>
      rw [e1] at e
      cases e2 : asInts es with
      | none => rw [e2] at e; cases e
      | some ys =>
        rw [e2] at e
        cases e
        have i1 := f.ts _ hx
        have i2 := f.ts _ hy
        have d1 := asInts_some e1
        have d2 := asInts_some e2
        subst d1
        subst d2
        refine ⟨tupP a xs, tupP b ys, Is.dp f.eH _ _ _ i1 (toP_R a xs), Is.dp f.eH _ _ _ i2 (toP_R b ys), alike_R a b xs ys, (fun z => by unfold tupP at z; cases z), depth_R a xs, ?_⟩
        rw [dataLt_R]
        exact q _ H ⟨F, f.addT (.bl _)⟩
  · cases e
/-! ### sorted of pairs -/
def pairOf : D → Option (Int × Int)
  | .tup [.int i, .int j] => some (i, j)
  | _ => none
def asPairs : List D → Option (List (Int × Int))
  | [] => some []
  | d :: ds => (pairOf d).bind fun p => (asPairs ds).map (p :: ·)
def pairIJ (p : Int × Int) : D := .tup [.int p.1, .int p.2]
theorem pairOf_some {d : D} {p : Int × Int} (h : pairOf d = some p) : d = pairIJ p := by
  unfold pairOf at h
  split at h
  · cases h; rfl
  · cases h
theorem asPairs_some : ∀ {ds : List D} {ps : List (Int × Int)}, asPairs ds = some ps → ds = ps.map pairIJ
  | [], ps, h => by cases h; rfl
  | d :: ds, ps, h => by
    unfold asPairs at h
    cases e1 : pairOf d with
    | none => rw [e1] at h; cases h
    | some p =>
      rw [e1] at h
      cases e2 : asPairs ds with
      | none => rw [e2] at h; cases h
      | some qs =>
        rw [e2] at h
        cases h
        rw [List.map_cons, pairOf_some e1, asPairs_some e2]
theorem asPairs_map : ∀ ps : List (Int × Int), asPairs (ps.map pairIJ) = some ps
  | [] => rfl
  | p :: ps => by
    rw [List.map_cons]
    unfold asPairs
    rw [asPairs_map ps]
    rfl
/-- p is not above q -/
def leP (p q : Int × Int) : Prop := p.1 < q.1 ∨ (p.1 = q.1 ∧ p.2 ≤ q.2)
instance (p q : Int × Int) : Decidable (leP p q) := inferInstanceAs (Decidable (_ ∨ _))
theorem leP_total (p q : Int × Int) (h : ¬ leP p q) : leP q p := by unfold leP at *; omega
theorem leP_trans {p q r : Int × Int} (h : leP p q) (h2 : leP q r) : leP p r := by unfold leP at *; omega
theorem leP_anti {p q : Int × Int} (h : leP p q) (h2 : leP q p) : p = q := by
  obtain ⟨a, b⟩ := p
  obtain ⟨c, d⟩ := q
  unfold leP at h h2
  dsimp only at h h2
  have e1 : a = c := by omega
  have e2 : b = d := by omega
  rw [e1, e2]
def insP (x : Int × Int) : List (Int × Int) → List (Int × Int)
  | [] => [x]
  | y :: r => if leP x y then x :: y :: r else y :: insP x r
def sortP : List (Int × Int) → List (Int × Int)
  | [] => []
  | x :: r => insP x (sortP r)
theorem insP_perm (x : Int × Int) : ∀ l : List (Int × Int), (insP x l).Perm (x :: l)
  | [] => List.Perm.refl _
  | y :: r => by
    unfold insP
    split
    · exact List.Perm.refl _
    · exact ((insP_perm x r).cons y).trans (List.Perm.swap x y r)
theorem sortP_perm : ∀ l : List (Int × Int), (sortP l).Perm l
  | [] => List.Perm.refl _
  | x :: r => (insP_perm x (sortP r)).trans ((sortP_perm r).cons x)
theorem insP_le {x : Int × Int} : ∀ {l : List (Int × Int)}, l.Pairwise leP → (insP x l).Pairwise leP
  | [], _ => by simp [insP]
  | y :: r, h => by
    unfold insP
    have h1 := List.pairwise_cons.mp h
    split
    · rename_i hx
      refine List.pairwise_cons.mpr ⟨fun z hz => ?_, h⟩
      rcases List.mem_cons.mp hz with e | e
      · rw [e]; exact hx
      · exact leP_trans hx (h1.1 z e)
    · rename_i hx
      refine List.pairwise_cons.mpr ⟨fun z hz => ?_, insP_le h1.2⟩
      rcases List.mem_cons.mp ((insP_perm x r).mem_iff.mp hz) with e | e
      · rw [e]; exact leP_total _ _ hx
      · exact h1.1 z e
theorem sortP_le : ∀ l : List (Int × Int), (sortP l).Pairwise leP
  | [] => List.Pairwise.nil
  | x :: r => insP_le (sortP_le r)
theorem perm_leP_eq : ∀ {a b : List (Int × Int)}, a.Perm b → a.Pairwise leP → b.Pairwise leP → a = b
  | [], b, p, _, _ => (List.Perm.eq_nil p.symm).symm
  | x :: a, [], p, _, _ => absurd p.length_eq (by simp)
  | x :: a, y :: b, p, h1, h2 => by
    have q1 := List.pairwise_cons.mp h1
    have q2 := List.pairwise_cons.mp h2
    have e : x = y := by
      have m1 : x ∈ y :: b := p.mem_iff.mp List.mem_cons_self
      have m2 : y ∈ x :: a := p.mem_iff.mpr List.mem_cons_self
      rcases List.mem_cons.mp m1 with z | z
      · exact z
      · rcases List.mem_cons.mp m2 with z2 | z2
        · exact z2.symm
        · exact leP_anti (q1.1 y z2) (q2.1 x z)
    subst e
    rw [perm_leP_eq p.cons_inv q1.2 q2.2]
def dSortedP : List D → Option D
  | [.lst ds] => (asPairs ds).map fun ps => D.lst ((sortP ps).map pairIJ)
  | _ => none
/-- the pair that stands at a value -/
def keyV (H : Hp) : V → Int × Int
  | .ref t => (match H t with
    | some (.tup [.int i, .int j]) => (i, j)
    | _ => (0, 0))
  | _ => (0, 0)
theorem keyV_pairs {F H : Hp} (e : Same F H) : ∀ {vs : List V} {ps : List (Int × Int)}, IsA K C F vs (ps.map pairIJ) → vs.map (keyV H) = ps ∧ ∀ x ∈ vs, ∃ t, x = V.ref t ∧ F t = some (.tup [.int (keyV H x).1, .int (keyV H x).2])
  | [], [], _ => ⟨rfl, fun x hx => by cases hx⟩
  | [], _ :: _, h => by cases h
  | _ :: _, [], h => by cases h
  | v :: vs, p :: ps, h => by
    cases h with
    | cons h1 h2 =>
      obtain ⟨a, b⟩ := keyV_pairs e h2
      cases h1 with
      | @tup t us _ ha hb =>
        cases hb with
        | cons i1 i2 =>
          cases i1
          cases i2 with
          | cons i3 i4 =>
            cases i3
            cases i4
            have hk : keyV H (.ref t) = p := by
              show (match H t with
                | some (.tup [.int i, .int j]) => (i, j)
                | _ => (0, 0)) = p
              rw [e _ _ ha]
            refine ⟨by rw [List.map_cons, hk, a], fun x hx => ?_⟩
            rcases List.mem_cons.mp hx with z | z
            · subst z
              exact ⟨t, rfl, by rw [hk]; exact ha⟩
            · exact b x z
theorem isA_of_keys {F H : Hp} : ∀ {ys : List V}, (∀ x ∈ ys, ∃ t, x = V.ref t ∧ F t = some (.tup [.int (keyV H x).1, .int (keyV H x).2])) → IsA K C F ys ((ys.map (keyV H)).map pairIJ)
  | [], _ => .nil
  | y :: ys, h => by
    obtain ⟨t, e, z⟩ := h y List.mem_cons_self
    rw [List.map_cons, List.map_cons]
    refine .cons ?_ (isA_of_keys fun x hx => h x (List.mem_cons_of_mem _ hx))
    rw [e] at z ⊢
    exact .tup z (.cons (.int _) (.cons (.int _) .nil))
theorem lexB_le {p q : Int × Int} (h : SrtO.lexB q p = false) : leP p q := by
  have h2 : ¬ (q.1 < p.1 ∨ (q.1 = p.1 ∧ q.2 < p.2)) := fun z => by
    rw [SrtO.lexB_iff.mpr z] at h
    cases h
  unfold leP
  omega
theorem r_sortedP : RAM K C (rSortedPO K) dSortedP := by
  intro F0 H0 g P T σ H Q xs ds d S al e q
  obtain ⟨F, f⟩ := S
  unfold dSortedP at e
  split at e
  · rename_i es
    cases e2 : asPairs es with
    | none => rw [e2] at e; cases e
    | some ps =>
      rw [e2] at e
      cases e
      obtain ⟨x, rfl, hx⟩ := al1 al
      have ix := f.ts _ hx
      rw [asPairs_some e2] at ix
      cases ix with
      | lst ha hb =>
        obtain ⟨k1, k2⟩ := keyV_pairs f.eH hb
        refine ⟨_, _, keyV H, rfl, f.sqL ha, fun x hx => ?_, fun ys p srt stb hp => q _ _ ?_⟩
        · obtain ⟨t, e1, e3⟩ := k2 x hx
          exact ⟨t, e1, f.eH _ _ e3⟩
        · have hys : ∀ x ∈ ys, ∃ t, x = V.ref t ∧ F t = some (.tup [.int (keyV H x).1, .int (keyV H x).2]) := fun x hx => k2 x (stb.perm.mem_iff.mp hx)
          have i2 : IsA K C F ys ((ys.map (keyV H)).map pairIJ) := isA_of_keys hys
          have es : ys.map (keyV H) = sortP ps := by
            refine perm_leP_eq ?_ ?_ (sortP_le ps)
            · rw [← k1]
              exact (stb.perm.map _).trans (sortP_perm _).symm
            · rw [List.pairwise_map]
              exact srt.imp fun h => lexB_le h
          rw [es] at i2
          exact f.newL hp i2
  · cases e
end
end Z
set_option Elab.async false
set_option linter.all false
set_option maxRecDepth 100000
set_option maxHeartbeats 4000000
/-! Z, part X: a web made; Alone raised. -/
namespace Z
set_option autoImplicit false
open PySem L2
/-! ### Web(..) -/
/-- Web.__init__ keeps this: chk tells whether the web is refused -/
def spWeb (K : PySem.W.Frag) (C : Addr) (chk : Int → List D → Rs Unit) : Sp := fun vs H Q E => ∃ (F : Hp) (x dx : Addr) (v1 v2 : V) (n : Int) (ds : List D), vs = [.ref x, v1, v2] ∧ H x = some (.ins C dx []) ∧ H dx = some (.own x) ∧ dx ≠ x ∧ Same F H ∧ F x = none ∧ F dx = none ∧ Is K C F v1 (.int n) ∧ Is K C F v2 (.lst ds) ∧
  Wish H E (chk n ds) (fun _ => ∀ (r : Addr) (ws : List V) (F1 H' : Hp), Same F F1 → F1 x = none → F1 dx = none → F1 r = none → (∀ p, H p ≠ none → F p = none → F1 p = none) → Same F1 H' → H' x = some (.ins C dx (webF n r)) → H' r = some (.lst ws) → H r = none → IsA K C F1 ws ds → (∀ b o, H b = some o → b ≠ x → H' b = some o) → Q .non H')
def mWeb (chk : Int → List D → Rs Unit) (ms : G → Rs (List D)) : G → Rs D := fun g => (ms g).bind fun xs => match xs with
  | [.int n, .lst ds] => (chk n ds).bind fun _ => .ok (.web n ds)
  | _ => .no
section
variable {K : PySem.W.Frag} {C : Addr} {E : XK} {t : TA} {ms : G → Rs (List D)}
theorem em_make {chk : Int → List D → Rs Unit} (a : AM K C E t ms) : EM K C E (tMake C (spWeb K C chk) [] E t) (mWeb chk ms) := ⟨fun F0 H0 g P T σ H Q S h =>
  a.run F0 H0 g P T σ H _ S (h.bind.mono fun xs hx vs T' H1 ht al S1 => by
    obtain ⟨F, f⟩ := S1
    intro x dx nx nd ne
    have key : ∃ n ds, xs = [D.int n, D.lst ds] := by
      revert hx
      split
      · exact fun _ => ⟨_, _, rfl⟩
      · exact fun hx => hx.elim
    obtain ⟨n, ds, rfl⟩ := key
    have ia := f.all al
    cases ia with
    | cons i1 r1 =>
    cases r1 with
    | cons i2 r2 =>
    cases r2
    rename_i v1 v2
    have hH : ∀ {b : Addr} {o : HO}, H1 b = some o → upd (upd H1 dx (.own x)) x (.ins C dx []) b = some o := fun {b o} e => by
      rw [upd_ne (ne_of_none e nx), upd_ne (ne_of_none e nd)]
      exact e
    refine ⟨F, x, dx, v1, v2, n, ds, rfl, upd_same, by rw [upd_ne ne, upd_same], ne, fun b o e => hH (f.eH b o e), f.free nx, f.free nd, i1, i2, ?_⟩
    have hx' : Wish H0 E ((chk n ds).bind fun _ => Rs.ok (D.web n ds)) (fun d => ∀ (v : V) (H' : Hp), SS ⟨K, C, F0, H0⟩ g P ((v, d) :: T) σ H' → Q v H') := hx
    cases ec : chk n ds with
    | no =>
      rw [ec] at hx'
      exact hx'.elim
    | ex c r =>
      rw [ec] at hx'
      exact XOk.mono hx' fun b o e => hH (f.e0 b o e)
    | ok u =>
      rw [ec] at hx'
      intro r ws F1 H' s1 h1 h2 h3 h4 h5 h6 h7 h8 h9 h10
      have rx : r ≠ x := fun z => by rw [z, upd_same] at h8; cases h8
      have rd : r ≠ dx := fun z => by rw [z, upd_ne ne, upd_same] at h8; cases h8
      have rn : H1 r = none := by rw [upd_ne rx, upd_ne rd] at h8; exact h8
      have sF : Same F1 (upd (upd (upd F1 r (.lst ws)) dx (.own x)) x (.ins C dx (webF n r))) := fun b o e => by
        rw [upd_ne (ne_of_none e h1), upd_ne (ne_of_none e h2), upd_ne (ne_of_none e h3)]
        exact e
      refine ⟨rfl, hx' _ _ ⟨upd (upd (upd F1 r (.lst ws)) dx (.own x)) x (.ins C dx (webF n r)), ?_⟩⟩
      have g1 := f.grow (F2 := upd (upd (upd F1 r (.lst ws)) dx (.own x)) x (.ins C dx (webF n r))) (H2 := H') (s1.trans sF)
        (fun b o e => by
          by_cases bx : b = x
          · subst bx
            rw [upd_same] at e
            rw [h6, ← e]
          · rw [upd_ne bx] at e
            by_cases bd : b = dx
            · subst bd
              rw [upd_same] at e
              rw [← e]
              exact h10 _ _ (by rw [upd_ne ne, upd_same]) ne
            · rw [upd_ne bd] at e
              by_cases br : b = r
              · subst br
                rw [upd_same] at e
                rw [← e]
                exact h7
              · rw [upd_ne br] at e
                exact h5 b o e)
        (fun b o e => h10 b o (hH e) (ne_of_none e nx))
        (fun p hp hf => by
          have px : p ≠ x := fun z => hp (by rw [z]; exact nx)
          have pd : p ≠ dx := fun z => hp (by rw [z]; exact nd)
          have pr : p ≠ r := fun z => hp (by rw [z]; exact rn)
          rw [upd_ne px, upd_ne pd, upd_ne pr]
          refine h4 p ?_ hf
          rw [upd_ne px, upd_ne pd]
          exact hp)
      refine (g1.sub (T' := T) fun z hz => ht z hz).addT ?_
      refine .web upd_same (by rw [upd_ne ne, upd_same]) (by rw [upd_ne rx, upd_ne rd, upd_same]) (IsA.mono sF _ _ h9))⟩
end
section
variable {P : Program} {w : World} {K : PySem.W.Frag} {mg : Str → Option Value} {base : Heap} {C : Addr}
theorem web_okX {st : Stmt} {f : Addr} {fd : FuncData} {N ps : List Str} {k : Nat} {cb : Sta → Rs Ou} {chk : Int → List D → Rs Unit} (F : Fun K "__init__" "Web.__init__" st f fd) (S : FnScope N ps (defScope st)) (hp : ps.length = 3) (hc : Cls K C) (np : NoAttr K C "places") (nr : NoAttr K C "roads")
    (hm : ∀ x n ds, chk n ds ≠ .no → ∃ s, s.g[0]? = some (some (.adr x)) ∧ s.g[1]? = some (some (.int n)) ∧ s.g[2]? = some (some (.lst ds)) ∧ cb ⟨startG N.length [.adr x, .int n, .lst ds], none⟩ = (chk n ds).bind fun _ => .ok (.nx s))
    (hb : ∀ (cdv : Value) (A : Around) (outer : List Env) (s : Shared) (H : Hp) (E : XK), Room k (A.deeper (PyProof.Rows.envOfC "Web.__init__" (defScope st) s.heap.objs.size f cdv)) →
      ∃ t, SM K C E t cb ∧ PSs (cxOf (L2.CX P w) P w K mg base N "Web.__init__" (defScope st) f cdv A outer s H E) (defBody st) (tSeq t (tSeq (sFld K (tVar 0) (tVar 1) "places") (tSeq (sFld K (tVar 0) (tCB (rListS K) (tCons (tVar 2) tNil)) "roads") tNext)))) :
    FnOk P w K mg base (L2.CX P w) (k + 1) f fd ps (spWeb K C chk) := by
  refine F.okX S (fun vs H Q E h => ?_) (fun cdv A outer s H vs Q E hr h => ?_)
  · obtain ⟨F, x, dx, v1, v2, n, ds, rfl, _⟩ := h
    rw [hp]
    rfl
  · obtain ⟨F, x, dx, v1, v2, n, ds, rfl, hx, hdx, hne, sF, fx, fd', i1, i2, h⟩ := h
    obtain ⟨t, pt, pp⟩ := hb cdv A outer s H E hr
    refine ⟨_, pp, ?_⟩
    refine pt.run F H ⟨startG N.length [.adr x, .int n, .lst ds], none⟩ [] _ H _ ⟨[], [], fun _ z => z, rfl, start_SS sF (.cons (.adr x) (.cons i1 (.cons i2 .nil)))⟩ ?_
    have hno : chk n ds ≠ .no := fun z => by rw [z] at h; exact h
    obtain ⟨s1, g0, g1, g2, e⟩ := hm x n ds hno
    rw [e]
    cases ec : chk n ds with
    | no => exact absurd ec hno
    | ex c r =>
      rw [ec] at h
      exact h
    | ok u =>
      rw [ec] at h
      intro σ H1 S1
      obtain ⟨P1, T1, _, _, F1, f1⟩ := S1
      obtain ⟨u0, s0, j0⟩ := f1.sl 0 _ g0
      obtain ⟨u1, s1', j1⟩ := f1.sl 1 _ g1
      obtain ⟨u2, s2, j2⟩ := f1.sl 2 _ g2
      cases j0
      cases j1
      cases j2 with
      | @lst p ws _ hp1 hp2 =>
        have hx1 : H1 x = some (.ins C dx []) := f1.e0 _ _ hx
        have Fx : F1 x = none := f1.nw x (by show H x ≠ none; rw [hx]; exact fun z => nomatch z) fx
        have Fd : F1 dx = none := f1.nw dx (by show H dx ≠ none; rw [hdx]; exact fun z => nomatch z) fd'
        have sP : (putF "places" (V.int n) []).length < 1000 := by show 1 < 1000; decide
        have nf : ∀ {b : Addr} {o : HO}, F1 b = some o → upd H1 x (.ins C dx (putF "places" (V.int n) [])) b = some o := fun {b o} e => by
          rw [upd_ne (ne_of_none e Fx)]
          exact f1.eH b o e
        refine ⟨_, s1', .ref x, s0, x, C, dx, [], rfl, hx1, hc, np, (by show 0 < 1000; decide), ?_⟩
        refine ⟨_, s2, _, _, rfl, .inl (.inl (.inl (nf hp1))), fun r hr0 => ?_⟩
        have rx : r ≠ x := fun z => by rw [z, upd_same] at hr0; cases hr0
        have hr1 : H1 r = none := by rw [upd_ne rx] at hr0; exact hr0
        have xr : x ≠ r := Ne.symm rx
        refine ⟨.ref x, s0, x, C, dx, _, rfl, (by rw [upd_ne xr, upd_same]), hc, nr, sP, ?_⟩
        refine h r ws F1 _ f1.eF Fx Fd (f1.eH.free hr1) f1.nw (fun b o e => ?_) upd_same (by rw [upd_ne rx, upd_same]) (f1.e0.free hr1) hp2 fun b o e hb => ?_
        · rw [upd_ne (ne_of_none e Fx), upd_ne (ne_of_none (f1.eH b o e) hr1), upd_ne (ne_of_none e Fx)]
          exact f1.eH b o e
        · have e1 := f1.e0 b o e
          rw [upd_ne hb, upd_ne (ne_of_none e1 hr1), upd_ne hb]
          exact e1
end
/-! the web's own test -/
def okRoad (n : Int) (p : Int × Int) : Bool := decide (0 ≤ p.1) && decide (p.1 < n) && (decide (0 ≤ p.2) && decide (p.2 < n)) && !decide (p.1 = p.2)
def okWeb (n : Int) (ps : List (Int × Int)) : Bool := decide (2 ≤ n) && decide (n ≤ 6) && (decide (1 ≤ ps.length) && decide (ps.length ≤ 10)) && ps.all (okRoad n)
def chkW (c : Addr) (n : Int) (ds : List D) : Rs Unit := match asPairs ds with
  | none => .no
  | some ps => if okWeb n ps = true then .ok () else .ex c none
section
variable (P : Program) (w : World) (K : PySem.W.Frag) (mg : Str → Option Value) (base : Heap) (C : Addr)
/-- the class Web stands, and its __init__ keeps its word -/
def CalW (k : Nat) (chk : Int → List D → Rs Unit) : Prop := ∃ f fd, FnOk P w K mg base (L2.CX P w) k f fd ["self", "places", "roads"] (spWeb K C chk) ∧ Mk K C f ∧ Binds K fd ["self", "places", "roads"] [] ∧ mg "Web" = some (.ref C)
end
theorem x_make {X : Cx} {K : PySem.W.Frag} {C : Addr} {E : XK} {e : Expr} {es : List Expr} {t : TA} {ms : G → Rs (List D)} {k j : Nat} {chk : Int → List D → Rs Unit} {p pos : Pos} (h : CalW X.prog X.w K X.mg X.base C k chk) (hr : Room j X.A) (hk : k + 1 ≤ j) (hx : Passes (L2.CX X.prog X.w) X E) (ha : PAM X K C E (e :: es) t ms) (hg : Gl X "Web" := by rfl)
    (he : starEach (e :: es) X.env = (false, eval e X.env) :: starEach es X.env := by rfl) (hpl : (backTo pos (starEach es X.env)).any (·.1) = false := by rfl) (hK : X.K = K := by rfl) : PEM X K C E (.Call (.Name "Web" p) (e :: es) [] pos) (tMake C (spWeb K C chk) [] E t) (mWeb chk ms) := by
  subst hK
  obtain ⟨f, fd, F, M, b, gW⟩ := h
  exact ⟨pe_make M F (hr.mono hk) hg gW b .nil hx ha.p (by decide) he hpl, em_make ha.q⟩
/-! ### raise Alone(..) -/
def spAlo (K : PySem.W.Frag) (CA : Addr) : Sp := fun vs H Q _ => ∃ (a : Addr) (r : Int), vs = [.ref a, .int r] ∧ H a = some (exo a CA none) ∧ ∀ dx, H dx = none → dx ≠ a → Q .non (upd (upd H dx (exd dx [(("road" : Str), .int r)])) a (exo a CA (some dx)))
def sAlone (c : Addr) (m : G → Rs D) : Sta → Rs Ou := fun s => (m s.g).bind fun d => match d with
  | .int r => .ex c (some r)
  | _ => .no
theorem sm_alone {K : PySem.W.Frag} {C CA : Addr} {E : XK} {te : TE} {m : G → Rs D} (h : EM K C E te m) : SM K C E (fun _ σ H => tMkO CA (spAlo K CA) [] (tCons te tNil) σ H fun cls d H' => E cls d H') (sAlone CA m) := ⟨fun F0 H0 s T σ H D' S w => by
  obtain ⟨P, T1, t1, mu, S1⟩ := S
  refine h.run _ _ _ _ _ _ _ _ S1 (Wish.mono (Q := fun d => Wish H0 E (match d with | .int r => (Rs.ex CA (some r) : Rs Ou) | _ => .no) (Post K C F0 H0 T D')) w.bind fun d hd v H1 S2 => ?_)
  cases d with
  | int r =>
    obtain ⟨F, f⟩ := S2
    have iv := f.ts _ List.mem_cons_self
    cases iv
    have hd' : XOk H0 E CA (some r) := hd
    refine ⟨(by show 1 ≤ 1000; decide), fun a ha => ⟨a, r, rfl, upd_same, fun dx hdx hne => ?_⟩⟩
    have hd1 : H1 dx = none := by rw [upd_ne hne] at hdx; exact hdx
    refine ⟨rfl, dx, [(("road" : Str), .int r)], upd_same, (by rw [upd_ne hne, upd_same]), hd1, ?_⟩
    refine hd' dx _ (fun b o e => ?_) (f.e0.free hd1) upd_same
    have e1 := f.e0 b o e
    have ba := ne_of_none e1 ha
    have bd := ne_of_none e1 hd1
    rw [upd_ne bd, del_ne ba, upd_ne ba, upd_ne bd, upd_ne ba]
    exact e1
  | _ => exact hd.elim⟩
section
variable (P : Program) (w : World) (K : PySem.W.Frag) (mg : Str → Option Value) (base : Heap) (CA : Addr)
def CalA (k : Nat) : Prop := ∃ f fd, FnOk P w K mg base CX0 k f fd ["self", "road"] (spAlo K CA) ∧ OexC K CA ∧ PySem.W.findIn K (.ref CA) "__init__" = some (some (.ref f)) ∧ PySem.W.typeIn K (.ref f) = some (.type "function") ∧ Binds K fd ["self", "road"] [] ∧ mg "Alone" = some (.ref CA)
end
theorem z_alone {X : Cx} {K : PySem.W.Frag} {C CA : Addr} {E : XK} {e : Expr} {te : TE} {m : G → Rs D} {k j : Nat} {p pos pos' : Pos} (hc : X.calm = true) (tk : Takes X (fun cls d _ H => E cls d H)) (h : CalA X.prog X.w K X.mg X.base CA k) (hr : Room j X.A) (hk : k + 1 ≤ j) (ha : PEM X K C E e te m) (hg : Gl X "Alone" := by rfl)
    (he : starEach [e] X.env = (false, eval e X.env) :: starEach [] X.env := by rfl) (hpl : (backTo pos (starEach [] X.env)).any (·.1) = false := by rfl) (hK : X.K = K := by rfl) : PSM X K C E (.Raise (some (.Call (.Name "Alone" p) [e] [] pos)) none pos') (fun _ σ H => tMkO CA (spAlo K CA) [] (tCons te tNil) σ H fun cls d H' => E cls d H') (sAlone CA m) := by
  subst hK
  obtain ⟨f, fd, F, T, iC, tI, b, gA⟩ := h
  exact ⟨ps_raise hc tk (pmk_oex T iC tI F (hr.mono hk) b .nil pass0 hg gA (pa_cons ha.p pa_nil he) (by decide) he hpl), sm_alone ha.q⟩
theorem alo_ok {P : Program} {w : World} {K : PySem.W.Frag} {mg : Str → Option Value} {base : Heap} {CA : Addr} {st : Stmt} {f : Addr} {fd : FuncData} {k : Nat} (F : Fun K "__init__" "Alone.__init__" st f fd) (S : FnScope ["self", "road"] ["self", "road"] (defScope st)) (T : OexC K CA) (nr : PySem.W.findIn K (.ref CA) "road" = some none)
    (hb : ∀ (cdv : Value) (A : Around) (outer : List Env) (s : Shared) (H : Hp) (E : XK), PSs (cxOf CX0 P w K mg base ["self", "road"] "Alone.__init__" (defScope st) f cdv A outer s H E).nox (defBody st) (tSeq (tOst K "road" (tVar 0) (tVar 1)) tNext)) :
    FnOk P w K mg base CX0 (k + 1) f fd ["self", "road"] (spAlo K CA) := by
  refine F.ok S (fun vs H Q E h => ?_) (fun cdv A outer s H vs Q E hr h => ⟨_, hb cdv A outer s H E, ?_⟩)
  · obtain ⟨a, r, rfl, _⟩ := h
    rfl
  · obtain ⟨a, r, rfl, ha, h⟩ := h
    exact ⟨_, rfl, _, rfl, a, CA, rfl, T, nr, .inl ⟨ha, fun dx hx hn => h dx hx hn⟩⟩
end Z
set_option Elab.async false
set_option linter.all false
set_option maxRecDepth 100000
set_option maxHeartbeats 4000000
/-! Z, part Y: rules that the roads want. -/
namespace Z
set_option autoImplicit false
open PySem L2
section
variable {X : Cx} {K : PySem.W.Frag} {C : Addr} {E : XK} {e a b c : Expr} {es ifs : List Expr} {te ta tb tc : TE} {m ma mb mc : G → Rs D} {t : TA} {ms : G → Rs (List D)} {pos p p2 : Pos}
theorem y_ltR (hu : X.A.units + 64 < cLine) (ha : PEM X K C E a ta ma) (hb : PEM X K C E b tb mb) (hK : X.K = K := by rfl) : PTM X K C E (.Compare a [.Lt] [b] pos) (tTest (tOp (rLtD K) ta tb)) (mT (m2 dLtR ma mb)) := by
  subst hK
  exact ⟨pt_cmpR (op_ltD hu) ha.p hb.p (nomark _), tm_t (em_2 r_ltR ha.q hb.q)⟩
theorem x_sortedP (hm : X.mg "sorted" = none) (ha : PAM X K C E (e :: es) t ms) (hg : Gl X "sorted" := by rfl) (he : starEach (e :: es) X.env = (false, eval e X.env) :: starEach es X.env := by rfl) (hpl : (backTo pos (starEach es X.env)).any (·.1) = false := by rfl) (hK : X.K = K := by rfl) : PEM X K C E (.Call (.Name "sorted" p) (e :: es) [] pos) (tCB (rSortedPO K) t) (mA dSortedP ms) := by
  subst hK
  exact x_cb cr_sortedPO r_sortedP hm (by decide +kernel) ha hg (by decide) (by decide) he hpl
/-! ### list(range(n)) -/
def dListRg : D → Option D
  | .int n => if -1000000 ≤ n ∧ n ≤ 1000000 then some (.lst (rgD 0 n)) else none
  | _ => none
theorem isA_rg {F : Hp} (lo hi : Int) : IsA K C F (rgV lo hi) (rgD lo hi) := by
  unfold rgV rgD
  generalize (hi - lo).toNat = n
  generalize List.range n = l
  induction l with
  | nil => exact .nil
  | cons i l ih => exact .cons (.int _) ih
theorem em_listRg (a : EM K C E ta ma) : EM K C E (tLstRg (tRg1 ta)) (m1 dListRg ma) := ⟨fun F0 H0 g P T σ H Q S h =>
  a.run F0 H0 g P T σ H _ S (h.bind.mono fun x hx v H1 S1 => by
    obtain ⟨d, e, q⟩ := hx.of
    unfold dListRg at e
    split at e
    · rename_i n
      split at e
      · rename_i hn
        cases e
        obtain ⟨F, f⟩ := S1
        have iv := f.ts _ List.mem_cons_self
        cases iv
        refine ⟨n, rfl, ⟨by omega, by omega, by omega, by omega, by omega⟩, fun p hp => ?_⟩
        exact q _ _ ((f.newL hp (isA_rg 0 n)).sub fun z hz => by
          rcases List.mem_cons.mp hz with e | e
          · exact List.mem_cons.mpr (.inl e)
          · exact List.mem_cons_of_mem _ (List.mem_cons_of_mem _ e))
      · cases e
    · cases e)⟩
theorem x_listRg {p1 pos1 : Pos} (hc : X.calm = true) (hm : X.mg "list" = none) (hm2 : X.mg "range" = none) (ha : PEM X K C E a ta ma) (hg : Gl X "list" := by rfl) (hg2 : Gl X "range" := by rfl)
    (na : starEach [a] X.env = (false, eval a X.env) :: starEach [] X.env := by rfl) (nb : starEach [.Call (.Name "range" p1) [a] [] pos1] X.env = (false, eval (.Call (.Name "range" p1) [a] [] pos1) X.env) :: starEach [] X.env := by rfl) :
    PEM X K C E (.Call (.Name "list" p) [.Call (.Name "range" p1) [a] [] pos1] [] pos) (tLstRg (tRg1 ta)) (m1 dListRg ma) := ⟨pe_listRg hc hg hm (prg_1 hg2 hm2 ha.p na) nb, em_listRg ha.q⟩
/-! ### xs.count(k) -/
/-! ### xs.extend(tuple) -/
/-! ### is, is not of a bool and of a tuple -/
end
end Z
set_option Elab.async false
set_option linter.all false
set_option maxRecDepth 100000
set_option maxHeartbeats 4000000
/-! Z, part V: what the top has written of the classes Web and Alone. -/
namespace Z
set_option autoImplicit false
open PySem L2
def oexB (K : PySem.W.Frag) (C : Addr) : Bool := (match K.lookup C with
  | some ⟨.type ty, _, .cls cd, sl⟩ => ty == "type" && ((match cd.mro, sl.toList with
    | .ref C' :: bm, [_, _, _, _, some (.builtin n), _] => C' == C && (n == "ValueError.__new__" && (!cd.hasDel && (cd.hasDict && PySem.HandSPX.refsVE bm)))
    | _, _ => false))
  | _ => false) && (decide (PySem.W.findIn K (.ref C) "__setattr__" = some (some (.builtin "object.__setattr__"))) && (decide (PySem.W.subIn K (.ref C) (.type "BaseException") = some true) && (decide (PySem.W.typeIn K (.ref C) = some (.type "type")) && PySem.W.keepIn K (.ref C))))
theorem oexB_ok {K : PySem.W.Frag} {C : Addr} (h : oexB K C = true) : OexC K C := by
  unfold oexB at h
  simp only [Bool.and_eq_true, decide_eq_true_eq] at h
  obtain ⟨h1, h2, h3, h4, h5⟩ := h
  refine ⟨?_, h2, h3, h4, h5⟩
  split at h1
  · rename_i ty dd cd sl ho
    simp only [Bool.and_eq_true, beq_iff_eq] at h1
    obtain ⟨rfl, h1⟩ := h1
    split at h1
    · rename_i C' bm k0 k1 k2 k3 nn k5 e1 e2
      simp only [Bool.and_eq_true, beq_iff_eq, Bool.not_eq_true'] at h1
      obtain ⟨rfl, rfl, q1, q2, q3⟩ := h1
      obtain ⟨nm, bs, mr, ns, qn, hd, sn, sub, ab, col, del⟩ := cd
      dsimp only at e1 q1 q2
      subst e1
      subst q1
      subst q2
      obtain ⟨l⟩ := sl
      have e3 : l = [k0, k1, k2, k3, some (.builtin "ValueError.__new__"), k5] := e2
      subst e3
      exact ⟨nm, qn, ns, bs, bm, sn, sub, ab, col, dd, k0, k1, k2, k3, k5, ho, q3⟩
    · cases h1
  · cases h1
section
variable (K : PySem.W.Frag) (mg : Str → Option Value) (C : Addr)
def DnW (st : Stmt) : Prop := ∃ f fd, Fun K "__init__" "Web.__init__" st f fd ∧ Mk K C f ∧ Binds K fd ["self", "places", "roads"] [] ∧ mg "Web" = some (.ref C) ∧ Cls K C ∧ NoAttr K C "places" ∧ NoAttr K C "roads"
def DnA (st : Stmt) : Prop := ∃ f fd, Fun K "__init__" "Alone.__init__" st f fd ∧ OexC K C ∧ PySem.W.findIn K (.ref C) "__init__" = some (some (.ref f)) ∧ PySem.W.typeIn K (.ref f) = some (.type "function") ∧ Binds K fd ["self", "road"] [] ∧ mg "Alone" = some (.ref C) ∧ PySem.W.findIn K (.ref C) "road" = some none
end
section
variable {P : Program} {w : World} {K : PySem.W.Frag} {mg : Str → Option Value} {base : Heap} {C : Addr} {h : Heap} {fa : List He.Fa} {fn : List He.DefD}
def datM (x m q : Str) (st : Stmt) : He.DefD := ⟨(x, some m), m, q, defArgs st, defBody st, defScope st, [], []⟩
theorem dnW_of (X : K.In h) (G : h.Ns mainGlobals mg) (c : He.SaysD fa fn K) (i j1 j2 j3 j4 j5 : Nat) {st : Stmt} (hi : fn[i]? = some (datM "Web" "__init__" "Web.__init__" st)) (e1 : fa[j1]? = some (.glo "Web")) (e2 : fa[j2]? = some (.cls "Web")) (e3 : fa[j3]? = some (.mkr "Web")) (e4 : fa[j4]? = some (.noat "Web" "places")) (e5 : fa[j5]? = some (.noat "Web" "roads"))
    (hb : ∀ (kV doc pm : Value) (an : Option Addr) (cdv ct : Value) (us : List Value), us.length = 3 → bindArgs (PySem.W.fnOf "__init__" "Web.__init__" (defArgs st) (defBody st) (defScope st) .none kV doc pm an cdv ct) ⟨us, []⟩ = pure ((["self", "places", "roads"] : List Str).zip us)) : DnW K mg (He.ga K "Web") st := by
  obtain ⟨fd, F⟩ := c.def_ i hi
  have F2 : Fun K "__init__" "Web.__init__" st (He.fAd K ("Web", some "__init__")) fd := funD_fun F
  have m := He.mkr_ok (c.fact j3 e3)
  exact ⟨_, fd, F2, m, F2.binds hb, He.glo_ok X G (c.fact j1 e1), He.cls_ok (c.fact j2 e2), He.noat_ok (c.fact j4 e4), He.noat_ok (c.fact j5 e5)⟩
theorem dnA_of (X : K.In h) (G : h.Ns mainGlobals mg) (c : He.SaysD fa fn K) (i j1 j2 j3 : Nat) {st : Stmt} (hi : fn[i]? = some (datM "Alone" "__init__" "Alone.__init__" st)) (e1 : fa[j1]? = some (.glo "Alone")) (e2 : fa[j2]? = some (.meth "Alone" "__init__")) (e3 : fa[j3]? = some (.noat "Alone" "road")) (ho : oexB K (He.ga K "Alone") = true) (ht : PySem.W.typeIn K (.ref (He.ma K (He.ga K "Alone") "__init__")) = some (.type "function"))
    (hb : ∀ (kV doc pm : Value) (an : Option Addr) (cdv ct : Value) (us : List Value), us.length = 2 → bindArgs (PySem.W.fnOf "__init__" "Alone.__init__" (defArgs st) (defBody st) (defScope st) .none kV doc pm an cdv ct) ⟨us, []⟩ = pure ((["self", "road"] : List Str).zip us)) : DnA K mg (He.ga K "Alone") st := by
  obtain ⟨fd, F⟩ := c.def_ i hi
  have F2 : Fun K "__init__" "Alone.__init__" st (He.fAd K ("Alone", some "__init__")) fd := funD_fun F
  exact ⟨_, fd, F2, oexB_ok ho, (He.meth_ok (c.fact j2 e2)).at_, ht, F2.binds hb, He.glo_ok X G (c.fact j1 e1), He.noat_ok (c.fact j3 e3)⟩
theorem calA_of {st : Stmt} (D : DnA K mg C st) (S : FnScope ["self", "road"] ["self", "road"] (defScope st))
    (hb : ∀ (f : Addr) (cdv : Value) (A : Around) (outer : List Env) (s : Shared) (H : Hp) (E : XK), PSs (cxOf CX0 P w K mg base ["self", "road"] "Alone.__init__" (defScope st) f cdv A outer s H E).nox (defBody st) (tSeq (tOst K "road" (tVar 0) (tVar 1)) tNext)) : CalA P w K mg base C 1 := by
  obtain ⟨f, fd, F, T, iC, tI, b, g, nr⟩ := D
  exact ⟨f, fd, alo_ok (k := 0) F S T nr (hb f), T, iC, tI, b, g⟩
theorem calW_of {st : Stmt} {N : List Str} {cb : Sta → Rs Ou} {chk : Int → List D → Rs Unit} (D : DnW K mg C st) (S : FnScope N ["self", "places", "roads"] (defScope st))
    (hm : ∀ x n ds, chk n ds ≠ .no → ∃ s, s.g[0]? = some (some (.adr x)) ∧ s.g[1]? = some (some (.int n)) ∧ s.g[2]? = some (some (.lst ds)) ∧ cb ⟨startG N.length [.adr x, .int n, .lst ds], none⟩ = (chk n ds).bind fun _ => .ok (.nx s))
    (hb : ∀ (f : Addr) (cdv : Value) (A : Around) (outer : List Env) (s : Shared) (H : Hp) (E : XK), Room 0 (A.deeper (PyProof.Rows.envOfC "Web.__init__" (defScope st) s.heap.objs.size f cdv)) →
      ∃ t, SM K C E t cb ∧ PSs (cxOf (L2.CX P w) P w K mg base N "Web.__init__" (defScope st) f cdv A outer s H E) (defBody st) (tSeq t (tSeq (sFld K (tVar 0) (tVar 1) "places") (tSeq (sFld K (tVar 0) (tCB (rListS K) (tCons (tVar 2) tNil)) "roads") tNext)))) : CalW P w K mg base C 1 chk := by
  obtain ⟨f, fd, F, M, b, g, hc, np, nr⟩ := D
  exact ⟨f, fd, web_okX F S rfl hc np nr hm (hb f), M, b, g⟩
theorem z_pre2 {X : Cx} {E : XK} {s1 s2 : Stmt} {r : List Stmt} {t1 t2 u : TS} {m1 m2 : Sta → Rs Ou} (h1 : PSM X K C E s1 t1 m1) (h2 : PSM X K C E s2 t2 m2) (h : PSs X r u) : SM K C E (tSeq t1 t2) (sSeq m1 m2) ∧ PSs X (s1 :: s2 :: r) (tSeq (tSeq t1 t2) u) := by
  refine ⟨sm_seq h1.q h2.q, ?_⟩
  show PSs X (s1 :: s2 :: r) (tSeq t1 (tSeq t2 u))
  exact pss_cons h1.p (pss_cons h2.p h)
end
end Z
set_option Elab.async false
set_option linter.all false
set_option maxRecDepth 100000
set_option maxHeartbeats 4000000
/-! Z, part U: try with several clauses. -/
set_option Elab.async false
set_option linter.all false
set_option maxRecDepth 100000
set_option maxHeartbeats 4000000
/-! Z, part N: a try whose clauses have names or none. -/
namespace Z
set_option autoImplicit false
open PySem PySem.Spec PyProof.Rows L2
/-- a clause: the class that it names, the slot of its own name, its suite -/
structure Cl where
  cls : Value
  slot : Option Nat
  ts : Addr → Value → Option Addr → TS
def Cl.go (k : Cl) (D : Ends) (a : Addr) (cls : Value) (d : Option Addr) : L2.St → Hp → Prop := match k.slot with
  | none => fun σ H => k.ts a cls d D σ H
  | some i => fun σ H => k.ts a cls d { nx := fun σ' H' => D.nx (σ'.set i none) H', rt := D.rt, bk := fun σ' H' => D.bk (σ'.set i none) H', ct := fun σ' H' => D.ct (σ'.set i none) H' } (σ.set i (some (.ref a))) H
def wN (K : PySem.W.Frag) (Wout : WX) (D : Ends) : List Cl → WX
  | [] => Wout
  | k :: r => fun cls d σ H => ∃ b, PySem.W.exmOne K cls k.cls = some b ∧ (b = true → ∀ a, H a = none → k.go D a cls d σ H) ∧ (b = false → wN K Wout D r cls d σ H)
inductive ClOk (X : Cx) : ExceptHandler → Cl → Prop
  | un {x : Str} {c : Value} {ts : Addr → Value → Option Addr → TS} {b₀ : Stmt} {suite : List Stmt} {np pos' : Pos} (hc : Names X x c)
      (su : ∀ (a : Addr) (oe : Obj) (cls : Value) (d : Option Addr) (pn : List (Addr × Obj)), Zc cls d oe → (∃ vs, oe.data = .fields vs) → PSs (X.suite a ((a, oe) :: pn)) (b₀ :: suite) (ts a cls d)) : ClOk X (.ExceptHandler (some (.Name x np)) none (b₀ :: suite) pos') ⟨c, none, ts⟩
  | nm {x n : Str} {i : Nat} {c : Value} {ts : Addr → Value → Option Addr → TS} {b₀ : Stmt} {suite : List Stmt} {np pos' : Pos} (hi : X.N[i]? = some n) (hk : X.env.kindOf n = some .local) (hc : Names X x c)
      (su : ∀ (a : Addr) (oe : Obj) (cls : Value) (d : Option Addr) (pn : List (Addr × Obj)), Zc cls d oe → (∃ vs, oe.data = .fields vs) → PSs (X.suite a ((a, oe) :: pn)) (b₀ :: suite) (ts a cls d)) : ClOk X (.ExceptHandler (some (.Name x np)) (some n) (b₀ :: suite) pos') ⟨c, some i, ts⟩
inductive ClsOk (X : Cx) : List ExceptHandler → List Cl → Prop
  | nil : ClsOk X [] []
  | cons {h : ExceptHandler} {k : Cl} {hs : List ExceptHandler} {l : List Cl} : ClOk X h k → ClsOk X hs l → ClsOk X (h :: hs) (k :: l)
section
variable {X : Cx} {body : List Stmt} {h₀ : ExceptHandler} {hds : List ExceptHandler} {l : List Cl} {pos : Pos} {tb : WX → TS} {Wout : WX}
theorem ps_tryN (hst : X.stack = X.env :: X.outer) (hf : X.env.frame = some X.env.locals) (hN : X.N.Nodup) (tk : Takes X Wout)
    (hb : ∀ (W : WX) (pn : List (Addr × Obj)) (xe : Value → Shared → Prop), Takes (X.tr pn xe) W → PassesOwn (model X.prog X.w) X.A X.env xe → PSs (X.tr pn xe) body (tb W))
    (hc : ClsOk X (h₀ :: hds) l) : PS X (.Try body (h₀ :: hds) [] [] pos) (fun D σ H => tb (wN X.K Wout D l) D σ H) := by
  refine ⟨fun ps s0 τ G D I0 w0 => ?_⟩
  have k0 := I0.ok
  have fr0 : X.A.frames = some (X.env :: X.outer) := k0.frames.trans (by rw [hst])
  refine wpAny_Try_except ?_
  refine wpAny_mono ((hb (wN X.K Wout D l) (X.pn ++ ps) (fun u t1 => wpAny (model X.prog X.w) X.A (noteFrame u X.env) (fun _ t2 => wpAny (model X.prog X.w) X.A (setFlight u none) (fun _ t3 =>
    wpAny (model X.prog X.w) X.A (handleBy u X.env (h₀ :: hds)) (SP X ps D) X.xe t3) X.xe t2) X.xe t1) (fun u sx xx => ?_) PassesOwn.looking).run [] s0 τ G D (I0.toTry _) w0) (fun fl sz hz => ?_) (fun _ _ z => z)
  · obtain ⟨a, Bn, sI, ps', σ', H', cls, d, rfl, Jt, nb, up, sky, na, eos, ag, w⟩ := xx
    have J : Inv X ps σ' H' sI := Jt.ofTry k0
    have sky2 : Sky Bn (X.env :: X.outer) a (Zc cls d) X.env.locals sx.heap := hst ▸ sky
    show wpAny (model X.prog X.w) X.A (noteFrame (.ref a) X.env) _ _ _
    refine Sky.land Zc.steady fr0 hf sky2 fun q3 fl3 up3 => ?_
    have J3 : Inv X ps σ' H' { sx with heap := q3 } := J.landed nb fl3.1 (up.trans up3) eos ag
    obtain ⟨o3, f3, e3, z3, d3⟩ := fl3.there
    have out : a ∉ frs (X.env :: X.outer) := fun hm => by
      obtain ⟨_, o4, e4, hn⟩ := fl3.2.2.1.mem hm
      rw [e3] at e4
      cases e4
      exact hn _ d3
    have nL : a ≠ X.env.locals := fun z => out (List.mem_filterMap.mpr ⟨X.env, List.mem_cons_self, by rw [hf, z]⟩)
    have nF : a ∉ X.fs := fun hm => by
      obtain ⟨en, hen, q⟩ := List.mem_filterMap.mp hm
      exact out (List.mem_filterMap.mpr ⟨en, List.mem_cons_of_mem _ hen, q⟩)
    have SU := J3.suite e3 d3 na nL nF
    have LT : PySem.W.Looks (model X.prog X.w) q3 (typeOf (.ref a)) cls := fun A Q E t kp q => wpAny_typeOf_ref (kp _ _ e3) (by rw [z3.1]; exact q)
    have named : ∀ {x : Str} {c : Value} {np : Pos} {Q : Value → Shared → Prop} {E : Value → Shared → Prop}, Names X x c → Q c { sx with heap := q3 } → wpAny (model X.prog X.w) (X.A.mark (some (.ref a))) (eval (.Name x np) X.env) Q E { sx with heap := q3 } := fun {x c np Q E} nm q => by
      obtain ⟨g1, g2, g3 | ⟨g3, g4, g5⟩⟩ := nm
      · exact ld_glob (X := X.suite a ((a, o3) :: (X.pn ++ ps))) SU g1 g3 q g2
      · exact ld_blt (X := X.suite a ((a, o3) :: (X.pn ++ ps))) SU g1 g3 g4 q g5 g2
    -- no clause takes it
    have thru : Wout cls d σ' H' → wpAny (model X.prog X.w) X.A (handleBy (.ref a) X.env []) (SP X ps D) X.xe { sx with heap := q3 } := fun w => by
      refine wpAny_handleBy_nil ?_
      obtain ⟨_, _, _, oe, vs, Ta, _, _, he, _, hd, h1, _⟩ := id fl3
      unfold PySem.passOn
      refine wpAny_bind (wpAny_field he hd h1 ?_)
      rw [if_neg (show ¬ (Value.ref Ta == Value.none) = true by simp)]
      have last : wpAny (model X.prog X.w) X.A (setFlight (.ref a) X.env.frame) (fun _ t => wpAny (model X.prog X.w) X.A (throw (.ref a) : Sem Flow) (SP X ps D) X.xe t) X.xe { sx with heap := q3 } := by
        rw [hf]
        exact HandSPX.setFlight_upZ fl3 fun q4 h4 up4 => wpAny_throw (tk _ _ ⟨a, Bn, sI, ps, σ', H', cls, d, rfl, J, nb, (up.trans up3).trans up4, .inr (.inr (hst.symm ▸ h4)), na, eos, ag, w⟩)
      first
        | exact wpAny_bind (wpAny_pure (wpAny_bind last))
        | exact wpAny_bind last
    have each : ∀ {hs' : List ExceptHandler} {l' : List Cl}, ClsOk X hs' l' → wN X.K Wout D l' cls d σ' H' → wpAny (model X.prog X.w) X.A (handleBy (.ref a) X.env hs') (SP X ps D) X.xe { sx with heap := q3 } := by
      intro hs' l' kk
      induction kk with
      | nil => exact thru
      | cons k1 _ ih =>
        intro w
        obtain ⟨b, e1, yes, no⟩ := w
        have LM := PySem.W.exm_one (M := model X.prog X.w) J3.kIn LT e1
        cases k1 with
        | un nm su =>
          refine wpAny_handleBy_cons (codeAny_handlers_test ?_) (fun q => nomatch q)
          refine named nm (LM.here ?_)
          cases b with
          | false => exact ih (no rfl)
          | true =>
            refine codeAny_handlers_suite (HandSPX.lands_againZ fl3 fun q4 fl4 up4 => ?_)
            obtain ⟨o4, f4, e4, z4, d4⟩ := fl4.there
            have K4 : Inv X ps σ' H' { sx with heap := q4 } := J.landed nb fl4.1 ((up.trans up3).trans up4) eos ag
            have S4 := K4.suite e4 d4 na nL nF
            refine wpAny_mono ((su a o4 cls d (X.pn ++ ps) z4 ⟨_, d4⟩).run [] _ _ H' D S4 (yes rfl a na)) (fun fl s6 hz => ?_) (fun _ _ z => z.elim)
            cases fl with
            | ret u =>
              obtain ⟨v6, τ6, G6, J6, r6, q6⟩ := hz
              exact ⟨v6, τ6, G6, J6.unsuite k0, r6, q6⟩
            | next =>
              obtain ⟨τ6, G6, J6, q6⟩ := hz
              exact ⟨τ6, G6, J6.unsuite k0, q6⟩
            | brk =>
              obtain ⟨τ6, G6, J6, q6⟩ := hz
              exact ⟨τ6, G6, J6.unsuite k0, q6⟩
            | cont =>
              obtain ⟨τ6, G6, J6, q6⟩ := hz
              exact ⟨τ6, G6, J6.unsuite k0, q6⟩
        | nm hi hk nm su =>
          refine wpAny_handleBy_cons (codeAny_handlers_test ?_) (fun q => nomatch q)
          refine named nm (LM.here ?_)
          cases b with
          | false => exact ih (no rfl)
          | true =>
            refine codeAny_handlers_suite_as (HandSPX.lands_againZ fl3 fun q4 fl4 up4 => ?_)
            obtain ⟨o4, f4, e4, z4, d4⟩ := fl4.there
            have K4 : Inv X ps σ' H' { sx with heap := q4 } := J.landed nb fl4.1 ((up.trans up3).trans up4) eos ag
            have S4 := K4.suite e4 d4 na nL nF
            refine store_ok (X := X.suite a ((a, o4) :: (X.pn ++ ps))) (v := .ref a) S4 hN hi (.inl hk) rfl (fun s5 S5 => ?_) (.inr hk)
            refine wpAny_mono ((su a o4 cls d (X.pn ++ ps) z4 ⟨_, d4⟩).run [] s5 _ H' _ S5 (yes rfl a na)) (fun fl s6 hz => ?_) (fun _ _ z => z.elim)
            cases fl with
            | ret u =>
              obtain ⟨v6, τ6, G6, J6, r6, q6⟩ := hz
              exact gone_ok (J6.unsuite k0) hN hi hk fun s7 J7 => ⟨v6, _, G6, J7, r6, q6⟩
            | next =>
              obtain ⟨τ6, G6, J6, q6⟩ := hz
              exact gone_ok (J6.unsuite k0) hN hi hk fun s7 J7 => ⟨_, G6, J7, q6⟩
            | brk =>
              obtain ⟨τ6, G6, J6, q6⟩ := hz
              exact gone_ok (J6.unsuite k0) hN hi hk fun s7 J7 => ⟨_, G6, J7, q6⟩
            | cont =>
              obtain ⟨τ6, G6, J6, q6⟩ := hz
              exact gone_ok (J6.unsuite k0) hN hi hk fun s7 J7 => ⟨_, G6, J7, q6⟩
    exact each hc w
  · cases fl with
    | next =>
      obtain ⟨τ1, G1, J1, q1⟩ := hz
      exact wpAny_execs_nil ⟨τ1, G1, J1.ofTry k0, q1⟩
    | brk =>
      obtain ⟨τ1, G1, J1, q1⟩ := hz
      exact ⟨τ1, G1, J1.ofTry k0, q1⟩
    | cont =>
      obtain ⟨τ1, G1, J1, q1⟩ := hz
      exact ⟨τ1, G1, J1.ofTry k0, q1⟩
    | ret u =>
      obtain ⟨v1, τ1, G1, J1, r1, q1⟩ := hz
      exact ⟨v1, τ1, G1, J1.ofTry k0, r1, q1⟩
end
end Z
set_option Elab.async false
set_option linter.all false
set_option maxRecDepth 100000
set_option maxHeartbeats 4000000
/-! Z, part P: what the clauses of k11 and k16 tell. -/
namespace Z
set_option autoImplicit false
open PySem L2
section
variable {X : Cx} {K : PySem.W.Frag} {C : Addr} {E : XK}
/-- e.road, in the suite of the error's clause -/
theorem xf_run {a cA i : Addr} {dd : Option Addr} {r : Int} {σ : L2.St} {H : Hp} {Q : VK} (hσ : σ[i]? = some (some (.ref a))) (hx : Xd H dd (some r)) (q : Q (.int r) H) : tXf a (.ref cA) dd cA "road" (tVar i) σ H Q := by
  obtain ⟨p, e, hp⟩ := hx
  exact ⟨.ref a, hσ, rfl, rfl, p, _, .int r, e, hp, by simp [List.lookup], q⟩
/-! ### except NoWay: return ("none", -1); except Alone as e: return ("alone", e.road) -/
/-! ### except NoWay as e: return (isinstance(e, T), -1); except Alone as e: return (isinstance(e, T) and whole(e.road), e.road) -/
end
end Z
set_option Elab.async false
set_option linter.all false
set_option maxRecDepth 100000
set_option maxHeartbeats 4000000
/-! Z, part Q: the tries of k11 and k16. -/
set_option Elab.async false
set_option linter.all false
set_option maxRecDepth 100000
set_option maxHeartbeats 4000000
/-! Z, part R: a list that is handed to Web and changed later; a found list that is changed, a web being handed with it. -/
set_option Elab.async false
set_option linter.all false
set_option maxRecDepth 100000
set_option maxHeartbeats 4000000
/-! Z, part S: defs that are called within an except suite, raise nothing there. -/
namespace Z
set_option autoImplicit false
open PySem PySem.Spec PyProof.Rows L2
/-- a def's word where it is called within an except suite; pn, the error that the suite holds, may be looked at -/
structure FnQ (P : Program) (w : World) (K : PySem.W.Frag) (mg : Str → Option Value) (base : Heap) (CX : CXT) (k : Nat) (f : Addr) (fd : FuncData) (ps : List Str) (pn : Addr × Obj) (sp : Sp) : Prop where
  many : ∀ {vs H Q E}, sp vs H Q E → vs.length = ps.length
  goes : ∀ {A : Around} {fr : List Env} {s : Shared} {H : Hp} {as : Args} {us : List Value} {vs : List V} {Q : VK} {E : XK}, L2H.RoomH k A → L2H.PinOk fr H s pn → Env0 P w K mg base A fr s H → BindsTo s fd as (ps.zip us) → Vals vs us → sp vs H Q E → codeAny (model P w) A (.call (.ref f) as) (CR CX fr P w H s Q E) s
theorem fn_ofQ {CX : CXT} {P : Program} {w : World} {K : PySem.W.Frag} {mg : Str → Option Value} {base : Heap} {k : Nat} {f : Addr} {nm q : Str} {pa : Arguments} {bd : List Stmt} {sc : Scope} {x1 x2 x3 x4 code x6 cls : Value} {d1 d2 : Option Addr} {sl : Array (Option Value)} {N ps : List Str} {sp : Sp} {pn : Addr × Obj}
    (there : K.lookup f = some ⟨cls, d2, .func (PySem.W.fnOf nm q pa bd sc x1 x2 x3 x4 d1 code x6), sl⟩) (isC : PySem.W.codeIn K code q = true) (S : FnScope N ps sc) (many : ∀ {vs H Q E}, sp vs H Q E → vs.length = ps.length)
    (walk : ∀ (A : Around) (fr : List Env) (s : Shared) (H : Hp) (vs : List V) (Q : VK) (E : XK), L2H.RoomH k (A.deeper (envOfC q sc s.heap.objs.size f code)) → sp vs H Q E →
      ∃ t, PSs (L2H.cxH CX P w K mg base N q sc f code A fr s H E pn) bd t ∧ t { nx := fun _ G => Q .non G, rt := Q } (L2.start N vs) H) : FnQ P w K mg base CX (k + 1) f (PySem.W.fnOf nm q pa bd sc x1 x2 x3 x4 d1 code x6) ps pn sp := by
  constructor
  · exact many
  · intro A fr s H as us vs Q E room pin env0 bound vals ask
    have inK : K.In s.heap := env0.mod.kin.keeps fun b o h => (env0.bs b o h).left
    refine codeAny_call_function room.depth (inK _ _ there) rfl S.co S.gen rfl (PySem.W.codeRec_of inK isC) (bound _ _ _ _ (wpAny_newFunctionEnv_cells S.kind ?kinds ?rest))
    case kinds =>
      rintro ⟨y, u⟩ hy
      refine (S.par y (List.of_mem_zip hy).left).imp id fun hc => ⟨hc, ?_⟩
      exact PySem.W.cellsFrom_some _ _ _ (.inl hc)
    case rest =>
      rintro en rfl s2 call
      obtain ⟨t, pss, run⟩ := walk A fr s H vs Q E (room.deeper _) ask
      have begun := L2H.inv_startH (E := E) (CX := CX) S pin env0 (many ask) vals call
      refine ⟨(env0.mod.nolimit.keeps fun b o h => (env0.bs b o h).left).keeps call.toInCall.keep, codeAny_func (wpAny_mono (pss.run [] s2 _ H _ begun run) ?_ fun _ _ z => z)⟩
      rintro (_ | _ | _ | u) s3 out
      · obtain ⟨_, G, J, z⟩ := out
        exact ⟨.non, G, J.os, J.bare, J.base, J.hok, rfl, z⟩
      · exact out.elim fun _ z => z.elim fun _ z => z.2.elim
      · exact out.elim fun _ z => z.elim fun _ z => z.2.elim
      · obtain ⟨v, _, G, J, rel, z⟩ := out
        exact ⟨v, G, J.os, J.bare, J.base, J.hok, rel, z⟩
/-- f(e, ..) within the suite -/
theorem pe_callQ {X : Cx} {CX : CXT} {k : Nat} {f : Addr} {fd : FuncData} {ps : List Str} {sp : Sp} {E : XK} {x : Str} {px pos : Pos} {e : Expr} {es : List Expr} {t : TA} {pn : Addr × Obj} (F : FnQ X.prog X.w X.K X.mg X.base CX k f fd ps pn sp) (room : L2H.RoomH k X.A) (hp : pn ∈ X.pn) (hg : Gl X x) (hm : X.mg x = some (.ref f)) (kept : PySem.W.keepIn X.K (.ref f) = true) (bd : Binds X.K fd ps []) (pass : Passes CX X E)
    (args : PA X (e :: es) t) (nd : (x == ("__debug__" : Str)) = false := by decide) (h1 : starEach (e :: es) X.env = (false, eval e X.env) :: starEach es X.env := by rfl) (h2 : (backTo pos (starEach es X.env)).any (·.1) = false := by rfl) : PE X (.Call (.Name x px) (e :: es) [] pos) (tCall sp [] E t) := by
  constructor
  intro pins s σ H Q J wish
  have called : ∀ us s1, AP X pins σ (fun vs G => sp (vs ++ []) G Q E) us s1 → X.K.In s1.heap ∧ wpAny (model X.prog X.w) X.A (call (.ref f) us) (EP X pins σ Q) X.xe s1 := by
    rintro us s1 ⟨vs, G, J1, vals, want⟩
    simp only [List.append_nil] at want
    have n : us.length = ps.length := vals.length.symm.trans (F.many want)
    have bound := bd s1 us J1.kIn (by rwa [List.append_nil])
    rw [List.append_nil] at bound
    obtain ⟨g1, g2, g3, g4, g5⟩ := J1.pin pn (List.mem_append_left _ hp)
    have out : pn.1 ∉ frs X.stack := fun z => by
      rcases List.mem_cons.mp (J1.stkSub _ z) with y | y
      · exact g3 y
      · exact g4 y
    refine ⟨J1.kIn, wpAny_call (codeAny_mono (F.goes room ⟨g1, g2, out, g5⟩ J1.env0 bound vals want) ?_)⟩
    rintro (err | fl) s2 z
    · exact pass pins σ G s1 err s2 J1 z
    · cases fl with
      | ret u => exact J1.after z
      | _ => exact z.elim
  exact wpAny_Call_Name_kw (ld_glob J hg hm (PySem.W.callWith_K (h₀ := X.base) J.ok.mod.kin kept (thn (args.run pos pins s σ H _ J wish) called) h1 h2) nd)
end Z
set_option Elab.async false
set_option linter.all false
set_option maxRecDepth 100000
set_option maxHeartbeats 4000000
namespace Z
set_option autoImplicit false
open PySem L2
def m_numbers_right : Sta → Rs Ou :=
    (sSeq (sRet (mA dAll (mCons (mLst (mLc [1] (mItems (mV 0)) (.one 1) mYes (mCh dLe dLe (mC (.int 0)) (mV 1) (mC (.int 1000))))) mNil)))
    sNil)
def p_numbers_right : List D → Rs D := fun ds => (runM 2 (m_numbers_right) ds).nx
def P_numbers_right : List D → Rs D := p_numbers_right
def m_check_shelf (c_BadWorths : Addr) (φ_numbers_right : List D → Rs D) : Sta → Rs Ou :=
    (sSeq (sIf (mNot (mT (mCh dLe dLe (mC (.int 1)) (mA dLen (mCons (mV 0) mNil)) (mC (.int 4))))) (sSeq (sRaise c_BadWorths)
    sNil)
    sNil)
    (sSeq (sFor (mItems (mV 0)) (.one 1) [1]
    (sSeq (sIf (mOr (mNot (mT (mCh dLe dLe (mC (.int 1)) (mA dLen (mCons (mV 1) mNil)) (mC (.int 4))))) (mOr (mT (m2 dNe (mA dLen (mCons (mV 1) mNil)) (mA dLen (mCons (m2 dIx (mV 0) (mC (.int 0))) mNil)))) (mNot (mT (mCall (fun ds => (φ_numbers_right ds).nx) (mCons (mV 1) mNil)))))) (sSeq (sRaise c_BadWorths)
    sNil)
    sNil)
    sNil))
    sNil))
def p_check_shelf (c_BadWorths : Addr) (φ_numbers_right : List D → Rs D) : List D → Rs D := runM 2 (m_check_shelf c_BadWorths φ_numbers_right)
def P_check_shelf (c_BadWorths : Addr) : List D → Rs D := p_check_shelf c_BadWorths (P_numbers_right)
def m_dealt (φ_dealt : List D → Rs D) : Sta → Rs Ou :=
    (sSeq (sIf (mT (m2 dEq (mA dLen (mCons (mV 0) mNil)) (mC (.int 0)))) (sSeq (sRet (mTup (mCons (mC (.int 0)) (mCons (mLst mNil) mNil))))
    sNil)
    sNil)
    (sSeq (sSet2 2 3 (mCall (fun ds => (φ_dealt ds).nx) (mCons (mSl (mV 0) (mS (mC (.int 1))) mN) (mCons (mV 1) mNil))))
    (sSeq (sSet 4 (mTup (mCons (mV 2) (mCons (m2 dAdd (mLst (mCons (m1 dNeg (mC (.int 1))) mNil)) (mV 3)) mNil))))
    (sSeq (sFor (mEnum (mCons (m2 dIx (mV 0) (mC (.int 0))) mNil)) (.two 5 6) [2, 3, 5, 6, 7]
    (sSeq (sIf (mT (m2 dNi (mV 5) (mV 1))) (sSeq (sSet2 7 3 (mCall (fun ds => (φ_dealt ds).nx) (mCons (mSl (mV 0) (mS (mC (.int 1))) mN) (mCons (m2 dAdd (mV 1) (mLst (mCons (mV 5) mNil))) mNil))))
    (sSeq (sIf (mT (m2 dGt (m2 dAdd (mV 6) (mV 7)) (m2 dIx (mV 4) (mC (.int 0))))) (sSeq (sSet 4 (mTup (mCons (m2 dAdd (mV 6) (mV 7)) (mCons (m2 dAdd (mLst (mCons (mV 5) mNil)) (mV 3)) mNil))))
    sNil)
    sNil)
    sNil))
    sNil)
    sNil))
    (sSeq (sRet (mV 4))
    sNil)))))
def p_dealt (φ_dealt : List D → Rs D) : List D → Rs D := fun ds => (runM 8 (m_dealt φ_dealt) ds).nx
def P_dealt : Nat → List D → Rs D
  | 0 => fun _ => .no
  | n + 1 => p_dealt (P_dealt n)
def m_shelf_best (φ_dealt φ_check_shelf : List D → Rs D) : Sta → Rs Ou :=
    (sSeq (sExp (mCall φ_check_shelf (mCons (mV 0) mNil)))
    (sSeq (sRet (mCall (fun ds => (φ_dealt ds).nx) (mCons (mV 0) (mCons (mLst mNil) mNil))))
    sNil))
def p_shelf_best (φ_dealt φ_check_shelf : List D → Rs D) : List D → Rs D := runM 1 (m_shelf_best φ_dealt φ_check_shelf)
def P_shelf_best (c_BadWorths : Addr) : List D → Rs D := p_shelf_best (P_dealt 5) (P_check_shelf c_BadWorths)
def m_law_cell_at : Sta → Rs Ou :=
    (sSeq (sIf (mT (m2 dLt (mV 1) (mA dLen (mCons (mV 0) mNil)))) (sSeq (sRet (m2 dIx (mV 0) (mV 1)))
    sNil)
    sNil)
    (sSeq (sRet (mC (.int 0)))
    sNil))
def p_law_cell_at : List D → Rs D := fun ds => (runM 2 (m_law_cell_at) ds).nx
def P_law_cell_at : List D → Rs D := p_law_cell_at
def m_row_right (φ_numbers_right : List D → Rs D) : Sta → Rs Ou :=
    (sSeq (sIf (mOr (mT (m2 dGt (mA dLen (mCons (mV 0) mNil)) (mC (.int 5)))) (mNot (mT (mCall (fun ds => (φ_numbers_right ds).nx) (mCons (mV 0) mNil))))) (sSeq (sRet (mC (.bl false)))
    sNil)
    sNil)
    (sSeq (sRet (mA dAll (mCons (mLst (mLc [1] (mRng2 (mCons (mC (.int 1)) (mCons (mA dLen (mCons (mV 0) mNil)) mNil))) (.one 1) mYes (m2 dGe (m2 dIx (mV 0) (m2 dSub (mV 1) (mC (.int 1)))) (m2 dIx (mV 0) (mV 1))))) mNil)))
    sNil))
def p_row_right (φ_numbers_right : List D → Rs D) : List D → Rs D := fun ds => (runM 2 (m_row_right φ_numbers_right) ds).nx
def P_row_right : List D → Rs D := p_row_right (P_numbers_right)
def m_check_pile (c_BadWorths : Addr) (φ_row_right : List D → Rs D) : Sta → Rs Ou :=
    (sSeq (sIf (mOr (mNot (mT (mCh dLe dLe (mC (.int 1)) (mA dLen (mCons (mV 1) mNil)) (mC (.int 5))))) (mNot (mT (mA dAll (mCons (mLst (mLc [2] (mItems (mV 1)) (.one 2) mYes (mCall (fun ds => (φ_row_right ds).nx) (mCons (mV 2) mNil)))) mNil))))) (sSeq (sRaise c_BadWorths)
    sNil)
    sNil)
    (sSeq (sIf (mNot (mT (mCh dLe dLe (mC (.int 0)) (mV 0) (mC (.int 12))))) (sSeq (sRaise c_BadWorths)
    sNil)
    sNil)
    sNil))
def p_check_pile (c_BadWorths : Addr) (φ_row_right : List D → Rs D) : List D → Rs D := runM 3 (m_check_pile c_BadWorths φ_row_right)
def P_check_pile (c_BadWorths : Addr) : List D → Rs D := p_check_pile c_BadWorths (P_row_right)
def m_shared : Sta → Rs Ou :=
    (sSeq (sSet 2 (mLst (mLc [5] (mRng1 (mCons (m2 dAdd (mV 0) (mC (.int 1))) mNil)) (.one 5) mYes (mTup (mCons (mC (.int 0)) (mCons (mLst mNil) mNil))))))
    (sSeq (sFor (mRevI (mCons (mV 1) mNil)) (.one 3) [1, 3, 4, 5, 6, 7, 8, 9]
    (sSeq (sNew 4 mNil)
    (sSeq (sFor (mRng1 (mCons (m2 dAdd (mV 0) (mC (.int 1))) mNil)) (.one 5) [1, 5, 6, 7, 8, 9]
    (sSeq (sSet 6 (mC .non))
    (sSeq (sFor (mRng1 (mCons (m2 dAdd (mA dMin2 (mCons (mV 5) (mCons (mA dLen (mCons (mV 3) mNil)) mNil))) (mC (.int 1))) mNil)) (.one 7) [1, 7, 8, 9]
    (sSeq (sSet2 8 9 (m2 dIx (mV 2) (m2 dSub (mV 5) (mV 7))))
    (sSeq (sIf (mOr (mT (m2 dIsN (mV 6) (mC .non))) (mT (m2 dGt (m2 dAdd (mA dSum (mCons (mSl (mV 3) mN (mS (mV 7))) mNil)) (mV 8)) (m2 dIx (mV 6) (mC (.int 0)))))) (sSeq (sSet 6 (mTup (mCons (m2 dAdd (mA dSum (mCons (mSl (mV 3) mN (mS (mV 7))) mNil)) (mV 8)) (mCons (m2 dAdd (mLst (mCons (mV 7) mNil)) (mV 9)) mNil))))
    sNil)
    sNil)
    sNil)))
    (sSeq (sApp 4 (mV 6))
    sNil))))
    (sSeq (sFrz (sSet 2 (mV 4)))
    sNil))))
    (sSeq (sRet (m2 dIx (mV 2) (mV 0)))
    sNil)))
def p_shared : List D → Rs D := fun ds => (runM 10 (m_shared) ds).nx
def P_shared : List D → Rs D := p_shared
def m_pile_best (φ_shared φ_check_pile : List D → Rs D) : Sta → Rs Ou :=
    (sSeq (sExp (mCall φ_check_pile (mCons (mV 0) (mCons (mV 1) mNil))))
    (sSeq (sRet (mCall (fun ds => (φ_shared ds).nx) (mCons (mV 0) (mCons (mV 1) mNil))))
    sNil))
def p_pile_best (φ_shared φ_check_pile : List D → Rs D) : List D → Rs D := runM 2 (m_pile_best φ_shared φ_check_pile)
def P_pile_best (c_BadWorths : Addr) : List D → Rs D := p_pile_best (P_shared) (P_check_pile c_BadWorths)
def m_pay_for (φ_shared : List D → Rs D) : Sta → Rs Ou :=
    (sSeq (sSet2 3 4 (mCall (fun ds => (φ_shared ds).nx) (mCons (mV 0) (mCons (mV 1) mNil))))
    (sSeq (sSet 5 (m2 dIx (mCall (fun ds => (φ_shared ds).nx) (mCons (mV 0) (mCons (m2 dAdd (mSl (mV 1) mN (mS (mV 2))) (mSl (mV 1) (mS (m2 dAdd (mV 2) (mC (.int 1)))) mN)) mNil))) (mC (.int 0))))
    (sSeq (sRet (m2 dSub (mV 5) (m2 dSub (mV 3) (mA dSum (mCons (mSl (m2 dIx (mV 1) (mV 2)) mN (mS (m2 dIx (mV 4) (mV 2)))) mNil)))))
    sNil)))
def p_pay_for (φ_shared : List D → Rs D) : List D → Rs D := fun ds => (runM 6 (m_pay_for φ_shared) ds).nx
def P_pay_for : List D → Rs D := p_pay_for (P_shared)
def m_pile_pays (φ_pay_for φ_check_pile : List D → Rs D) : Sta → Rs Ou :=
    (sSeq (sExp (mCall φ_check_pile (mCons (mV 0) (mCons (mV 1) mNil))))
    (sSeq (sRet (mLst (mLc [2] (mRng1 (mCons (mA dLen (mCons (mV 1) mNil)) mNil)) (.one 2) mYes (mCall (fun ds => (φ_pay_for ds).nx) (mCons (mV 0) (mCons (mV 1) (mCons (mV 2) mNil)))))))
    sNil))
def p_pile_pays (φ_pay_for φ_check_pile : List D → Rs D) : List D → Rs D := runM 3 (m_pile_pays φ_pay_for φ_check_pile)
def P_pile_pays (c_BadWorths : Addr) : List D → Rs D := p_pile_pays (P_pay_for) (P_check_pile c_BadWorths)
end Z
set_option Elab.async false
set_option linter.all false
set_option maxRecDepth 100000
set_option maxHeartbeats 4000000
/-! S, part 1: what the mirrors of the drawing helpers and of the shelf tell. -/
namespace Z
set_option autoImplicit false
open PySem L2
/-! ### slices -/
/-! ### draws -/
def cellAt (ns : List Int) (k : Nat) : Int := ns.getD k 0
theorem sp_cell_at (ns : List Int) (k : Nat) : P_law_cell_at [.scr ns, .int k] = .ok (.int (cellAt ns k)) := by
  unfold P_law_cell_at p_law_cell_at m_law_cell_at
  simp only [runM, sSeq, sSet, sSet2, sPar, sIf, sRet, sNil, sExp, sFrz, sKill, sPut, sRaise, mV, mC, m1, m2, mA, mCons, mNil, mCall, mLst, mTup, mT, mAnd, mOr, mNot, mB, mIf, mAndV, mOrV, mSl, mS, mN, mCh, mItems, mRng1, mRng2, mEnum, mZip, mRevI, mYes, Sta.set_no, Sta.set_mu, Sta.set_at, Sta.frz_mu, Sta.frz_no, Nat.reduceBEq, Sta.kill, killG, Rs.bind_ok, Rs.bind_ex, Rs.bind_no, Rs.of_some, Rs.of_none, Rs.nx_ok, startG, List.length_cons, List.length_nil, List.replicate_succ, List.replicate_zero, List.cons_append, List.nil_append, List.map_cons, List.map_nil, List.getElem?_cons_succ, List.getElem?_cons_zero, List.set_cons_succ, List.set_cons_zero, dAdd_i, dSub_i, dIx_l, dIx_t, dIx_s, dSl_l, dRev_l, dLt_i, dLe_i, dGt_i, dGe_i, dNeg_i, dNot, dLen_l, dLen_t2, dLen_s, dMax2_i, dMin2_i, dInt_i, dInt_b, dList_l, dList_t, dIsN, dNotN, dEq_i, dNe_i, dEq_b, dNe_b, dSum_l, dAll_l, dSorted_l, dIn_l, dNi_l, Bool.not_true, Bool.not_false,  Bool.false_eq_true, reduceIte, reduceCtorEq]
  by_cases h : k < ns.length
  · have h' : ((k : Int) < (ns.length : Int)) := by omega
    simp only [runM, sSeq, sSet, sSet2, sPar, sIf, sRet, sNil, sExp, sFrz, sKill, sPut, sRaise, mV, mC, m1, m2, mA, mCons, mNil, mCall, mLst, mTup, mT, mAnd, mOr, mNot, mB, mIf, mAndV, mOrV, mSl, mS, mN, mCh, mItems, mRng1, mRng2, mEnum, mZip, mRevI, mYes, Sta.set_no, Sta.set_mu, Sta.set_at, Sta.frz_mu, Sta.frz_no, Nat.reduceBEq, Sta.kill, killG, Rs.bind_ok, Rs.bind_ex, Rs.bind_no, Rs.of_some, Rs.of_none, Rs.nx_ok, startG, List.length_cons, List.length_nil, List.replicate_succ, List.replicate_zero, List.cons_append, List.nil_append, List.map_cons, List.map_nil, List.getElem?_cons_succ, List.getElem?_cons_zero, List.set_cons_succ, List.set_cons_zero, dAdd_i, dSub_i, dIx_l, dIx_t, dIx_s, dSl_l, dRev_l, dLt_i, dLe_i, dGt_i, dGe_i, dNeg_i, dNot, dLen_l, dLen_t2, dLen_s, dMax2_i, dMin2_i, dInt_i, dInt_b, dList_l, dList_t, dIsN, dNotN, dEq_i, dNe_i, dEq_b, dNe_b, dSum_l, dAll_l, dSorted_l, dIn_l, dNi_l, Bool.not_true, Bool.not_false,  Bool.false_eq_true, reduceIte, reduceCtorEq, h', decide_true, atI_some h, Option.map_some]
    unfold cellAt
    rw [List.getD_eq_getElem?_getD, List.getElem?_eq_getElem h]
    rfl
  · have h' : ¬ ((k : Int) < (ns.length : Int)) := by omega
    simp only [runM, sSeq, sSet, sSet2, sPar, sIf, sRet, sNil, sExp, sFrz, sKill, sPut, sRaise, mV, mC, m1, m2, mA, mCons, mNil, mCall, mLst, mTup, mT, mAnd, mOr, mNot, mB, mIf, mAndV, mOrV, mSl, mS, mN, mCh, mItems, mRng1, mRng2, mEnum, mZip, mRevI, mYes, Sta.set_no, Sta.set_mu, Sta.set_at, Sta.frz_mu, Sta.frz_no, Nat.reduceBEq, Sta.kill, killG, Rs.bind_ok, Rs.bind_ex, Rs.bind_no, Rs.of_some, Rs.of_none, Rs.nx_ok, startG, List.length_cons, List.length_nil, List.replicate_succ, List.replicate_zero, List.cons_append, List.nil_append, List.map_cons, List.map_nil, List.getElem?_cons_succ, List.getElem?_cons_zero, List.set_cons_succ, List.set_cons_zero, dAdd_i, dSub_i, dIx_l, dIx_t, dIx_s, dSl_l, dRev_l, dLt_i, dLe_i, dGt_i, dGe_i, dNeg_i, dNot, dLen_l, dLen_t2, dLen_s, dMax2_i, dMin2_i, dInt_i, dInt_b, dList_l, dList_t, dIsN, dNotN, dEq_i, dNe_i, dEq_b, dNe_b, dSum_l, dAll_l, dSorted_l, dIn_l, dNi_l, Bool.not_true, Bool.not_false,  Bool.false_eq_true, reduceIte, reduceCtorEq, h', decide_false]
    unfold cellAt
    rw [List.getD_eq_getElem?_getD, List.getElem?_eq_none (by omega)]
    rfl
theorem sp_cell_0 (ns : List Int) : P_law_cell_at [.scr ns, .int 0] = .ok (.int (cellAt ns 0)) := sp_cell_at ns 0
theorem sp_cell_1 (ns : List Int) : P_law_cell_at [.scr ns, .int 1] = .ok (.int (cellAt ns 1)) := sp_cell_at ns 1
/-! ### what is found -/
end Z
set_option Elab.async false
set_option linter.all false
set_option maxRecDepth 100000
set_option maxHeartbeats 4000000
/-! S, part 2: the shelf: worths drawn, all dealings, the best of them. -/
namespace Z
set_option autoImplicit false
open PySem L2
theorem forGo_idx {tg : Tg} {ks : List Nat} {b : Sta → Rs Ou} (st : Nat → Sta) : ∀ (ds : List D) (k : Nat), (∀ i d, ds[i]? = some d → ∃ ps s', tg.put' d = .ok ps ∧ muFree (st (k + i)).mu tg.slots = true ∧ b ((st (k + i)).sets ps) = .ok (.nx s') ∧ s'.kill ks = st (k + i + 1)) → forGo tg ks b ds (st k) = .ok (.nx (st (k + ds.length)))
  | [], k, _ => rfl
  | d :: r, k, h => by
    obtain ⟨ps, s', h1, h2, h3, h4⟩ := h 0 d rfl
    have ih := forGo_idx st r (k + 1) fun i e hi => by
      have q := h (i + 1) e hi
      rw [show k + (i + 1) = k + 1 + i by omega] at q
      exact q
    unfold forGo
    rw [Nat.add_zero] at h2 h3 h4
    rw [h1, Rs.bind_ok, if_pos h2, h3, Rs.bind_ok]
    show forGo tg ks b r (s'.kill ks) = _
    rw [h4, ih, List.length_cons, show k + 1 + r.length = k + (r.length + 1) by omega]
theorem sFor_idx {mi : G → Rs (List D)} {tg : Tg} {ks : List Nat} {b : Sta → Rs Ou} {s : Sta} (st : Nat → Sta) (ds : List D) (h1 : mi s.g = .ok ds) (h0 : s.kill ks = st 0)
    (h : ∀ i d, ds[i]? = some d → ∃ ps, tg.put' d = .ok ps ∧ muFree (st i).mu tg.slots = true ∧ ∃ s', b ((st i).sets ps) = .ok (.nx s') ∧ s'.kill ks = st (i + 1)) : sFor mi tg ks b s = .ok (.nx (st ds.length)) := by
  refine sFor_eq h1 ?_
  rw [h0, forGo_idx st ds 0 fun i d hd => ?_, Nat.zero_add]
  rw [Nat.zero_add]
  obtain ⟨ps, a1, a2, s', a3, a4⟩ := h i d hd
  exact ⟨ps, s', a1, a2, a3, a4⟩
/-! ### sizes and worths -/
end Z
set_option Elab.async false
set_option linter.all false
set_option maxRecDepth 100000
set_option maxHeartbeats 4000000
/-! S, part 3: the shelf: all dealings, their sums, the best; the program's own dealing. -/
namespace Z
set_option autoImplicit false
open PySem L2
/-! ### all dealings -/
def goodsL (goods : Nat) : List Int := (List.range (goods + 1)).map fun (i : Nat) => -1 + (i : Int)
def exts (goods : Nat) (row : List Int) : List (List Int) := ((goodsL goods).filter fun g => decide (g = -1) || !decide (g ∈ row)).map fun g => row ++ [g]
/-! ### what a dealing is worth -/
/-! ### the best one, found among all -/
/-! ### the program's dealing -/
def pairD (p : Int × List Int) : D := .tup [.int p.1, .lst (p.2.map D.int)]
end Z
set_option Elab.async false
set_option linter.all false
set_option maxRecDepth 100000
set_option maxHeartbeats 4000000
/-! S, part M: plain mathematics of first maxima and of the shelf. -/
namespace Z
set_option autoImplicit false
/-! ### the first of the greatest -/
/-! ### the shelf -/
/-- rows grown at their end, p times -/
def grow (goods : Nat) : Nat → List (List Int) → List (List Int)
  | 0, l => l
  | p + 1, l => grow goods p (l.flatMap (exts goods))
end Z
set_option Elab.async false
set_option linter.all false
set_option maxRecDepth 100000
set_option maxHeartbeats 4000000
/-! S, part 4: the shelf: the program's own defs. -/
namespace Z
set_option autoImplicit false
open PySem L2
/-! ### what are worths -/
def numOk (ns : List Int) : Bool := ns.all fun x => decide (0 ≤ x) && decide (x ≤ 1000)
theorem sp_numbers_right (ns : List Int) (hl : ns.length ≤ LIM) : P_numbers_right [.lst (ns.map D.int)] = .ok (.bl (numOk ns)) := by
  refine runM_rt' (sSeq_nil (sRet_eq ?_))
  have e1 : mLc [1] (mItems (mV 0)) (.one 1) mYes (mCh dLe dLe (mC (.int 0)) (mV 1) (mC (.int 1000))) [some (.lst (ns.map D.int)), none] = .ok (ns.map fun x => D.bl (decide (0 ≤ x) && decide (x ≤ 1000))) := by
    refine mLc_enc D.int _ ns rfl hl fun x _ => ⟨[(1, .int x)], rfl, ?_⟩
    show mCh dLe dLe (mC (.int 0)) (mV 1) (mC (.int 1000)) [some (.lst (ns.map D.int)), some (.int x)] = _
    simp only [runM, sSeq, sSet, sSet2, sPar, sIf, sRet, sNil, sExp, sFrz, sKill, sPut, sRaise, mV, mC, m1, m2, mA, mCons, mNil, mCall, mLst, mTup, mT, mAnd, mOr, mNot, mB, mIf, mAndV, mOrV, mSl, mS, mN, mCh, mItems, mRng1, mRng2, mEnum, mZip, mRevI, mYes, Sta.set_no, Sta.set_mu, Sta.set_at, Sta.frz_mu, Sta.frz_no, Nat.reduceBEq, Sta.kill, killG, Rs.bind_ok, Rs.bind_ex, Rs.bind_no, Rs.of_some, Rs.of_none, Rs.nx_ok, startG, List.length_cons, List.length_nil, List.replicate_succ, List.replicate_zero, List.cons_append, List.nil_append, List.map_cons, List.map_nil, List.getElem?_cons_succ, List.getElem?_cons_zero, List.set_cons_succ, List.set_cons_zero, dAdd_i, dSub_i, dIx_l, dIx_t, dIx_s, dSl_l, dRev_l, dLt_i, dLe_i, dGt_i, dGe_i, dNeg_i, dNot, dLen_l, dLen_t2, dLen_s, dMax2_i, dMin2_i, dInt_i, dInt_b, dList_l, dList_t, dIsN, dNotN, dEq_i, dNe_i, dEq_b, dNe_b, dSum_l, dAll_l, dSorted_l, dIn_l, dNi_l, Bool.not_true, Bool.not_false,  Bool.false_eq_true, reduceIte, reduceCtorEq]
    cases decide (0 ≤ x) <;> simp only [runM, sSeq, sSet, sSet2, sPar, sIf, sRet, sNil, sExp, sFrz, sKill, sPut, sRaise, mV, mC, m1, m2, mA, mCons, mNil, mCall, mLst, mTup, mT, mAnd, mOr, mNot, mB, mIf, mAndV, mOrV, mSl, mS, mN, mCh, mItems, mRng1, mRng2, mEnum, mZip, mRevI, mYes, Sta.set_no, Sta.set_mu, Sta.set_at, Sta.frz_mu, Sta.frz_no, Nat.reduceBEq, Sta.kill, killG, Rs.bind_ok, Rs.bind_ex, Rs.bind_no, Rs.of_some, Rs.of_none, Rs.nx_ok, startG, List.length_cons, List.length_nil, List.replicate_succ, List.replicate_zero, List.cons_append, List.nil_append, List.map_cons, List.map_nil, List.getElem?_cons_succ, List.getElem?_cons_zero, List.set_cons_succ, List.set_cons_zero, dAdd_i, dSub_i, dIx_l, dIx_t, dIx_s, dSl_l, dRev_l, dLt_i, dLe_i, dGt_i, dGe_i, dNeg_i, dNot, dLen_l, dLen_t2, dLen_s, dMax2_i, dMin2_i, dInt_i, dInt_b, dList_l, dList_t, dIsN, dNotN, dEq_i, dNe_i, dEq_b, dNe_b, dSum_l, dAll_l, dSorted_l, dIn_l, dNi_l, Bool.not_true, Bool.not_false,  Bool.false_eq_true, reduceIte, reduceCtorEq] <;> rfl
  have e2 : (ns.map fun x => D.bl (decide (0 ≤ x) && decide (x ≤ 1000))) = (ns.map fun x => decide (0 ≤ x) && decide (x ≤ 1000)).map D.bl := by rw [List.map_map]; rfl
  have e3 : (ns.map fun x => decide (0 ≤ x) && decide (x ≤ 1000)).all id = numOk ns := by
    unfold numOk
    rw [List.all_map]
    rfl
  simp only [runM, sSeq, sSet, sSet2, sPar, sIf, sRet, sNil, sExp, sFrz, sKill, sPut, sRaise, mV, mC, m1, m2, mA, mCons, mNil, mCall, mLst, mTup, mT, mAnd, mOr, mNot, mB, mIf, mAndV, mOrV, mSl, mS, mN, mCh, mItems, mRng1, mRng2, mEnum, mZip, mRevI, mYes, Sta.set_no, Sta.set_mu, Sta.set_at, Sta.frz_mu, Sta.frz_no, Nat.reduceBEq, Sta.kill, killG, Rs.bind_ok, Rs.bind_ex, Rs.bind_no, Rs.of_some, Rs.of_none, Rs.nx_ok, startG, List.length_cons, List.length_nil, List.replicate_succ, List.replicate_zero, List.cons_append, List.nil_append, List.map_cons, List.map_nil, List.getElem?_cons_succ, List.getElem?_cons_zero, List.set_cons_succ, List.set_cons_zero, dAdd_i, dSub_i, dIx_l, dIx_t, dIx_s, dSl_l, dRev_l, dLt_i, dLe_i, dGt_i, dGe_i, dNeg_i, dNot, dLen_l, dLen_t2, dLen_s, dMax2_i, dMin2_i, dInt_i, dInt_b, dList_l, dList_t, dIsN, dNotN, dEq_i, dNe_i, dEq_b, dNe_b, dSum_l, dAll_l, dSorted_l, dIn_l, dNi_l, Bool.not_true, Bool.not_false,  Bool.false_eq_true, reduceIte, reduceCtorEq, e1, e2, e3]
def rowOk (n : Nat) (row : List Int) : Bool := (decide (1 ≤ row.length) && decide (row.length ≤ 4)) && (decide (row.length = n) && numOk row)
def shelfOk (rows : List (List Int)) : Bool := (decide (1 ≤ rows.length) && decide (rows.length ≤ 4)) && rows.all (rowOk (rows.headD []).length)
theorem sp_check_shelf (c : Addr) (rows : List (List Int)) (hl : ∀ r ∈ rows, r.length ≤ LIM) : P_check_shelf c [.lst (rows.map intsD)] = if shelfOk rows then .ok .non else .ex c none := by
  unfold P_check_shelf p_check_shelf
  have e1 : mCh dLe dLe (mC (.int 1)) (mA dLen (mCons (mV 0) mNil)) (mC (.int 4)) (startG 2 [.lst (rows.map intsD)]) = .ok (.bl (decide (1 ≤ rows.length) && decide (rows.length ≤ 4))) := by
    rw [chain_le (i := 1) (j := rows.length) (k := 4) rfl (mA_eq (mCons_eq rfl rfl) (by rw [dLen_l, List.length_map])) rfl]
    exact congrArg (fun b => Rs.ok (D.bl b)) (congr (congrArg and (decide_eq_decide.mpr (by omega))) (decide_eq_decide.mpr (by omega)))
  unfold shelfOk
  cases q : decide (1 ≤ rows.length) && decide (rows.length ≤ 4) with
  | false =>
    rw [Bool.false_and, if_neg Bool.false_ne_true]
    refine runM_ex (sSeq_ex (sIf_t ?_ ?_))
    · rw [mNot_eq (mT_eq e1), q]
      rfl
    · rfl
  | true =>
    rw [Bool.true_and]
    have hne : 1 ≤ rows.length ∧ rows.length ≤ 4 := by simpa using q
    have h0 : ∃ r rs, rows = r :: rs := by
      cases rows with
      | nil => simp at hne
      | cons r rs => exact ⟨r, rs, rfl⟩
    obtain ⟨r0, rs, hrs⟩ := h0
    have ef : forGo (.one 1) [1] (sSeq (sIf (mOr (mNot (mT (mCh dLe dLe (mC (.int 1)) (mA dLen (mCons (mV 1) mNil)) (mC (.int 4))))) (mOr (mT (m2 dNe (mA dLen (mCons (mV 1) mNil)) (mA dLen (mCons (m2 dIx (mV 0) (mC (.int 0))) mNil)))) (mNot (mT (mCall (fun ds => (P_numbers_right ds).nx) (mCons (mV 1) mNil)))))) (sSeq (sRaise c) sNil) sNil) sNil) (rows.map intsD) ⟨[some (.lst (rows.map intsD)), none], none⟩ =
        if rows.all (rowOk (rows.headD []).length) then .ok (.nx ⟨[some (.lst (rows.map intsD)), none], none⟩) else .ex c none := by
      refine forGo_look intsD (rowOk (rows.headD []).length) (.ex c none) (fun s => ⟨(fun z => nomatch z), (fun z => nomatch z), (fun z => nomatch z)⟩) rows fun row hrow => ?_
      have hd : atI (rows.map intsD) 0 = some (intsD r0) := by rw [hrs]; exact atI_0 _ _
      have hh : rows.headD [] = r0 := by rw [hrs]; rfl
      have l1 : ∀ r : List Int, dLen [intsD r] = some (.int r.length) := fun r => by
        unfold intsD
        rw [dLen_l, List.length_map]
      have c2 : mOr (mNot (mT (mCh dLe dLe (mC (.int 1)) (mA dLen (mCons (mV 1) mNil)) (mC (.int 4))))) (mOr (mT (m2 dNe (mA dLen (mCons (mV 1) mNil)) (mA dLen (mCons (m2 dIx (mV 0) (mC (.int 0))) mNil)))) (mNot (mT (mCall (fun ds => (P_numbers_right ds).nx) (mCons (mV 1) mNil))))) [some (.lst (rows.map intsD)), some (intsD row)] = .ok (!rowOk r0.length row) := by
        rw [mOr_eq (mNot_eq (mT_eq (chain_le (i := 1) (j := row.length) (k := 4) rfl (mA_eq (mCons_eq rfl rfl) (l1 row)) rfl))) fun _ => mOr_eq (mT_eq (m2_eq (mA_eq (mCons_eq rfl rfl) (l1 row)) (mA_eq (mCons_eq (m2_eq rfl rfl hd) rfl) (l1 r0)) (dNe_i _ _))) fun _ => mNot_eq (mT_eq (mCalln_eq (mCons_eq rfl rfl) (sp_numbers_right row (hl row hrow))))]
        unfold rowOk
        have d1 : decide ((1 : Int) ≤ (row.length : Int)) = decide (1 ≤ row.length) := decide_eq_decide.mpr (by omega)
        have d2 : decide ((row.length : Int) ≤ (4 : Int)) = decide (row.length ≤ 4) := decide_eq_decide.mpr (by omega)
        have d3 : decide ((row.length : Int) = (r0.length : Int)) = decide (row.length = r0.length) := decide_eq_decide.mpr (by omega)
        rw [d1, d2, d3]
        cases decide (1 ≤ row.length) <;> cases decide (row.length ≤ 4) <;> cases decide (row.length = r0.length) <;> cases numOk row <;> rfl
      rw [hh]
      refine ⟨[(1, intsD row)], rfl, rfl, fun hf => ⟨⟨[some (.lst (rows.map intsD)), some (intsD row)], none⟩, sSeq_nil (sIf_f (by rw [hf] at c2; exact c2) rfl), rfl⟩, fun hf => sSeq_ex (sIf_t (by rw [hf] at c2; exact c2) rfl)⟩
    have go : m_check_shelf c P_numbers_right ⟨startG 2 [.lst (rows.map intsD)], none⟩ = if rows.all (rowOk (rows.headD []).length) then .ok (.nx ⟨[some (.lst (rows.map intsD)), none], none⟩) else .ex c none := by
      refine sSeq_eq (sIf_f (by rw [mNot_eq (mT_eq e1), q]; rfl) rfl) ?_
      refine sSeq_nil (sFor_eq (ds := rows.map intsD) rfl ?_)
      exact ef
    unfold runM
    rw [go]
    cases rows.all (rowOk (rows.headD []).length) <;> rfl
/-- worths of the shelf -/
structure Shelf (rows : List (List Int)) (goods : Nat) : Prop where
  p1 : 1 ≤ rows.length
  p4 : rows.length ≤ 4
  g1 : 1 ≤ goods
  g4 : goods ≤ 4
  len : ∀ r ∈ rows, r.length = goods
  num : ∀ r ∈ rows, ∀ x ∈ r, 0 ≤ x ∧ x ≤ 1000
theorem numOk_of {ns : List Int} (h : ∀ x ∈ ns, 0 ≤ x ∧ x ≤ 1000) : numOk ns = true := by
  unfold numOk
  rw [List.all_eq_true]
  intro x hx
  have := h x hx
  simp [this]
theorem Shelf.ok {rows : List (List Int)} {goods : Nat} (h : Shelf rows goods) : shelfOk rows = true := by
  unfold shelfOk
  have h1 := h.p1
  have h2 := h.p4
  simp only [h1, h2, decide_true, Bool.true_and]
  rw [List.all_eq_true]
  intro r hr
  unfold rowOk
  have e : (rows.headD []).length = goods := by
    cases rows with
    | nil => simp at h1
    | cons a b => exact h.len a List.mem_cons_self
  have h3 := h.len r hr
  have h4 := h.g1
  have h5 := h.g4
  rw [e, h3, numOk_of (h.num r hr)]
  simp [h4, h5]
theorem Shelf.lim {rows : List (List Int)} {goods : Nat} (h : Shelf rows goods) : ∀ r ∈ rows, r.length ≤ LIM := fun r hr => by
  rw [h.len r hr]
  exact Nat.le_trans h.g4 (by decide)
theorem Shelf.check {rows : List (List Int)} {goods : Nat} (h : Shelf rows goods) (c : Addr) : P_check_shelf c [.lst (rows.map intsD)] = .ok .non := by
  rw [sp_check_shelf c rows h.lim, h.ok]
  rfl
theorem sp_shelf_best_ex {rows : List (List Int)} (h : shelfOk rows = false) (hl : ∀ r ∈ rows, r.length ≤ LIM) (c : Addr) : P_shelf_best c [.lst (rows.map intsD)] = .ex c none := by
  have e := sp_check_shelf c rows hl
  rw [h] at e
  unfold P_shelf_best p_shelf_best m_shelf_best
  simp only [runM, sSeq, sSet, sSet2, sPar, sIf, sRet, sNil, sExp, sFrz, sKill, sPut, sRaise, mV, mC, m1, m2, mA, mCons, mNil, mCall, mLst, mTup, mT, mAnd, mOr, mNot, mB, mIf, mAndV, mOrV, mSl, mS, mN, mCh, mItems, mRng1, mRng2, mEnum, mZip, mRevI, mYes, Sta.set_no, Sta.set_mu, Sta.set_at, Sta.frz_mu, Sta.frz_no, Nat.reduceBEq, Sta.kill, killG, Rs.bind_ok, Rs.bind_ex, Rs.bind_no, Rs.of_some, Rs.of_none, Rs.nx_ok, startG, List.length_cons, List.length_nil, List.replicate_succ, List.replicate_zero, List.cons_append, List.nil_append, List.map_cons, List.map_nil, List.getElem?_cons_succ, List.getElem?_cons_zero, List.set_cons_succ, List.set_cons_zero, dAdd_i, dSub_i, dIx_l, dIx_t, dIx_s, dSl_l, dRev_l, dLt_i, dLe_i, dGt_i, dGe_i, dNeg_i, dNot, dLen_l, dLen_t2, dLen_s, dMax2_i, dMin2_i, dInt_i, dInt_b, dList_l, dList_t, dIsN, dNotN, dEq_i, dNe_i, dEq_b, dNe_b, dSum_l, dAll_l, dSorted_l, dIn_l, dNi_l, Bool.not_true, Bool.not_false,  Bool.false_eq_true, reduceIte, reduceCtorEq, show P_check_shelf c [.lst (rows.map intsD)] = .ex c none from e]
/-! ### what a good is worth; pays -/
theorem atI_row {row : List Int} {g : Int} (h0 : 0 ≤ g) (h1 : g < row.length) : atI (row.map D.int) g = some (.int (row.getD g.toNat 0)) := by
  refine atI_int h0 ?_
  have h4 : g.toNat < row.length := by omega
  rw [List.getElem?_map, List.getElem?_eq_getElem h4, List.getD_eq_getElem?_getD, List.getElem?_eq_getElem h4]
  rfl
end Z
set_option Elab.async false
set_option linter.all false
set_option maxRecDepth 100000
set_option maxHeartbeats 4000000
/-! S, part V: plain mathematics: nobody gains on the shelf. -/
set_option Elab.async false
set_option linter.all false
set_option maxRecDepth 100000
set_option maxHeartbeats 4000000
/-! S, part 5: law k04. -/
set_option Elab.async false
set_option linter.all false
set_option maxRecDepth 100000
set_option maxHeartbeats 4000000
/-! S, part P: plain mathematics of the pile. -/
set_option Elab.async false
set_option linter.all false
set_option maxRecDepth 100000
set_option maxHeartbeats 4000000
/-! S, part 6: the pile: the program's own defs, the drawn heaps. -/
namespace Z
set_option autoImplicit false
open PySem L2
theorem dAll_of {bs : List Bool} {b : Bool} (h : bs.all id = b) : dAll [.lst (bs.map D.bl)] = some (.bl b) := by rw [dAll_l, h]
theorem map_bl {α : Type} (xs : List α) (f : α → Bool) : (xs.map fun x => D.bl (f x)) = (xs.map f).map D.bl := by rw [List.map_map]; rfl
theorem all_map_id {α : Type} (xs : List α) (f : α → Bool) : (xs.map f).all id = xs.all f := by rw [List.all_map]; rfl
/-- all([f(x) for x in xs]) -/
theorem mAll_enc {α : Type} {vs : List Nat} {mi : G → Rs (List D)} {tg : Tg} {e : G → Rs D} {g : G} (en : α → D) (f : α → Bool) (xs : List α) (h1 : mi g = .ok (xs.map en)) (hl : xs.length ≤ LIM)
    (h : ∀ a ∈ xs, ∃ ps, tg.put' (en a) = .ok ps ∧ e (setsG (killG vs g) ps) = .ok (.bl (f a))) : mA dAll (mCons (mLst (mLc vs mi tg mYes e)) mNil) g = .ok (.bl (xs.all f)) := by
  refine mA_eq (mCons_eq (mLst_eq (mLc_enc en (fun x => D.bl (f x)) xs h1 hl h)) mNil_eq) ?_
  rw [map_bl]
  exact dAll_of (all_map_id xs f)
/-- sum([f(x) for x in xs]) -/
theorem mSum_enc {α : Type} {vs : List Nat} {mi : G → Rs (List D)} {tg : Tg} {e : G → Rs D} {g : G} (en : α → D) (f : α → Int) (xs : List α) (h1 : mi g = .ok (xs.map en)) (hl : xs.length ≤ LIM)
    (h : ∀ a ∈ xs, ∃ ps, tg.put' (en a) = .ok ps ∧ e (setsG (killG vs g) ps) = .ok (.int (f a))) : mA dSum (mCons (mLst (mLc vs mi tg mYes e)) mNil) g = .ok (.int (xs.map f).sum) := by
  refine mA_eq (mCons_eq (mLst_eq (mLc_enc en (fun x => D.int (f x)) xs h1 hl h)) mNil_eq) ?_
  have e2 : (xs.map fun x => D.int (f x)) = (xs.map f).map D.int := by rw [List.map_map]; rfl
  rw [e2]
  exact dSum_l _
/-! ### what are worths of pieces -/
def fallOk (row : List Int) : Bool := (List.range (row.length - 1)).all fun i => decide (row.getD (i + 1) 0 ≤ row.getD i 0)
def rowP (row : List Int) : Bool := (decide (row.length ≤ 5) && numOk row) && fallOk row
theorem rgD_1 (n : Nat) : rgD 1 (n : Int) = (List.range (n - 1)).map fun (i : Nat) => D.int (1 + (i : Int)) := by
  unfold rgD
  rw [show ((n : Int) - 1).toNat = n - 1 by omega]
theorem atI_getD {row : List Int} {i : Nat} (h : i < row.length) : atI (row.map D.int) (i : Int) = some (.int (row.getD i 0)) := by
  have := atI_row (row := row) (g := (i : Int)) (by omega) (by omega)
  rw [Int.toNat_natCast] at this
  exact this
theorem sp_row_right (row : List Int) (hl : row.length ≤ 1000000) : P_row_right [intsD row] = .ok (.bl (rowP row)) := by
  have hl' : row.length ≤ LIM := hl
  have hc : mOr (mT (m2 dGt (mA dLen (mCons (mV 0) mNil)) (mC (.int 5)))) (mNot (mT (mCall (fun ds => (P_numbers_right ds).nx) (mCons (mV 0) mNil)))) (startG 2 [intsD row]) = .ok (!(decide (row.length ≤ 5) && numOk row)) := by
    refine tst (mOr_eq (mT_eq (m2_eq (mA_eq (mCons_eq rfl rfl) (dLen_map _ _)) rfl (dGt_i _ _))) fun _ => mNot_eq (mT_eq (mCalln_eq (mCons_eq rfl rfl) (sp_numbers_right row hl')))) ?_
    have d1 : decide ((5 : Int) < (row.length : Int)) = !decide (row.length ≤ 5) := by
      rw [← decide_not]
      exact decide_eq_decide.mpr (by omega)
    rw [d1]
    cases decide (row.length ≤ 5) <;> cases numOk row <;> rfl
  unfold rowP
  cases q : decide (row.length ≤ 5) && numOk row with
  | false =>
    rw [q] at hc
    exact runM_rt' (sSeq_rt (sIf_t hc (sSeq_rt (sRet_eq rfl))))
  | true =>
    rw [q] at hc
    refine runM_rt' (sSeq_eq (sIf_f hc rfl) (sSeq_rt (sRet_eq ?_)))
    rw [Bool.true_and]
    refine mAll_enc (fun (i : Nat) => D.int (1 + (i : Int))) (fun i => decide (row.getD (i + 1) 0 ≤ row.getD i 0)) (List.range (row.length - 1)) ?_ (by rw [List.length_range]; omega) fun i hi => ⟨_, rfl, ?_⟩
    · exact (rng2_eq (by omega) (mCons_eq rfl (mCons_eq (mA_eq (mCons_eq rfl rfl) (dLen_map _ _)) rfl))).trans (by rw [rgD_1])
    · have hi' := List.mem_range.mp hi
      refine m2_eq (m2_eq rfl (m2_eq rfl rfl (dSub_i _ _)) ?_) (m2_eq rfl rfl ?_) (dGe_i _ _)
      · rw [show (1 : Int) + (i : Int) - 1 = ((i : Nat) : Int) by omega]
        exact atI_getD (by omega)
      · rw [show (1 : Int) + (i : Int) = ((i + 1 : Nat) : Int) by omega]
        exact atI_getD (by omega)
def rowsP (rows : List (List Int)) : Bool := (decide (1 ≤ rows.length) && decide (rows.length ≤ 5)) && rows.all rowP
def pileOk (n : Int) (rows : List (List Int)) : Bool := rowsP rows && (decide (0 ≤ n) && decide (n ≤ 12))
theorem sp_check_pile (c : Addr) (n : Int) (rows : List (List Int)) (hl : ∀ r ∈ rows, r.length ≤ 1000000) (hr : rows.length ≤ LIM) : P_check_pile c [.int n, .lst (rows.map intsD)] = if pileOk n rows then .ok .non else .ex c none := by
  have d1 : (decide ((1 : Int) ≤ (rows.length : Int)) && decide ((rows.length : Int) ≤ (5 : Int))) = (decide (1 ≤ rows.length) && decide (rows.length ≤ 5)) := congr (congrArg and (decide_eq_decide.mpr (by omega))) (decide_eq_decide.mpr (by omega))
  have hc : mOr (mNot (mT (mCh dLe dLe (mC (.int 1)) (mA dLen (mCons (mV 1) mNil)) (mC (.int 5))))) (mNot (mT (mA dAll (mCons (mLst (mLc [2] (mItems (mV 1)) (.one 2) mYes (mCall (fun ds => (P_row_right ds).nx) (mCons (mV 2) mNil)))) mNil)))) (startG 3 [.int n, .lst (rows.map intsD)]) = .ok (!rowsP rows) := by
    refine tst (mOr_eq (mNot_eq (mT_eq (chain_le rfl (mA_eq (mCons_eq rfl rfl) (dLen_map _ _)) rfl))) fun _ => mNot_eq (mT_eq (mAll_enc intsD rowP rows rfl hr fun r hrr => ⟨_, rfl, mCalln_eq (mCons_eq rfl rfl) (sp_row_right r (hl r hrr))⟩))) ?_
    unfold rowsP
    rw [d1]
    cases (decide (1 ≤ rows.length) && decide (rows.length ≤ 5)) <;> cases rows.all rowP <;> rfl
  have hc2 : mNot (mT (mCh dLe dLe (mC (.int 0)) (mV 0) (mC (.int 12)))) (startG 3 [.int n, .lst (rows.map intsD)]) = .ok (!(decide (0 ≤ n) && decide (n ≤ 12))) := mNot_eq (mT_eq (chain_le rfl rfl rfl))
  unfold pileOk
  cases q : rowsP rows with
  | false =>
    rw [q] at hc
    rw [Bool.false_and, if_neg Bool.false_ne_true]
    exact runM_ex (sSeq_ex (sIf_t hc rfl))
  | true =>
    rw [q] at hc
    rw [Bool.true_and]
    cases q2 : decide (0 ≤ n) && decide (n ≤ 12) with
    | false =>
      rw [q2] at hc2
      rw [if_neg Bool.false_ne_true]
      exact runM_ex (sSeq_eq (sIf_f hc rfl) (sSeq_ex (sIf_t hc2 rfl)))
    | true =>
      rw [q2] at hc2
      rw [if_pos rfl]
      exact runM_nx (sSeq_eq (sIf_f hc rfl) (sSeq_nil (sIf_f hc2 rfl)))
structure Pile (rows : List (List Int)) : Prop where
  p1 : 1 ≤ rows.length
  p5 : rows.length ≤ 5
  len : ∀ r ∈ rows, r.length ≤ 5
  num : ∀ r ∈ rows, ∀ x ∈ r, 0 ≤ x ∧ x ≤ 1000
  fall : ∀ r ∈ rows, fallOk r = true
theorem Pile.ok {rows : List (List Int)} (h : Pile rows) : rowsP rows = true := by
  unfold rowsP
  have h1 := h.p1
  have h2 := h.p5
  simp only [h1, h2, decide_true, Bool.true_and]
  rw [List.all_eq_true]
  intro r hr
  unfold rowP
  have h3 := h.len r hr
  rw [numOk_of (h.num r hr), h.fall r hr]
  simp [h3]
theorem Pile.check {rows : List (List Int)} (h : Pile rows) {n : Nat} (hn : n ≤ 12) (c : Addr) : P_check_pile c [.int n, .lst (rows.map intsD)] = .ok .non := by
  rw [sp_check_pile c n rows (fun r hr => Nat.le_trans (h.len r hr) (by decide)) (Nat.le_trans h.p5 (by decide))]
  unfold pileOk
  rw [h.ok, if_pos]
  rw [Bool.true_and]
  have h1 : (0 : Int) ≤ n := by omega
  have h2 : (n : Int) ≤ 12 := by omega
  simp [h1, h2]
/-! ### the greatest worth -/
def foundD : Option (Int × List Int) → D
  | none => .non
  | some p => pairD p
theorem dIsN_found (o : Option (Int × List Int)) : dIsN (foundD o) .non = some (.bl o.isNone) := by cases o <;> rfl
end Z
set_option Elab.async false
set_option linter.all false
set_option maxRecDepth 100000
set_option maxHeartbeats 4000000
/-! S, part 7: the pile: drawn heaps, pays, gains; law k08. -/
set_option Elab.async false
set_option linter.all false
set_option maxRecDepth 100000
set_option maxHeartbeats 4000000
/-! S, part 8: laws k01, k02. -/
set_option Elab.async false
set_option linter.all false
set_option maxRecDepth 100000
set_option maxHeartbeats 4000000
/-! S, part 9: laws k05, k06. -/
set_option Elab.async false
set_option linter.all false
set_option maxRecDepth 100000
set_option maxHeartbeats 4000000
/-! S, part 10: law k03: what is refused on the shelf. -/
namespace Z
set_option autoImplicit false
open PySem L2
theorem sTry_ex {n : Nat} {m : Sta → Rs Ou} {hnd : Addr → Option Int → Rs D} {g : G} {c : Addr} {r : Option Int} {d : D} (hn : g.length = n) (h : m ⟨g, none⟩ = .ex c r) (h2 : hnd c r = .ok d) : sTry n m hnd ⟨g, none⟩ = .ok (.rt d) := by
  unfold sTry
  dsimp only
  rw [if_pos hn, h]
  show (hnd c r).nx.bind _ = _
  rw [h2]
  rfl
/-- rows that are no worths, none of them long -/
structure BadS (rows : List (List Int)) : Prop where
  bad : shelfOk rows = false
  few : rows.length ≤ 10
  len : ∀ r ∈ rows, r.length ≤ 10
theorem BadS.lim {rows : List (List Int)} (h : BadS rows) : ∀ r ∈ rows, r.length ≤ LIM := fun r hr => Nat.le_trans (h.len r hr) (by decide)
theorem BadS.check {rows : List (List Int)} (h : BadS rows) (c : Addr) : P_check_shelf c [.lst (rows.map intsD)] = .ex c none := by
  rw [sp_check_shelf c rows h.lim, h.bad]
  rfl
theorem rep_flat {α : Type} (x : α) : ∀ n : Nat, (List.replicate n [x]).flatten = List.replicate n x
  | 0 => rfl
  | n + 1 => by rw [List.replicate_succ, List.flatten_cons, rep_flat x n]; rfl
theorem rep_map {α β : Type} (f : α → β) (x : α) (n : Nat) : (List.replicate n x).map f = List.replicate n (f x) := by simp
/-! ### what is spoilt -/
end Z
set_option Elab.async false
set_option linter.all false
set_option maxRecDepth 100000
set_option maxHeartbeats 4000000
/-! S, part 11: law k07: what is refused at the pile. -/
namespace Z
set_option autoImplicit false
open PySem L2
structure BadP (n : Int) (rows : List (List Int)) : Prop where
  bad : pileOk n rows = false
  few : rows.length ≤ 10
  len : ∀ r ∈ rows, r.length ≤ 10
theorem BadP.check {n : Int} {rows : List (List Int)} (h : BadP n rows) (c : Addr) : P_check_pile c [.int n, .lst (rows.map intsD)] = .ex c none := by
  rw [sp_check_pile c n rows (fun r hr => Nat.le_trans (h.len r hr) (by decide)) (Nat.le_trans h.few (by decide)), h.bad]
  rfl
/-! ### what is spoilt -/
end Z
set_option Elab.async false
set_option linter.all false
set_option maxRecDepth 100000
set_option maxHeartbeats 4000000
namespace Z
set_option autoImplicit false
open PySem L2
def m_webchk (c_BadWeb : Addr) : Sta → Rs Ou := sSeq (sIf (mOr (mNot (mT (mCh dLe dLe (mC (.int 2)) (mV 1) (mC (.int 6))))) (mNot (mT (mCh dLe dLe (mC (.int 1)) (mA dLen (mCons (mV 2) mNil)) (mC (.int 10)))))) (sSeq (sRaise c_BadWeb)
    sNil)
    sNil)
    (sFor (mItems (mV 2)) (.two 3 4) [3, 4]
    (sSeq (sIf (mOr (mNot (mT (mCh dLe dLt (mC (.int 0)) (mV 3) (mV 1)))) (mOr (mNot (mT (mCh dLe dLt (mC (.int 0)) (mV 4) (mV 1)))) (mT (m2 dEq (mV 3) (mV 4))))) (sSeq (sRaise c_BadWeb)
    sNil)
    sNil)
    sNil))
def m_check_costs (c_BadCosts : Addr) (φ_numbers_right : List D → Rs D) : Sta → Rs Ou :=
    (sSeq (sIf (mOr (mT (m2 dNe (mA dLen (mCons (mV 1) mNil)) (mA dLen (mCons (m1 (dFld ("roads" : Str)) (mV 0)) mNil)))) (mNot (mT (mCall (fun ds => (φ_numbers_right ds).nx) (mCons (mV 1) mNil))))) (sSeq (sRaise c_BadCosts)
    sNil)
    sNil)
    sNil)
def p_check_costs (c_BadCosts : Addr) (φ_numbers_right : List D → Rs D) : List D → Rs D := runM 2 (m_check_costs c_BadCosts φ_numbers_right)
def P_check_costs (c_BadCosts : Addr) : List D → Rs D := p_check_costs c_BadCosts (P_numbers_right)
def m_ways_from (φ_ways_from : List D → Rs D) : Sta → Rs Ou :=
    (sSeq (sIf (mT (m2 dEq (mV 1) (m2 dSub (m1 (dFld ("places" : Str)) (mV 0)) (mC (.int 1))))) (sSeq (sRet (mLst (mCons (mLst mNil) mNil)))
    sNil)
    sNil)
    (sSeq (sNew 4 mNil)
    (sSeq (sFor (mItems (mV 3)) (.one 5) [5, 6, 7, 8, 9]
    (sSeq (sSet2 6 7 (m2 dIx (m1 (dFld ("roads" : Str)) (mV 0)) (mV 5)))
    (sSeq (sIf (mT (m2 dIn (mV 1) (mTup (mCons (mV 6) (mCons (mV 7) mNil))))) (sSeq (sSet 8 (m2 dSub (m2 dAdd (mV 6) (mV 7)) (mV 1)))
    (sSeq (sIf (mT (m2 dNi (mV 8) (mV 2))) (sSeq (sFor (mItems (mCall (fun ds => (φ_ways_from ds).nx) (mCons (mV 0) (mCons (mV 8) (mCons (m2 dAdd (mV 2) (mLst (mCons (mV 8) mNil))) (mCons (mV 3) mNil)))))) (.one 9) [6, 7, 8, 9]
    (sSeq (sApp 4 (m2 dAdd (mLst (mCons (mV 5) mNil)) (mV 9)))
    sNil))
    sNil)
    sNil)
    sNil))
    sNil)
    sNil)))
    (sSeq (sFrz (sRet (mV 4)))
    sNil))))
def p_ways_from (φ_ways_from : List D → Rs D) : List D → Rs D := fun ds => (runM 10 (m_ways_from φ_ways_from) ds).nx
def P_ways_from : Nat → List D → Rs D
  | 0 => fun _ => .no
  | n + 1 => p_ways_from (P_ways_from n)
def m_best_way (φ_ways_from : List D → Rs D) : Sta → Rs Ou :=
    (sSeq (sSet 3 (mC .non))
    (sSeq (sFor (mItems (mCall (fun ds => (φ_ways_from ds).nx) (mCons (mV 0) (mCons (mC (.int 0)) (mCons (mLst (mCons (mC (.int 0)) mNil)) (mCons (mV 2) mNil)))))) (.one 4) [0, 2, 4, 5, 6]
    (sSeq (sSet 5 (mTup (mCons (mA dSum (mCons (mLst (mLc [6] (mItems (mV 4)) (.one 6) mYes (m2 dIx (mV 1) (mV 6)))) mNil)) (mCons (mA dSorted (mCons (mV 4) mNil)) mNil))))
    (sSeq (sIf (mOr (mT (m2 dIsN (mV 3) (mC .non))) (mT (m2 dLtR (mV 5) (mV 3)))) (sSeq (sSet 3 (mV 5))
    sNil)
    sNil)
    sNil)))
    (sSeq (sRet (mV 3))
    sNil)))
def p_best_way (φ_ways_from : List D → Rs D) : List D → Rs D := fun ds => (runM 7 (m_best_way φ_ways_from) ds).nx
def P_best_way : List D → Rs D := p_best_way (P_ways_from 7)
def m_best_tree : Sta → Rs Ou :=
    (sSeq (sSet 3 (m1 dListRg (m1 (dFld ("places" : Str)) (mV 0))))
    (sSeq (sNew 4 mNil)
    (sSeq (sFor (mItems (mA dSortedP (mCons (mLst (mLc [6] (mItems (mV 2)) (.one 6) mYes (mTup (mCons (m2 dIx (mV 1) (mV 6)) (mCons (mV 6) mNil))))) mNil))) (.two 5 6) [2, 5, 6, 7, 8, 9, 10]
    (sSeq (sSet2 7 8 (m2 dIx (m1 (dFld ("roads" : Str)) (mV 0)) (mV 6)))
    (sSeq (sIf (mT (m2 dNe (m2 dIx (mV 3) (mV 7)) (m2 dIx (mV 3) (mV 8)))) (sSeq (sSet 9 (m2 dIx (mV 3) (mV 8)))
    (sSeq (sSet 3 (mLst (mLc [10] (mItems (mV 3)) (.one 10) mYes (mIf (mT (m2 dEq (mV 10) (mV 9))) (m2 dIx (mV 3) (mV 7)) (mV 10)))))
    (sSeq (sApp 4 (mV 6))
    sNil)))
    sNil)
    sNil)))
    (sSeq (sFrz (sIf (mT (m2 dLt (mA dLen (mCons (mV 4) mNil)) (m2 dSub (m1 (dFld ("places" : Str)) (mV 0)) (mC (.int 1))))) (sSeq (sRet (mC .non))
    sNil)
    sNil))
    (sSeq (sFrz (sRet (mTup (mCons (mA dSum (mCons (mLst (mLc [6] (mItems (mV 4)) (.one 6) mYes (m2 dIx (mV 1) (mV 6)))) mNil)) (mCons (mA dSorted (mCons (mV 4) mNil)) mNil)))))
    sNil)))))
def p_best_tree : List D → Rs D := fun ds => (runM 11 (m_best_tree) ds).nx
def P_best_tree : List D → Rs D := p_best_tree
def m_best_by (φ_best_tree φ_best_way : List D → Rs D) : Sta → Rs Ou :=
    (sSeq (sIf (mT (m2 dEq (mV 1) (mC (.str ("way" : Str))))) (sSeq (sRet (mCall (fun ds => (φ_best_way ds).nx) (mCons (mV 0) (mCons (mV 2) (mCons (mV 3) mNil)))))
    sNil)
    sNil)
    (sSeq (sRet (mCall (fun ds => (φ_best_tree ds).nx) (mCons (mV 0) (mCons (mV 2) (mCons (mV 3) mNil)))))
    sNil))
def p_best_by (φ_best_tree φ_best_way : List D → Rs D) : List D → Rs D := fun ds => (runM 4 (m_best_by φ_best_tree φ_best_way) ds).nx
def P_best_by : List D → Rs D := p_best_by (P_best_tree) (P_best_way)
def m_road_best (c_NoWay : Addr) (φ_best_by φ_check_costs : List D → Rs D) : Sta → Rs Ou :=
    (sSeq (sExp (mCall φ_check_costs (mCons (mV 0) (mCons (mV 2) mNil))))
    (sSeq (sSet 3 (mCall (fun ds => (φ_best_by ds).nx) (mCons (mV 0) (mCons (mV 1) (mCons (mV 2) (mCons (m1 dListRg (mA dLen (mCons (mV 2) mNil))) mNil))))))
    (sSeq (sIf (mT (m2 dIsN (mV 3) (mC .non))) (sSeq (sRaise c_NoWay)
    sNil)
    sNil)
    (sSeq (sRet (mV 3))
    sNil))))
def p_road_best (c_NoWay : Addr) (φ_best_by φ_check_costs : List D → Rs D) : List D → Rs D := runM 4 (m_road_best c_NoWay φ_best_by φ_check_costs)
def P_road_best (c_BadCosts : Addr) (c_NoWay : Addr) : List D → Rs D := p_road_best c_NoWay (P_best_by) (P_check_costs c_BadCosts)
def m_road_gets (c_Alone : Addr) (φ_best_by φ_road_best : List D → Rs D) : Sta → Rs Ou :=
    (sSeq (sSet2 3 4 (mCall φ_road_best (mCons (mV 0) (mCons (mV 1) (mCons (mV 2) mNil)))))
    (sSeq (sNew 5 (mLs2 dRepL (mLst (mCons (mC (.int 0)) mNil)) (mA dLen (mCons (mV 2) mNil))))
    (sSeq (sFor (mItems (mV 4)) (.one 6) [4, 6, 7, 8, 9]
    (sSeq (sSet 7 (mLst (mLc [9] (mRng1 (mCons (mA dLen (mCons (mV 2) mNil)) mNil)) (.one 9) (mT (m2 dNe (mV 9) (mV 6))) (mV 9))))
    (sSeq (sSet 8 (mCall (fun ds => (φ_best_by ds).nx) (mCons (mV 0) (mCons (mV 1) (mCons (mV 2) (mCons (mV 7) mNil))))))
    (sSeq (sIf (mT (m2 dIsN (mV 8) (mC .non))) (sSeq (sAlone c_Alone (mV 6))
    sNil)
    sNil)
    (sSeq (sPut 5 (mV 6) (m2 dAdd (m2 dSub (m2 dIx (mV 8) (mC (.int 0))) (mV 3)) (m2 dIx (mV 2) (mV 6))))
    sNil)))))
    (sSeq (sFrz (sRet (mV 5)))
    sNil))))
def p_road_gets (c_Alone : Addr) (φ_best_by φ_road_best : List D → Rs D) : List D → Rs D := runM 10 (m_road_gets c_Alone φ_best_by φ_road_best)
def P_road_gets (c_Alone : Addr) (c_BadCosts : Addr) (c_NoWay : Addr) : List D → Rs D := p_road_gets c_Alone (P_best_by) (P_road_best c_BadCosts c_NoWay)
def m_road_gain (φ_road_best φ_road_gets : List D → Rs D) : Sta → Rs Ou :=
    (sSeq (sSet 5 (mCall φ_road_gets (mCons (mV 0) (mCons (mV 1) (mCons (mV 2) mNil)))))
    (sSeq (sIf (mT (m2 dIn (mV 3) (m2 dIx (mCall φ_road_best (mCons (mV 0) (mCons (mV 1) (mCons (mV 2) mNil)))) (mC (.int 1))))) (sSeq (sRet (m2 dSub (m2 dIx (mV 5) (mV 3)) (mV 4)))
    sNil)
    sNil)
    (sSeq (sRet (mC (.int 0)))
    sNil)))
def p_road_gain (φ_road_best φ_road_gets : List D → Rs D) : List D → Rs D := runM 6 (m_road_gain φ_road_best φ_road_gets)
def P_road_gain (c_Alone : Addr) (c_BadCosts : Addr) (c_NoWay : Addr) : List D → Rs D := p_road_gain (P_road_best c_BadCosts c_NoWay) (P_road_gets c_Alone c_BadCosts c_NoWay)
end Z
set_option Elab.async false
set_option linter.all false
set_option maxRecDepth 100000
set_option maxHeartbeats 4000000
/-! S, part 12: roads: the program's own defs, what they compute. -/
namespace Z
set_option autoImplicit false
open PySem L2
/-! ### data -/
def eN (i : Nat) : D := .int (i : Int)
def eR (p : Nat × Nat) : D := .tup [.int (p.1 : Int), .int (p.2 : Int)]
def rdF (rds : List (Nat × Nat)) (r : Int) : Nat × Nat := rds.getD r.toNat (0, 0)
def wF (costs : List Int) (r : Int) : Int := costs.getD r.toNat 0
abbrev webD (n : Nat) (rds : List (Nat × Nat)) : D := .web (n : Int) (rds.map eR)
abbrev natsD (l : List Nat) : D := .lst (l.map eN)
structure WebOk (n : Nat) (rds : List (Nat × Nat)) : Prop where
  n2 : 2 ≤ n
  n6 : n ≤ 6
  l1 : 1 ≤ rds.length
  l10 : rds.length ≤ 10
  rd : ∀ p ∈ rds, p.1 < n ∧ p.2 < n ∧ p.1 ≠ p.2
structure LeftOk (rds : List (Nat × Nat)) (left : List Int) : Prop where
  len : left.length ≤ 10
  rng : ∀ r ∈ left, 0 ≤ r ∧ r < rds.length
theorem WebOk.at {n : Nat} {rds : List (Nat × Nat)} (h : WebOk n rds) {r : Int} (h0 : 0 ≤ r) (h1 : r < rds.length) : (rdF rds r).1 < n ∧ (rdF rds r).2 < n ∧ (rdF rds r).1 ≠ (rdF rds r).2 := by
  have h2 : r.toNat < rds.length := by omega
  unfold rdF
  rw [List.getD_eq_getElem?_getD, List.getElem?_eq_getElem h2]
  exact h.rd _ (List.getElem_mem h2)
theorem ix_rd {rds : List (Nat × Nat)} {r : Int} (h0 : 0 ≤ r) (h1 : r < rds.length) : dIx (.lst (rds.map eR)) (.int r) = some (eR (rdF rds r)) := by
  have h2 : r.toNat < rds.length := by omega
  rw [dIx_l]
  refine atI_int h0 ?_
  rw [List.getElem?_map, List.getElem?_eq_getElem h2]
  unfold rdF
  rw [List.getD_eq_getElem?_getD, List.getElem?_eq_getElem h2]
  rfl
theorem ix_w {costs : List Int} {r : Int} (h0 : 0 ≤ r) (h1 : r < costs.length) : dIx (.lst (costs.map D.int)) (.int r) = some (.int (wF costs r)) := by
  rw [dIx_l]
  exact atI_row h0 h1
theorem ix_n {part : List Nat} {a : Nat} (h : a < part.length) : dIx (natsD part) (.int (a : Int)) = some (eN (part.getD a 0)) := by
  rw [dIx_l]
  refine atI_nat ?_
  rw [List.getElem?_map, List.getElem?_eq_getElem h, List.getD_eq_getElem?_getD, List.getElem?_eq_getElem h]
  rfl
theorem nats_ints (l : List Nat) : l.map eN = (l.map fun (i : Nat) => (i : Int)).map D.int := by
  rw [List.map_map]
  rfl
theorem dInB_n (t : Nat) (l : List Nat) : dInB (.int (t : Int)) (natsD l) = some (decide (t ∈ l)) := by
  show dInB (.int (t : Int)) (.lst (l.map eN)) = _
  rw [nats_ints, dInB_l]
  congr 1
  refine decide_eq_decide.mpr ?_
  rw [List.mem_map]
  exact ⟨fun ⟨a, h, e⟩ => by have : a = t := by omega
                             rw [← this]; exact h, fun h => ⟨t, h, rfl⟩⟩
theorem dNi_n (t : Nat) (l : List Nat) : dNi (.int (t : Int)) (natsD l) = some (.bl (!decide (t ∈ l))) := by
  unfold dNi
  rw [dInB_n]
  rfl
theorem dIn_two (i a b : Int) : dIn (.int i) (.tup [.int a, .int b]) = some (.bl (decide (i = a ∨ i = b))) := by
  unfold dIn dInB
  have e : asInts [D.int a, D.int b] = some [a, b] := asInts_map [a, b]
  dsimp only
  rw [e]
  show some (D.bl (decide (i ∈ [a, b]))) = _
  congr 2
  exact decide_eq_decide.mpr (by simp)
/-! ### a loop that appends -/
theorem forGo_apps {α : Type} {tg : Tg} {ks : List Nat} {b : Sta → Rs Ou} (en : α → D) (vs : α → List D) (g : G) (i : Nat) : ∀ (xs : List α) (acc : List D), (∀ a ∈ xs, ∃ ps, tg.put' (en a) = .ok ps ∧ ∀ acc' : List D, muFree (some (i, acc')) tg.slots = true ∧ (acc'.length + (vs a).length ≤ LIM → ∃ s', b ⟨setsG g ps, some (i, acc')⟩ = .ok (.nx s') ∧ s'.kill ks = ⟨g, some (i, acc' ++ vs a)⟩)) →
    acc.length + (xs.flatMap vs).length ≤ LIM → forGo tg ks b (xs.map en) ⟨g, some (i, acc)⟩ = .ok (.nx ⟨g, some (i, acc ++ xs.flatMap vs)⟩)
  | [], acc, _, _ => by
    rw [List.flatMap_nil, List.append_nil]
    rfl
  | a :: xs, acc, h, hl => by
    rw [List.flatMap_cons, List.length_append] at hl
    obtain ⟨ps, h1, h2⟩ := h a List.mem_cons_self
    obtain ⟨h3, h4⟩ := h2 acc
    obtain ⟨s', h5, h6⟩ := h4 (by omega)
    have ih := forGo_apps en vs g i xs (acc ++ vs a) (fun x hx => h x (List.mem_cons_of_mem _ hx)) (by rw [List.length_append]; omega)
    rw [List.map_cons]
    unfold forGo
    rw [h1, Rs.bind_ok, if_pos h3]
    show (b ⟨setsG g ps, some (i, acc)⟩).bind _ = _
    rw [h5, Rs.bind_ok]
    show forGo tg ks b (xs.map en) (s'.kill ks) = _
    rw [h6, ih, List.flatMap_cons, List.append_assoc]
/-! ### ways -/
def way1 (rds : List (Nat × Nat)) (go : Nat → List Nat → List (List Int)) (here : Nat) (seen : List Nat) (r : Int) : List (List Int) :=
  if here = (rdF rds r).1 ∨ here = (rdF rds r).2 then (if (rdF rds r).1 + (rdF rds r).2 - here ∈ seen then [] else (go ((rdF rds r).1 + (rdF rds r).2 - here) (seen ++ [(rdF rds r).1 + (rdF rds r).2 - here])).map (r :: ·)) else []
def ways (rds : List (Nat × Nat)) (last : Nat) (left : List Int) : Nat → Nat → List Nat → List (List Int)
  | 0, _, _ => []
  | f + 1, here, seen => if here = last then [[]] else left.flatMap (way1 rds (ways rds last left f) here seen)
theorem flat_len {α β : Type} (f : α → List β) (k : Nat) : ∀ l : List α, (∀ a ∈ l, (f a).length ≤ k) → (l.flatMap f).length ≤ l.length * k
  | [], _ => by simp
  | a :: l, h => by
    rw [List.flatMap_cons, List.length_append, List.length_cons, Nat.succ_mul]
    have := flat_len f k l fun x hx => h x (List.mem_cons_of_mem _ hx)
    have := h a List.mem_cons_self
    omega
theorem ways_len {rds : List (Nat × Nat)} {last : Nat} {left : List Int} (hl : left.length ≤ 10) : ∀ f here seen, (ways rds last left (f + 1) here seen).length ≤ 10 ^ f
  | 0, here, seen => by
    unfold ways
    split
    · exact Nat.le_refl 1
    · have : left.flatMap (way1 rds (ways rds last left 0) here seen) = [] := by
        rw [List.flatMap_eq_nil_iff]
        intro r _
        unfold way1
        split
        · split
          · rfl
          · rfl
        · rfl
      rw [this]
      exact Nat.zero_le _
  | f + 1, here, seen => by
    unfold ways
    split
    · exact Nat.one_le_pow _ _ (by decide)
    · have h1 := flat_len (way1 rds (ways rds last left (f + 1)) here seen) (10 ^ f) left fun r _ => by
        unfold way1
        split
        · split
          · exact Nat.zero_le _
          · rw [List.length_map]
            exact ways_len hl f _ _
        · exact Nat.zero_le _
      refine Nat.le_trans h1 ?_
      rw [Nat.pow_succ, Nat.mul_comm]
      exact Nat.mul_le_mul_left _ hl
theorem ways_row {rds : List (Nat × Nat)} {last : Nat} {left : List Int} : ∀ f here seen, ∀ row ∈ ways rds last left f here seen, row.length < f ∧ ∀ r ∈ row, r ∈ left
  | 0, _, _, row, h => by cases h
  | f + 1, here, seen, row, h => by
    unfold ways at h
    split at h
    · rw [List.mem_singleton.mp h]
      exact ⟨Nat.succ_pos _, fun r hr => nomatch hr⟩
    · obtain ⟨r, hr, h⟩ := List.mem_flatMap.mp h
      unfold way1 at h
      split at h
      · split at h
        · cases h
        · obtain ⟨row', h1, rfl⟩ := List.mem_map.mp h
          obtain ⟨h2, h3⟩ := ways_row f _ _ row' h1
          refine ⟨by rw [List.length_cons]; omega, fun x hx => ?_⟩
          rcases List.mem_cons.mp hx with e | e
          · rw [e]; exact hr
          · exact h3 x e
      · cases h
theorem nodup_lt : ∀ (n : Nat) (l : List Nat), l.Nodup → (∀ x ∈ l, x < n) → l.length ≤ n
  | 0, l, _, h => by
    cases l with
    | nil => exact Nat.le_refl _
    | cons x l => exact absurd (h x List.mem_cons_self) (Nat.not_lt_zero _)
  | n + 1, l, hd, h => by
    have h1 := nodup_lt n (l.erase n) (hd.erase n) fun x hx => by
      have h2 := h x (List.mem_of_mem_erase hx)
      have h3 : x ≠ n := fun e => by
        rw [e] at hx
        exact (List.Nodup.not_mem_erase hd) hx
      omega
    by_cases hm : n ∈ l
    · have := List.length_erase_of_mem hm
      omega
    · rw [List.erase_of_not_mem hm] at h1
      omega
theorem sp_ways {n : Nat} {rds : List (Nat × Nat)} {left : List Int} (hw : WebOk n rds) (hl : LeftOk rds left) : ∀ (f here : Nat) (seen : List Nat), here < n → seen.Nodup → (∀ x ∈ seen, x < n) → n < f + seen.length → f ≤ 7 →
    P_ways_from f [webD n rds, .int (here : Int), natsD seen, .lst (left.map D.int)] = .ok (.lst ((ways rds (n - 1) left f here seen).map intsD))
  | 0, here, seen, _, hd, hs, hf, _ => by
    have := nodup_lt n seen hd hs
    omega
  | f + 1, here, seen, hh, hd, hs, hf, h7 => by
    have n2 := hw.n2
    have n6 := hw.n6
    have en : (n : Int) - 1 = ((n - 1 : Nat) : Int) := by omega
    have sl := nodup_lt n seen hd hs
    have e0 : ∀ g : G, g[0]? = some (some (webD n rds)) → g[1]? = some (some (.int (here : Int))) → mT (m2 dEq (mV 1) (m2 dSub (m1 (dFld ("places" : Str)) (mV 0)) (mC (.int 1)))) g = .ok (decide (here = n - 1)) := fun g h0 h1 => by
      have v0 : mV 0 g = .ok (webD n rds) := by unfold mV; rw [h0]
      have v1 : mV 1 g = .ok (.int (here : Int)) := by unfold mV; rw [h1]
      refine mT_eq (m2_eq v1 (m2_eq (m1_eq v0 rfl) rfl ((dSub_i _ _).trans (by rw [en]))) ((dEq_i _ _).trans ?_))
      congr 2
      exact decide_eq_decide.mpr (by omega)
    unfold P_ways_from p_ways_from ways
    refine runM_rt' ?_
    unfold m_ways_from
    by_cases hlast : here = n - 1
    · rw [if_pos hlast]
      exact sSeq_rt (sIf_t (tst (e0 _ rfl rfl) (decide_eq_true hlast)) (sSeq_rt (sRet_eq (mLst_eq (mCons_eq (mLst_eq rfl) rfl)))))
    · rw [if_neg hlast]
      refine sSeq_eq (sIf_f (tst (e0 _ rfl rfl) (decide_eq_false hlast)) rfl) ?_
      refine sSeq_eq (sNew_eq rfl (by show 4 < 10; decide)) ?_
      let g : G := [some (webD n rds), some (.int (here : Int)), some (natsD seen), some (.lst (left.map D.int)), none, none, none, none, none, none]
      have tot : (left.flatMap fun r => (way1 rds (ways rds (n - 1) left f) here seen r).map intsD) = (left.flatMap (way1 rds (ways rds (n - 1) left f) here seen)).map intsD := by
        rw [List.map_flatMap]
      have big : (left.flatMap (way1 rds (ways rds (n - 1) left f) here seen)).length ≤ LIM := by
        have := ways_len (rds := rds) (last := n - 1) hl.len f here seen
        unfold ways at this
        rw [if_neg hlast] at this
        exact Nat.le_trans this (Nat.le_trans (Nat.pow_le_pow_right (by decide) (show f ≤ 6 by omega)) (by decide))
      refine sSeq_eq (s' := ⟨g, some (4, (left.flatMap (way1 rds (ways rds (n - 1) left f) here seen)).map intsD)⟩) (sFor_eq (mItems_l rfl) ?_) (sSeq_rt (sFrz_eq (sRet_eq rfl)))
      have key := forGo_apps (tg := .one 5) (ks := [5, 6, 7, 8, 9]) (b := (sSeq (sSet2 6 7 (m2 dIx (m1 (dFld ("roads" : Str)) (mV 0)) (mV 5)))
        (sSeq (sIf (mT (m2 dIn (mV 1) (mTup (mCons (mV 6) (mCons (mV 7) mNil))))) (sSeq (sSet 8 (m2 dSub (m2 dAdd (mV 6) (mV 7)) (mV 1)))
        (sSeq (sIf (mT (m2 dNi (mV 8) (mV 2))) (sSeq (sFor (mItems (mCall (fun ds => ((P_ways_from f) ds).nx) (mCons (mV 0) (mCons (mV 8) (mCons (m2 dAdd (mV 2) (mLst (mCons (mV 8) mNil))) (mCons (mV 3) mNil)))))) (.one 9) [6, 7, 8, 9]
        (sSeq (sApp 4 (m2 dAdd (mLst (mCons (mV 5) mNil)) (mV 9)))
        sNil))
        sNil)
        sNil)
        sNil))
        sNil)
        sNil))) D.int (fun r => (way1 rds (ways rds (n - 1) left f) here seen r).map intsD) g 4 left [] ?_ ?_
      · rw [tot] at key
        exact key
      · intro r hr
        refine ⟨[(5, .int r)], rfl, fun acc' => ⟨rfl, fun hacc => ?_⟩⟩
        obtain ⟨r0, r1⟩ := hl.rng r hr
        obtain ⟨a1, a2, a3⟩ := hw.at r0 r1
        have hway : way1 rds (ways rds (n - 1) left f) here seen r = (if here = (rdF rds r).1 ∨ here = (rdF rds r).2 then (if (rdF rds r).1 + (rdF rds r).2 - here ∈ seen then [] else (ways rds (n - 1) left f ((rdF rds r).1 + (rdF rds r).2 - here) (seen ++ [(rdF rds r).1 + (rdF rds r).2 - here])).map (r :: ·)) else []) := rfl
        rw [hway] at hacc ⊢
        have hix : dIx (.lst (rds.map eR)) (.int r) = some (eR (rdF rds r)) := ix_rd r0 r1
        generalize rdF rds r = p at a1 a2 a3 hacc hix ⊢
        obtain ⟨a, b⟩ := p
        dsimp only at a1 a2 a3 hacc ⊢
        let g1 : G := [some (webD n rds), some (.int (here : Int)), some (natsD seen), some (.lst (left.map D.int)), none, some (.int r), some (.int (a : Int)), some (.int (b : Int)), none, none]
        have s1 : sSet2 6 7 (m2 dIx (m1 (dFld ("roads" : Str)) (mV 0)) (mV 5)) ⟨setsG g [(5, .int r)], some (4, acc')⟩ = .ok (.nx ⟨g1, some (4, acc')⟩) := sSet2_eq (m2_eq (m1_eq rfl rfl) rfl hix)
        by_cases hin : here = a ∨ here = b
        · rw [if_pos hin] at hacc ⊢
          have hc1 : mT (m2 dIn (mV 1) (mTup (mCons (mV 6) (mCons (mV 7) mNil)))) g1 = .ok true := mT_eq (m2_eq rfl (mTup_eq (mCons_eq rfl (mCons_eq rfl rfl))) ((dIn_two _ _ _).trans (by rw [decide_eq_true (show (here : Int) = (a : Int) ∨ (here : Int) = (b : Int) by omega)])))
          have et : (a : Int) + (b : Int) - (here : Int) = ((a + b - here : Nat) : Int) := by omega
          have ht : a + b - here < n := by omega
          generalize a + b - here = t at et ht hacc ⊢
          let g2 : G := [some (webD n rds), some (.int (here : Int)), some (natsD seen), some (.lst (left.map D.int)), none, some (.int r), some (.int (a : Int)), some (.int (b : Int)), some (.int (t : Int)), none]
          have s2 : sSet 8 (m2 dSub (m2 dAdd (mV 6) (mV 7)) (mV 1)) ⟨g1, some (4, acc')⟩ = .ok (.nx ⟨g2, some (4, acc')⟩) := sSet_eq (m2_eq (m2_eq rfl rfl (dAdd_i _ _)) rfl ((dSub_i _ _).trans (by rw [et])))
          by_cases hts : t ∈ seen
          · rw [if_pos hts] at hacc ⊢
            refine ⟨_, sSeq_eq s1 (sSeq_nil (sIf_t hc1 (sSeq_eq s2 (sSeq_nil (sIf_f (mT_eq (m2_eq rfl rfl ((dNi_n _ _).trans (by rw [decide_eq_true hts]; rfl)))) rfl))))), ?_⟩
            rw [List.map_nil, List.append_nil]
            rfl
          · rw [if_neg hts] at hacc ⊢
            have hseen : natsD (seen ++ [t]) = .lst (seen.map eN ++ [eN t]) := by
              show D.lst ((seen ++ [t]).map eN) = _
              rw [List.map_append]
              rfl
            have ih := sp_ways hw hl f t (seen ++ [t]) ht (List.nodup_append.mpr ⟨hd, List.nodup_cons.mpr ⟨(fun z => nomatch z), List.nodup_nil⟩, fun x hx y hy => by rw [List.mem_singleton.mp hy]; exact fun z => hts (z ▸ hx)⟩) (fun x hx => by
              rcases List.mem_append.mp hx with z | z
              · exact hs x z
              · rw [List.mem_singleton.mp z]; exact ht) (by rw [List.length_append, List.length_singleton]; omega) (by omega)
            rw [hseen] at ih
            generalize ew : ways rds (n - 1) left f t (seen ++ [t]) = W at hacc ih ⊢
            have hrow : ∀ row ∈ W, row.length < f := fun row h => (ways_row f _ _ row (by rw [ew]; exact h)).1
            let g3 : G := [some (webD n rds), some (.int (here : Int)), some (natsD seen), some (.lst (left.map D.int)), none, some (.int r), none, none, none, none]
            have inner := forGo_apps (tg := .one 9) (ks := [6, 7, 8, 9]) (b := sSeq (sApp 4 (m2 dAdd (mLst (mCons (mV 5) mNil)) (mV 9))) sNil) intsD (fun row => [intsD (r :: row)]) g3 4 W acc' (fun row hrw => ⟨[(9, intsD row)], rfl, fun acc2 => ⟨rfl, fun h2 => ⟨_, sSeq_nil (sApp_eq (m2_eq (mLst_eq (mCons_eq rfl rfl)) rfl (dAdd_l (by
              have := hrow row hrw
              show 1 + (row.map D.int).length ≤ LIM
              rw [List.length_map]
              exact Nat.le_trans (show 1 + row.length ≤ 10 by omega) (by decide)))) (by have h3 : acc2.length + 1 ≤ LIM := h2; omega)), rfl⟩⟩⟩) ?_
            · refine ⟨⟨g3, some (4, acc' ++ W.flatMap fun row => [intsD (r :: row)])⟩, sSeq_eq s1 (sSeq_nil (sIf_t hc1 (sSeq_eq s2 (sSeq_nil (sIf_t (mT_eq (m2_eq rfl rfl ((dNi_n _ _).trans (by rw [decide_eq_false hts]; rfl)))) (sSeq_nil (sFor_eq (mItems_l (mCalln_eq (mCons_eq rfl (mCons_eq rfl (mCons_eq (m2_eq rfl (mLst_eq (mCons_eq rfl rfl)) (dAdd_l (by
                show (seen.map eN).length + 1 ≤ LIM
                rw [List.length_map]
                exact Nat.le_trans (show seen.length + 1 ≤ 10 by omega) (by decide)))) (mCons_eq rfl rfl)))) ih)) inner))))))), ?_⟩
              have e3 : (W.flatMap fun row => [intsD (r :: row)]) = (W.map (r :: ·)).map intsD := by
                rw [List.map_map]
                clear hacc ih hrow inner ew
                induction W with
                | nil => rfl
                | cons x W ih => rw [List.flatMap_cons, ih]; rfl
              rw [e3]
              rfl
            · have e4 : (W.flatMap fun row => [intsD (r :: row)]).length = W.length := by
                clear hacc ih hrow ew
                induction W with
                | nil => rfl
                | cons x W ih => rw [List.flatMap_cons, List.length_append, ih, List.length_cons]; simp [Nat.add_comm]
              rw [e4]
              rw [List.length_map, List.length_map] at hacc
              exact hacc
        · rw [if_neg hin] at hacc ⊢
          have hc1 : mT (m2 dIn (mV 1) (mTup (mCons (mV 6) (mCons (mV 7) mNil)))) g1 = .ok false := mT_eq (m2_eq rfl (mTup_eq (mCons_eq rfl (mCons_eq rfl rfl))) ((dIn_two _ _ _).trans (by rw [decide_eq_false (show ¬ ((here : Int) = (a : Int) ∨ (here : Int) = (b : Int)) by omega)])))
          refine ⟨_, sSeq_eq s1 (sSeq_nil (sIf_f hc1 rfl)), ?_⟩
          rw [List.map_nil, List.append_nil]
          rfl
      · rw [tot, List.length_map]
        exact Nat.le_trans (Nat.le_of_eq (Nat.zero_add _)) big
end Z
set_option Elab.async false
set_option linter.all false
set_option maxRecDepth 100000
set_option maxHeartbeats 4000000
/-! S, part 13: roads: best ways, trees. -/
namespace Z
set_option autoImplicit false
open PySem L2
abbrev Told := Int × List Int
def ltT (p q : Told) : Bool := ltR p.1 p.2 q.1 q.2
def minStep (o : Option Told) (t : Told) : Option Told := match o with
  | none => some t
  | some f => if ltT t f = true then some t else some f
def minOf (l : List Told) : Option Told := l.foldl minStep none
def toldOf (costs : List Int) (row : List Int) : Told := ((row.map (wF costs)).sum, isort row)
def wayF (n : Nat) (rds : List (Nat × Nat)) (costs left : List Int) : Option Told := minOf ((ways rds (n - 1) left 7 0 [0]).map (toldOf costs))
theorem dLtR_p (p q : Told) : dLtR (pairD p) (pairD q) = some (.bl (ltT p q)) := by
  unfold dLtR pairD
  dsimp only
  rw [asInts_map]
  show (Option.map _ (asInts (q.2.map D.int))) = _
  rw [asInts_map]
  rfl
/-- if found is None or told < found: found = told -/
theorem step_eq {g : G} {i j : Nat} {o : Option Told} {t : Told} (hj : g[j]? = some (some (foundD o))) (hi : g[i]? = some (some (pairD t))) : sIf (mOr (mT (m2 dIsN (mV j) (mC .non))) (mT (m2 dLtR (mV i) (mV j)))) (sSeq (sSet j (mV i)) sNil) sNil ⟨g, none⟩ = .ok (.nx ⟨g.set j (some (foundD (minStep o t))), none⟩) := by
  have vj : mV j g = .ok (foundD o) := by unfold mV; rw [hj]
  have vi : mV i g = .ok (pairD t) := by unfold mV; rw [hi]
  cases o with
  | none => exact sIf_t (tst (mOr_eq (l := false) (mT_eq (m2_eq vj rfl (dIsN_found none))) (fun z => nomatch z)) rfl) (sSeq_nil (sSet_eq vi))
  | some f =>
    have h1 : mOr (mT (m2 dIsN (mV j) (mC .non))) (mT (m2 dLtR (mV i) (mV j))) g = .ok (ltT t f) := tst (mOr_eq (mT_eq (m2_eq vj rfl (dIsN_found (some f)))) (fun _ => mT_eq (m2_eq vi vj (dLtR_p t f)))) (Bool.false_or _)
    unfold minStep
    dsimp only
    cases h2 : ltT t f with
    | true =>
      rw [h2] at h1
      exact sIf_t h1 (sSeq_nil (sSet_eq vi))
    | false =>
      rw [h2] at h1
      rw [if_neg Bool.false_ne_true]
      refine (sIf_f h1 rfl).trans ?_
      have e : g.set j (some (foundD (some f))) = g := by
        refine List.ext_getElem? fun k => ?_
        by_cases hk : j = k
        · subst hk
          rw [List.getElem?_set_self (List.getElem?_eq_some_iff.mp hj).1, hj]
        · rw [List.getElem?_set_ne hk]
      rw [e]
      rfl
theorem sum_w {costs : List Int} {vs : List Nat} {i k : Nat} {row : List Int} {g : G} (hv : mV i g = .ok (.lst (row.map D.int))) (hl : row.length ≤ LIM) (hr : ∀ r ∈ row, 0 ≤ r ∧ r < costs.length) {c : Nat}
    (hc : ∀ r : Int, mV c (setsG (killG vs g) [(k, .int r)]) = .ok (.lst (costs.map D.int))) (hk : ∀ r : Int, mV k (setsG (killG vs g) [(k, .int r)]) = .ok (.int r)) : mA dSum (mCons (mLst (mLc vs (mItems (mV i)) (.one k) mYes (m2 dIx (mV c) (mV k)))) mNil) g = .ok (.int (row.map (wF costs)).sum) :=
  mSum_enc D.int (wF costs) row (mItems_l hv) hl fun r h => ⟨[(k, .int r)], rfl, m2_eq (hc r) (hk r) (ix_w (hr r h).1 (hr r h).2)⟩
theorem sp_best_way {n : Nat} {rds : List (Nat × Nat)} {costs left : List Int} (hw : WebOk n rds) (hl : LeftOk rds left) (hc : costs.length = rds.length) : P_best_way [webD n rds, .lst (costs.map D.int), .lst (left.map D.int)] = .ok (foundD (wayF n rds costs left)) := by
  have n2 := hw.n2
  have e0 := sp_ways hw hl 7 0 [0] (by omega) (List.nodup_cons.mpr ⟨(fun z => nomatch z), List.nodup_nil⟩) (fun x hx => by rw [List.mem_singleton.mp hx]; omega) (by have := hw.n6; show n < 7 + 1; omega) (Nat.le_refl _)
  let st : Option Told → Sta := fun o => ⟨[none, some (.lst (costs.map D.int)), none, some (foundD o), none, none, none], none⟩
  unfold P_best_way p_best_way
  refine runM_rt' ?_
  unfold m_best_way
  refine sSeq_eq (sSet_eq rfl) ?_
  refine sSeq_eq (s' := st (wayF n rds costs left)) (sFor_eq (mItems_l (mCalln_eq (mCons_eq rfl (mCons_eq rfl (mCons_eq (mLst_eq (mCons_eq rfl rfl)) (mCons_eq rfl rfl)))) e0)) ?_) (sSeq_rt (sRet_eq rfl))
  unfold wayF minOf
  rw [List.foldl_map]
  have hrow := fun row h => ways_row (rds := rds) (last := n - 1) (left := left) 7 0 [0] row h
  refine forGo_fold (tg := .one 4) intsD st (fun o row => minStep o (toldOf costs row)) (ways rds (n - 1) left 7 0 [0]) none fun row hr o => ?_
  obtain ⟨h1, h2⟩ := hrow row hr
  have h3 : ∀ r ∈ row, 0 ≤ r ∧ r < costs.length := fun r h => by
    have := hl.rng r (h2 r h)
    rw [hc]
    exact this
  refine ⟨[(4, intsD row)], _, rfl, rfl, sSeq_eq (sSet_eq (d := pairD (toldOf costs row)) (mTup_eq (mCons_eq (sum_w rfl (Nat.le_trans (Nat.le_of_lt h1) (by decide)) h3 (fun _ => rfl) fun _ => rfl) (mCons_eq (mA_eq (mCons_eq rfl rfl) (dSorted_l _)) rfl)))) (sSeq_nil (step_eq rfl rfl)), rfl⟩
/-! ### trees -/
def krStep (rds : List (Nat × Nat)) (s : List Nat × List Int) (p : Int × Int) : List Nat × List Int :=
  if s.1.getD (rdF rds p.2).1 0 ≠ s.1.getD (rdF rds p.2).2 0 then (s.1.map fun x => if x = s.1.getD (rdF rds p.2).2 0 then s.1.getD (rdF rds p.2).1 0 else x, s.2 ++ [p.2]) else s
def krF (n : Nat) (rds : List (Nat × Nat)) (costs left : List Int) : List Nat × List Int := (sortP (left.map fun r => (wF costs r, r))).foldl (krStep rds) (List.range n, [])
def treeF (n : Nat) (rds : List (Nat × Nat)) (costs left : List Int) : Option Told := if (krF n rds costs left).2.length < n - 1 then none else some (toldOf costs (krF n rds costs left).2)
theorem kr_len (rds : List (Nat × Nat)) : ∀ (l : List (Int × Int)) (s : List Nat × List Int), (l.foldl (krStep rds) s).1.length = s.1.length ∧ (l.foldl (krStep rds) s).2.length ≤ s.2.length + l.length ∧ ∀ r ∈ (l.foldl (krStep rds) s).2, r ∈ s.2 ∨ ∃ p ∈ l, p.2 = r
  | [], s => ⟨rfl, Nat.le_refl _, fun r h => .inl h⟩
  | p :: l, s => by
    obtain ⟨h1, h2, h3⟩ := kr_len rds l (krStep rds s p)
    rw [List.foldl_cons]
    have h4 : (krStep rds s p).1.length = s.1.length := by
      unfold krStep
      split
      · exact List.length_map _
      · rfl
    have h5 : (krStep rds s p).2.length ≤ s.2.length + 1 := by
      unfold krStep
      split
      · show (s.2 ++ [p.2]).length ≤ _
        rw [List.length_append]
        exact Nat.le_refl _
      · exact Nat.le_succ _
    have h6 : ∀ r ∈ (krStep rds s p).2, r ∈ s.2 ∨ p.2 = r := by
      unfold krStep
      intro r hr
      split at hr
      · rcases List.mem_append.mp hr with z | z
        · exact .inl z
        · exact .inr (List.mem_singleton.mp z).symm
      · exact .inl hr
    refine ⟨h1.trans h4, by rw [List.length_cons]; omega, fun r hr => ?_⟩
    rcases h3 r hr with z | ⟨q, hq, e⟩
    · rcases h6 r z with z | z
      · exact .inl z
      · exact .inr ⟨p, List.mem_cons_self, z⟩
    · exact .inr ⟨q, List.mem_cons_of_mem _ hq, e⟩
theorem dSortedP_l (ps : List (Int × Int)) : dSortedP [.lst (ps.map pairIJ)] = some (.lst ((sortP ps).map pairIJ)) := by
  unfold dSortedP
  dsimp only
  rw [asPairs_map]
  rfl
theorem dListRg_n {n : Nat} (h : n ≤ 1000) : dListRg (.int (n : Int)) = some (natsD (List.range n)) := by
  unfold dListRg
  dsimp only
  rw [if_pos (by omega), rgD_0]
  rfl
theorem sp_best_tree {n : Nat} {rds : List (Nat × Nat)} {costs left : List Int} (hw : WebOk n rds) (hl : LeftOk rds left) (hc : costs.length = rds.length) : P_best_tree [webD n rds, .lst (costs.map D.int), .lst (left.map D.int)] = .ok (foundD (treeF n rds costs left)) := by
  have n2 := hw.n2
  have n6 := hw.n6
  have l10 := hl.len
  let ps := sortP (left.map fun r => (wF costs r, r))
  have hps : ∀ p ∈ ps, p.2 ∈ left := fun p hp => by
    have h1 := (sortP_perm _).mem_iff.mp hp
    obtain ⟨r, hr, e⟩ := List.mem_map.mp h1
    rw [← e]
    exact hr
  have lps : ps.length = left.length := (sortP_perm _).length_eq.trans (List.length_map _)
  let S : Nat → List Nat × List Int := fun i => (ps.take i).foldl (krStep rds) (List.range n, [])
  let st : Nat → Sta := fun i => ⟨[some (webD n rds), some (.lst (costs.map D.int)), none, some (natsD (S i).1), none, none, none, none, none, none, none], some (4, (S i).2.map D.int)⟩
  have hS : ∀ i, (S i).1.length = n ∧ (S i).2.length ≤ i := fun i => by
    obtain ⟨h1, h2, _⟩ := kr_len rds (ps.take i) (List.range n, [])
    refine ⟨h1.trans List.length_range, Nat.le_trans h2 ?_⟩
    rw [List.length_take]
    show 0 + min i ps.length ≤ i
    omega
  have hfin : S ps.length = krF n rds costs left := by
    show (ps.take ps.length).foldl (krStep rds) (List.range n, []) = _
    rw [List.take_length]
    rfl
  have en : (n : Int) - 1 = ((n - 1 : Nat) : Int) := by omega
  unfold P_best_tree p_best_tree
  refine runM_rt' ?_
  unfold m_best_tree
  refine sSeq_eq (sSet_eq (m1_eq (m1_eq rfl rfl) (dListRg_n (by omega)))) ?_
  refine sSeq_eq (sNew_eq rfl (by show 4 < 11; decide)) ?_
  refine sSeq_eq (s' := st ps.length) ?_ ?_
  · have h := sFor_idx (mi := mItems (mA dSortedP (mCons (mLst (mLc [6] (mItems (mV 2)) (.one 6) mYes (mTup (mCons (m2 dIx (mV 1) (mV 6)) (mCons (mV 6) mNil))))) mNil))) (tg := .two 5 6) (ks := [2, 5, 6, 7, 8, 9, 10]) (s := ⟨[some (webD n rds), some (.lst (costs.map D.int)), some (.lst (left.map D.int)), some (natsD (List.range n)), none, none, none, none, none, none, none], some (4, [])⟩)
      (b := (sSeq (sSet2 7 8 (m2 dIx (m1 (dFld ("roads" : Str)) (mV 0)) (mV 6)))
    (sSeq (sIf (mT (m2 dNe (m2 dIx (mV 3) (mV 7)) (m2 dIx (mV 3) (mV 8)))) (sSeq (sSet 9 (m2 dIx (mV 3) (mV 8)))
    (sSeq (sSet 3 (mLst (mLc [10] (mItems (mV 3)) (.one 10) mYes (mIf (mT (m2 dEq (mV 10) (mV 9))) (m2 dIx (mV 3) (mV 7)) (mV 10)))))
    (sSeq (sApp 4 (mV 6))
    sNil)))
    sNil)
    sNil))) st (ps.map pairIJ) ?_ rfl ?_
    · rw [List.length_map] at h
      exact h
    · refine mItems_l (mA_eq (mCons_eq (mLst_eq (mLc_enc D.int (fun r => pairIJ (wF costs r, r)) left (mItems_l rfl) (Nat.le_trans l10 (by decide)) fun r hr => ⟨[(6, .int r)], rfl, mTup_eq (mCons_eq (m2_eq rfl rfl (ix_w (hl.rng r hr).1 (by rw [hc]; exact (hl.rng r hr).2))) (mCons_eq rfl rfl))⟩)) rfl) ?_)
      have e : (left.map fun r => pairIJ (wF costs r, r)) = (left.map fun r => (wF costs r, r)).map pairIJ := by rw [List.map_map]; rfl
      rw [e]
      exact dSortedP_l _
    · intro i d hd
      rw [List.getElem?_map] at hd
      cases hp : ps[i]? with
      | none => rw [hp] at hd; cases hd
      | some p =>
        rw [hp] at hd
        cases hd
        have hpm : p ∈ ps := List.mem_of_getElem? hp
        have hi := (List.getElem?_eq_some_iff.mp hp).1
        obtain ⟨r0, r1⟩ := hl.rng p.2 (hps p hpm)
        obtain ⟨a1, a2, a3⟩ := hw.at r0 r1
        have hix : dIx (.lst (rds.map eR)) (.int p.2) = some (eR (rdF rds p.2)) := ix_rd r0 r1
        have hnext : S (i + 1) = krStep rds (S i) p := by
          show (ps.take (i + 1)).foldl (krStep rds) (List.range n, []) = _
          rw [List.take_succ, hp, List.foldl_append]
          rfl
        obtain ⟨z1, z2⟩ := hS i
        have est : st (i + 1) = ⟨[some (webD n rds), some (.lst (costs.map D.int)), none, some (natsD (krStep rds (S i) p).1), none, none, none, none, none, none, none], some (4, (krStep rds (S i) p).2.map D.int)⟩ := by
          show (⟨[some (webD n rds), some (.lst (costs.map D.int)), none, some (natsD (S (i + 1)).1), none, none, none, none, none, none, none], some (4, (S (i + 1)).2.map D.int)⟩ : Sta) = _
          rw [hnext]
        rw [est]
        have ei : st i = ⟨[some (webD n rds), some (.lst (costs.map D.int)), none, some (natsD (S i).1), none, none, none, none, none, none, none], some (4, (S i).2.map D.int)⟩ := rfl
        rw [ei]
        have z3 : (S i).2.length ≤ LIM := Nat.le_trans z2 (Nat.le_trans (show i ≤ 10 by omega) (by decide))
        generalize S i = s at z1 z3 ⊢
        clear hnext est ei
        obtain ⟨part, ch⟩ := s
        have hk : krStep rds (part, ch) p = if part.getD (rdF rds p.2).1 0 ≠ part.getD (rdF rds p.2).2 0 then (part.map fun x => if x = part.getD (rdF rds p.2).2 0 then part.getD (rdF rds p.2).1 0 else x, ch ++ [p.2]) else (part, ch) := rfl
        rw [hk]
        generalize rdF rds p.2 = q at a1 a2 a3 hix ⊢
        obtain ⟨a, b⟩ := q
        obtain ⟨c, r⟩ := p
        dsimp only at a1 a2 a3 hix z1 z3 ⊢
        have ia : dIx (natsD part) (.int (a : Int)) = some (eN (part.getD a 0)) := ix_n (by rw [z1]; exact a1)
        have ib : dIx (natsD part) (.int (b : Int)) = some (eN (part.getD b 0)) := ix_n (by rw [z1]; exact a2)
        generalize part.getD a 0 = pa at ia ⊢
        generalize part.getD b 0 = pb at ib ⊢
        let g1 : G := [some (webD n rds), some (.lst (costs.map D.int)), none, some (natsD part), none, some (.int c), some (.int r), some (.int (a : Int)), some (.int (b : Int)), none, none]
        have s1 : sSet2 7 8 (m2 dIx (m1 (dFld ("roads" : Str)) (mV 0)) (mV 6)) ⟨[some (webD n rds), some (.lst (costs.map D.int)), none, some (natsD part), none, some (.int c), some (.int r), none, none, none, none], some (4, ch.map D.int)⟩ = .ok (.nx ⟨g1, some (4, ch.map D.int)⟩) := sSet2_eq (m2_eq (m1_eq rfl rfl) rfl hix)
        refine ⟨[(5, .int c), (6, .int r)], rfl, rfl, ?_⟩
        by_cases hne : pa = pb
        · rw [if_neg (fun z => z hne)]
          exact ⟨_, sSeq_eq s1 (sSeq_nil (sIf_f (mT_eq (m2_eq (m2_eq rfl rfl ia) (m2_eq rfl rfl ib) (dNe_f (by rw [hne])))) rfl)), rfl⟩
        · rw [if_pos hne]
          dsimp only
          refine ⟨_, sSeq_eq s1 (sSeq_nil (sIf_t (mT_eq (m2_eq (m2_eq rfl rfl ia) (m2_eq rfl rfl ib) (dNe_t (by omega)))) (sSeq_eq (sSet_eq (m2_eq rfl rfl ib)) (sSeq_eq (sSet_eq (mLst_eq (mLc_enc eN (fun x => eN (if x = pb then pa else x)) part (mItems_l rfl) (by rw [z1]; exact Nat.le_trans n6 (by decide)) fun x hx => ⟨[(10, eN x)], rfl, ?_⟩))) (sSeq_nil (sApp_eq rfl (by rw [List.length_map]; exact z3))))))), ?_⟩
          · by_cases hx : x = pb
            · rw [if_pos hx]
              exact mIf_t (mT_eq (m2_eq rfl rfl (dEq_t (by rw [hx])))) (m2_eq rfl rfl ia)
            · rw [if_neg hx]
              exact mIf_f (mT_eq (m2_eq rfl rfl (dEq_f (by omega)))) rfl
          · have e1 : natsD (part.map fun x => if x = pb then pa else x) = .lst (part.map fun x => eN (if x = pb then pa else x)) := by
              show D.lst (List.map eN _) = _
              rw [List.map_map]
              rfl
            have e2 : (ch ++ [r]).map D.int = ch.map D.int ++ [.int r] := by rw [List.map_append]; rfl
            rw [e1, e2]
            rfl
  · have est : st ps.length = ⟨[some (webD n rds), some (.lst (costs.map D.int)), none, some (natsD (krF n rds costs left).1), none, none, none, none, none, none, none], some (4, (krF n rds costs left).2.map D.int)⟩ := by
      show (⟨[some (webD n rds), some (.lst (costs.map D.int)), none, some (natsD (S ps.length).1), none, none, none, none, none, none, none], some (4, (S ps.length).2.map D.int)⟩ : Sta) = _
      rw [hfin]
    rw [est]
    have hlen := (hS ps.length).2
    rw [hfin] at hlen
    have hin : ∀ r ∈ (krF n rds costs left).2, 0 ≤ r ∧ r < costs.length := fun r hr => by
      obtain ⟨_, _, h3⟩ := kr_len rds ps (List.range n, [])
      rcases h3 r hr with z | ⟨p, hp, e⟩
      · cases z
      · rw [← e, hc]
        exact hl.rng _ (hps p hp)
    unfold treeF
    generalize krF n rds costs left = k at hlen hin ⊢
    obtain ⟨part, ch⟩ := k
    dsimp only at hlen hin ⊢
    have hch : ch.length ≤ 10 := by omega
    by_cases hlt : ch.length < n - 1
    · rw [if_pos hlt]
      exact sSeq_rt (sFrz_eq (sIf_t (mT_eq (m2_eq (mA_eq (mCons_eq rfl rfl) (dLen_map _ _)) (m2_eq (m1_eq rfl rfl) rfl (dSub_i _ _)) (dLt_t (by omega)))) (sSeq_rt (sRet_eq rfl))))
    · rw [if_neg hlt]
      refine sSeq_eq (sFrz_eq (sIf_f (mT_eq (m2_eq (mA_eq (mCons_eq rfl rfl) (dLen_map _ _)) (m2_eq (m1_eq rfl rfl) rfl (dSub_i _ _)) (dLt_f (by omega)))) rfl)) ?_
      exact sSeq_nil (sFrz_eq (sRet_eq (mTup_eq (mCons_eq (sum_w (k := 6) (c := 1) rfl (Nat.le_trans hch (by decide)) hin (fun _ => rfl) fun _ => rfl) (mCons_eq (mA_eq (mCons_eq rfl rfl) (dSorted_l _)) rfl)))))
end Z
set_option Elab.async false
set_option linter.all false
set_option maxRecDepth 100000
set_option maxHeartbeats 4000000
/-! S, part 14: roads: what the program's calls tell. -/
namespace Z
set_option autoImplicit false
open PySem L2
def kindD (way : Bool) : D := .str (if way = true then "way" else "tree")
theorem deq_s (x y : Str) (hx : PyData.strOk x = true) (hy : PyData.strOk y = true) : deq (.str x) (.str y) = some (decide (x = y)) := by
  have e : PyData.eqv (.str x) (.str y) = decide (x = y) := by
    simp [PyData.eqv]
    rfl
  have h1 : ∀ z : Str, PyData.strOk z = true → SeqAt.shaped (.str z) = true := fun z hz => by
    show ((PyData.str z).canLay0 && decide ((PyData.str z).depth ≤ 64)) = true
    simp [PyData.canLay0, PyData.depth, hz]
  show (if SeqAt.shaped (.str x) = true ∧ SeqAt.shaped (.str y) = true then some (PyData.eqv (.str x) (.str y)) else none) = _
  rw [if_pos ⟨h1 x hx, h1 y hy⟩, e]
theorem dEq_s (x y : Str) (hx : PyData.strOk x = true) (hy : PyData.strOk y = true) : dEq (.str x) (.str y) = some (.bl (decide (x = y))) := dEq_of (deq_s x y hx hy)
theorem okWay : PyData.strOk ("way" : Str) = true := by decide +kernel
theorem okTree : PyData.strOk ("tree" : Str) = true := by decide +kernel
theorem dEq_way (way : Bool) : dEq (kindD way) (.str ("way" : Str)) = some (.bl way) := by
  cases way
  · show dEq (.str ("tree" : Str)) (.str ("way" : Str)) = _
    rw [dEq_s _ _ okTree okWay, decide_eq_false (by decide +kernel)]
  · show dEq (.str ("way" : Str)) (.str ("way" : Str)) = _
    rw [dEq_s _ _ okWay okWay, decide_eq_true rfl]
def bestF (way : Bool) (n : Nat) (rds : List (Nat × Nat)) (costs left : List Int) : Option Told := if way = true then wayF n rds costs left else treeF n rds costs left
theorem sp_best_by {n : Nat} {rds : List (Nat × Nat)} {costs left : List Int} (way : Bool) (hw : WebOk n rds) (hl : LeftOk rds left) (hc : costs.length = rds.length) : P_best_by [webD n rds, kindD way, .lst (costs.map D.int), .lst (left.map D.int)] = .ok (foundD (bestF way n rds costs left)) := by
  unfold P_best_by p_best_by
  refine runM_rt' ?_
  unfold m_best_by
  have h : mT (m2 dEq (mV 1) (mC (.str ("way" : Str)))) (startG 4 [webD n rds, kindD way, .lst (costs.map D.int), .lst (left.map D.int)]) = .ok way := mT_eq (m2_eq rfl rfl (dEq_way way))
  cases way with
  | true => exact sSeq_rt (sIf_t h (sSeq_rt (sRet_eq (mCalln_eq (mCons_eq rfl (mCons_eq rfl (mCons_eq rfl rfl))) (sp_best_way hw hl hc)))))
  | false => exact sSeq_eq (sIf_f h rfl) (sSeq_rt (sRet_eq (mCalln_eq (mCons_eq rfl (mCons_eq rfl (mCons_eq rfl rfl))) (sp_best_tree hw hl hc))))
/-! ### the costs -/
def costsOk (rds : List (Nat × Nat)) (costs : List Int) : Bool := decide (costs.length = rds.length) && numOk costs
theorem sp_check_costs (c : Addr) (n : Nat) (rds : List (Nat × Nat)) (costs : List Int) (hl : costs.length ≤ LIM) : P_check_costs c [webD n rds, .lst (costs.map D.int)] = if costsOk rds costs = true then .ok .non else .ex c none := by
  have hc : mOr (mT (m2 dNe (mA dLen (mCons (mV 1) mNil)) (mA dLen (mCons (m1 (dFld ("roads" : Str)) (mV 0)) mNil)))) (mNot (mT (mCall (fun ds => (P_numbers_right ds).nx) (mCons (mV 1) mNil)))) (startG 2 [webD n rds, .lst (costs.map D.int)]) = .ok (!costsOk rds costs) := by
    refine tst (mOr_eq (mT_eq (m2_eq (mA_eq (mCons_eq rfl rfl) (dLen_map _ _)) (mA_eq (mCons_eq (m1_eq rfl rfl) rfl) (dLen_map _ _)) (dNe_i _ _))) fun _ => mNot_eq (mT_eq (mCalln_eq (mCons_eq rfl rfl) (sp_numbers_right costs hl)))) ?_
    unfold costsOk
    have d1 : decide ((costs.length : Int) = (rds.length : Int)) = decide (costs.length = rds.length) := decide_eq_decide.mpr (by omega)
    rw [d1]
    cases decide (costs.length = rds.length) <;> cases numOk costs <;> rfl
  unfold P_check_costs p_check_costs
  cases q : costsOk rds costs with
  | false =>
    rw [q] at hc
    rw [if_neg Bool.false_ne_true]
    exact runM_ex (sSeq_ex (sIf_t hc rfl))
  | true =>
    rw [q] at hc
    rw [if_pos rfl]
    exact runM_nx (sSeq_nil (sIf_f hc rfl))
def allR (m : Nat) : List Int := (List.range m).map fun (i : Nat) => (i : Int)
theorem allR_len (m : Nat) : (allR m).length = m := by unfold allR; rw [List.length_map, List.length_range]
theorem allR_mem {m : Nat} {r : Int} : r ∈ allR m ↔ 0 ≤ r ∧ r < m := by
  unfold allR
  rw [List.mem_map]
  constructor
  · rintro ⟨i, hi, rfl⟩
    have := List.mem_range.mp hi
    omega
  · rintro ⟨h0, h1⟩
    exact ⟨r.toNat, List.mem_range.mpr (by omega), by omega⟩
theorem allR_D (m : Nat) : (List.range m).map (fun (i : Nat) => D.int (i : Int)) = (allR m).map D.int := by
  unfold allR
  rw [List.map_map]
  rfl
theorem allR_ok {n : Nat} {rds : List (Nat × Nat)} (hw : WebOk n rds) : LeftOk rds (allR rds.length) := ⟨by rw [allR_len]; exact hw.l10, fun r hr => allR_mem.mp hr⟩
theorem dListRg_a {m : Nat} (h : m ≤ 1000) : dListRg (.int (m : Int)) = some (.lst ((allR m).map D.int)) := by
  rw [dListRg_n h, ← allR_D]
  rfl
/-- what road_best finds -/
def topF (way : Bool) (n : Nat) (rds : List (Nat × Nat)) (costs : List Int) : Option Told := bestF way n rds costs (allR rds.length)
theorem sp_road_best {n : Nat} {rds : List (Nat × Nat)} {costs : List Int} (way : Bool) (hw : WebOk n rds) (hl : costs.length ≤ LIM) (cB cN : Addr) : P_road_best cB cN [webD n rds, kindD way, .lst (costs.map D.int)] =
    if costsOk rds costs = true then (match topF way n rds costs with | none => .ex cN none | some p => .ok (pairD p)) else .ex cB none := by
  have e0 := sp_check_costs cB n rds costs hl
  unfold P_road_best p_road_best
  cases q : costsOk rds costs with
  | false =>
    rw [q, if_neg Bool.false_ne_true] at e0
    rw [if_neg Bool.false_ne_true]
    exact runM_ex (sSeq_ex (sExp_ex (mCall_ex (mCons_eq rfl (mCons_eq rfl rfl)) e0)))
  | true =>
    rw [q, if_pos rfl] at e0
    rw [if_pos rfl]
    have hlen : costs.length = rds.length := by
      unfold costsOk at q
      exact of_decide_eq_true (Bool.and_eq_true_iff.mp q).1
    have l10 := hw.l10
    have e1 := sp_best_by way hw (allR_ok hw) hlen
    have s1 : sSet 3 (mCall (fun ds => (P_best_by ds).nx) (mCons (mV 0) (mCons (mV 1) (mCons (mV 2) (mCons (m1 dListRg (mA dLen (mCons (mV 2) mNil))) mNil))))) ⟨startG 4 [webD n rds, kindD way, .lst (costs.map D.int)], none⟩ = .ok (.nx ⟨[some (webD n rds), some (kindD way), some (.lst (costs.map D.int)), some (foundD (topF way n rds costs))], none⟩) := by
      refine sSet_eq (mCalln_eq (mCons_eq rfl (mCons_eq rfl (mCons_eq rfl (mCons_eq (m1_eq (mA_eq (mCons_eq rfl rfl) (dLen_map _ _)) ?_) rfl)))) e1)
      rw [hlen]
      exact dListRg_a (by omega)
    have s0 : sExp (mCall (P_check_costs cB) (mCons (mV 0) (mCons (mV 2) mNil))) ⟨startG 4 [webD n rds, kindD way, .lst (costs.map D.int)], none⟩ = .ok (.nx ⟨startG 4 [webD n rds, kindD way, .lst (costs.map D.int)], none⟩) := sExp_eq (mCall_eq (mCons_eq rfl (mCons_eq rfl rfl)) e0)
    cases hb : topF way n rds costs with
    | none =>
      rw [hb] at s1
      exact runM_ex (sSeq_eq s0 (sSeq_eq s1 (sSeq_ex (sIf_t (mT_eq (m2_eq rfl rfl (dIsN_found none))) rfl))))
    | some p =>
      rw [hb] at s1
      exact runM_rt (sSeq_eq s0 (sSeq_eq s1 (sSeq_eq (sIf_f (mT_eq (m2_eq rfl rfl (dIsN_found (some p)))) rfl) (sSeq_rt (sRet_eq rfl)))))
/-! ### a loop that goes on until something is found -/
theorem forGo_find {α β : Type} {tg : Tg} {ks : List Nat} {b : Sta → Rs Ou} (en : α → D) (st : β → Sta) (f : β → α → β) (bad : α → Bool) (r : α → Rs Ou) (hr : ∀ a s, r a ≠ .ok (.nx s) ∧ r a ≠ .ok (.ct s) ∧ r a ≠ .ok (.bk s)) (Pr : β → Prop) : ∀ (xs : List α) (x : β), Pr x →
    (∀ a ∈ xs, ∀ x, Pr x → ∃ ps, tg.put' (en a) = .ok ps ∧ muFree (st x).mu tg.slots = true ∧ (bad a = true → b ((st x).sets ps) = r a) ∧ (bad a = false → Pr (f x a) ∧ ∃ s', b ((st x).sets ps) = .ok (.nx s') ∧ s'.kill ks = st (f x a))) →
    forGo tg ks b (xs.map en) (st x) = match xs.find? bad with | some a => r a | none => .ok (.nx (st (xs.foldl f x)))
  | [], x, _, _ => rfl
  | a :: xs, x, hp, h => by
    obtain ⟨ps, h1, h2, h3, h4⟩ := h a List.mem_cons_self x hp
    rw [List.map_cons]
    unfold forGo
    rw [h1, Rs.bind_ok, if_pos h2]
    cases q : bad a with
    | true =>
      rw [h3 q, List.find?_cons_of_pos q]
      show (r a).bind _ = r a
      cases e : r a with
      | ok o =>
        cases o with
        | nx s => exact absurd e (hr a s).1
        | ct s => exact absurd e (hr a s).2.1
        | bk s => exact absurd e (hr a s).2.2
        | rt d => rfl
      | ex c z => rfl
      | no => rfl
    | false =>
      obtain ⟨h5, s', h6, h7⟩ := h4 q
      rw [h6, Rs.bind_ok, List.find?_cons_of_neg (by rw [q]; exact Bool.false_ne_true)]
      show forGo tg ks b (xs.map en) (s'.kill ks) = _
      rw [h7, forGo_find en st f bad r hr Pr xs (f x a) h5 fun y hy => h y (List.mem_cons_of_mem _ hy)]
      rfl
theorem sPut_eq {i : Nat} {k e : G → Rs D} {g : G} {ds : List D} {d : D} {n : Nat} (h1 : e g = .ok d) (h2 : k g = .ok (.int (n : Int))) (hn : n < ds.length) : sPut i k e ⟨g, some (i, ds)⟩ = .ok (.nx ⟨g, some (i, ds.set n d)⟩) := by
  unfold sPut
  dsimp only
  rw [if_pos rfl, h1, Rs.bind_ok, h2, Rs.bind_ok]
  have e : ixN ds.length (n : Int) = some n := by
    unfold ixN
    rw [if_pos (by omega), if_pos (by omega), Int.toNat_natCast]
  dsimp only
  rw [e]
theorem zeros_new {g : G} {a : G → Rs D} {n : Nat} (hn : n ≤ 1000) (h : a g = .ok (.int (n : Int))) : mLs2 dRepL (mLst (mCons (mC (.int 0)) mNil)) a g = .ok ((List.replicate n (0 : Int)).map D.int) := by
  unfold mLs2
  rw [mLst_eq (xs := [.int 0]) (mCons_eq rfl rfl), Rs.bind_ok, h, Rs.bind_ok]
  have e : dRepL (.lst [.int 0]) (.int (n : Int)) = some (List.replicate n [D.int 0]).flatten := by
    unfold dRepL
    dsimp only
    rw [if_pos ⟨by omega, by omega, by show 1 * ((n : Int)).toNat ≤ LIM; rw [Int.toNat_natCast]; exact Nat.le_trans (show 1 * n ≤ 1000 by omega) (by decide)⟩, Int.toNat_natCast]
  rw [e, rep_flat, ← rep_map]
  rfl
end Z
set_option Elab.async false
set_option linter.all false
set_option maxRecDepth 100000
set_option maxHeartbeats 4000000
/-! S, part 15: roads: what owners get, gains. -/
namespace Z
set_option autoImplicit false
open PySem L2
theorem minStep_mem (t : Told) (o : Option Told) : ∃ f, minStep o t = some f ∧ (f = t ∨ o = some f) := by
  cases o with
  | none => exact ⟨t, rfl, .inl rfl⟩
  | some f =>
    unfold minStep
    dsimp only
    split
    · exact ⟨t, rfl, .inl rfl⟩
    · exact ⟨f, rfl, .inr rfl⟩
theorem minOf_mem0 : ∀ (l : List Told) (o : Option Told) (t : Told), l.foldl minStep o = some t → t ∈ l ∨ o = some t
  | [], o, t, h => .inr h
  | x :: l, o, t, h => by
    rw [List.foldl_cons] at h
    rcases minOf_mem0 l _ t h with z | z
    · exact .inl (List.mem_cons_of_mem _ z)
    · obtain ⟨f, e, z2⟩ := minStep_mem x o
      rw [e] at z
      cases z
      rcases z2 with z2 | z2
      · exact .inl (by rw [z2]; exact List.mem_cons_self)
      · exact .inr z2
theorem minOf_mem {l : List Told} {t : Told} (h : minOf l = some t) : t ∈ l := by
  rcases minOf_mem0 l none t h with z | z
  · exact z
  · cases z
theorem best_row {way : Bool} {n : Nat} {rds : List (Nat × Nat)} {costs left : List Int} {p : Told} (h : bestF way n rds costs left = some p) : ∃ row, p = toldOf costs row ∧ ∀ r ∈ row, r ∈ left := by
  unfold bestF at h
  split at h
  · have h1 := minOf_mem h
    obtain ⟨row, h2, h3⟩ := List.mem_map.mp h1
    exact ⟨row, h3.symm, (ways_row _ _ _ row h2).2⟩
  · unfold treeF at h
    split at h
    · cases h
    · cases h
      refine ⟨_, rfl, fun r hr => ?_⟩
      obtain ⟨_, _, h3⟩ := kr_len rds (sortP (left.map fun r => (wF costs r, r))) (List.range n, [])
      rcases h3 r hr with z | ⟨q, hq, e⟩
      · cases z
      · have h1 := (sortP_perm _).mem_iff.mp hq
        obtain ⟨r', hr', e'⟩ := List.mem_map.mp h1
        rw [← e, ← e']
        exact hr'
theorem best_in {way : Bool} {n : Nat} {rds : List (Nat × Nat)} {costs left : List Int} {p : Told} (h : bestF way n rds costs left = some p) : ∀ r ∈ p.2, r ∈ left := by
  obtain ⟨row, rfl, h1⟩ := best_row h
  exact fun r hr => h1 r ((isort_perm row).mem_iff.mp hr)
/-! ### what owners get -/
def othersR (m : Nat) (r : Int) : List Int := (allR m).filter fun x => !decide (x = r)
theorem othersR_ok {n : Nat} {rds : List (Nat × Nat)} (hw : WebOk n rds) (r : Int) : LeftOk rds (othersR rds.length r) := ⟨Nat.le_trans (List.length_filter_le _ _) (allR_ok hw).len, fun x hx => (allR_ok hw).rng x (List.mem_filter.mp hx).1⟩
def woF (way : Bool) (n : Nat) (rds : List (Nat × Nat)) (costs : List Int) (r : Int) : Option Told := bestF way n rds costs (othersR rds.length r)
def valF (way : Bool) (n : Nat) (rds : List (Nat × Nat)) (costs : List Int) (tot r : Int) : Int := (match woF way n rds costs r with | some p => p.1 | none => 0) - tot + wF costs r
def getsL (f : Int → Int) (m : Nat) (ch : List Int) : List Int := ch.foldl (fun l r => l.set r.toNat (f r)) (List.replicate m 0)
theorem sets_len (f : Int → Int) : ∀ (ch l : List Int), (ch.foldl (fun l r => l.set r.toNat (f r)) l).length = l.length
  | [], l => rfl
  | r :: ch, l => by rw [List.foldl_cons, sets_len f ch, List.length_set]
theorem getsL_len (f : Int → Int) (m : Nat) (ch : List Int) : (getsL f m ch).length = m := by
  unfold getsL
  rw [sets_len, List.length_replicate]
theorem sAlone_eq {c : Addr} {m : G → Rs D} {s : Sta} {r : Int} (h : m s.g = .ok (.int r)) : sAlone c m s = .ex c (some r) := by
  unfold sAlone
  rw [h]
  rfl
/-- [other for other in range(m) if other != road] -/
theorem others_lc {m : Nat} {r : Int} {g : G} {a : G → Rs D} (hm : m ≤ 1000) (ha : a g = .ok (.int (m : Int))) (h6 : ∀ i : Int, mV 6 (setsG (killG [9] g) [(9, .int i)]) = .ok (.int r)) (h9 : ∀ i : Int, mV 9 (setsG (killG [9] g) [(9, .int i)]) = .ok (.int i)) :
    mLst (mLc [9] (mRng1 (mCons a mNil)) (.one 9) (mT (m2 dNe (mV 9) (mV 6))) (mV 9)) g = .ok (.lst ((othersR m r).map D.int)) := by
  refine (mLst_eq (mLc_encF D.int (fun x => !decide (x = r)) D.int (allR m) ?_ (by rw [allR_len]; exact Nat.le_trans hm (by decide)) fun x _ => ⟨[(9, .int x)], rfl, mT_eq (m2_eq (h9 x) (h6 x) (dNe_i _ _)), fun _ => h9 x⟩)).trans rfl
  rw [← allR_D]
  exact rng1_nat (Nat.le_trans hm (by decide)) (mCons_eq ha rfl)
def getsR (way : Bool) (n : Nat) (rds : List (Nat × Nat)) (costs : List Int) (cA cB cN : Addr) : Rs (List Int) :=
  if costsOk rds costs = true then (match topF way n rds costs with
    | none => .ex cN none
    | some p => (match p.2.find? (fun r => (woF way n rds costs r).isNone) with
      | some r => .ex cA (some r)
      | none => .ok (getsL (valF way n rds costs p.1) rds.length p.2)))
  else .ex cB none
theorem sp_road_gets {n : Nat} {rds : List (Nat × Nat)} {costs : List Int} (way : Bool) (hw : WebOk n rds) (hl : costs.length ≤ LIM) (cA cB cN : Addr) : P_road_gets cA cB cN [webD n rds, kindD way, .lst (costs.map D.int)] = (getsR way n rds costs cA cB cN).bind fun l => .ok (.lst (l.map D.int)) := by
  have e0 := sp_road_best way hw hl cB cN
  unfold P_road_gets p_road_gets getsR
  cases q : costsOk rds costs with
  | false =>
    rw [q, if_neg Bool.false_ne_true] at e0
    rw [if_neg Bool.false_ne_true]
    refine runM_ex (sSeq_ex ?_)
    unfold sSet2
    rw [mCall_ex (mCons_eq rfl (mCons_eq rfl (mCons_eq rfl rfl))) e0]
    rfl
  | true =>
    rw [q, if_pos rfl] at e0
    rw [if_pos rfl]
    have hlen : costs.length = rds.length := by
      unfold costsOk at q
      exact of_decide_eq_true (Bool.and_eq_true_iff.mp q).1
    have l10 := hw.l10
    cases hb : topF way n rds costs with
    | none =>
      rw [hb] at e0
      refine runM_ex (sSeq_ex ?_)
      unfold sSet2
      rw [mCall_ex (mCons_eq rfl (mCons_eq rfl (mCons_eq rfl rfl))) e0]
      rfl
    | some p =>
      rw [hb] at e0
      obtain ⟨tot, ch⟩ := p
      have hin : ∀ r ∈ ch, 0 ≤ r ∧ r < rds.length := fun r hr => allR_mem.mp (best_in hb r hr)
      let st : List Int → Sta := fun l => ⟨[some (webD n rds), some (kindD way), some (.lst (costs.map D.int)), some (.int tot), none, none, none, none, none, none], some (5, l.map D.int)⟩
      have s1 : sSet2 3 4 (mCall (P_road_best cB cN) (mCons (mV 0) (mCons (mV 1) (mCons (mV 2) mNil)))) ⟨startG 10 [webD n rds, kindD way, .lst (costs.map D.int)], none⟩ = .ok (.nx ⟨[some (webD n rds), some (kindD way), some (.lst (costs.map D.int)), some (.int tot), some (.lst (ch.map D.int)), none, none, none, none, none], none⟩) := sSet2_eq (mCall_eq (mCons_eq rfl (mCons_eq rfl (mCons_eq rfl rfl))) e0)
      have s2 : sNew 5 (mLs2 dRepL (mLst (mCons (mC (.int 0)) mNil)) (mA dLen (mCons (mV 2) mNil))) ⟨[some (webD n rds), some (kindD way), some (.lst (costs.map D.int)), some (.int tot), some (.lst (ch.map D.int)), none, none, none, none, none], none⟩ = .ok (.nx ⟨[some (webD n rds), some (kindD way), some (.lst (costs.map D.int)), some (.int tot), some (.lst (ch.map D.int)), none, none, none, none, none], some (5, (List.replicate rds.length (0 : Int)).map D.int)⟩) :=
        sNew_eq (zeros_new (by omega) (mA_eq (mCons_eq rfl rfl) ((dLen_map _ _).trans (by rw [hlen])))) (by show 5 < 10; decide)
      have key := forGo_find (tg := .one 6) (ks := [4, 6, 7, 8, 9]) (b := sSeq (sSet 7 (mLst (mLc [9] (mRng1 (mCons (mA dLen (mCons (mV 2) mNil)) mNil)) (.one 9) (mT (m2 dNe (mV 9) (mV 6))) (mV 9))))
    (sSeq (sSet 8 (mCall (fun ds => (P_best_by ds).nx) (mCons (mV 0) (mCons (mV 1) (mCons (mV 2) (mCons (mV 7) mNil))))))
    (sSeq (sIf (mT (m2 dIsN (mV 8) (mC .non))) (sSeq (sAlone cA (mV 6))
    sNil)
    sNil)
    (sSeq (sPut 5 (mV 6) (m2 dAdd (m2 dSub (m2 dIx (mV 8) (mC (.int 0))) (mV 3)) (m2 dIx (mV 2) (mV 6))))
    sNil)))) D.int st (fun l r => l.set r.toNat (valF way n rds costs tot r)) (fun r => (woF way n rds costs r).isNone) (fun r => .ex cA (some r)) (fun a s => ⟨(fun z => nomatch z), (fun z => nomatch z), (fun z => nomatch z)⟩) (fun l => l.length = rds.length) ch (List.replicate rds.length 0) List.length_replicate fun r hr l hll => ?_
      · dsimp only
        cases hf : ch.find? (fun r => (woF way n rds costs r).isNone) with
        | some r =>
          rw [hf] at key
          exact runM_ex (sSeq_eq s1 (sSeq_eq s2 (sSeq_ex (sFor_eq (mItems_l rfl) key))))
        | none =>
          rw [hf] at key
          exact runM_rt (sSeq_eq s1 (sSeq_eq s2 (sSeq_eq (sFor_eq (mItems_l rfl) key) (sSeq_nil (sFrz_eq (sRet_eq rfl))))))
      · obtain ⟨r0, r1⟩ := hin r hr
        have e1 := sp_best_by way hw (othersR_ok hw r) hlen
        have ew : bestF way n rds costs (othersR rds.length r) = woF way n rds costs r := rfl
        rw [ew] at e1
        refine ⟨[(6, .int r)], rfl, rfl, ?_⟩
        have t1 : sSet 7 (mLst (mLc [9] (mRng1 (mCons (mA dLen (mCons (mV 2) mNil)) mNil)) (.one 9) (mT (m2 dNe (mV 9) (mV 6))) (mV 9))) ⟨[some (webD n rds), some (kindD way), some (.lst (costs.map D.int)), some (.int tot), none, none, some (.int r), none, none, none], some (5, l.map D.int)⟩ =
            .ok (.nx ⟨[some (webD n rds), some (kindD way), some (.lst (costs.map D.int)), some (.int tot), none, none, some (.int r), some (.lst ((othersR rds.length r).map D.int)), none, none], some (5, l.map D.int)⟩) :=
          sSet_eq (others_lc (m := rds.length) (by omega) (mA_eq (mCons_eq rfl rfl) ((dLen_map _ _).trans (by rw [hlen]))) (fun _ => rfl) fun _ => rfl)
        have t2 : sSet 8 (mCall (fun ds => (P_best_by ds).nx) (mCons (mV 0) (mCons (mV 1) (mCons (mV 2) (mCons (mV 7) mNil))))) ⟨[some (webD n rds), some (kindD way), some (.lst (costs.map D.int)), some (.int tot), none, none, some (.int r), some (.lst ((othersR rds.length r).map D.int)), none, none], some (5, l.map D.int)⟩ =
            .ok (.nx ⟨[some (webD n rds), some (kindD way), some (.lst (costs.map D.int)), some (.int tot), none, none, some (.int r), some (.lst ((othersR rds.length r).map D.int)), some (foundD (woF way n rds costs r)), none], some (5, l.map D.int)⟩) := sSet_eq (mCalln_eq (mCons_eq rfl (mCons_eq rfl (mCons_eq rfl (mCons_eq rfl rfl)))) e1)
        cases ho : woF way n rds costs r with
        | none =>
          rw [ho] at t2
          exact ⟨fun _ => sSeq_eq t1 (sSeq_eq t2 (sSeq_ex (sIf_t (mT_eq (m2_eq rfl rfl (dIsN_found none))) (sSeq_ex (sAlone_eq rfl))))), fun z => nomatch z⟩
        | some p2 =>
          rw [ho] at t2
          refine ⟨(fun z => nomatch z), fun _ => ⟨by rw [List.length_set]; exact hll, _, sSeq_eq t1 (sSeq_eq t2 (sSeq_eq (sIf_f (mT_eq (m2_eq rfl rfl (dIsN_found (some p2)))) rfl) (sSeq_nil (sPut_eq (n := r.toNat) (d := .int (valF way n rds costs tot r)) ?_ ?_ ?_)))), ?_⟩⟩
          · have ev : valF way n rds costs tot r = p2.1 - tot + wF costs r := by
              unfold valF
              rw [ho]
            rw [ev]
            exact m2_eq (m2_eq (m2_eq rfl rfl (atI_0 _ _)) rfl (dSub_i _ _)) (m2_eq rfl rfl (ix_w r0 (by rw [hlen]; exact r1))) (dAdd_i _ _)
          · show Rs.ok (D.int r) = _
            rw [show ((r.toNat : Nat) : Int) = r by omega]
          · rw [List.length_map, hll]
            omega
          · show (⟨_, some (5, (l.map D.int).set r.toNat (D.int (valF way n rds costs tot r)))⟩ : Sta) = ⟨_, some (5, (l.set r.toNat (valF way n rds costs tot r)).map D.int)⟩
            rw [List.map_set]
            rfl
end Z
set_option Elab.async false
set_option linter.all false
set_option maxRecDepth 100000
set_option maxHeartbeats 4000000
/-! S, part 16: roads: gains; the drawn webs and costs; the web's own test. -/
namespace Z
set_option autoImplicit false
open PySem L2
def gainV (way : Bool) (n : Nat) (rds : List (Nat × Nat)) (costs : List Int) (r truth : Int) (l : List Int) : Int := match topF way n rds costs with
  | some p => if r ∈ p.2 then wF l r - truth else 0
  | none => 0
theorem getsR_len {way : Bool} {n : Nat} {rds : List (Nat × Nat)} {costs l : List Int} {cA cB cN : Addr} (h : getsR way n rds costs cA cB cN = .ok l) : l.length = rds.length ∧ costsOk rds costs = true ∧ ∃ p, topF way n rds costs = some p ∧ (∀ r ∈ p.2, (woF way n rds costs r).isSome = true) ∧ l = getsL (valF way n rds costs p.1) rds.length p.2 := by
  unfold getsR at h
  split at h
  · rename_i hc
    cases e : topF way n rds costs with
    | none => rw [e] at h; cases h
    | some p =>
      rw [e] at h
      dsimp only at h
      cases e2 : p.2.find? (fun r => (woF way n rds costs r).isNone) with
      | some r => rw [e2] at h; cases h
      | none =>
        rw [e2] at h
        cases h
        refine ⟨getsL_len _ _ _, hc, p, rfl, fun r hr => ?_, rfl⟩
        have := List.find?_eq_none.mp e2 r hr
        cases q : woF way n rds costs r with
        | none => rw [q] at this; exact absurd rfl this
        | some _ => rfl
  · cases h
theorem sp_road_gain {n : Nat} {rds : List (Nat × Nat)} {costs : List Int} (way : Bool) (hw : WebOk n rds) (hl : costs.length ≤ LIM) (cA cB cN : Addr) {r : Int} (truth : Int) (h0 : 0 ≤ r) (h1 : r < rds.length) : P_road_gain cA cB cN [webD n rds, kindD way, .lst (costs.map D.int), .int r, .int truth] =
    (getsR way n rds costs cA cB cN).bind fun l => .ok (.int (gainV way n rds costs r truth l)) := by
  have e0 := sp_road_gets way hw hl cA cB cN
  have e1 := sp_road_best way hw hl cB cN
  unfold P_road_gain p_road_gain
  cases q : getsR way n rds costs cA cB cN with
  | no =>
    rw [q] at e0
    exfalso
    unfold getsR at q
    split at q
    · split at q
      · cases q
      · split at q <;> cases q
    · cases q
  | ex c z =>
    rw [q] at e0
    refine runM_ex (sSeq_ex ?_)
    unfold sSet
    rw [mCall_ex (mCons_eq rfl (mCons_eq rfl (mCons_eq rfl rfl))) e0]
    rfl
  | ok l =>
    rw [q] at e0
    obtain ⟨h2, h3, p, h4, h5, h6⟩ := getsR_len q
    rw [h3, if_pos rfl, h4] at e1
    have s1 : sSet 5 (mCall (P_road_gets cA cB cN) (mCons (mV 0) (mCons (mV 1) (mCons (mV 2) mNil)))) ⟨startG 6 [webD n rds, kindD way, .lst (costs.map D.int), .int r, .int truth], none⟩ = .ok (.nx ⟨[some (webD n rds), some (kindD way), some (.lst (costs.map D.int)), some (.int r), some (.int truth), some (.lst (l.map D.int))], none⟩) := sSet_eq (mCall_eq (mCons_eq rfl (mCons_eq rfl (mCons_eq rfl rfl))) e0)
    have hc : mT (m2 dIn (mV 3) (m2 dIx (mCall (P_road_best cB cN) (mCons (mV 0) (mCons (mV 1) (mCons (mV 2) mNil)))) (mC (.int 1)))) [some (webD n rds), some (kindD way), some (.lst (costs.map D.int)), some (.int r), some (.int truth), some (.lst (l.map D.int))] = .ok (decide (r ∈ p.2)) :=
      mT_eq (m2_eq rfl (m2_eq (mCall_eq (mCons_eq rfl (mCons_eq rfl (mCons_eq rfl rfl))) e1) rfl (atI_1 _ _ _)) (dIn_l _ _))
    show _ = Rs.ok (D.int (gainV way n rds costs r truth l))
    unfold gainV
    rw [h4]
    dsimp only
    by_cases hin : r ∈ p.2
    · rw [if_pos hin]
      exact runM_rt (sSeq_eq s1 (sSeq_rt (sIf_t (tst hc (decide_eq_true hin)) (sSeq_rt (sRet_eq (m2_eq (m2_eq rfl rfl (ix_w h0 (by rw [h2]; exact h1))) rfl (dSub_i _ _)))))))
    · rw [if_neg hin]
      exact runM_rt (sSeq_eq s1 (sSeq_eq (sIf_f (tst hc (decide_eq_false hin)) rfl) (sSeq_rt (sRet_eq rfl))))
/-! ### drawn -/
/-! ### the web's own test -/
theorem sp_webchk (c : Addr) (x : Addr) (n : Int) (ps : List (Int × Int)) : ∃ s : Sta, s.g[0]? = some (some (.adr x)) ∧ s.g[1]? = some (some (.int n)) ∧ s.g[2]? = some (some (.lst (ps.map pairIJ))) ∧ m_webchk c ⟨startG 5 [.adr x, .int n, .lst (ps.map pairIJ)], none⟩ = if okWeb n ps = true then .ok (.nx s) else .ex c none := by
  let st : Sta := ⟨[some (.adr x), some (.int n), some (.lst (ps.map pairIJ)), none, none], none⟩
  refine ⟨st, rfl, rfl, rfl, ?_⟩
  have d1 : (decide ((1 : Int) ≤ (ps.length : Int)) && decide ((ps.length : Int) ≤ 10)) = (decide (1 ≤ ps.length) && decide (ps.length ≤ 10)) := congr (congrArg and (decide_eq_decide.mpr (by omega))) (decide_eq_decide.mpr (by omega))
  have hc : mOr (mNot (mT (mCh dLe dLe (mC (.int 2)) (mV 1) (mC (.int 6))))) (mNot (mT (mCh dLe dLe (mC (.int 1)) (mA dLen (mCons (mV 2) mNil)) (mC (.int 10))))) (startG 5 [.adr x, .int n, .lst (ps.map pairIJ)]) = .ok (!((decide (2 ≤ n) && decide (n ≤ 6)) && (decide (1 ≤ ps.length) && decide (ps.length ≤ 10)))) := by
    refine tst (mOr_eq (mNot_eq (mT_eq (chain_le rfl rfl rfl))) fun _ => mNot_eq (mT_eq (chain_le rfl (mA_eq (mCons_eq rfl rfl) (dLen_map _ _)) rfl))) ?_
    rw [d1]
    cases (decide (2 ≤ n) && decide (n ≤ 6)) <;> cases (decide (1 ≤ ps.length) && decide (ps.length ≤ 10)) <;> rfl
  have hloop := forGo_look (tg := .two 3 4) (ks := [3, 4]) (b := sSeq (sIf (mOr (mNot (mT (mCh dLe dLt (mC (.int 0)) (mV 3) (mV 1)))) (mOr (mNot (mT (mCh dLe dLt (mC (.int 0)) (mV 4) (mV 1)))) (mT (m2 dEq (mV 3) (mV 4))))) (sSeq (sRaise c)
    sNil)
    sNil)
    sNil) (st := st) pairIJ (okRoad n) (.ex c none) (fun s => ⟨(fun z => nomatch z), (fun z => nomatch z), (fun z => nomatch z)⟩) ps fun p _ => by
    obtain ⟨a, b⟩ := p
    have hp : mOr (mNot (mT (mCh dLe dLt (mC (.int 0)) (mV 3) (mV 1)))) (mOr (mNot (mT (mCh dLe dLt (mC (.int 0)) (mV 4) (mV 1)))) (mT (m2 dEq (mV 3) (mV 4)))) [some (.adr x), some (.int n), some (.lst (ps.map pairIJ)), some (.int a), some (.int b)] = .ok (!okRoad n (a, b)) := by
      refine tst (mOr_eq (mNot_eq (mT_eq (chain_lt rfl rfl rfl))) fun _ => mOr_eq (mNot_eq (mT_eq (chain_lt rfl rfl rfl))) fun _ => mT_eq (m2_eq rfl rfl (dEq_i _ _))) ?_
      unfold okRoad
      dsimp only
      cases (decide (0 ≤ a) && decide (a < n)) <;> cases (decide (0 ≤ b) && decide (b < n)) <;> cases (decide (a = b)) <;> rfl
    refine ⟨[(3, .int a), (4, .int b)], rfl, rfl, fun ho => ?_, fun ho => ?_⟩
    · rw [ho] at hp
      exact ⟨_, sSeq_nil (sIf_f hp rfl), rfl⟩
    · rw [ho] at hp
      exact sSeq_ex (sIf_t hp rfl)
  unfold m_webchk okWeb
  cases q : (decide (2 ≤ n) && decide (n ≤ 6)) && (decide (1 ≤ ps.length) && decide (ps.length ≤ 10)) with
  | false =>
    rw [q] at hc
    rw [Bool.false_and, if_neg Bool.false_ne_true]
    exact sSeq_ex (sIf_t hc rfl)
  | true =>
    rw [q] at hc
    rw [Bool.true_and]
    exact sSeq_eq (sIf_f hc rfl) (sFor_eq (mItems_l rfl) hloop)
theorem webchk_spec (c : Addr) : ∀ x n ds, chkW c n ds ≠ .no → ∃ s : Sta, s.g[0]? = some (some (.adr x)) ∧ s.g[1]? = some (some (.int n)) ∧ s.g[2]? = some (some (.lst ds)) ∧ m_webchk c ⟨startG 5 [.adr x, .int n, .lst ds], none⟩ = (chkW c n ds).bind fun _ => .ok (.nx s) := fun x n ds h => by
  unfold chkW at h ⊢
  cases e : asPairs ds with
  | none => rw [e] at h; exact absurd rfl h
  | some ps =>
    obtain ⟨s, h1, h2, h3, h4⟩ := sp_webchk c x n ps
    have hd := asPairs_some e
    subst hd
    refine ⟨s, h1, h2, h3, ?_⟩
    rw [h4]
    dsimp only
    split <;> rfl
end Z
set_option Elab.async false
set_option linter.all false
set_option maxRecDepth 100000
set_option maxHeartbeats 4000000
/-! S, part 17: the drawn webs. -/
set_option Elab.async false
set_option linter.all false
set_option maxRecDepth 100000
set_option maxHeartbeats 4000000
/-! S, part 18: law k12: costs that are refused. -/
set_option Elab.async false
set_option linter.all false
set_option maxRecDepth 100000
set_option maxHeartbeats 4000000
/-! R, part 1: labels: which places are joined. -/
namespace Z
set_option autoImplicit false
section
variable {rds : List (Nat × Nat)}
/-- lab tells the places that the roads of l join -/
structure Lab (rds : List (Nat × Nat)) (l : List Int) (lab : Nat → Nat) : Prop where
  eq : ∀ r ∈ l, lab (rdF rds r).1 = lab (rdF rds r).2
  un : ∀ f : Nat → Nat, (∀ r ∈ l, f (rdF rds r).1 = f (rdF rds r).2) → ∀ x, f x = f (lab x)
theorem Lab.sub {l m : List Int} {f g : Nat → Nat} (h : Lab rds l f) (k : Lab rds m g) (s : ∀ r ∈ l, r ∈ m) {x y : Nat} (e : f x = f y) : g x = g y := by
  have h1 := h.un g fun r hr => k.eq r (s r hr)
  rw [h1 x, h1 y, e]
/-- the other way: roads of m join nothing that l does not join -/
theorem Lab.imp {l m : List Int} {f g : Nat → Nat} (h : Lab rds l f) (k : Lab rds m g) (s : ∀ r ∈ l, g (rdF rds r).1 = g (rdF rds r).2) {x y : Nat} (e : f x = f y) : g x = g y := by
  have h1 := h.un g s
  rw [h1 x, h1 y, e]
/-- one road more -/
theorem Lab.more {l : List Int} {f g : Nat → Nat} {r : Int} (h : Lab rds l f) (h1 : ∀ x, g x = f x ∨ ((f x = f (rdF rds r).1 ∨ f x = f (rdF rds r).2) ∧ (g x = f (rdF rds r).1 ∨ g x = f (rdF rds r).2)))
    (h2 : ∀ x y, f x = f y → g x = g y) (h3 : g (rdF rds r).1 = g (rdF rds r).2) : Lab rds (l ++ [r]) g := by
  refine ⟨fun q hq => ?_, fun k hk x => ?_⟩
  · rcases List.mem_append.mp hq with z | z
    · exact h2 _ _ (h.eq q z)
    · rw [List.mem_singleton.mp z]
      exact h3
  · have u := h.un k fun q hq => hk q (List.mem_append_left _ hq)
    have e := hk r (List.mem_append_right _ (List.mem_singleton.mpr rfl))
    have a := u (rdF rds r).1
    have b := u (rdF rds r).2
    rcases h1 x with z | ⟨z1 | z1, z2 | z2⟩
    · rw [z]
      exact u x
    · rw [z2, ← z1]
      exact u x
    · rw [z2, ← b, ← e, a, ← z1]
      exact u x
    · rw [z2, ← a, e, b, ← z1]
      exact u x
    · rw [z2, ← z1]
      exact u x
theorem Lab.nil : Lab rds [] id := ⟨(fun r hr => nomatch hr), fun f _ x => rfl⟩
/-- the same roads -/
theorem Lab.perm {l m : List Int} {f : Nat → Nat} (h : Lab rds l f) (s : ∀ r, r ∈ l ↔ r ∈ m) : Lab rds m f := ⟨fun r hr => h.eq r ((s r).mpr hr), fun k hk => h.un k fun r hr => hk r ((s r).mp hr)⟩
/-! ### labels that are the least of their class -/
def mergeL (lab : Nat → Nat) (p : Nat × Nat) : Nat → Nat := fun x => if lab x = max (lab p.1) (lab p.2) then min (lab p.1) (lab p.2) else lab x
def joinL (rds : List (Nat × Nat)) (l : List Int) : Nat → Nat := l.foldl (fun lab r => mergeL lab (rdF rds r)) id
theorem joinL_snoc (l : List Int) (r : Int) : joinL rds (l ++ [r]) = mergeL (joinL rds l) (rdF rds r) := by
  unfold joinL
  rw [List.foldl_append]
  rfl
structure Min (lab : Nat → Nat) : Prop where
  le : ∀ x, lab x ≤ x
  idem : ∀ x, lab (lab x) = lab x
theorem Min.merge {lab : Nat → Nat} (h : Min lab) (p : Nat × Nat) : Min (mergeL lab p) := by
  obtain ⟨a, b⟩ := p
  have ha := h.idem a
  have hb := h.idem b
  refine ⟨fun x => ?_, fun x => ?_⟩
  · have := h.le x
    unfold mergeL
    dsimp only
    split <;> omega
  · have hx := h.idem x
    unfold mergeL
    dsimp only
    by_cases e : lab x = max (lab a) (lab b)
    · rw [if_pos e]
      have hm : lab (min (lab a) (lab b)) = min (lab a) (lab b) := by
        rcases Nat.le_total (lab a) (lab b) with z | z
        · rw [Nat.min_eq_left z, ha]
        · rw [Nat.min_eq_right z, hb]
      rw [hm]
      split <;> rfl
    · rw [if_neg e, hx, if_neg e]
theorem snoc_rec {α : Type} {P : List α → Prop} (h0 : P []) (h1 : ∀ l a, P l → P (l ++ [a])) (l : List α) : P l := by
  have h : ∀ m : List α, P m.reverse := fun m => by
    induction m with
    | nil => exact h0
    | cons a m ih => rw [List.reverse_cons]; exact h1 _ _ ih
  have := h l.reverse
  rw [List.reverse_reverse] at this
  exact this
theorem joinL_min (l : List Int) : Min (joinL rds l) := by
  refine snoc_rec (P := fun l => Min (joinL rds l)) ⟨fun x => Nat.le_refl x, fun x => rfl⟩ (fun l r ih => ?_) l
  rw [joinL_snoc]
  exact ih.merge _
theorem joinL_lab (l : List Int) : Lab rds l (joinL rds l) := by
  refine snoc_rec (P := fun l => Lab rds l (joinL rds l)) Lab.nil (fun l r ih => ?_) l
  rw [joinL_snoc]
  generalize joinL rds l = f at ih ⊢
  refine ih.more (r := r) (fun x => ?_) (fun x y e => ?_) ?_
  · unfold mergeL
    generalize f (rdF rds r).1 = a
    generalize f (rdF rds r).2 = b
    split
    · right
      rename_i e
      rw [e]
      rcases Nat.le_total a b with z | z
      · rw [Nat.max_eq_right z, Nat.min_eq_left z]
        exact ⟨.inr rfl, .inl rfl⟩
      · rw [Nat.max_eq_left z, Nat.min_eq_right z]
        exact ⟨.inl rfl, .inr rfl⟩
    · exact .inl rfl
  · unfold mergeL
    rw [e]
  · unfold mergeL
    generalize f (rdF rds r).1 = a
    generalize f (rdF rds r).2 = b
    split <;> split <;> omega
/-! ### how many merges -/
def cntL (n : Nat) (lab : Nat → Nat) : Nat := (List.range n).countP fun v => decide (lab v ≠ v)
def mrg (rds : List (Nat × Nat)) (n : Nat) (l : List Int) : Nat := cntL n (joinL rds l)
theorem mrg_nil (n : Nat) : mrg rds n [] = 0 := by
  unfold mrg cntL
  rw [List.countP_eq_zero]
  intro v _
  show ¬ decide (v ≠ v) = true
  simp
/-- what joins more merges more -/
theorem mrg_mono {n : Nat} {l m : List Int} (h : ∀ r ∈ l, joinL rds m (rdF rds r).1 = joinL rds m (rdF rds r).2) : mrg rds n l ≤ mrg rds n m := by
  unfold mrg cntL
  refine List.countP_mono_left fun v _ hv => ?_
  have hv' := of_decide_eq_true hv
  refine decide_eq_true fun z => hv' ?_
  have m1 := joinL_min (rds := rds) l
  have m2 := joinL_min (rds := rds) m
  have h1 := m1.le v
  have e : joinL rds l v = joinL rds l (joinL rds l v) := (m1.idem v).symm
  have e2 := (joinL_lab l).imp (joinL_lab m) h e
  rw [z] at e2
  have h2 := m2.le (joinL rds l v)
  omega
theorem mrg_sub {n : Nat} {l m : List Int} (h : ∀ r ∈ l, r ∈ m) : mrg rds n l ≤ mrg rds n m := mrg_mono fun r hr => (joinL_lab m).eq r (h r hr)
end
end Z
set_option Elab.async false
set_option linter.all false
set_option maxRecDepth 100000
set_option maxHeartbeats 4000000
/-! R, part 2: the tree that is built road by road is a least one. -/
namespace Z
set_option autoImplicit false
inductive Pw {α β : Type} (R : α → β → Prop) : List α → List β → Prop
  | nil : Pw R [] []
  | cons {a : α} {b : β} {as : List α} {bs : List β} : R a b → Pw R as bs → Pw R (a :: as) (b :: bs)
theorem Pw.imp {α β : Type} {R S : α → β → Prop} (h : ∀ a b, R a b → S a b) : ∀ {as : List α} {bs : List β}, Pw R as bs → Pw S as bs
  | _, _, .nil => .nil
  | _, _, .cons r t => .cons (h _ _ r) (Pw.imp h t)
section
variable {rds : List (Nat × Nat)} {n : Nat}
def labP (part : List Nat) : Nat → Nat := fun x => if x < part.length then part.getD x 0 else x
structure KInv (rds : List (Nat × Nat)) (n : Nat) (q : List Int) (s : List Nat × List Int) : Prop where
  len : s.1.length = n
  val : ∀ v ∈ s.1, v < n
  lab : Lab rds s.2 (labP s.1)
  all : ∀ r ∈ q, labP s.1 (rdF rds r).1 = labP s.1 (rdF rds r).2
  sub : ∀ r ∈ s.2, r ∈ q
  cnt : s.2.length = mrg rds n s.2
theorem KInv.start : KInv rds n [] (List.range n, []) := by
  refine ⟨List.length_range, fun v hv => List.mem_range.mp hv, ?_, (fun r hr => nomatch hr), (fun r hr => nomatch hr), (mrg_nil n).symm⟩
  have e : labP (List.range n) = id := funext fun x => by
    unfold labP
    rw [List.length_range]
    split
    · rename_i h
      rw [List.getD_eq_getElem?_getD, List.getElem?_range h]
      rfl
    · rfl
  show Lab rds [] (labP (List.range n))
  rw [e]
  exact Lab.nil
theorem KInv.classes {q : List Int} {s : List Nat × List Int} (h : KInv rds n q s) {x y : Nat} : labP s.1 x = labP s.1 y ↔ joinL rds s.2 x = joinL rds s.2 y :=
  ⟨fun e => h.lab.sub (joinL_lab s.2) (fun _ hr => hr) e, fun e => (joinL_lab s.2).sub h.lab (fun _ hr => hr) e⟩
theorem KInv.num {q : List Int} {s : List Nat × List Int} (h : KInv rds n q s) : s.2.length = mrg rds n q := by
  rw [h.cnt]
  exact Nat.le_antisymm (mrg_sub h.sub) (mrg_mono fun r hr => h.classes.mp (h.all r hr))
/-! ### prefix by prefix -/
structure TreeP (rds : List (Nat × Nat)) (n : Nat) (T : List Int) : Prop where
  len : T.length = n - 1
  all : ∀ v, v < n → joinL rds T v = 0
end
end Z
set_option Elab.async false
set_option linter.all false
set_option maxRecDepth 100000
set_option maxHeartbeats 4000000
/-! R, part 3: the order of what is told; least trees. -/
namespace Z
set_option autoImplicit false
open L2
/-! ### the order -/
/-! ### element by element -/
def leI (a b : Int) : Prop := a ≤ b
theorem Pw.sum {w : Int → Int} {A B : List Int} (h : Pw (fun a b => leP (w a, a) (w b, b)) A B) : (A.map w).sum ≤ (B.map w).sum ∧ ((A.map w).sum = (B.map w).sum → Pw leI A B) := by
  induction h with
  | nil => exact ⟨Int.le_refl _, fun _ => .nil⟩
  | @cons a b as bs r t ih =>
    obtain ⟨h1, h2⟩ := ih
    rw [List.map_cons, List.map_cons, List.sum_cons, List.sum_cons]
    have r' : w a < w b ∨ (w a = w b ∧ a ≤ b) := r
    exact ⟨by omega, fun e => .cons (show a ≤ b by omega) (h2 (by omega))⟩
/-! ### least trees -/
end Z
set_option Elab.async false
set_option linter.all false
set_option maxRecDepth 100000
set_option maxHeartbeats 4000000
/-! R, part 4: the family of sets of roads among which the program finds the least; what a gain is. -/
set_option Elab.async false
set_option linter.all false
set_option maxRecDepth 100000
set_option maxHeartbeats 4000000
/-! S, part 19: law k13: nobody gains by telling another cost. -/
set_option Elab.async false
set_option linter.all false
set_option maxRecDepth 100000
set_option maxHeartbeats 4000000
/-! S, part 20: law k14: what one pays, gets, by what one gets. -/
set_option Elab.async false
set_option linter.all false
set_option maxRecDepth 100000
set_option maxHeartbeats 4000000
/-! S, part 21: law k15: within the own worth. -/
set_option Elab.async false
set_option linter.all false
set_option maxRecDepth 100000
set_option maxHeartbeats 4000000
/-! S, part 22: law k15, the end. -/
set_option Elab.async false
set_option linter.all false
set_option maxRecDepth 100000
set_option maxHeartbeats 4000000
/-! S, part 23: law k16. -/
set_option Elab.async false
set_option linter.all false
set_option maxRecDepth 100000
set_option maxHeartbeats 4000000
/-! R, part 5: a way is a set of roads with the right ends that hang together. -/
namespace Z
set_option autoImplicit false
section
variable {rds : List (Nat × Nat)} {n : Nat}
def endsF (rds : List (Nat × Nat)) (Q : List Int) : List Nat := Q.flatMap fun r => [(rdF rds r).1, (rdF rds r).2]
def degF (rds : List (Nat × Nat)) (Q : List Int) (v : Nat) : Nat := (endsF rds Q).count v
theorem deg_perm {Q R : List Int} (h : Q.Perm R) (v : Nat) : degF rds Q v = degF rds R v := (h.flatMap_right _).count_eq v
theorem joinL_same {l m : List Int} (h : ∀ r, r ∈ l ↔ r ∈ m) (v : Nat) : joinL rds l v = joinL rds m v := by
  have key : ∀ {l m : List Int}, (∀ r ∈ l, r ∈ m) → joinL rds m v ≤ joinL rds l v := fun {l m} hs => by
    have e : joinL rds l v = joinL rds l (joinL rds l v) := ((joinL_min l).idem v).symm
    have e2 := (joinL_lab l).sub (joinL_lab m) hs e
    have := (joinL_min (rds := rds) m).le (joinL rds l v)
    omega
  exact Nat.le_antisymm (key fun r hr => (h r).mpr hr) (key fun r hr => (h r).mp hr)
theorem joinL_perm {l m : List Int} (h : l.Perm m) (v : Nat) : joinL rds l v = joinL rds m v := joinL_same (fun r => h.mem_iff) v
theorem TreeP.perm {l m : List Int} (h : l.Perm m) (t : TreeP rds n l) : TreeP rds n m := ⟨h.length_eq.symm.trans t.len, fun v hv => (joinL_perm h v).symm.trans (t.all v hv)⟩
/-- the roads hang together, two at each place, one at the first and at the last -/
structure IsWay (rds : List (Nat × Nat)) (n : Nat) (S : List Int) : Prop where
  deg : ∀ v, v < n → if v = 0 ∨ v = n - 1 then degF rds S v = 1 else (degF rds S v = 0 ∨ degF rds S v = 2)
  len : S.length + 1 = ((List.range n).filter fun v => decide (0 < degF rds S v)).length
  all : ∀ v, v < n → 0 < degF rds S v → joinL rds S v = 0
theorem IsWay.perm {l m : List Int} (h : l.Perm m) (t : IsWay rds n l) : IsWay rds n m := by
  have e : degF rds m = degF rds l := funext fun v => (deg_perm h v).symm
  refine ⟨fun v hv => ?_, ?_, fun v hv => ?_⟩
  · rw [e]; exact t.deg v hv
  · rw [e, ← h.length_eq]; exact t.len
  · rw [e, ← joinL_perm h]; exact t.all v hv
end
end Z
set_option Elab.async false
set_option linter.all false
set_option maxRecDepth 100000
set_option maxHeartbeats 4000000
/-! S, part 24: the law's own choice among all sets of roads. -/
set_option Elab.async false
set_option linter.all false
set_option maxRecDepth 100000
set_option maxHeartbeats 4000000
/-! S, part 25: the law's choice is the program's. -/
set_option Elab.async false
set_option linter.all false
set_option maxRecDepth 100000
set_option maxHeartbeats 4000000
set_option Elab.async false
set_option linter.all false
set_option maxRecDepth 100000
set_option maxHeartbeats 4000000
/-! S, part 26: law k10. -/
set_option Elab.async false
set_option linter.all false
set_option maxRecDepth 100000
set_option maxHeartbeats 4000000
set_option Elab.async false
set_option linter.all false
set_option maxRecDepth 100000
set_option maxHeartbeats 4000000
/-! S, part 27: law k11. -/
namespace Z
set_option autoImplicit false
open PySem L2
section
variable {rds : List (Nat × Nat)} {n : Nat}
theorem WebOk.take (hw : WebOk n rds) {k : Nat} (hk : 1 ≤ k) : WebOk n (rds.take k) := by
  have h1 := hw.l1
  have h10 := hw.l10
  exact ⟨hw.n2, hw.n6, by rw [List.length_take]; omega, by rw [List.length_take]; omega, fun p hp => hw.rd p (List.mem_of_mem_take hp)⟩
end
end Z
set_option Elab.async false
set_option linter.all false
set_option maxRecDepth 100000
set_option maxHeartbeats 4000000
/-! Z, part 9: try: web = Web(places, handed) / except BadWeb as e, handed being changed later. -/
set_option Elab.async false
set_option linter.all false
set_option maxRecDepth 100000
set_option maxHeartbeats 4000000
set_option Elab.async false
set_option linter.all false
set_option maxRecDepth 100000
set_option maxHeartbeats 4000000
/-! S, part 28: law k09. -/
set_option Elab.async false
set_option linter.all false
set_option maxRecDepth 100000
set_option maxHeartbeats 4000000
/-! Z, part 7: which of the five refusals is it; the try of k17. -/
namespace Z
set_option autoImplicit false
open PySem PySem.Spec PyProof.Rows L2
/-! ### list.count, flat items -/
def rCntF (K : PySem.W.Frag) : V → List V → Hp → VK → Prop := fun x xs H Q => ∃ (p : Addr) (ys : List V) (y : V), x = .ref p ∧ xs = [y] ∧ SqL K H p ys ∧ flatV y = true ∧ ys.all flatV = true ∧ Q (.int (ys.countP (fun z => eqV z y) : Nat)) H
theorem countP_eqU {x : V} {xs : List V} {us : List Value} (r : Vals xs us) (f : xs.all flatV = true) : us.countP (eqU x) = xs.countP fun y => eqV y x := by
  induction r with
  | nil => rfl
  | cons h1 _ ih =>
    simp only [List.all_cons, Bool.and_eq_true] at f
    rw [List.countP_cons, List.countP_cons, ih f.2, eqU_of h1 f.1]
theorem mt_countF {X : Cx} : MtR X "list.count" (rCntF X.K) := by
  rintro pins s σ H x xs v us Q J rx rxs ⟨p, ys, y, rfl, rfl, sq, fy, fys, q⟩
  cases rx
  obtain ⟨u, eu, ru⟩ := rxs.one
  obtain ⟨its, vals, ⟨⟨_, dd, _, sl⟩, n, look, ec, _, ed⟩, _⟩ := J.list sq
  dsimp only at ec ed
  subst eu ec ed
  have total := countP_eqU (x := y) vals fys
  refine call_meets PySem.F.slot_list_count ⟨_, look, rfl⟩ PySem.F.entry_list_count (PySem.F.args_list_count_2 _ _) (SeqAt.list_countAt p its.toArray n dd sl u (eqU y)) ⟨look, ?_, ?_⟩
  · intro z hz
    exact mem_eqAt ru fy vals fys z (Array.mem_toList_iff.mpr hz)
  · refine ⟨.int (ys.countP (fun z => eqV z y) : Nat), H, J.tok _, ⟨s.toks, ?_⟩, q⟩
    rw [← total]
/-! ### isinstance of a caught error that is pinned -/
section
variable {X : Cx} {a : Addr} {oe : Obj}
theorem inst_ofM {c : Addr} {dd : Option Addr} {pins : List (Addr × Obj)} {σ : L2.St} {H : Hp} {s : Shared} (hm : (a, oe) ∈ X.pn) (I : Inv X pins σ H s) (hz : Zc (.ref c) dd oe) (hf : ∃ vs, oe.data = .fields vs) (hx : Xfs H dd) : ∃ od, PySem.W.InstAt s.heap a oe c od := by
  obtain ⟨hget, _⟩ := I.pin (a, oe) (List.mem_append.mpr (.inl hm))
  obtain ⟨vs, hv⟩ := hf
  have hno : PySem.W.notCls oe = true := by unfold PySem.W.notCls; rw [hv]
  rcases hx with e | ⟨p, fs, e, hp⟩
  · refine ⟨none, hget, hz.1, hno, ?_⟩
    rw [hz.2, e]
    trivial
  · have ho : ObjOk X.prog X.w H s.heap p (.xd fs) := I.hok p _ hp
    obtain ⟨mA, hns, _⟩ := ho
    obtain ⟨od, h1, _⟩ := lookIn_ns hns
    refine ⟨some od, hget, hz.1, hno, ?_⟩
    rw [hz.2, e]
    exact h1
theorem call_isM {cls : Value} {dd : Option Addr} {t : Value} (hm : (a, oe) ∈ X.pn) (hz : Zc cls dd oe) (hf : ∃ vs, oe.data = .fields vs) : CallR X (.builtin "isinstance") (rIsO X.K a cls dd t) := by
  intro pins s σ H xs us Q I r h
  obtain ⟨c, u, b, exs, hu, ecl, EF, hx, hk, hq⟩ := h
  subst exs
  subst ecl
  cases r with
  | cons ra rr =>
  cases rr with
  | cons rt re =>
  cases re
  have e2 := hu _ rt
  subst e2
  cases ra
  obtain ⟨od, J⟩ := inst_ofM hm I hz hf hx
  exact PySem.W.kia_one (PySem.W.kitx_exc EF.hcl EF.hga EF.hgt EF.hsub EF.ha EF.hn EF.ht EF.hm) I.kIn J hk (fun z => nomatch z) fun tk => ⟨.bl b, H, I.kept (t' := tk) fun _ _ z => z, rfl, hq⟩
theorem pe_isM {i tA : Addr} {cls : Value} {dd : Option Addr} {x tn : Str} {p q1 q2 pos : Pos} (hpn : (a, oe) ∈ X.pn) (hz : Zc cls dd oe) (hf : ∃ vs, oe.data = .fields vs) (hm : X.mg "isinstance" = none) (hT : X.mg tn = some (.ref tA)) (hN : X.N[i]? = some x := by rfl) (hv : Vis X.env.scope x := by first | exact Or.inl rfl | exact Or.inr (Or.inl rfl) | exact Or.inr (Or.inr rfl))
    (hd : (x == ("__debug__" : Str)) = false := by decide) (hcd : (x == ("__classdict__" : Str)) = false := by decide) (hg : Gl X "isinstance" := by rfl) (hgT : Gl X tn := by rfl) (hdT : (tn == ("__debug__" : Str)) = false := by decide)
    (he : starEach [.Name x q1, .Name tn q2] X.env = (false, eval (.Name x q1) X.env) :: starEach [.Name tn q2] X.env := by rfl) (he2 : starEach [.Name tn q2] X.env = (false, eval (.Name tn q2) X.env) :: starEach [] X.env := by rfl) (hpl : (backTo pos (starEach [.Name tn q2] X.env)).any (·.1) = false := by rfl) :
    PE X (.Call (.Name "isinstance" p) [.Name x q1, .Name tn q2] [] pos) (tIsE X.K i a cls dd (.ref tA) (.ref tA)) :=
  pe_callB (call_isM hpn hz hf) hg hm (by decide +kernel) (pa_cons (pe_var hN hv hd hcd) (pa_cons (pe_glob hgT hT rfl hdT) pa_nil he2) he) (by decide) (by decide) he hpl
theorem pe_isMB {i : Nat} {cls : Value} {dd : Option Addr} {x tn : Str} {Tn : String} {p q1 q2 pos : Pos} (hpn : (a, oe) ∈ X.pn) (hz : Zc cls dd oe) (hf : ∃ vs, oe.data = .fields vs) (hm : X.mg "isinstance" = none) (hT : X.mg tn = none) (hvt : bootBuiltins tn = some (.type Tn)) (hN : X.N[i]? = some x := by rfl) (hv : Vis X.env.scope x := by first | exact Or.inl rfl | exact Or.inr (Or.inl rfl) | exact Or.inr (Or.inr rfl))
    (hd : (x == ("__debug__" : Str)) = false := by decide) (hcd : (x == ("__classdict__" : Str)) = false := by decide) (hg : Gl X "isinstance" := by rfl) (hgT : Gl X tn := by rfl) (hn : tn ≠ "__name__" := by decide) (hdT : (tn == ("__debug__" : Str)) = false := by decide)
    (he : starEach [.Name x q1, .Name tn q2] X.env = (false, eval (.Name x q1) X.env) :: starEach [.Name tn q2] X.env := by rfl) (he2 : starEach [.Name tn q2] X.env = (false, eval (.Name tn q2) X.env) :: starEach [] X.env := by rfl) (hpl : (backTo pos (starEach [.Name tn q2] X.env)).any (·.1) = false := by rfl) :
    PE X (.Call (.Name "isinstance" p) [.Name x q1, .Name tn q2] [] pos) (tIsE X.K i a cls dd (.ty Tn) (.type Tn)) :=
  pe_callB (call_isM hpn hz hf) hg hm (by decide +kernel) (pa_cons (pe_var hN hv hd hcd) (pa_cons (pe_bltn (v := .ty Tn) hgT hT hvt rfl hn hdT) pa_nil he2) he) (by decide) (by decide) he hpl
end
/-! ### which of the five -/
abbrev tWhich (K : PySem.W.Frag) (a : Addr) (cls : Value) (dd : Option Addr) (c1 c2 c3 c4 c5 cT : Addr) : TS :=
  tSeq (tAsg (tLst (tCons (tIsE K 0 a cls dd (.ref c1) (.ref c1)) (tCons (tIsE K 0 a cls dd (.ref c2) (.ref c2)) (tCons (tIsE K 0 a cls dd (.ref c3) (.ref c3)) tNil)))) (gName 1))
  (tSeq (tAsg (tOp rAdd2 (tVar 1) (tLst (tCons (tIsE K 0 a cls dd (.ref c4) (.ref c4)) (tCons (tIsE K 0 a cls dd (.ref c5) (.ref c5)) tNil)))) (gName 1))
  (tSeq (tIfS (tOr (tNot (tB (tIsE K 0 a cls dd (.ref cT) (.ref cT)))) (tOr (tNot (tB (tIsE K 0 a cls dd (.ty "ValueError") (.type "ValueError")))) (tTest (tOp rNe (tBM K "list" (rCntF K) (tVar 1) (tCons (tC (.bl true)) tNil)) (tC (.int 1))))))
    (tSeq (tRet (tUn qNeg (tC (.int 1)))) tNext) tNext)
  (tSeq (tRet (tBM K "list" (rIndex K) (tVar 1) (tCons (tC (.bl true)) tNil))) tNext)))
/-- c is the k-th of the five, a TollError and a ValueError -/
structure Wk (K : PySem.W.Frag) (c1 c2 c3 c4 c5 cT c : Addr) (k : Nat) : Prop where
  ef : ExF K c
  k1 : PySem.W.kitOne K (.ref c) (.ref c1) = some (decide (k = 0))
  k2 : PySem.W.kitOne K (.ref c) (.ref c2) = some (decide (k = 1))
  k3 : PySem.W.kitOne K (.ref c) (.ref c3) = some (decide (k = 2))
  k4 : PySem.W.kitOne K (.ref c) (.ref c4) = some (decide (k = 3))
  k5 : PySem.W.kitOne K (.ref c) (.ref c5) = some (decide (k = 4))
  kT : PySem.W.kitOne K (.ref c) (.ref cT) = some true
  kV : PySem.W.kitOne K (.ref c) (.type "ValueError") = some true
  lt : k < 5
theorem is_runG {K : PySem.W.Frag} {a c i : Nat} {u : V} {t : Value} {b : Bool} {dd : Option Addr} {σ : L2.St} {H : Hp} {Q : VK} (hσ : σ[i]? = some (some (.ref a))) (hu : ∀ z, RelV u z → z = t) (EF : ExF K c) (hx : Xfs H dd) (hk : PySem.W.kitOne K (.ref c) t = some b) (q : Q (.bl b) H) : tIsE K i a (.ref c) dd u t σ H Q :=
  ⟨.ref a, hσ, c, u, b, rfl, hu, rfl, EF, hx, hk, q⟩
theorem Xfs.up {H H' : Hp} {dd : Option Addr} (h : Xfs H dd) (e : Same H H') : Xfs H' dd := by
  rcases h with h | ⟨p, fs, h1, h2⟩
  · exact .inl h
  · exact .inr ⟨p, fs, h1, e _ _ h2⟩
theorem same_upd {H : Hp} {p : Addr} {o : HO} (hp : H p = none) : Same H (upd H p o) := fun b u e => by rw [upd_ne (ne_of_none e hp)]; exact e
theorem five {k : Nat} (h : k < 5) : ([V.bl (decide (k = 0)), .bl (decide (k = 1)), .bl (decide (k = 2)), .bl (decide (k = 3)), .bl (decide (k = 4))].countP fun z => eqV z (.bl true)) = 1 ∧ [V.bl (decide (k = 0)), .bl (decide (k = 1)), .bl (decide (k = 2)), .bl (decide (k = 3)), .bl (decide (k = 4))][k]? = some (.bl true) ∧
    ∀ (m : Nat) (z : V), m < k → [V.bl (decide (k = 0)), .bl (decide (k = 1)), .bl (decide (k = 2)), .bl (decide (k = 3)), .bl (decide (k = 4))][m]? = some z → eqV z (.bl true) = false := by
  have hk : k = 0 ∨ k = 1 ∨ k = 2 ∨ k = 3 ∨ k = 4 := by omega
  rcases hk with rfl | rfl | rfl | rfl | rfl <;> refine ⟨by decide, by decide, fun m z hm e => ?_⟩
  · omega
  · obtain rfl : m = 0 := by omega
    cases e
    rfl
  · have : m = 0 ∨ m = 1 := by omega
    rcases this with rfl | rfl <;> cases e <;> rfl
  · have : m = 0 ∨ m = 1 ∨ m = 2 := by omega
    rcases this with rfl | rfl | rfl <;> cases e <;> rfl
  · have : m = 0 ∨ m = 1 ∨ m = 2 ∨ m = 3 := by omega
    rcases this with rfl | rfl | rfl | rfl <;> cases e <;> rfl
theorem which_run {K : PySem.W.Frag} {a c c1 c2 c3 c4 c5 cT : Addr} {k : Nat} {dd : Option Addr} {H : Hp} {D : Ends} (W : Wk K c1 c2 c3 c4 c5 cT c k) (hx : Xfs H dd) (q : ∀ H', Same H H' → D.rt (.int (k : Nat)) H') : tWhich K a (.ref c) dd c1 c2 c3 c4 c5 cT D [some (.ref a), none] H := by
  unfold tWhich tSeq tAsg tLst tCons tNil
  dsimp only
  have r1 : ∀ cX z, RelV (.ref cX) z → z = Value.ref cX := fun _ z hz => hz
  refine is_runG rfl (r1 _) W.ef hx W.k1 (is_runG rfl (r1 _) W.ef hx W.k2 (is_runG rfl (r1 _) W.ef hx W.k3 ?_))
  refine ⟨by show 3 ≤ _; exact Nat.le_of_lt (small1000 (by decide)), fun p hp => ?_⟩
  have s1 := same_upd (o := .lst [.bl (decide (k = 0)), .bl (decide (k = 1)), .bl (decide (k = 2))]) hp
  have hp1 : upd H p (.lst [.bl (decide (k = 0)), .bl (decide (k = 1)), .bl (decide (k = 2))]) p = some (.lst [.bl (decide (k = 0)), .bl (decide (k = 1)), .bl (decide (k = 2))]) := upd_same
  generalize upd H p (.lst [.bl (decide (k = 0)), .bl (decide (k = 1)), .bl (decide (k = 2))]) = H1 at s1 hp1
  have x1 := hx.up s1
  unfold gName tOp
  dsimp only
  refine ⟨.ref p, rfl, ?_⟩
  refine is_runG rfl (r1 _) W.ef x1 W.k4 (is_runG rfl (r1 _) W.ef x1 W.k5 ?_)
  refine ⟨by show 2 ≤ _; exact Nat.le_of_lt (small1000 (by decide)), fun p2 hp2 => ?_⟩
  have s2 := same_upd (o := .lst [.bl (decide (k = 3)), .bl (decide (k = 4))]) hp2
  have hpp := s2 _ _ hp1
  have hp3 : upd H1 p2 (.lst [.bl (decide (k = 3)), .bl (decide (k = 4))]) p2 = some (.lst [.bl (decide (k = 3)), .bl (decide (k = 4))]) := upd_same
  generalize upd H1 p2 (.lst [.bl (decide (k = 3)), .bl (decide (k = 4))]) = H2 at s2 hpp hp3
  have x2 := x1.up s2
  refine .inr ⟨p, p2, _, _, rfl, rfl, hpp, hp3, by show 3 + 2 ≤ _; exact Nat.le_of_lt (small1000 (by decide)), fun p3 hp4 => ?_⟩
  have s3 := same_upd (o := .lst ([.bl (decide (k = 0)), .bl (decide (k = 1)), .bl (decide (k = 2))] ++ [.bl (decide (k = 3)), .bl (decide (k = 4))])) hp4
  have hp5 : upd H2 p3 (.lst ([.bl (decide (k = 0)), .bl (decide (k = 1)), .bl (decide (k = 2))] ++ [.bl (decide (k = 3)), .bl (decide (k = 4))])) p3 = some (.lst [.bl (decide (k = 0)), .bl (decide (k = 1)), .bl (decide (k = 2)), .bl (decide (k = 3)), .bl (decide (k = 4))]) := upd_same
  generalize upd H2 p3 (.lst ([.bl (decide (k = 0)), .bl (decide (k = 1)), .bl (decide (k = 2))] ++ [.bl (decide (k = 3)), .bl (decide (k = 4))])) = H3 at s3 hp5
  have x3 := x2.up s3
  have sq : SqL K H3 p3 [.bl (decide (k = 0)), .bl (decide (k = 1)), .bl (decide (k = 2)), .bl (decide (k = 3)), .bl (decide (k = 4))] := .inl (.inl hp5)
  obtain ⟨f1, f2, f3⟩ := five W.lt
  unfold tIfS tOr tNot tB tTest tBM
  dsimp only
  refine is_runG rfl (r1 _) W.ef x3 W.kT ⟨true, rfl, ?_⟩
  rw [if_neg (by decide)]
  refine is_runG rfl (fun z hz => hz) W.ef x3 W.kV ⟨true, rfl, ?_⟩
  rw [if_neg (by decide)]
  refine ⟨.ref p3, rfl, .inl ⟨rfl, _, sq⟩, ?_⟩
  refine ⟨p3, _, .bl true, rfl, rfl, sq, rfl, rfl, ?_⟩
  refine ⟨rfl, ?_⟩
  refine ⟨false, ?_, ?_⟩
  · rw [f1]
    rfl
  rw [if_neg Bool.false_ne_true]
  refine ⟨.ref p3, rfl, .inl ⟨rfl, _, sq⟩, ?_⟩
  refine ⟨p3, _, .bl true, k, .bl true, rfl, rfl, sq, rfl, rfl, f2, rfl, f3, ?_⟩
  exact q H3 (s1.trans (s2.trans s3))
/-! ### the def, its call -/
def spWh (a : Addr) (dd : Option Addr) (k : Nat) : Sp := fun vs H Q _ => vs = [.ref a] ∧ Xfs H dd ∧ ∀ H', Same H H' → Q (.int (k : Nat)) H'
section
variable (P : Program) (w : World) (K : PySem.W.Frag) (mg : Str → Option Value) (base : Heap) (c1 c2 c3 c4 c5 cT : Addr)
def CalWh (l : Nat) : Prop := ∃ f fd, (∀ (a : Addr) (oe : Obj) (c : Addr) (dd : Option Addr) (k : Nat), Zc (.ref c) dd oe → (∃ vs, oe.data = .fields vs) → Wk K c1 c2 c3 c4 c5 cT c k → FnQ P w K mg base CX0 l f fd ["e"] (a, oe) (spWh a dd k)) ∧ mg "_law_which" = some (.ref f) ∧ PySem.W.keepIn K (.ref f) = true ∧ Binds K fd ["e"] []
end
theorem calWh_of {P : Program} {w : World} {K : PySem.W.Frag} {mg : Str → Option Value} {base : Heap} {c1 c2 c3 c4 c5 cT : Addr} {st : Stmt} {k : Nat} (hd : Dn K mg "_law_which" st ["e"]) (S : FnScope ["e", "told"] ["e"] (defScope st))
    (hb : ∀ (a : Addr) (oe : Obj) (c : Addr) (dd : Option Addr) (f : Addr) (cdv : Value) (A : Around) (outer : List Env) (s : Shared) (H : Hp) (E : XK), L2H.RoomH k (A.deeper (envOfC "_law_which" (defScope st) s.heap.objs.size f cdv)) → Zc (.ref c) dd oe → (∃ vs, oe.data = .fields vs) →
      PSs (L2H.cxH CX0 P w K mg base ["e", "told"] "_law_which" (defScope st) f cdv A outer s H E (a, oe)) (defBody st) (tWhich K a (.ref c) dd c1 c2 c3 c4 c5 cT)) : CalWh P w K mg base c1 c2 c3 c4 c5 cT (k + 1) := by
  obtain ⟨f, fd, F, g, b⟩ := hd
  obtain ⟨_, _, _, _, _, _, code, _, _, e, there, isC⟩ := F.ex
  subst e
  refine ⟨f, _, fun a oe c dd j hz hf W => ?_, g, F.kp, b⟩
  refine fn_ofQ there isC S (fun {vs H Q E} h => by rw [h.1]; rfl) (fun A outer s H vs Q E hr h => ?_)
  obtain ⟨rfl, hx, q⟩ := h
  exact ⟨_, hb a oe c dd f code A outer s H E hr hz hf, which_run W hx q⟩
abbrev tWh (K : PySem.W.Frag) (c1 c2 c3 c4 c5 cT : Addr) (i a : Addr) (cls : Value) (dd : Option Addr) : TE := fun σ H Q => σ[i]? = some (some (.ref a)) ∧ ∃ c k, cls = .ref c ∧ Wk K c1 c2 c3 c4 c5 cT c k ∧ Xfs H dd ∧ ∀ H', Same H H' → Q (.int (k : Nat)) H'
theorem pe_which {X : Cx} {c1 c2 c3 c4 c5 cT a i l : Nat} {oe : Obj} {cls : Value} {dd : Option Addr} {x : Str} {p q1 pos : Pos} (W : CalWh X.prog X.w X.K X.mg X.base c1 c2 c3 c4 c5 cT l) (hpn : (a, oe) ∈ X.pn) (hz : Zc cls dd oe) (hf : ∃ vs, oe.data = .fields vs) (hr : L2H.RoomH l X.A) (hg : Gl X "_law_which") (hv : PE X (.Name x q1) (tVar i))
    (he : starEach [.Name x q1] X.env = (false, eval (.Name x q1) X.env) :: starEach [] X.env := by rfl) (hpl : (backTo pos (starEach [] X.env)).any (·.1) = false := by rfl) : PE X (.Call (.Name "_law_which" p) [.Name x q1] [] pos) (tWh X.K c1 c2 c3 c4 c5 cT i a cls dd) := by
  constructor
  rintro pins s σ H Q I ⟨hσ, c, k, rfl, Wc, hx, q⟩
  obtain ⟨f, fd, FF, hm, hk, hb⟩ := W
  exact (pe_callQ (FF a oe c dd k hz hf Wc) hr hpn hg hm hk hb pass0 (pa_cons hv pa_nil he) (by decide) he hpl).run pins s σ H Q I ⟨.ref a, hσ, rfl, hx, q⟩
/-! ### except Alone as e: return which(e) if e.road == 2 else -2; except TollError as e: return which(e) -/
abbrev tsA17 (K : PySem.W.Frag) (c1 c2 c3 c4 c5 cT i : Addr) : Addr → Value → Option Addr → TS := fun a cls d => tSeq (tRet (tIf (tTest (tOp rEq (tXf a cls d c5 "road" (tVar i)) (tC (.int 2)))) (tWh K c1 c2 c3 c4 c5 cT i a cls d) (tUn qNeg (tC (.int 2))))) tNext
abbrev tsT17 (K : PySem.W.Frag) (c1 c2 c3 c4 c5 cT i : Addr) : Addr → Value → Option Addr → TS := fun a cls d => tSeq (tRet (tWh K c1 c2 c3 c4 c5 cT i a cls d)) tNext
def hnd17 (c1 c2 c3 c4 c5 : Addr) : Addr → Option Int → Rs D := fun c r => if c = c5 then (match r with
  | some z => if z = 2 then .ok (.int 4) else .ok (.int (-2))
  | none => .no) else if c = c1 then .ok (.int 0) else if c = c2 then .ok (.int 1) else if c = c3 then .ok (.int 2) else if c = c4 then .ok (.int 3) else .no
theorem suW_17 {K : PySem.W.Frag} {C c1 c2 c3 c4 c5 cT i n : Addr} (hi : i < n) (h5 : PySem.W.exmOne K (.ref c5) (.ref c5) = some true) (n1 : PySem.W.exmOne K (.ref c1) (.ref c5) = some false) (n2 : PySem.W.exmOne K (.ref c2) (.ref c5) = some false) (n3 : PySem.W.exmOne K (.ref c3) (.ref c5) = some false) (n4 : PySem.W.exmOne K (.ref c4) (.ref c5) = some false)
    (m1 : PySem.W.exmOne K (.ref c1) (.ref cT) = some true) (m2 : PySem.W.exmOne K (.ref c2) (.ref cT) = some true) (m3 : PySem.W.exmOne K (.ref c3) (.ref cT) = some true) (m4 : PySem.W.exmOne K (.ref c4) (.ref cT) = some true)
    (w1 : Wk K c1 c2 c3 c4 c5 cT c1 0) (w2 : Wk K c1 c2 c3 c4 c5 cT c2 1) (w3 : Wk K c1 c2 c3 c4 c5 cT c3 2) (w4 : Wk K c1 c2 c3 c4 c5 cT c4 3) (w5 : Wk K c1 c2 c3 c4 c5 cT c5 4) :
    SuW K C n (fun D' => wN K (fun _ _ _ _ => False) D' [⟨.ref c5, some i, tsA17 K c1 c2 c3 c4 c5 cT i⟩, ⟨.ref cT, some i, tsT17 K c1 c2 c3 c4 c5 cT i⟩]) (hnd17 c1 c2 c3 c4 c5) := ⟨fun F0 H0 F H c r dd d D' σ f hx eh hd => by
  have hlen : σ.length = n := by have := f.ln; rw [List.length_replicate] at this; exact this
  have hs : ∀ a : Addr, (σ.set i (some (V.ref a)))[i]? = some (some (.ref a)) := fun a => by rw [List.getElem?_set_self (by rw [hlen]; exact hi)]
  have fin : ∀ {z : Int} {H' : Hp}, d = .int z → Same H H' → D'.rt (.int z) H' := fun {z H'} e s => by
    have f2 : Fz ⟨K, C, F0, H0⟩ (List.replicate n none) [] [] σ H' F := f.grow (Same.refl F) (f.eH.trans s) s fun _ _ z => z
    exact hd (.int z) H' [] _ [] σ ⟨F, by rw [e]; exact f2.addT (.int z)⟩
  have toll : ∀ {k : Nat}, PySem.W.exmOne K (.ref c) (.ref c5) = some false → PySem.W.exmOne K (.ref c) (.ref cT) = some true → Wk K c1 c2 c3 c4 c5 cT c k → d = .int (k : Nat) → wN K (fun _ _ _ _ => False) D' [⟨.ref c5, some i, tsA17 K c1 c2 c3 c4 c5 cT i⟩, ⟨.ref cT, some i, tsT17 K c1 c2 c3 c4 c5 cT i⟩] (.ref c) dd σ H := fun {k} nn mm ww e => by
    refine ⟨false, nn, (fun z => nomatch z), fun _ => ⟨true, mm, fun _ a _ => ?_, fun z => nomatch z⟩⟩
    unfold Cl.go
    dsimp only
    unfold tsT17 tSeq tRet
    dsimp only
    exact ⟨hs a, c, k, rfl, ww, hx.fs, fun H' s => fin e s⟩
  unfold hnd17 at eh
  by_cases e5 : c = c5
  · subst e5
    rw [if_pos rfl] at eh
    cases r with
    | none => cases eh
    | some z =>
      dsimp only at eh
      refine ⟨true, h5, fun _ a _ => ?_, fun z => nomatch z⟩
      unfold Cl.go
      dsimp only
      unfold tsA17 tSeq tRet tIf tTest tOp tC
      dsimp only
      refine xf_run (hs a) hx ⟨rfl, decide (V.int z = V.int 2), rfl, ?_⟩
      by_cases ez : z = 2
      · subst ez
        rw [if_pos rfl] at eh
        cases eh
        rw [if_pos (decide_eq_true rfl)]
        exact ⟨hs a, c, 4, rfl, w5, hx.fs, fun H' s => fin rfl s⟩
      · rw [if_neg ez] at eh
        cases eh
        rw [if_neg (by rw [decide_eq_false (fun h => ez (V.int.inj h))]; exact Bool.false_ne_true)]
        exact ⟨2, rfl, fin rfl (Same.refl H)⟩
  · rw [if_neg e5] at eh
    by_cases e1 : c = c1
    · subst e1
      rw [if_pos rfl] at eh
      cases eh
      exact toll n1 m1 w1 rfl
    · rw [if_neg e1] at eh
      by_cases e2 : c = c2
      · subst e2
        rw [if_pos rfl] at eh
        cases eh
        exact toll n2 m2 w2 rfl
      · rw [if_neg e2] at eh
        by_cases e3 : c = c3
        · subst e3
          rw [if_pos rfl] at eh
          cases eh
          exact toll n3 m3 w3 rfl
        · rw [if_neg e3] at eh
          by_cases e4 : c = c4
          · subst e4
            rw [if_pos rfl] at eh
            cases eh
            exact toll n4 m4 w4 rfl
          · rw [if_neg e4] at eh
            cases eh⟩
section
variable {X : Cx} {K : PySem.W.Frag} {C : Addr} {E : XK}
theorem z_try17 {body : List Stmt} {x1 x2 nm : Str} {c1 c2 c3 c4 c5 cT i n l j j2 : Nat} {np1 np2 b1 b2 b3 b4 b5 b6 b7 b8 b9 b10 b11 d1 d2 d3 d4 pos1 pos2 pos : Pos} {tb : XK → TS} {m : Sta → Rs Ou} (hs : X.stack = X.env :: X.outer) (hf : X.env.frame = some X.env.locals) (hN : X.N.Nodup) (hi : X.N[i]? = some nm) (hln : X.env.kindOf nm = some .local) (hn : X.N.length = n)
    (hc1 : Names X x1 (.ref c5)) (hc2 : Names X x2 (.ref cT)) (hv : Vis X.env.scope nm) (hb : ∀ (E : XK) (pn : List (Addr × Obj)) (xe : Value → Shared → Prop), Passes (L2.CX X.prog X.w) (X.tr pn xe) E → PSSM (X.tr pn xe) K C E body (tb E) m)
    (T : XfC K c5) (nr : PySem.W.findIn K (.ref c5) "road" = some none) (Wc : CalWh X.prog X.w K X.mg X.base c1 c2 c3 c4 c5 cT l) (hr : Room l X.A)
    (h5 : PySem.W.exmOne K (.ref c5) (.ref c5) = some true) (n1 : PySem.W.exmOne K (.ref c1) (.ref c5) = some false) (n2 : PySem.W.exmOne K (.ref c2) (.ref c5) = some false) (n3 : PySem.W.exmOne K (.ref c3) (.ref c5) = some false) (n4 : PySem.W.exmOne K (.ref c4) (.ref c5) = some false)
    (m1 : PySem.W.exmOne K (.ref c1) (.ref cT) = some true) (m2 : PySem.W.exmOne K (.ref c2) (.ref cT) = some true) (m3 : PySem.W.exmOne K (.ref c3) (.ref cT) = some true) (m4 : PySem.W.exmOne K (.ref c4) (.ref cT) = some true)
    (w1 : Wk K c1 c2 c3 c4 c5 cT c1 0) (w2 : Wk K c1 c2 c3 c4 c5 cT c2 1) (w3 : Wk K c1 c2 c3 c4 c5 cT c3 2) (w4 : Wk K c1 c2 c3 c4 c5 cT c4 3) (w5 : Wk K c1 c2 c3 c4 c5 cT c5 4)
    (hd : (nm == ("__debug__" : Str)) = false := by decide) (hcd : (nm == ("__classdict__" : Str)) = false := by decide) (hgw : Gl X "_law_which" := by rfl)
    (hbase : ∀ p p2, attributeBase (.Name nm p) "road" X.env (eval (.Name nm p2) X.env) = eval (.Name nm p2) X.env := by intro _ _; rfl) (hK : X.K = K := by rfl) :
    PSM X K C E (.Try body [.ExceptHandler (some (.Name x1 np1)) (some nm) [.Return (some (.IfExp (.Compare (.Attribute (.Name nm b1) "road" b2) [.Eq] [.Constant (.int 2) j b3] b4) (.Call (.Name "_law_which" b5) [.Name nm b6] [] b7) (.UnaryOp .USub (.Constant (.int 2) j2 b8) b9) b10)) b11] pos1,
        .ExceptHandler (some (.Name x2 np2)) (some nm) [.Return (some (.Call (.Name "_law_which" d1) [.Name nm d2] [] d3)) d4] pos2] [] [] pos)
      (fun D' σ H => tb (EWn n (wN K (fun _ _ _ _ => False) D' [⟨.ref c5, some i, tsA17 K c1 c2 c3 c4 c5 cT i⟩, ⟨.ref cT, some i, tsT17 K c1 c2 c3 c4 c5 cT i⟩])) D' σ H) (sTry n m (hnd17 c1 c2 c3 c4 c5)) := by
  subst hK
  have hin : i < n := by rw [← hn]; exact (List.getElem?_eq_some_iff.mp hi).1
  refine ⟨?_, sm_try (fun E => (hb E [] (fun _ _ => True) fun _ _ _ _ _ _ _ _ => trivial).q) (suW_17 hin h5 n1 n2 n3 n4 m1 m2 m3 m4 w1 w2 w3 w4 w5)⟩
  refine ps_tryN (tb := fun W => tb (EWn n W)) hs hf hN takes0 (fun W pn xe tk _ => (hb (EWn n W) pn xe (passes_n tk hn)).p) ?_
  have wh : ∀ (a : Addr) (oe : Obj) (cls : Value) (d : Option Addr) (pn : List (Addr × Obj)) (p q1 ps : Pos), Zc cls d oe → (∃ vs, oe.data = .fields vs) → PE (X.suite a ((a, oe) :: pn)) (.Call (.Name "_law_which" p) [.Name nm q1] [] ps) (tWh X.K c1 c2 c3 c4 c5 cT i a cls d) := fun a oe cls d pn p q1 ps hz hfl =>
    pe_which (X := X.suite a ((a, oe) :: pn)) Wc List.mem_cons_self hz hfl ⟨hr.dp, hr.un⟩ hgw (pe_var hi hv hd hcd)
  refine .cons (.nm hi hln hc1 fun a oe cls d pn hz hfl => ?_) (.cons (.nm hi hln hc2 fun a oe cls d pn hz hfl => ?_) .nil)
  · exact pss_cons (ps_ret (pe_ifExp (pt_cmpR op_eq (pe_xf T nr hz hfl (pe_var hi hv hd hcd) (hbase _ _)) pe_int (nomark _)) (wh a oe cls d pn _ _ _ hz hfl) (pe_un un_neg pe_int))) pss_nil
  · exact pss_cons (ps_ret (wh a oe cls d pn _ _ _ hz hfl)) pss_nil
end
end Z
set_option Elab.async false
set_option linter.all false
set_option maxRecDepth 100000
set_option maxHeartbeats 4000000
namespace Z
set_option autoImplicit false
open PySem L2
def m_law_met_k17 (c_BadWeb : Addr) (c_BadWorths : Addr) (c_BadCosts : Addr) (c_NoWay : Addr) (c_Alone : Addr) (φ_shelf_best φ_pile_best φ_pile_pays φ_road_best φ_road_gets φ_road_gain : List D → Rs D) : Sta → Rs Ou :=
    (sSeq (sSet 2 (mWeb (chkW c_BadWeb) (mCons (mC (.int 3)) (mCons (mLst (mCons (mTup (mCons (mC (.int 0)) (mCons (mC (.int 1)) mNil))) (mCons (mTup (mCons (mC (.int 0)) (mCons (mC (.int 1)) mNil))) (mCons (mTup (mCons (mC (.int 1)) (mCons (mC (.int 2)) mNil))) mNil)))) mNil))))
    (sSeq (sTry 4 (sSeq (sIf (mT (m2 dEq (mV 0) (mC (.int 0)))) (sSeq (sExp (mCall φ_shelf_best (mCons (mLst mNil) mNil)))
    sNil)
    (sSeq (sIf (mT (m2 dEq (mV 0) (mC (.int 1)))) (sSeq (sExp (mCall φ_pile_best (mCons (mC (.int 1)) (mCons (mLst (mCons (mLst (mCons (mC (.int 1)) (mCons (mC (.int 2)) mNil))) mNil)) mNil))))
    sNil)
    (sSeq (sIf (mT (m2 dEq (mV 0) (mC (.int 2)))) (sSeq (sExp (mCall φ_pile_pays (mCons (mC (.int 13)) (mCons (mLst (mCons (mLst (mCons (mC (.int 2)) (mCons (mC (.int 1)) mNil))) mNil)) mNil))))
    sNil)
    (sSeq (sIf (mT (m2 dEq (mV 0) (mC (.int 3)))) (sSeq (sExp (mWeb (chkW c_BadWeb) (mCons (mC (.int 2)) (mCons (mLst mNil) mNil))))
    sNil)
    (sSeq (sIf (mT (m2 dEq (mV 0) (mC (.int 4)))) (sSeq (sExp (mCall φ_road_best (mCons (mV 2) (mCons (mV 1) (mCons (mLst (mCons (mC (.int 1)) (mCons (mC (.int 2)) mNil))) mNil)))))
    sNil)
    (sSeq (sIf (mT (m2 dEq (mV 0) (mC (.int 5)))) (sSeq (sExp (mCall φ_road_best (mCons (mWeb (chkW c_BadWeb) (mCons (mC (.int 3)) (mCons (mLst (mCons (mTup (mCons (mC (.int 0)) (mCons (mC (.int 1)) mNil))) mNil)) mNil))) (mCons (mV 1) (mCons (mLst (mCons (mC (.int 5)) mNil)) mNil)))))
    sNil)
    (sSeq (sIf (mT (m2 dEq (mV 0) (mC (.int 6)))) (sSeq (sExp (mCall φ_road_gets (mCons (mWeb (chkW c_BadWeb) (mCons (mC (.int 4)) (mCons (mLst (mCons (mTup (mCons (mC (.int 0)) (mCons (mC (.int 1)) mNil))) (mCons (mTup (mCons (mC (.int 2)) (mCons (mC (.int 3)) mNil))) (mCons (mTup (mCons (mC (.int 1)) (mCons (mC (.int 0)) mNil))) mNil)))) mNil))) (mCons (mV 1) (mCons (mLst (mCons (mC (.int 0)) (mCons (mC (.int 0)) (mCons (mC (.int 0)) mNil)))) mNil)))))
    sNil)
    (sSeq (sIf (mT (m2 dEq (mV 0) (mC (.int 7)))) (sSeq (sExp (mCall φ_road_gets (mCons (mV 2) (mCons (mV 1) (mCons (mLst (mCons (mC (.int 4)) (mCons (mC (.int 3)) (mCons (mC (.int 9)) mNil)))) mNil)))))
    sNil)
    (sSeq (sExp (mCall φ_road_gain (mCons (mV 2) (mCons (mV 1) (mCons (mLst (mCons (mC (.int 1)) (mCons (mC (.int 1)) (mCons (mC (.int 1)) mNil)))) (mCons (mC (.int 1)) (mCons (mC (.int 7)) mNil)))))))
    sNil))
    sNil))
    sNil))
    sNil))
    sNil))
    sNil))
    sNil))
    sNil))
    sNil) (hnd17 c_BadWorths c_BadWeb c_BadCosts c_NoWay c_Alone))
    (sSeq (sRet (mC (.int 9)))
    sNil)))
def p_law_met_k17 (c_BadWeb : Addr) (c_BadWorths : Addr) (c_BadCosts : Addr) (c_NoWay : Addr) (c_Alone : Addr) (φ_shelf_best φ_pile_best φ_pile_pays φ_road_best φ_road_gets φ_road_gain : List D → Rs D) : List D → Rs D := fun ds => (runM 4 (m_law_met_k17 c_BadWeb c_BadWorths c_BadCosts c_NoWay c_Alone φ_shelf_best φ_pile_best φ_pile_pays φ_road_best φ_road_gets φ_road_gain) ds).nx
def P_law_met_k17 (c_Alone : Addr) (c_BadCosts : Addr) (c_BadWeb : Addr) (c_BadWorths : Addr) (c_NoWay : Addr) : List D → Rs D := p_law_met_k17 c_BadWeb c_BadWorths c_BadCosts c_NoWay c_Alone (P_shelf_best c_BadWorths) (P_pile_best c_BadWorths) (P_pile_pays c_BadWorths) (P_road_best c_BadCosts c_NoWay) (P_road_gets c_Alone c_BadCosts c_NoWay) (P_road_gain c_Alone c_BadCosts c_NoWay)
def m_law_k17 (φ_law_met_k17 φ_law_cell_at : List D → Rs D) : Sta → Rs Ou :=
    (sSeq (sSet 1 (m2 dMod (mCall (fun ds => (φ_law_cell_at ds).nx) (mCons (mV 0) (mCons (mC (.int 0)) mNil))) (mC (.int 9))))
    (sSeq (sFor (mRng1 (mCons (mC (.int 9)) mNil)) (.one 2) [2, 3, 4]
    (sSeq (sSet 3 (m2 dMod (m2 dAdd (mV 1) (mV 2)) (mC (.int 9))))
    (sSeq (sSet 4 (m2 dIx (mLst (mCons (mC (.str ("way" : Str))) (mCons (mC (.str ("tree" : Str))) mNil))) (m2 dMod (m2 dAdd (mCall (fun ds => (φ_law_cell_at ds).nx) (mCons (mV 0) (mCons (mC (.int 1)) mNil))) (mV 2)) (mC (.int 2)))))
    (sSeq (sIf (mT (m2 dNe (mCall (fun ds => (φ_law_met_k17 ds).nx) (mCons (mV 3) (mCons (mV 4) mNil))) (m2 dIx (mLst (mCons (mC (.int 0)) (mCons (mC (.int 0)) (mCons (mC (.int 0)) (mCons (mC (.int 1)) (mCons (mC (.int 2)) (mCons (mC (.int 3)) (mCons (mC (.int 3)) (mCons (mC (.int 4)) (mCons (mC (.int 4)) mNil)))))))))) (mV 3)))) (sSeq (sRet (mC (.bl false)))
    sNil)
    sNil)
    sNil))))
    (sSeq (sRet (mC (.bl true)))
    sNil)))
def p_law_k17 (φ_law_met_k17 φ_law_cell_at : List D → Rs D) : List D → Rs D := fun ds => (runM 5 (m_law_k17 φ_law_met_k17 φ_law_cell_at) ds).nx
def P_law_k17 (c_Alone : Addr) (c_BadCosts : Addr) (c_BadWeb : Addr) (c_BadWorths : Addr) (c_NoWay : Addr) : List D → Rs D := p_law_k17 (P_law_met_k17 c_Alone c_BadCosts c_BadWeb c_BadWorths c_NoWay) (P_law_cell_at)
end Z
set_option Elab.async false
set_option linter.all false
set_option maxRecDepth 100000
set_option maxHeartbeats 4000000
/-! S, part 29: law k17. -/
namespace Z
set_option autoImplicit false
open PySem L2
abbrev rds3 : List (Nat × Nat) := [(0, 1), (0, 1), (1, 2)]
theorem web3 : WebOk 3 rds3 := ⟨by decide, by decide, by decide, by decide, by decide⟩
theorem web31 : WebOk 3 [(0, 1)] := ⟨by decide, by decide, by decide, by decide, by decide⟩
theorem web4 : WebOk 4 [(0, 1), (2, 3), (1, 0)] := ⟨by decide, by decide, by decide, by decide, by decide⟩
theorem gets_none {way : Bool} {n : Nat} {rds : List (Nat × Nat)} {c : List Int} {cA cB cN : Addr} (h : costsOk rds c = true) (h2 : topF way n rds c = none) : getsR way n rds c cA cB cN = .ex cN none := by
  unfold getsR
  rw [if_pos h, h2]
theorem gets_alone {way : Bool} {n : Nat} {rds : List (Nat × Nat)} {c : List Int} {cA cB cN : Addr} {p : Told} {r : Int} (h : costsOk rds c = true) (h2 : topF way n rds c = some p) (h3 : p.2.find? (fun r => (woF way n rds c r).isNone) = some r) : getsR way n rds c cA cB cN = .ex cA (some r) := by
  unfold getsR
  rw [if_pos h, h2]
  dsimp only
  rw [h3]
def exp17 (w : Nat) : Int := [0, 0, 0, 1, 2, 3, 3, 4, 4].getD w 0
/-- the classes stand apart -/
structure Apart (cA cB cE cW cN : Addr) : Prop where
  wa : cW ≠ cA
  ea : cE ≠ cA
  ew : cE ≠ cW
  ba : cB ≠ cA
  bw : cB ≠ cW
  be : cB ≠ cE
  na : cN ≠ cA
  nw : cN ≠ cW
  ne : cN ≠ cE
  nb : cN ≠ cB
section
variable {cA cB cE cW cN : Addr}
theorem h17_W (h : Apart cA cB cE cW cN) : hnd17 cW cE cB cN cA cW none = .ok (.int 0) := by
  unfold hnd17
  rw [if_neg h.wa, if_pos rfl]
theorem h17_E (h : Apart cA cB cE cW cN) : hnd17 cW cE cB cN cA cE none = .ok (.int 1) := by
  unfold hnd17
  rw [if_neg h.ea, if_neg h.ew, if_pos rfl]
theorem h17_B (h : Apart cA cB cE cW cN) : hnd17 cW cE cB cN cA cB none = .ok (.int 2) := by
  unfold hnd17
  rw [if_neg h.ba, if_neg h.bw, if_neg h.be, if_pos rfl]
theorem h17_N (h : Apart cA cB cE cW cN) : hnd17 cW cE cB cN cA cN none = .ok (.int 3) := by
  unfold hnd17
  rw [if_neg h.na, if_neg h.nw, if_neg h.ne, if_neg h.nb, if_pos rfl]
theorem h17_A : hnd17 cW cE cB cN cA cA (some 2) = .ok (.int 4) := by
  unfold hnd17
  rw [if_pos rfl]
  rfl
theorem met17 (h : Apart cA cB cE cW cN) (b : Bool) {w : Nat} (hw : w < 9) : P_law_met_k17 cA cB cE cW cN [.int (w : Int), kindD b] = .ok (.int (exp17 w)) := by
  have e0 : P_shelf_best cW [.lst []] = .ex cW none := sp_shelf_best_ex (rows := []) (by decide +kernel) (fun r hr => nomatch hr) cW
  have b1 : BadP 1 [[1, 2]] := ⟨by decide +kernel, by decide, by decide⟩
  have b2 : BadP 13 [[2, 1]] := ⟨by decide +kernel, by decide, by decide⟩
  have e1 : P_pile_best cW [.int 1, .lst ([[1, 2]].map intsD)] = .ex cW none := by
    unfold P_pile_best p_pile_best m_pile_best
    exact runM_ex (sSeq_ex (sExp_ex (mCall_ex (xs := [.int 1, .lst ([[1, 2]].map intsD)]) rfl (b1.check cW))))
  have e2 : P_pile_pays cW [.int 13, .lst ([[2, 1]].map intsD)] = .ex cW none := by
    unfold P_pile_pays p_pile_pays m_pile_pays
    exact runM_ex (sSeq_ex (sExp_ex (mCall_ex (xs := [.int 13, .lst ([[2, 1]].map intsD)]) rfl (b2.check cW))))
  have lim : ∀ {l : List Int}, l.length ≤ 3 → l.length ≤ LIM := fun h => Nat.le_trans h (by decide)
  have e4 : P_road_best cB cN [webD 3 rds3, kindD b, .lst ([1, 2].map D.int)] = .ex cB none := (sp_road_best b web3 (lim (by decide)) cB cN).trans (if_neg (by decide +kernel))
  have k5 : topF b 3 [(0, 1)] [5] = none := (by decide +kernel : ∀ b : Bool, topF b 3 [(0, 1)] [5] = none) b
  have e5 : P_road_best cB cN [webD 3 [(0, 1)], kindD b, .lst ([5].map D.int)] = .ex cN none := (sp_road_best b web31 (lim (by decide)) cB cN).trans ((if_pos (by decide +kernel)).trans (by rw [k5]))
  have k6 : topF b 4 [(0, 1), (2, 3), (1, 0)] [0, 0, 0] = none := (by decide +kernel : ∀ b : Bool, topF b 4 [(0, 1), (2, 3), (1, 0)] [0, 0, 0] = none) b
  have e6 : P_road_gets cA cB cN [webD 4 [(0, 1), (2, 3), (1, 0)], kindD b, .lst ([0, 0, 0].map D.int)] = .ex cN none := (sp_road_gets b web4 (lim (by decide)) cA cB cN).trans (by rw [gets_none (by decide +kernel) k6]; rfl)
  have k7 : topF b 3 rds3 [4, 3, 9] = some (12, [1, 2]) := (by decide +kernel : ∀ b : Bool, topF b 3 rds3 [4, 3, 9] = some (12, [1, 2])) b
  have f7 : ([1, 2] : List Int).find? (fun r => (woF b 3 rds3 [4, 3, 9] r).isNone) = some 2 := (by decide +kernel : ∀ b : Bool, ([1, 2] : List Int).find? (fun r => (woF b 3 rds3 [4, 3, 9] r).isNone) = some 2) b
  have e7 : P_road_gets cA cB cN [webD 3 rds3, kindD b, .lst ([4, 3, 9].map D.int)] = .ex cA (some 2) := (sp_road_gets b web3 (lim (by decide)) cA cB cN).trans (by rw [gets_alone (by decide +kernel) k7 f7]; rfl)
  have k8 : topF b 3 rds3 [1, 1, 1] = some (2, [0, 2]) := (by decide +kernel : ∀ b : Bool, topF b 3 rds3 [1, 1, 1] = some (2, [0, 2])) b
  have f8 : ([0, 2] : List Int).find? (fun r => (woF b 3 rds3 [1, 1, 1] r).isNone) = some 2 := (by decide +kernel : ∀ b : Bool, ([0, 2] : List Int).find? (fun r => (woF b 3 rds3 [1, 1, 1] r).isNone) = some 2) b
  have e8 : P_road_gain cA cB cN [webD 3 rds3, kindD b, .lst ([1, 1, 1].map D.int), .int 1, .int 7] = .ex cA (some 2) := (sp_road_gain b web3 (lim (by decide)) cA cB cN 7 (r := 1) (by decide) (by decide)).trans (by rw [gets_alone (by decide +kernel) k8 f8]; rfl)
  have e3 : ∀ g : G, mWeb (chkW cE) (mCons (mC (.int 2)) (mCons (mLst mNil) mNil)) g = .ex cE none := fun _ => rfl
  have go : ∀ {c : Addr} {r : Option Int} {d : D} {body : Sta → Rs Ou}, body ⟨[some (.int (w : Int)), some (kindD b), some (webD 3 rds3), none], none⟩ = .ex c r → hnd17 cW cE cB cN cA c r = .ok d →
      (runM 4 (sSeq (sSet 2 (mWeb (chkW cE) (mCons (mC (.int 3)) (mCons (mLst (mCons (mTup (mCons (mC (.int 0)) (mCons (mC (.int 1)) mNil))) (mCons (mTup (mCons (mC (.int 0)) (mCons (mC (.int 1)) mNil))) (mCons (mTup (mCons (mC (.int 1)) (mCons (mC (.int 2)) mNil))) mNil)))) mNil)))) (sSeq (sTry 4 body (hnd17 cW cE cB cN cA)) (sSeq (sRet (mC (.int 9))) sNil))) [.int (w : Int), kindD b]).nx = .ok d := fun hb hd =>
    runM_rt' (sSeq_eq (sSet_eq (d := webD 3 rds3) rfl) (sSeq_rt (sTry_ex rfl hb hd)))
  have hc : w = 0 ∨ w = 1 ∨ w = 2 ∨ w = 3 ∨ w = 4 ∨ w = 5 ∨ w = 6 ∨ w = 7 ∨ w = 8 := by omega
  unfold P_law_met_k17 p_law_met_k17 m_law_met_k17
  rcases hc with rfl | rfl | rfl | rfl | rfl | rfl | rfl | rfl | rfl
  · exact go (c := cW) (sSeq_ex (sIf_t (mT_eq (m2_eq rfl rfl (dEq_t rfl))) (sSeq_ex (sExp_ex (mCall_ex (xs := [.lst []]) rfl e0))))) (h17_W h)
  · exact go (c := cW) (sSeq_ex (sIf_f (mT_eq (m2_eq rfl rfl (dEq_f (by decide)))) (sSeq_ex (sIf_t (mT_eq (m2_eq rfl rfl (dEq_t rfl))) (sSeq_ex (sExp_ex (mCall_ex (xs := [.int 1, .lst ([[1, 2]].map intsD)]) rfl e1))))))) (h17_W h)
  · exact go (c := cW) (sSeq_ex (sIf_f (mT_eq (m2_eq rfl rfl (dEq_f (by decide)))) (sSeq_ex (sIf_f (mT_eq (m2_eq rfl rfl (dEq_f (by decide)))) (sSeq_ex (sIf_t (mT_eq (m2_eq rfl rfl (dEq_t rfl))) (sSeq_ex (sExp_ex (mCall_ex (xs := [.int 13, .lst ([[2, 1]].map intsD)]) rfl e2))))))))) (h17_W h)
  · exact go (c := cE) (sSeq_ex (sIf_f (mT_eq (m2_eq rfl rfl (dEq_f (by decide)))) (sSeq_ex (sIf_f (mT_eq (m2_eq rfl rfl (dEq_f (by decide)))) (sSeq_ex (sIf_f (mT_eq (m2_eq rfl rfl (dEq_f (by decide)))) (sSeq_ex (sIf_t (mT_eq (m2_eq rfl rfl (dEq_t rfl))) (sSeq_ex (sExp_ex (e3 _))))))))))) (h17_E h)
  · exact go (c := cB) (sSeq_ex (sIf_f (mT_eq (m2_eq rfl rfl (dEq_f (by decide)))) (sSeq_ex (sIf_f (mT_eq (m2_eq rfl rfl (dEq_f (by decide)))) (sSeq_ex (sIf_f (mT_eq (m2_eq rfl rfl (dEq_f (by decide)))) (sSeq_ex (sIf_f (mT_eq (m2_eq rfl rfl (dEq_f (by decide)))) (sSeq_ex (sIf_t (mT_eq (m2_eq rfl rfl (dEq_t rfl))) (sSeq_ex (sExp_ex (mCall_ex (xs := [webD 3 rds3, kindD b, .lst ([1, 2].map D.int)]) rfl e4))))))))))))) (h17_B h)
  · exact go (c := cN) (sSeq_ex (sIf_f (mT_eq (m2_eq rfl rfl (dEq_f (by decide)))) (sSeq_ex (sIf_f (mT_eq (m2_eq rfl rfl (dEq_f (by decide)))) (sSeq_ex (sIf_f (mT_eq (m2_eq rfl rfl (dEq_f (by decide)))) (sSeq_ex (sIf_f (mT_eq (m2_eq rfl rfl (dEq_f (by decide)))) (sSeq_ex (sIf_f (mT_eq (m2_eq rfl rfl (dEq_f (by decide)))) (sSeq_ex (sIf_t (mT_eq (m2_eq rfl rfl (dEq_t rfl))) (sSeq_ex (sExp_ex (mCall_ex (xs := [webD 3 [(0, 1)], kindD b, .lst ([5].map D.int)]) rfl e5))))))))))))))) (h17_N h)
  · exact go (c := cN) (sSeq_ex (sIf_f (mT_eq (m2_eq rfl rfl (dEq_f (by decide)))) (sSeq_ex (sIf_f (mT_eq (m2_eq rfl rfl (dEq_f (by decide)))) (sSeq_ex (sIf_f (mT_eq (m2_eq rfl rfl (dEq_f (by decide)))) (sSeq_ex (sIf_f (mT_eq (m2_eq rfl rfl (dEq_f (by decide)))) (sSeq_ex (sIf_f (mT_eq (m2_eq rfl rfl (dEq_f (by decide)))) (sSeq_ex (sIf_f (mT_eq (m2_eq rfl rfl (dEq_f (by decide)))) (sSeq_ex (sIf_t (mT_eq (m2_eq rfl rfl (dEq_t rfl))) (sSeq_ex (sExp_ex (mCall_ex (xs := [webD 4 [(0, 1), (2, 3), (1, 0)], kindD b, .lst ([0, 0, 0].map D.int)]) rfl e6))))))))))))))))) (h17_N h)
  · exact go (c := cA) (sSeq_ex (sIf_f (mT_eq (m2_eq rfl rfl (dEq_f (by decide)))) (sSeq_ex (sIf_f (mT_eq (m2_eq rfl rfl (dEq_f (by decide)))) (sSeq_ex (sIf_f (mT_eq (m2_eq rfl rfl (dEq_f (by decide)))) (sSeq_ex (sIf_f (mT_eq (m2_eq rfl rfl (dEq_f (by decide)))) (sSeq_ex (sIf_f (mT_eq (m2_eq rfl rfl (dEq_f (by decide)))) (sSeq_ex (sIf_f (mT_eq (m2_eq rfl rfl (dEq_f (by decide)))) (sSeq_ex (sIf_f (mT_eq (m2_eq rfl rfl (dEq_f (by decide)))) (sSeq_ex (sIf_t (mT_eq (m2_eq rfl rfl (dEq_t rfl))) (sSeq_ex (sExp_ex (mCall_ex (xs := [webD 3 rds3, kindD b, .lst ([4, 3, 9].map D.int)]) rfl e7))))))))))))))))))) h17_A
  · exact go (c := cA) (sSeq_ex (sIf_f (mT_eq (m2_eq rfl rfl (dEq_f (by decide)))) (sSeq_ex (sIf_f (mT_eq (m2_eq rfl rfl (dEq_f (by decide)))) (sSeq_ex (sIf_f (mT_eq (m2_eq rfl rfl (dEq_f (by decide)))) (sSeq_ex (sIf_f (mT_eq (m2_eq rfl rfl (dEq_f (by decide)))) (sSeq_ex (sIf_f (mT_eq (m2_eq rfl rfl (dEq_f (by decide)))) (sSeq_ex (sIf_f (mT_eq (m2_eq rfl rfl (dEq_f (by decide)))) (sSeq_ex (sIf_f (mT_eq (m2_eq rfl rfl (dEq_f (by decide)))) (sSeq_ex (sIf_f (mT_eq (m2_eq rfl rfl (dEq_f (by decide)))) (sSeq_ex (sExp_ex (mCall_ex (xs := [webD 3 rds3, kindD b, .lst ([1, 1, 1].map D.int), .int 1, .int 7]) rfl e8))))))))))))))))))) h17_A
end
theorem main_k17 (cA cB cE cW cN : Addr) (wa : cW ≠ cA) (ea : cE ≠ cA) (ew : cE ≠ cW) (ba : cB ≠ cA) (bw : cB ≠ cW) (be : cB ≠ cE) (na : cN ≠ cA) (nw : cN ≠ cW) (ne : cN ≠ cE) (nb : cN ≠ cB) (ns : List Int) (hns : ns.length ≤ 63) : P_law_k17 cA cB cE cW cN [.scr ns] = .ok (.bl true) := by
  have ap : Apart cA cB cE cW cN := ⟨wa, ea, ew, ba, bw, be, na, nw, ne, nb⟩
  unfold P_law_k17 p_law_k17
  refine runM_rt' ?_
  unfold m_law_k17
  refine sSeq_eq (sSet_eq (m2_eq (mCalln_eq (mCons_eq rfl (mCons_eq rfl rfl)) (sp_cell_0 ns)) rfl (dMod_i (by decide)))) ?_
  generalize cellAt ns 0 % 9 = first
  let st : Sta := ⟨[some (.scr ns), some (.int first), none, none, none], none⟩
  refine sSeq_eq (s' := st) (sFor_eq (rng1_nat (n := 9) (by decide) (mCons_eq rfl rfl)) ?_) (sSeq_rt (sRet_eq rfl))
  refine forGo_pass (st := st) (fun (i : Nat) => D.int (i : Int)) (List.range 9) fun k hk => ⟨[(2, .int (k : Int))], rfl, rfl, ?_⟩
  obtain ⟨w, hw, ew⟩ : ∃ w : Nat, w < 9 ∧ (first + (k : Int)) % 9 = (w : Int) := ⟨((first + (k : Int)) % 9).toNat, by omega, by omega⟩
  obtain ⟨b, eb⟩ : ∃ b : Bool, atI [D.str ("way" : Str), D.str ("tree" : Str)] ((cellAt ns 1 + (k : Int)) % 2) = some (kindD b) := by
    have h : (cellAt ns 1 + (k : Int)) % 2 = 0 ∨ (cellAt ns 1 + (k : Int)) % 2 = 1 := by omega
    rcases h with h | h <;> rw [h]
    · exact ⟨true, rfl⟩
    · exact ⟨false, rfl⟩
  have ex : atI [D.int 0, .int 0, .int 0, .int 1, .int 2, .int 3, .int 3, .int 4, .int 4] (w : Int) = some (.int (exp17 w)) := by
    have hc : w = 0 ∨ w = 1 ∨ w = 2 ∨ w = 3 ∨ w = 4 ∨ w = 5 ∨ w = 6 ∨ w = 7 ∨ w = 8 := by omega
    rcases hc with rfl | rfl | rfl | rfl | rfl | rfl | rfl | rfl | rfl <;> rfl
  refine ⟨⟨[some (.scr ns), some (.int first), some (.int (k : Int)), some (.int (w : Int)), some (kindD b)], none⟩, sSeq_eq (sSet_eq (d := .int (w : Int)) (m2_eq (m2_eq rfl rfl (dAdd_i _ _)) rfl ((dMod_i (by decide)).trans (by rw [ew])))) ?_, ?_⟩
  · refine sSeq_eq (sSet_eq (d := kindD b) (m2_eq (mLst_eq (mCons_eq rfl (mCons_eq rfl rfl))) (m2_eq (m2_eq (mCalln_eq (mCons_eq rfl (mCons_eq rfl rfl)) (sp_cell_1 ns)) rfl (dAdd_i _ _)) rfl (dMod_i (by decide))) eb)) ?_
    refine sSeq_nil (sIf_f (tst (mT_eq (m2_eq (mCalln_eq (mCons_eq rfl (mCons_eq rfl rfl)) (met17 ap b hw)) (m2_eq (mLst_eq (mCons_eq rfl (mCons_eq rfl (mCons_eq rfl (mCons_eq rfl (mCons_eq rfl (mCons_eq rfl (mCons_eq rfl (mCons_eq rfl (mCons_eq rfl rfl)))))))))) rfl ex) (dNe_i _ _))) (by rw [decide_eq_true rfl]; rfl)) rfl)
  · rfl
end Z
set_option Elab.async false
set_option linter.all false
set_option maxRecDepth 100000
set_option maxHeartbeats 8000000
namespace Z
set_option autoImplicit false
open PySem L2
def top (i : Nat) : Stmt := PySem.Challenge.pw_truthtoll_k17_refusals_apart.main.body.getD i (.Pass ⟨0, 0, 0, 0⟩)
structure Tx (K : PySem.W.Frag) (mg : Str → Option Value) (C : Addr) (c_BadWorths : Addr) (c_BadWeb : Addr) (c_BadCosts : Addr) (c_NoWay : Addr) (c_Alone : Addr) (c_TollError : Addr) : Prop where
  b_ValueError : mg "ValueError" = none
  b_all : mg "all" = none
  b_enumerate : mg "enumerate" = none
  b_isinstance : mg "isinstance" = none
  b_len : mg "len" = none
  b_list : mg "list" = none
  b_min : mg "min" = none
  b_range : mg "range" = none
  b_reversed : mg "reversed" = none
  b_sorted : mg "sorted" = none
  b_sum : mg "sum" = none
  g_MOST : ∃ tk, mg "MOST" = some (.int 1000 tk)
  g_MOST_PIECES : ∃ tk, mg "MOST_PIECES" = some (.int 12 tk)
  x_BadWorths : PySem.W.excIn K c_BadWorths He.veBase "ValueError.__new__" = true
  g_BadWorths : mg "BadWorths" = some (.ref c_BadWorths)
  k_BadWorths : PySem.W.keepIn K (.ref c_BadWorths) = true
  s_BadWorths : PySem.W.subIn K (.ref c_BadWorths) (.type "BaseException") = some true
  t_BadWorths : PySem.W.typeIn K (.ref c_BadWorths) = some (.type "type")
  x_BadWeb : PySem.W.excIn K c_BadWeb He.veBase "ValueError.__new__" = true
  g_BadWeb : mg "BadWeb" = some (.ref c_BadWeb)
  k_BadWeb : PySem.W.keepIn K (.ref c_BadWeb) = true
  s_BadWeb : PySem.W.subIn K (.ref c_BadWeb) (.type "BaseException") = some true
  t_BadWeb : PySem.W.typeIn K (.ref c_BadWeb) = some (.type "type")
  x_BadCosts : PySem.W.excIn K c_BadCosts He.veBase "ValueError.__new__" = true
  g_BadCosts : mg "BadCosts" = some (.ref c_BadCosts)
  k_BadCosts : PySem.W.keepIn K (.ref c_BadCosts) = true
  s_BadCosts : PySem.W.subIn K (.ref c_BadCosts) (.type "BaseException") = some true
  t_BadCosts : PySem.W.typeIn K (.ref c_BadCosts) = some (.type "type")
  x_NoWay : PySem.W.excIn K c_NoWay He.veBase "ValueError.__new__" = true
  g_NoWay : mg "NoWay" = some (.ref c_NoWay)
  k_NoWay : PySem.W.keepIn K (.ref c_NoWay) = true
  s_NoWay : PySem.W.subIn K (.ref c_NoWay) (.type "BaseException") = some true
  t_NoWay : PySem.W.typeIn K (.ref c_NoWay) = some (.type "type")
  webC : Cls K C
  no_places : NoAttr K C "places"
  no_roads : NoAttr K C "roads"
  f_Alone : ExF K c_Alone
  f_BadCosts : ExF K c_BadCosts
  f_BadWeb : ExF K c_BadWeb
  f_BadWorths : ExF K c_BadWorths
  f_NoWay : ExF K c_NoWay
  m_Alone_Alone : PySem.W.exmOne K (.ref c_Alone) (.ref c_Alone) = some true
  m_BadCosts_TollError : PySem.W.exmOne K (.ref c_BadCosts) (.ref c_TollError) = some true
  m_BadWeb_TollError : PySem.W.exmOne K (.ref c_BadWeb) (.ref c_TollError) = some true
  m_BadWorths_TollError : PySem.W.exmOne K (.ref c_BadWorths) (.ref c_TollError) = some true
  m_NoWay_TollError : PySem.W.exmOne K (.ref c_NoWay) (.ref c_TollError) = some true
  n_BadCosts_Alone : PySem.W.exmOne K (.ref c_BadCosts) (.ref c_Alone) = some false
  n_BadWeb_Alone : PySem.W.exmOne K (.ref c_BadWeb) (.ref c_Alone) = some false
  n_BadWorths_Alone : PySem.W.exmOne K (.ref c_BadWorths) (.ref c_Alone) = some false
  n_NoWay_Alone : PySem.W.exmOne K (.ref c_NoWay) (.ref c_Alone) = some false
  g_Alone : mg "Alone" = some (.ref c_Alone)
  g_TollError : mg "TollError" = some (.ref c_TollError)
  i_Alone_ValueError : PySem.W.kitOne K (.ref c_Alone) (.type "ValueError") = some true
  i_BadCosts_ValueError : PySem.W.kitOne K (.ref c_BadCosts) (.type "ValueError") = some true
  i_BadWeb_ValueError : PySem.W.kitOne K (.ref c_BadWeb) (.type "ValueError") = some true
  i_BadWorths_ValueError : PySem.W.kitOne K (.ref c_BadWorths) (.type "ValueError") = some true
  i_NoWay_ValueError : PySem.W.kitOne K (.ref c_NoWay) (.type "ValueError") = some true
  i_Alone_Alone : PySem.W.kitOne K (.ref c_Alone) (.ref c_Alone) = some true
  i_Alone_BadCosts : PySem.W.kitOne K (.ref c_Alone) (.ref c_BadCosts) = some false
  i_Alone_BadWeb : PySem.W.kitOne K (.ref c_Alone) (.ref c_BadWeb) = some false
  i_Alone_BadWorths : PySem.W.kitOne K (.ref c_Alone) (.ref c_BadWorths) = some false
  i_Alone_NoWay : PySem.W.kitOne K (.ref c_Alone) (.ref c_NoWay) = some false
  i_Alone_TollError : PySem.W.kitOne K (.ref c_Alone) (.ref c_TollError) = some true
  i_BadCosts_Alone : PySem.W.kitOne K (.ref c_BadCosts) (.ref c_Alone) = some false
  i_BadCosts_BadCosts : PySem.W.kitOne K (.ref c_BadCosts) (.ref c_BadCosts) = some true
  i_BadCosts_BadWeb : PySem.W.kitOne K (.ref c_BadCosts) (.ref c_BadWeb) = some false
  i_BadCosts_BadWorths : PySem.W.kitOne K (.ref c_BadCosts) (.ref c_BadWorths) = some false
  i_BadCosts_NoWay : PySem.W.kitOne K (.ref c_BadCosts) (.ref c_NoWay) = some false
  i_BadCosts_TollError : PySem.W.kitOne K (.ref c_BadCosts) (.ref c_TollError) = some true
  i_BadWeb_Alone : PySem.W.kitOne K (.ref c_BadWeb) (.ref c_Alone) = some false
  i_BadWeb_BadCosts : PySem.W.kitOne K (.ref c_BadWeb) (.ref c_BadCosts) = some false
  i_BadWeb_BadWeb : PySem.W.kitOne K (.ref c_BadWeb) (.ref c_BadWeb) = some true
  i_BadWeb_BadWorths : PySem.W.kitOne K (.ref c_BadWeb) (.ref c_BadWorths) = some false
  i_BadWeb_NoWay : PySem.W.kitOne K (.ref c_BadWeb) (.ref c_NoWay) = some false
  i_BadWeb_TollError : PySem.W.kitOne K (.ref c_BadWeb) (.ref c_TollError) = some true
  i_BadWorths_Alone : PySem.W.kitOne K (.ref c_BadWorths) (.ref c_Alone) = some false
  i_BadWorths_BadCosts : PySem.W.kitOne K (.ref c_BadWorths) (.ref c_BadCosts) = some false
  i_BadWorths_BadWeb : PySem.W.kitOne K (.ref c_BadWorths) (.ref c_BadWeb) = some false
  i_BadWorths_BadWorths : PySem.W.kitOne K (.ref c_BadWorths) (.ref c_BadWorths) = some true
  i_BadWorths_NoWay : PySem.W.kitOne K (.ref c_BadWorths) (.ref c_NoWay) = some false
  i_BadWorths_TollError : PySem.W.kitOne K (.ref c_BadWorths) (.ref c_TollError) = some true
  i_NoWay_Alone : PySem.W.kitOne K (.ref c_NoWay) (.ref c_Alone) = some false
  i_NoWay_BadCosts : PySem.W.kitOne K (.ref c_NoWay) (.ref c_BadCosts) = some false
  i_NoWay_BadWeb : PySem.W.kitOne K (.ref c_NoWay) (.ref c_BadWeb) = some false
  i_NoWay_BadWorths : PySem.W.kitOne K (.ref c_NoWay) (.ref c_BadWorths) = some false
  i_NoWay_NoWay : PySem.W.kitOne K (.ref c_NoWay) (.ref c_NoWay) = some true
  i_NoWay_TollError : PySem.W.kitOne K (.ref c_NoWay) (.ref c_TollError) = some true
  xf_Alone : XfC K c_Alone
  nr_Alone : PySem.W.findIn K (.ref c_Alone) "road" = some none
section
variable {P : Program} {w : World} {K : PySem.W.Frag} {mg : Str → Option Value} {base : Heap} {C : Addr} {c_BadWorths : Addr} {c_BadWeb : Addr} {c_BadCosts : Addr} {c_NoWay : Addr} {c_Alone : Addr} {c_TollError : Addr}
abbrev s_Web0 : Stmt := inClass (top 14) 0
theorem sc_Web0 : FnScope ["self", "places", "roads", "one", "two"] ["self", "places", "roads"] (defScope s_Web0) := ⟨rfl, rfl, rfl, by decide +kernel, rfl, by decide +kernel, by decide +kernel⟩
set_option maxRecDepth 100000 in
theorem cal_Web (T : Tx K mg C c_BadWorths c_BadWeb c_BadCosts c_NoWay c_Alone c_TollError) (D_Web : DnW K mg C s_Web0) : CalW P w K mg base C 1 (chkW c_BadWeb) :=
  calW_of (cb := m_webchk c_BadWeb) D_Web sc_Web0 (webchk_spec c_BadWeb) (fun f cdv A outer s H E hr => ⟨_, z_pre2 (z_if (y_w (w_or (y_not (y_chLeLe x_int (x_v 1) x_int)) (w_or1 (y_not (y_chLeLe x_int (x_len T.b_len (a_cons (x_v 2) a_nil)) x_int))))) (z_cons (z_raise rfl (takes_of rfl rfl rfl rfl) T.x_BadWeb T.g_BadWeb T.k_BadWeb (raises_own T.s_BadWeb T.t_BadWeb) PySem.F.excBase_ValueError)
    z_nil)
    z_nil)
    (z_for (T := .two 3 4) [3, 4] (passes_of rfl) rfl (i_list (x_v 2)) (g_two sc_Web0.nd rfl rfl (Or.inl rfl) (Or.inl rfl) rfl)
    (z_cons (z_if (y_w (w_or (y_not (y_chLeLt x_int (x_v 3) (x_v 1))) (w_or (y_not (y_chLeLt x_int (x_v 4) (x_v 1))) (w_or1 (y_eq hr.units (x_v 3) (x_v 4)))))) (z_cons (z_raise rfl (takes_of rfl rfl rfl rfl) T.x_BadWeb T.g_BadWeb T.k_BadWeb (raises_own T.s_BadWeb T.t_BadWeb) PySem.F.excBase_ValueError)
    z_nil)
    z_nil)
    z_nil))
    (pss_cons (ps_fld (pv 0) (pv 1) rfl) (pss_cons (ps_fld (pv 0) (pe_callTy call_list_of rfl T.b_list (by decide +kernel) (pa_cons (pv 2) pa_nil) (by decide) (by decide)) rfl) pss_nil))⟩)
abbrev s_Alone0 : Stmt := inClass (top 6) 0
theorem sc_Alone0 : FnScope ["self", "road"] ["self", "road"] (defScope s_Alone0) := ⟨rfl, rfl, rfl, by decide +kernel, rfl, by decide +kernel, by decide +kernel⟩
set_option maxRecDepth 100000 in
theorem cal_Alone (D_Alone : DnA K mg c_Alone s_Alone0) : CalA P w K mg base c_Alone 1 :=
  calA_of D_Alone sc_Alone0 (fun f cdv A outer s H E => pss_cons (ps_ost (pv 0) (pv 1)) pss_nil)
abbrev s_numbers_right : Stmt := top 9
theorem sc_numbers_right : FnScope ["numbers", "number"] ["numbers"] (defScope s_numbers_right) := ⟨rfl, rfl, rfl, by decide +kernel, rfl, by decide +kernel, by decide +kernel⟩
set_option maxRecDepth 100000 in
theorem ok_numbers_right {k : Nat} (T : Tx K mg C c_BadWorths c_BadWeb c_BadCosts c_NoWay c_Alone c_TollError) (hd : Dn K mg "numbers_right" s_numbers_right ["numbers"]) : Cal P w K mg base C CX0 (k + 1) "numbers_right" 1 (p_numbers_right) := by
  obtain ⟨f, fd, F, g, b⟩ := hd
  exact ⟨f, fd, _, def_ok F sc_numbers_right (fun cdv A outer s H E hr => ⟨_,
    (z_cons (z_ret (x_all rfl T.b_all (a_cons (x_l (l_lc (own := [("number", 1)]) (T := .one 1) rfl rfl sc_numbers_right.nd (i_list (x_v 0)) (blkOk_by (N := ["numbers", "number"]) (sc := defScope s_numbers_right) (by decide +kernel)) (fun _ _ _ _ _ => (g_one sc_numbers_right.nd rfl (Or.inl rfl))) (fun _ _ _ _ _ => by exact ts_nil) (fun _ _ _ _ _ => by exact (x_chLeLe x_int (x_v 1) (x_glob T.g_MOST))) (by decide))) a_nil)))
    z_nil)⟩), g, F.kp, b⟩
abbrev s_check_shelf : Stmt := top 10
theorem sc_check_shelf : FnScope ["worths", "row"] ["worths"] (defScope s_check_shelf) := ⟨rfl, rfl, rfl, by decide +kernel, rfl, by decide +kernel, by decide +kernel⟩
set_option maxRecDepth 100000 in
theorem ok_check_shelf {k : Nat} {φ_numbers_right : List D → Rs D} (T : Tx K mg C c_BadWorths c_BadWeb c_BadCosts c_NoWay c_Alone c_TollError) (hd : Dn K mg "check_shelf" s_check_shelf ["worths"]) {l_numbers_right : Nat} (hl_numbers_right : l_numbers_right ≤ k) (h_numbers_right : Cal P w K mg base C CX0 l_numbers_right "numbers_right" 1 φ_numbers_right) : Cal P w K mg base C (L2.CX P w) (k + 1) "check_shelf" 1 (p_check_shelf c_BadWorths φ_numbers_right) := by
  obtain ⟨f, fd, F, g, b⟩ := hd
  obtain ⟨f_numbers_right, fd_numbers_right, ps_numbers_right, G_numbers_right, g_numbers_right, k_numbers_right, b_numbers_right⟩ := h_numbers_right
  exact ⟨f, fd, _, def_okX F sc_check_shelf (fun cdv A outer s H E hr => ⟨_,
    (z_cons (z_if (y_not (y_chLeLe x_int (x_len T.b_len (a_cons (x_v 0) a_nil)) x_int)) (z_cons (z_raise rfl (takes_of rfl rfl rfl rfl) T.x_BadWorths T.g_BadWorths T.k_BadWorths (raises_own T.s_BadWorths T.t_BadWorths) PySem.F.excBase_ValueError)
    z_nil)
    z_nil)
    (z_cons (z_for (T := .one 1) [1] (passes_of rfl) rfl (i_list (x_v 0)) (g_one sc_check_shelf.nd rfl (Or.inl rfl))
    (z_cons (z_if (y_w (w_or (y_not (y_chLeLe x_int (x_len T.b_len (a_cons (x_v 1) a_nil)) x_int)) (w_or (y_ne hr.units (x_len T.b_len (a_cons (x_v 1) a_nil)) (x_len T.b_len (a_cons (x_ix (x_v 0) x_int) a_nil))) (w_or1 (y_not (y_val (x_call (n := 1) (mCons_len mNil_len) G_numbers_right (hr.mono hl_numbers_right) g_numbers_right k_numbers_right b_numbers_right (a_cons (x_v 1) a_nil)))))))) (z_cons (z_raise rfl (takes_of rfl rfl rfl rfl) T.x_BadWorths T.g_BadWorths T.k_BadWorths (raises_own T.s_BadWorths T.t_BadWorths) PySem.F.excBase_ValueError)
    z_nil)
    z_nil)
    z_nil))
    z_nil))⟩), g, F.kp, b⟩
abbrev s_dealt : Stmt := top 11
theorem sc_dealt : FnScope ["worths", "taken", "best", "rest", "found", "good", "worth", "more"] ["worths", "taken"] (defScope s_dealt) := ⟨rfl, rfl, rfl, by decide +kernel, rfl, by decide +kernel, by decide +kernel⟩
set_option maxRecDepth 100000 in
theorem ok_dealt {k : Nat} {φ_dealt : List D → Rs D} (T : Tx K mg C c_BadWorths c_BadWeb c_BadCosts c_NoWay c_Alone c_TollError) (hd : Dn K mg "dealt" s_dealt ["worths", "taken"]) {l_dealt : Nat} (hl_dealt : l_dealt ≤ k) (h_dealt : Cal P w K mg base C CX0 l_dealt "dealt" 2 φ_dealt) : Cal P w K mg base C CX0 (k + 1) "dealt" 2 (p_dealt φ_dealt) := by
  obtain ⟨f, fd, F, g, b⟩ := hd
  obtain ⟨f_dealt, fd_dealt, ps_dealt, G_dealt, g_dealt, k_dealt, b_dealt⟩ := h_dealt
  exact ⟨f, fd, _, def_ok F sc_dealt (fun cdv A outer s H E hr => ⟨_,
    (z_cons (z_if (y_eq hr.units (x_len T.b_len (a_cons (x_v 0) a_nil)) x_int) (z_cons (z_ret (x_tup (n := 2) (by decide) (a_cons x_int (a_cons (x_l (l_lst (n := 0) (by decide) a_nil mNil_len)) a_nil)) (mCons_len (mCons_len mNil_len))))
    z_nil)
    z_nil)
    (z_cons (z_set2 (i := 2) (j := 3) (x_call (n := 2) (mCons_len (mCons_len mNil_len)) G_dealt (hr.mono hl_dealt) g_dealt k_dealt b_dealt (a_cons (x_sl (x_v 0) (o_s x_int) o_n) (a_cons (x_v 1) a_nil))) (g_two sc_dealt.nd rfl rfl (Or.inl rfl) (Or.inl rfl) rfl))
    (z_cons (z_set (i := 4) sc_dealt.nd rfl (Or.inl rfl) (x_tup (n := 2) (by decide) (a_cons (x_v 2) (a_cons (x_add (x_l (l_lst (n := 1) (by decide) (a_cons (x_neg x_int) a_nil) (mCons_len mNil_len))) (x_v 3)) a_nil)) (mCons_len (mCons_len mNil_len))))
    (z_cons (z_for (T := .two 5 6) [2, 3, 5, 6, 7] PassesOwn.never rfl (i_enum T.b_enumerate (a_cons (x_ix (x_v 0) x_int) a_nil)) (g_two sc_dealt.nd rfl rfl (Or.inl rfl) (Or.inl rfl) rfl)
    (z_cons (z_if (y_ni (x_v 5) (x_v 1)) (z_cons (z_set2 (i := 7) (j := 3) (x_call (n := 2) (mCons_len (mCons_len mNil_len)) G_dealt (hr.mono hl_dealt) g_dealt k_dealt b_dealt (a_cons (x_sl (x_v 0) (o_s x_int) o_n) (a_cons (x_add (x_v 1) (x_l (l_lst (n := 1) (by decide) (a_cons (x_v 5) a_nil) (mCons_len mNil_len)))) a_nil))) (g_two sc_dealt.nd rfl rfl (Or.inl rfl) (Or.inl rfl) rfl))
    (z_cons (z_if (y_gt (x_add (x_v 6) (x_v 7)) (x_ix (x_v 4) x_int)) (z_cons (z_set (i := 4) sc_dealt.nd rfl (Or.inl rfl) (x_tup (n := 2) (by decide) (a_cons (x_add (x_v 6) (x_v 7)) (a_cons (x_add (x_l (l_lst (n := 1) (by decide) (a_cons (x_v 5) a_nil) (mCons_len mNil_len))) (x_v 3)) a_nil)) (mCons_len (mCons_len mNil_len))))
    z_nil)
    z_nil)
    z_nil))
    z_nil)
    z_nil))
    (z_cons (z_ret (x_v 4))
    z_nil)))))⟩), g, F.kp, b⟩
abbrev s_shelf_best : Stmt := top 12
theorem sc_shelf_best : FnScope ["worths"] ["worths"] (defScope s_shelf_best) := ⟨rfl, rfl, rfl, by decide +kernel, rfl, by decide +kernel, by decide +kernel⟩
set_option maxRecDepth 100000 in
theorem ok_shelf_best {k : Nat} {φ_dealt φ_check_shelf : List D → Rs D} (T : Tx K mg C c_BadWorths c_BadWeb c_BadCosts c_NoWay c_Alone c_TollError) (hd : Dn K mg "shelf_best" s_shelf_best ["worths"]) {l_dealt : Nat} (hl_dealt : l_dealt ≤ k) (h_dealt : Cal P w K mg base C CX0 l_dealt "dealt" 2 φ_dealt) {l_check_shelf : Nat} (hl_check_shelf : l_check_shelf ≤ k) (h_check_shelf : Cal P w K mg base C (L2.CX P w) l_check_shelf "check_shelf" 1 φ_check_shelf) : Cal P w K mg base C (L2.CX P w) (k + 1) "shelf_best" 1 (p_shelf_best φ_dealt φ_check_shelf) := by
  obtain ⟨f, fd, F, g, b⟩ := hd
  obtain ⟨f_dealt, fd_dealt, ps_dealt, G_dealt, g_dealt, k_dealt, b_dealt⟩ := h_dealt
  obtain ⟨f_check_shelf, fd_check_shelf, ps_check_shelf, G_check_shelf, g_check_shelf, k_check_shelf, b_check_shelf⟩ := h_check_shelf
  exact ⟨f, fd, _, def_okX F sc_shelf_best (fun cdv A outer s H E hr => ⟨_,
    (z_cons (z_exp (x_callX (n := 1) (mCons_len mNil_len) (passes_call (takes_of rfl rfl rfl rfl) (fun _ _ _ _ h => h)) G_check_shelf (hr.mono hl_check_shelf) g_check_shelf k_check_shelf b_check_shelf (a_cons (x_v 0) a_nil)))
    (z_cons (z_ret (x_call (n := 2) (mCons_len (mCons_len mNil_len)) G_dealt (hr.mono hl_dealt) g_dealt k_dealt b_dealt (a_cons (x_v 0) (a_cons (x_l (l_lst (n := 0) (by decide) a_nil mNil_len)) a_nil))))
    z_nil))⟩), g, F.kp, b⟩
abbrev s_check_costs : Stmt := top 15
theorem sc_check_costs : FnScope ["web", "costs"] ["web", "costs"] (defScope s_check_costs) := ⟨rfl, rfl, rfl, by decide +kernel, rfl, by decide +kernel, by decide +kernel⟩
set_option maxRecDepth 100000 in
theorem ok_check_costs {k : Nat} {φ_numbers_right : List D → Rs D} (T : Tx K mg C c_BadWorths c_BadWeb c_BadCosts c_NoWay c_Alone c_TollError) (hd : Dn K mg "check_costs" s_check_costs ["web", "costs"]) {l_numbers_right : Nat} (hl_numbers_right : l_numbers_right ≤ k) (h_numbers_right : Cal P w K mg base C CX0 l_numbers_right "numbers_right" 1 φ_numbers_right) : Cal P w K mg base C (L2.CX P w) (k + 1) "check_costs" 2 (p_check_costs c_BadCosts φ_numbers_right) := by
  obtain ⟨f, fd, F, g, b⟩ := hd
  obtain ⟨f_numbers_right, fd_numbers_right, ps_numbers_right, G_numbers_right, g_numbers_right, k_numbers_right, b_numbers_right⟩ := h_numbers_right
  exact ⟨f, fd, _, def_okX F sc_check_costs (fun cdv A outer s H E hr => ⟨_,
    (z_cons (z_if (y_w (w_or (y_ne hr.units (x_len T.b_len (a_cons (x_v 1) a_nil)) (x_len T.b_len (a_cons (x_fld T.webC T.no_roads (x_v 0)) a_nil))) (w_or1 (y_not (y_val (x_call (n := 1) (mCons_len mNil_len) G_numbers_right (hr.mono hl_numbers_right) g_numbers_right k_numbers_right b_numbers_right (a_cons (x_v 1) a_nil))))))) (z_cons (z_raise rfl (takes_of rfl rfl rfl rfl) T.x_BadCosts T.g_BadCosts T.k_BadCosts (raises_own T.s_BadCosts T.t_BadCosts) PySem.F.excBase_ValueError)
    z_nil)
    z_nil)
    z_nil)⟩), g, F.kp, b⟩
abbrev s_ways_from : Stmt := top 16
theorem sc_ways_from : FnScope ["web", "here", "seen", "left", "found", "road", "one", "two", "there", "rest"] ["web", "here", "seen", "left"] (defScope s_ways_from) := ⟨rfl, rfl, rfl, by decide +kernel, rfl, by decide +kernel, by decide +kernel⟩
set_option maxRecDepth 100000 in
theorem ok_ways_from {k : Nat} {φ_ways_from : List D → Rs D} (T : Tx K mg C c_BadWorths c_BadWeb c_BadCosts c_NoWay c_Alone c_TollError) (hd : Dn K mg "ways_from" s_ways_from ["web", "here", "seen", "left"]) {l_ways_from : Nat} (hl_ways_from : l_ways_from ≤ k) (h_ways_from : Cal P w K mg base C CX0 l_ways_from "ways_from" 4 φ_ways_from) : Cal P w K mg base C CX0 (k + 1) "ways_from" 4 (p_ways_from φ_ways_from) := by
  obtain ⟨f, fd, F, g, b⟩ := hd
  obtain ⟨f_ways_from, fd_ways_from, ps_ways_from, G_ways_from, g_ways_from, k_ways_from, b_ways_from⟩ := h_ways_from
  exact ⟨f, fd, _, def_ok F sc_ways_from (fun cdv A outer s H E hr => ⟨_,
    (z_cons (z_if (y_eq hr.units (x_v 1) (x_sub (x_fld T.webC T.no_places (x_v 0)) x_int)) (z_cons (z_ret (x_l (l_lst (n := 1) (by decide) (a_cons (x_l (l_lst (n := 0) (by decide) a_nil mNil_len)) a_nil) (mCons_len mNil_len))))
    z_nil)
    z_nil)
    (z_cons (z_new (i := 4) sc_ways_from.nd rfl (Or.inl rfl) (l_lst (n := 0) (by decide) a_nil mNil_len))
    (z_cons (z_for (T := .one 5) [5, 6, 7, 8, 9] PassesOwn.never rfl (i_list (x_v 3)) (g_one sc_ways_from.nd rfl (Or.inl rfl))
    (z_cons (z_set2 (i := 6) (j := 7) (x_ix (x_fld T.webC T.no_roads (x_v 0)) (x_v 5)) (g_two sc_ways_from.nd rfl rfl (Or.inl rfl) (Or.inl rfl) rfl))
    (z_cons (z_if (y_in (x_v 1) (x_tup (n := 2) (by decide) (a_cons (x_v 6) (a_cons (x_v 7) a_nil)) (mCons_len (mCons_len mNil_len)))) (z_cons (z_set (i := 8) sc_ways_from.nd rfl (Or.inl rfl) (x_sub (x_add (x_v 6) (x_v 7)) (x_v 1)))
    (z_cons (z_if (y_ni (x_v 8) (x_v 2)) (z_cons (z_for (T := .one 9) [6, 7, 8, 9] PassesOwn.never rfl (i_list (x_call (n := 4) (mCons_len (mCons_len (mCons_len (mCons_len mNil_len)))) G_ways_from (hr.mono hl_ways_from) g_ways_from k_ways_from b_ways_from (a_cons (x_v 0) (a_cons (x_v 8) (a_cons (x_add (x_v 2) (x_l (l_lst (n := 1) (by decide) (a_cons (x_v 8) a_nil) (mCons_len mNil_len)))) (a_cons (x_v 3) a_nil)))))) (g_one sc_ways_from.nd rfl (Or.inl rfl))
    (z_cons (z_app (i := 4) rfl (Or.inl rfl) (x_add (x_l (l_lst (n := 1) (by decide) (a_cons (x_v 5) a_nil) (mCons_len mNil_len))) (x_v 9)))
    z_nil))
    z_nil)
    z_nil)
    z_nil))
    z_nil)
    z_nil)))
    (z_cons (z_frz (z_ret (x_v 4)))
    z_nil))))⟩), g, F.kp, b⟩
abbrev s_best_way : Stmt := top 17
theorem sc_best_way : FnScope ["web", "costs", "left", "found", "row", "told", "road"] ["web", "costs", "left"] (defScope s_best_way) := ⟨rfl, rfl, rfl, by decide +kernel, rfl, by decide +kernel, by decide +kernel⟩
set_option maxRecDepth 100000 in
theorem ok_best_way {k : Nat} {φ_ways_from : List D → Rs D} (T : Tx K mg C c_BadWorths c_BadWeb c_BadCosts c_NoWay c_Alone c_TollError) (hd : Dn K mg "best_way" s_best_way ["web", "costs", "left"]) {l_ways_from : Nat} (hl_ways_from : l_ways_from ≤ k) (h_ways_from : Cal P w K mg base C CX0 l_ways_from "ways_from" 4 φ_ways_from) : Cal P w K mg base C CX0 (k + 1) "best_way" 3 (p_best_way φ_ways_from) := by
  obtain ⟨f, fd, F, g, b⟩ := hd
  obtain ⟨f_ways_from, fd_ways_from, ps_ways_from, G_ways_from, g_ways_from, k_ways_from, b_ways_from⟩ := h_ways_from
  exact ⟨f, fd, _, def_ok F sc_best_way (fun cdv A outer s H E hr => ⟨_,
    (z_cons (z_set (i := 3) sc_best_way.nd rfl (Or.inl rfl) x_non)
    (z_cons (z_for (T := .one 4) [0, 2, 4, 5, 6] PassesOwn.never rfl (i_list (x_call (n := 4) (mCons_len (mCons_len (mCons_len (mCons_len mNil_len)))) G_ways_from (hr.mono hl_ways_from) g_ways_from k_ways_from b_ways_from (a_cons (x_v 0) (a_cons x_int (a_cons (x_l (l_lst (n := 1) (by decide) (a_cons x_int a_nil) (mCons_len mNil_len))) (a_cons (x_v 2) a_nil)))))) (g_one sc_best_way.nd rfl (Or.inl rfl))
    (z_cons (z_set (i := 5) sc_best_way.nd rfl (Or.inl rfl) (x_tup (n := 2) (by decide) (a_cons (x_sum rfl T.b_sum (a_cons (x_l (l_lc (own := [("road", 6)]) (T := .one 6) rfl rfl sc_best_way.nd (i_list (x_v 4)) (blkOk_by (N := ["web", "costs", "left", "found", "row", "told", "road"]) (sc := defScope s_best_way) (by decide +kernel)) (fun _ _ _ _ _ => (g_one sc_best_way.nd rfl (Or.inl rfl))) (fun _ _ _ _ _ => by exact ts_nil) (fun _ _ _ _ _ => by exact (x_ix (x_v 1) (x_v 6))) (by decide))) a_nil)) (a_cons (x_sorted T.b_sorted (a_cons (x_v 4) a_nil)) a_nil)) (mCons_len (mCons_len mNil_len))))
    (z_cons (z_if (y_w (w_or (y_isN (x_v 3) x_non) (w_or1 (y_ltR hr.units (x_v 5) (x_v 3))))) (z_cons (z_set (i := 3) sc_best_way.nd rfl (Or.inl rfl) (x_v 5))
    z_nil)
    z_nil)
    z_nil)))
    (z_cons (z_ret (x_v 3))
    z_nil)))⟩), g, F.kp, b⟩
abbrev s_best_tree : Stmt := top 18
theorem sc_best_tree : FnScope ["web", "costs", "left", "part", "chosen", "cost", "road", "one", "two", "gone", "name"] ["web", "costs", "left"] (defScope s_best_tree) := ⟨rfl, rfl, rfl, by decide +kernel, rfl, by decide +kernel, by decide +kernel⟩
set_option maxRecDepth 100000 in
theorem ok_best_tree {k : Nat} (T : Tx K mg C c_BadWorths c_BadWeb c_BadCosts c_NoWay c_Alone c_TollError) (hd : Dn K mg "best_tree" s_best_tree ["web", "costs", "left"]) : Cal P w K mg base C CX0 (k + 1) "best_tree" 3 (p_best_tree) := by
  obtain ⟨f, fd, F, g, b⟩ := hd
  exact ⟨f, fd, _, def_ok F sc_best_tree (fun cdv A outer s H E hr => ⟨_,
    (z_cons (z_set (i := 3) sc_best_tree.nd rfl (Or.inr rfl) (x_listRg rfl T.b_list T.b_range (x_fld T.webC T.no_places (x_v 0))))
    (z_cons (z_new (i := 4) sc_best_tree.nd rfl (Or.inl rfl) (l_lst (n := 0) (by decide) a_nil mNil_len))
    (z_cons (z_for (T := .two 5 6) [2, 5, 6, 7, 8, 9, 10] PassesOwn.never rfl (i_list (x_sortedP T.b_sorted (a_cons (x_l (l_lc (own := [("road", 6)]) (T := .one 6) rfl rfl sc_best_tree.nd (i_list (x_v 2)) (blkOk_by (N := ["web", "costs", "left", "part", "chosen", "cost", "road", "one", "two", "gone", "name"]) (sc := defScope s_best_tree) (by decide +kernel)) (fun _ _ _ _ _ => (g_one sc_best_tree.nd rfl (Or.inl rfl))) (fun _ _ _ _ _ => by exact ts_nil) (fun _ _ _ _ _ => by exact (x_tup (n := 2) (by decide) (a_cons (x_ix (x_v 1) (x_v 6)) (a_cons (x_v 6) a_nil)) (mCons_len (mCons_len mNil_len)))) (by decide))) a_nil))) (g_two sc_best_tree.nd rfl rfl (Or.inl rfl) (Or.inl rfl) rfl)
    (z_cons (z_set2 (i := 7) (j := 8) (x_ix (x_fld T.webC T.no_roads (x_v 0)) (x_v 6)) (g_two sc_best_tree.nd rfl rfl (Or.inr rfl) (Or.inl rfl) rfl))
    (z_cons (z_if (y_ne hr.units (x_ix (x_v 3) (x_v 7)) (x_ix (x_v 3) (x_v 8))) (z_cons (z_set (i := 9) sc_best_tree.nd rfl (Or.inr rfl) (x_ix (x_v 3) (x_v 8)))
    (z_cons (z_set (i := 3) sc_best_tree.nd rfl (Or.inr rfl) (x_l (l_lc (own := [("name", 10)]) (T := .one 10) rfl rfl sc_best_tree.nd (i_list (x_v 3)) (blkOk_by (N := ["web", "costs", "left", "part", "chosen", "cost", "road", "one", "two", "gone", "name"]) (sc := defScope s_best_tree) (by decide +kernel)) (fun _ _ _ _ _ => (g_one sc_best_tree.nd rfl (Or.inl rfl))) (fun _ _ _ _ _ => by exact ts_nil) (fun _ _ _ _ _ => by exact (x_if (y_eq hr.units (x_v 10) (x_v 9)) (x_ix (x_v 3) (x_v 7)) (x_v 10))) (by decide))))
    (z_cons (z_app (i := 4) rfl (Or.inl rfl) (x_v 6))
    z_nil)))
    z_nil)
    z_nil)))
    (z_cons (z_frz (z_if (y_lt (x_len T.b_len (a_cons (x_v 4) a_nil)) (x_sub (x_fld T.webC T.no_places (x_v 0)) x_int)) (z_cons (z_ret x_non)
    z_nil)
    z_nil))
    (z_cons (z_frz (z_ret (x_tup (n := 2) (by decide) (a_cons (x_sum rfl T.b_sum (a_cons (x_l (l_lc (own := [("road", 6)]) (T := .one 6) rfl rfl sc_best_tree.nd (i_list (x_v 4)) (blkOk_by (N := ["web", "costs", "left", "part", "chosen", "cost", "road", "one", "two", "gone", "name"]) (sc := defScope s_best_tree) (by decide +kernel)) (fun _ _ _ _ _ => (g_one sc_best_tree.nd rfl (Or.inl rfl))) (fun _ _ _ _ _ => by exact ts_nil) (fun _ _ _ _ _ => by exact (x_ix (x_v 1) (x_v 6))) (by decide))) a_nil)) (a_cons (x_sorted T.b_sorted (a_cons (x_v 4) a_nil)) a_nil)) (mCons_len (mCons_len mNil_len)))))
    z_nil)))))⟩), g, F.kp, b⟩
abbrev s_best_by : Stmt := top 19
theorem sc_best_by : FnScope ["web", "kind", "costs", "left"] ["web", "kind", "costs", "left"] (defScope s_best_by) := ⟨rfl, rfl, rfl, by decide +kernel, rfl, by decide +kernel, by decide +kernel⟩
set_option maxRecDepth 100000 in
theorem ok_best_by {k : Nat} {φ_best_tree φ_best_way : List D → Rs D} (T : Tx K mg C c_BadWorths c_BadWeb c_BadCosts c_NoWay c_Alone c_TollError) (hd : Dn K mg "best_by" s_best_by ["web", "kind", "costs", "left"]) {l_best_tree : Nat} (hl_best_tree : l_best_tree ≤ k) (h_best_tree : Cal P w K mg base C CX0 l_best_tree "best_tree" 3 φ_best_tree) {l_best_way : Nat} (hl_best_way : l_best_way ≤ k) (h_best_way : Cal P w K mg base C CX0 l_best_way "best_way" 3 φ_best_way) : Cal P w K mg base C CX0 (k + 1) "best_by" 4 (p_best_by φ_best_tree φ_best_way) := by
  obtain ⟨f, fd, F, g, b⟩ := hd
  obtain ⟨f_best_tree, fd_best_tree, ps_best_tree, G_best_tree, g_best_tree, k_best_tree, b_best_tree⟩ := h_best_tree
  obtain ⟨f_best_way, fd_best_way, ps_best_way, G_best_way, g_best_way, k_best_way, b_best_way⟩ := h_best_way
  exact ⟨f, fd, _, def_ok F sc_best_by (fun cdv A outer s H E hr => ⟨_,
    (z_cons (z_if (y_eq hr.units (x_v 1) x_str) (z_cons (z_ret (x_call (n := 3) (mCons_len (mCons_len (mCons_len mNil_len))) G_best_way (hr.mono hl_best_way) g_best_way k_best_way b_best_way (a_cons (x_v 0) (a_cons (x_v 2) (a_cons (x_v 3) a_nil)))))
    z_nil)
    z_nil)
    (z_cons (z_ret (x_call (n := 3) (mCons_len (mCons_len (mCons_len mNil_len))) G_best_tree (hr.mono hl_best_tree) g_best_tree k_best_tree b_best_tree (a_cons (x_v 0) (a_cons (x_v 2) (a_cons (x_v 3) a_nil)))))
    z_nil))⟩), g, F.kp, b⟩
abbrev s_road_best : Stmt := top 20
theorem sc_road_best : FnScope ["web", "kind", "costs", "found"] ["web", "kind", "costs"] (defScope s_road_best) := ⟨rfl, rfl, rfl, by decide +kernel, rfl, by decide +kernel, by decide +kernel⟩
set_option maxRecDepth 100000 in
theorem ok_road_best {k : Nat} {φ_best_by φ_check_costs : List D → Rs D} (T : Tx K mg C c_BadWorths c_BadWeb c_BadCosts c_NoWay c_Alone c_TollError) (hd : Dn K mg "road_best" s_road_best ["web", "kind", "costs"]) {l_best_by : Nat} (hl_best_by : l_best_by ≤ k) (h_best_by : Cal P w K mg base C CX0 l_best_by "best_by" 4 φ_best_by) {l_check_costs : Nat} (hl_check_costs : l_check_costs ≤ k) (h_check_costs : Cal P w K mg base C (L2.CX P w) l_check_costs "check_costs" 2 φ_check_costs) : Cal P w K mg base C (L2.CX P w) (k + 1) "road_best" 3 (p_road_best c_NoWay φ_best_by φ_check_costs) := by
  obtain ⟨f, fd, F, g, b⟩ := hd
  obtain ⟨f_best_by, fd_best_by, ps_best_by, G_best_by, g_best_by, k_best_by, b_best_by⟩ := h_best_by
  obtain ⟨f_check_costs, fd_check_costs, ps_check_costs, G_check_costs, g_check_costs, k_check_costs, b_check_costs⟩ := h_check_costs
  exact ⟨f, fd, _, def_okX F sc_road_best (fun cdv A outer s H E hr => ⟨_,
    (z_cons (z_exp (x_callX (n := 2) (mCons_len (mCons_len mNil_len)) (passes_call (takes_of rfl rfl rfl rfl) (fun _ _ _ _ h => h)) G_check_costs (hr.mono hl_check_costs) g_check_costs k_check_costs b_check_costs (a_cons (x_v 0) (a_cons (x_v 2) a_nil))))
    (z_cons (z_set (i := 3) sc_road_best.nd rfl (Or.inl rfl) (x_call (n := 4) (mCons_len (mCons_len (mCons_len (mCons_len mNil_len)))) G_best_by (hr.mono hl_best_by) g_best_by k_best_by b_best_by (a_cons (x_v 0) (a_cons (x_v 1) (a_cons (x_v 2) (a_cons (x_listRg rfl T.b_list T.b_range (x_len T.b_len (a_cons (x_v 2) a_nil))) a_nil))))))
    (z_cons (z_if (y_isN (x_v 3) x_non) (z_cons (z_raise rfl (takes_of rfl rfl rfl rfl) T.x_NoWay T.g_NoWay T.k_NoWay (raises_own T.s_NoWay T.t_NoWay) PySem.F.excBase_ValueError)
    z_nil)
    z_nil)
    (z_cons (z_ret (x_v 3))
    z_nil))))⟩), g, F.kp, b⟩
abbrev s_road_gets : Stmt := top 21
theorem sc_road_gets : FnScope ["web", "kind", "costs", "total", "chosen", "gets", "road", "left", "without", "other"] ["web", "kind", "costs"] (defScope s_road_gets) := ⟨rfl, rfl, rfl, by decide +kernel, rfl, by decide +kernel, by decide +kernel⟩
set_option maxRecDepth 100000 in
theorem ok_road_gets {k : Nat} {φ_best_by φ_road_best : List D → Rs D} (T : Tx K mg C c_BadWorths c_BadWeb c_BadCosts c_NoWay c_Alone c_TollError) (hd : Dn K mg "road_gets" s_road_gets ["web", "kind", "costs"]) {l_best_by : Nat} (hl_best_by : l_best_by ≤ k) (h_best_by : Cal P w K mg base C CX0 l_best_by "best_by" 4 φ_best_by) {l_road_best : Nat} (hl_road_best : l_road_best ≤ k) (h_road_best : Cal P w K mg base C (L2.CX P w) l_road_best "road_best" 3 φ_road_best) {l_Alone : Nat} (hl_Alone : l_Alone + 1 ≤ k) (h_Alone : CalA P w K mg base c_Alone l_Alone) : Cal P w K mg base C (L2.CX P w) (k + 1) "road_gets" 3 (p_road_gets c_Alone φ_best_by φ_road_best) := by
  obtain ⟨f, fd, F, g, b⟩ := hd
  obtain ⟨f_best_by, fd_best_by, ps_best_by, G_best_by, g_best_by, k_best_by, b_best_by⟩ := h_best_by
  obtain ⟨f_road_best, fd_road_best, ps_road_best, G_road_best, g_road_best, k_road_best, b_road_best⟩ := h_road_best
  exact ⟨f, fd, _, def_okX F sc_road_gets (fun cdv A outer s H E hr => ⟨_,
    (z_cons (z_set2 (i := 3) (j := 4) (x_callX (n := 3) (mCons_len (mCons_len (mCons_len mNil_len))) (passes_call (takes_of rfl rfl rfl rfl) (fun _ _ _ _ h => h)) G_road_best (hr.mono hl_road_best) g_road_best k_road_best b_road_best (a_cons (x_v 0) (a_cons (x_v 1) (a_cons (x_v 2) a_nil)))) (g_two sc_road_gets.nd rfl rfl (Or.inl rfl) (Or.inl rfl) rfl))
    (z_cons (z_new (i := 5) sc_road_gets.nd rfl (Or.inl rfl) (l_rep (x_l (l_lst (n := 1) (by decide) (a_cons x_int a_nil) (mCons_len mNil_len))) (x_len T.b_len (a_cons (x_v 2) a_nil))))
    (z_cons (z_for (T := .one 6) [4, 6, 7, 8, 9] (passes_of rfl) rfl (i_list (x_v 4)) (g_one sc_road_gets.nd rfl (Or.inr rfl))
    (z_cons (z_setLc (i := 7) (own := [("other", 9)]) (T := .one 9) rfl rfl sc_road_gets.nd rfl rfl (sw_true rfl rfl rfl (by decide +kernel)) (i_rng1 T.b_range (a_cons (x_len T.b_len (a_cons (x_v 2) a_nil)) a_nil)) (blkOk_by (N := ["web", "kind", "costs", "total", "chosen", "gets", "road", "left", "without", "other"]) (sc := defScope s_road_gets) (by decide +kernel)) (fun _ _ _ _ _ => (g_one sc_road_gets.nd rfl (Or.inl rfl))) (fun _ _ _ _ _ => by exact (ts_one (y_ne hr.units (x_v 9) (x_v 6)))) (fun _ _ _ _ _ => by exact (x_v 9)) (by decide))
    (z_cons (z_set (i := 8) sc_road_gets.nd rfl (Or.inl rfl) (x_call (n := 4) (mCons_len (mCons_len (mCons_len (mCons_len mNil_len)))) G_best_by (hr.mono hl_best_by) g_best_by k_best_by b_best_by (a_cons (x_v 0) (a_cons (x_v 1) (a_cons (x_v 2) (a_cons (x_v 7) a_nil))))))
    (z_cons (z_if (y_isN (x_v 8) x_non) (z_cons (z_alone rfl (takes_of rfl rfl rfl rfl) h_Alone hr hl_Alone (x_v 6))
    z_nil)
    z_nil)
    (z_cons (z_put (i := 5) rfl (Or.inl rfl) (x_add (x_sub (x_ix (x_v 8) x_int) (x_v 3)) (x_ix (x_v 2) (x_v 6))) (x_v 6))
    z_nil)))))
    (z_cons (z_frz (z_ret (x_v 5)))
    z_nil))))⟩), g, F.kp, b⟩
abbrev s_road_gain : Stmt := top 22
theorem sc_road_gain : FnScope ["web", "kind", "costs", "road", "truth", "gets"] ["web", "kind", "costs", "road", "truth"] (defScope s_road_gain) := ⟨rfl, rfl, rfl, by decide +kernel, rfl, by decide +kernel, by decide +kernel⟩
set_option maxRecDepth 100000 in
theorem ok_road_gain {k : Nat} {φ_road_best φ_road_gets : List D → Rs D} (T : Tx K mg C c_BadWorths c_BadWeb c_BadCosts c_NoWay c_Alone c_TollError) (hd : Dn K mg "road_gain" s_road_gain ["web", "kind", "costs", "road", "truth"]) {l_road_best : Nat} (hl_road_best : l_road_best ≤ k) (h_road_best : Cal P w K mg base C (L2.CX P w) l_road_best "road_best" 3 φ_road_best) {l_road_gets : Nat} (hl_road_gets : l_road_gets ≤ k) (h_road_gets : Cal P w K mg base C (L2.CX P w) l_road_gets "road_gets" 3 φ_road_gets) : Cal P w K mg base C (L2.CX P w) (k + 1) "road_gain" 5 (p_road_gain φ_road_best φ_road_gets) := by
  obtain ⟨f, fd, F, g, b⟩ := hd
  obtain ⟨f_road_best, fd_road_best, ps_road_best, G_road_best, g_road_best, k_road_best, b_road_best⟩ := h_road_best
  obtain ⟨f_road_gets, fd_road_gets, ps_road_gets, G_road_gets, g_road_gets, k_road_gets, b_road_gets⟩ := h_road_gets
  exact ⟨f, fd, _, def_okX F sc_road_gain (fun cdv A outer s H E hr => ⟨_,
    (z_cons (z_set (i := 5) sc_road_gain.nd rfl (Or.inl rfl) (x_callX (n := 3) (mCons_len (mCons_len (mCons_len mNil_len))) (passes_call (takes_of rfl rfl rfl rfl) (fun _ _ _ _ h => h)) G_road_gets (hr.mono hl_road_gets) g_road_gets k_road_gets b_road_gets (a_cons (x_v 0) (a_cons (x_v 1) (a_cons (x_v 2) a_nil)))))
    (z_cons (z_if (y_in (x_v 3) (x_ix (x_callX (n := 3) (mCons_len (mCons_len (mCons_len mNil_len))) (passes_call (takes_of rfl rfl rfl rfl) (fun _ _ _ _ h => h)) G_road_best (hr.mono hl_road_best) g_road_best k_road_best b_road_best (a_cons (x_v 0) (a_cons (x_v 1) (a_cons (x_v 2) a_nil)))) x_int)) (z_cons (z_ret (x_sub (x_ix (x_v 5) (x_v 3)) (x_v 4)))
    z_nil)
    z_nil)
    (z_cons (z_ret x_int)
    z_nil)))⟩), g, F.kp, b⟩
abbrev s_row_right : Stmt := top 25
theorem sc_row_right : FnScope ["row", "k"] ["row"] (defScope s_row_right) := ⟨rfl, rfl, rfl, by decide +kernel, rfl, by decide +kernel, by decide +kernel⟩
set_option maxRecDepth 100000 in
theorem ok_row_right {k : Nat} {φ_numbers_right : List D → Rs D} (T : Tx K mg C c_BadWorths c_BadWeb c_BadCosts c_NoWay c_Alone c_TollError) (hd : Dn K mg "row_right" s_row_right ["row"]) {l_numbers_right : Nat} (hl_numbers_right : l_numbers_right ≤ k) (h_numbers_right : Cal P w K mg base C CX0 l_numbers_right "numbers_right" 1 φ_numbers_right) : Cal P w K mg base C CX0 (k + 1) "row_right" 1 (p_row_right φ_numbers_right) := by
  obtain ⟨f, fd, F, g, b⟩ := hd
  obtain ⟨f_numbers_right, fd_numbers_right, ps_numbers_right, G_numbers_right, g_numbers_right, k_numbers_right, b_numbers_right⟩ := h_numbers_right
  exact ⟨f, fd, _, def_ok F sc_row_right (fun cdv A outer s H E hr => ⟨_,
    (z_cons (z_if (y_w (w_or (y_gt (x_len T.b_len (a_cons (x_v 0) a_nil)) x_int) (w_or1 (y_not (y_val (x_call (n := 1) (mCons_len mNil_len) G_numbers_right (hr.mono hl_numbers_right) g_numbers_right k_numbers_right b_numbers_right (a_cons (x_v 0) a_nil))))))) (z_cons (z_ret x_bl)
    z_nil)
    z_nil)
    (z_cons (z_ret (x_all rfl T.b_all (a_cons (x_l (l_lc (own := [("k", 1)]) (T := .one 1) rfl rfl sc_row_right.nd (i_rng2 T.b_range (a_cons x_int (a_cons (x_len T.b_len (a_cons (x_v 0) a_nil)) a_nil))) (blkOk_by (N := ["row", "k"]) (sc := defScope s_row_right) (by decide +kernel)) (fun _ _ _ _ _ => (g_one sc_row_right.nd rfl (Or.inl rfl))) (fun _ _ _ _ _ => by exact ts_nil) (fun _ _ _ _ _ => by exact (x_ge (x_ix (x_v 0) (x_sub (x_v 1) x_int)) (x_ix (x_v 0) (x_v 1)))) (by decide))) a_nil)))
    z_nil))⟩), g, F.kp, b⟩
abbrev s_check_pile : Stmt := top 26
theorem sc_check_pile : FnScope ["pieces", "worths", "row"] ["pieces", "worths"] (defScope s_check_pile) := ⟨rfl, rfl, rfl, by decide +kernel, rfl, by decide +kernel, by decide +kernel⟩
set_option maxRecDepth 100000 in
theorem ok_check_pile {k : Nat} {φ_row_right : List D → Rs D} (T : Tx K mg C c_BadWorths c_BadWeb c_BadCosts c_NoWay c_Alone c_TollError) (hd : Dn K mg "check_pile" s_check_pile ["pieces", "worths"]) {l_row_right : Nat} (hl_row_right : l_row_right ≤ k) (h_row_right : Cal P w K mg base C CX0 l_row_right "row_right" 1 φ_row_right) : Cal P w K mg base C (L2.CX P w) (k + 1) "check_pile" 2 (p_check_pile c_BadWorths φ_row_right) := by
  obtain ⟨f, fd, F, g, b⟩ := hd
  obtain ⟨f_row_right, fd_row_right, ps_row_right, G_row_right, g_row_right, k_row_right, b_row_right⟩ := h_row_right
  exact ⟨f, fd, _, def_okX F sc_check_pile (fun cdv A outer s H E hr => ⟨_,
    (z_cons (z_if (y_w (w_or (y_not (y_chLeLe x_int (x_len T.b_len (a_cons (x_v 1) a_nil)) x_int)) (w_or1 (y_not (y_val (x_all rfl T.b_all (a_cons (x_l (l_lc (own := [("row", 2)]) (T := .one 2) rfl rfl sc_check_pile.nd (i_list (x_v 1)) (blkOk_by (N := ["pieces", "worths", "row"]) (sc := defScope s_check_pile) (by decide +kernel)) (fun _ _ _ _ _ => (g_one sc_check_pile.nd rfl (Or.inl rfl))) (fun _ _ _ _ _ => by exact ts_nil) (fun _ _ _ _ _ => by exact (x_call (n := 1) (mCons_len mNil_len) G_row_right (hr.mono hl_row_right) g_row_right k_row_right b_row_right (a_cons (x_v 2) a_nil))) (by decide))) a_nil))))))) (z_cons (z_raise rfl (takes_of rfl rfl rfl rfl) T.x_BadWorths T.g_BadWorths T.k_BadWorths (raises_own T.s_BadWorths T.t_BadWorths) PySem.F.excBase_ValueError)
    z_nil)
    z_nil)
    (z_cons (z_if (y_not (y_chLeLe x_int (x_v 0) (x_glob T.g_MOST_PIECES))) (z_cons (z_raise rfl (takes_of rfl rfl rfl rfl) T.x_BadWorths T.g_BadWorths T.k_BadWorths (raises_own T.s_BadWorths T.t_BadWorths) PySem.F.excBase_ValueError)
    z_nil)
    z_nil)
    z_nil))⟩), g, F.kp, b⟩
abbrev s_shared : Stmt := top 27
theorem sc_shared : FnScope ["pieces", "worths", "table", "row", "longer", "left", "found", "count", "more", "rest"] ["pieces", "worths"] (defScope s_shared) := ⟨rfl, rfl, rfl, by decide +kernel, rfl, by decide +kernel, by decide +kernel⟩
set_option maxRecDepth 100000 in
theorem ok_shared {k : Nat} (T : Tx K mg C c_BadWorths c_BadWeb c_BadCosts c_NoWay c_Alone c_TollError) (hd : Dn K mg "shared" s_shared ["pieces", "worths"]) : Cal P w K mg base C CX0 (k + 1) "shared" 2 (p_shared) := by
  obtain ⟨f, fd, F, g, b⟩ := hd
  exact ⟨f, fd, _, def_ok F sc_shared (fun cdv A outer s H E hr => ⟨_,
    (z_cons (z_setLc (i := 2) (own := [("left", 5)]) (T := .one 5) rfl rfl sc_shared.nd rfl rfl (sw_true rfl rfl rfl (by decide +kernel)) (i_rng1 T.b_range (a_cons (x_add (x_v 0) x_int) a_nil)) (blkOk_by (N := ["pieces", "worths", "table", "row", "longer", "left", "found", "count", "more", "rest"]) (sc := defScope s_shared) (by decide +kernel)) (fun _ _ _ _ _ => (g_one sc_shared.nd rfl (Or.inl rfl))) (fun _ _ _ _ _ => by exact ts_nil) (fun _ _ _ _ _ => by exact (x_tup (n := 2) (by decide) (a_cons x_int (a_cons (x_l (l_lst (n := 0) (by decide) a_nil mNil_len)) a_nil)) (mCons_len (mCons_len mNil_len)))) (by decide))
    (z_cons (z_for (T := .one 3) [1, 3, 4, 5, 6, 7, 8, 9] PassesOwn.never rfl (i_rev T.b_reversed (a_cons (x_v 1) a_nil)) (g_one sc_shared.nd rfl (Or.inl rfl))
    (z_cons (z_new (i := 4) sc_shared.nd rfl (Or.inl rfl) (l_lst (n := 0) (by decide) a_nil mNil_len))
    (z_cons (z_for (T := .one 5) [1, 5, 6, 7, 8, 9] PassesOwn.never rfl (i_rng1 T.b_range (a_cons (x_add (x_v 0) x_int) a_nil)) (g_one sc_shared.nd rfl (Or.inl rfl))
    (z_cons (z_set (i := 6) sc_shared.nd rfl (Or.inl rfl) x_non)
    (z_cons (z_for (T := .one 7) [1, 7, 8, 9] PassesOwn.never rfl (i_rng1 T.b_range (a_cons (x_add (x_min2 rfl T.b_min (a_cons (x_v 5) (a_cons (x_len T.b_len (a_cons (x_v 3) a_nil)) a_nil))) x_int) a_nil)) (g_one sc_shared.nd rfl (Or.inl rfl))
    (z_cons (z_set2 (i := 8) (j := 9) (x_ix (x_v 2) (x_sub (x_v 5) (x_v 7))) (g_two sc_shared.nd rfl rfl (Or.inl rfl) (Or.inl rfl) rfl))
    (z_cons (z_if (y_w (w_or (y_isN (x_v 6) x_non) (w_or1 (y_gt (x_add (x_sum rfl T.b_sum (a_cons (x_sl (x_v 3) o_n (o_s (x_v 7))) a_nil)) (x_v 8)) (x_ix (x_v 6) x_int))))) (z_cons (z_set (i := 6) sc_shared.nd rfl (Or.inl rfl) (x_tup (n := 2) (by decide) (a_cons (x_add (x_sum rfl T.b_sum (a_cons (x_sl (x_v 3) o_n (o_s (x_v 7))) a_nil)) (x_v 8)) (a_cons (x_add (x_l (l_lst (n := 1) (by decide) (a_cons (x_v 7) a_nil) (mCons_len mNil_len))) (x_v 9)) a_nil)) (mCons_len (mCons_len mNil_len))))
    z_nil)
    z_nil)
    z_nil)))
    (z_cons (z_app (i := 4) rfl (Or.inl rfl) (x_v 6))
    z_nil))))
    (z_cons (z_frz (z_set (i := 2) sc_shared.nd rfl (Or.inl rfl) (x_v 4)))
    z_nil))))
    (z_cons (z_ret (x_ix (x_v 2) (x_v 0)))
    z_nil)))⟩), g, F.kp, b⟩
abbrev s_pile_best : Stmt := top 28
theorem sc_pile_best : FnScope ["pieces", "worths"] ["pieces", "worths"] (defScope s_pile_best) := ⟨rfl, rfl, rfl, by decide +kernel, rfl, by decide +kernel, by decide +kernel⟩
set_option maxRecDepth 100000 in
theorem ok_pile_best {k : Nat} {φ_shared φ_check_pile : List D → Rs D} (T : Tx K mg C c_BadWorths c_BadWeb c_BadCosts c_NoWay c_Alone c_TollError) (hd : Dn K mg "pile_best" s_pile_best ["pieces", "worths"]) {l_shared : Nat} (hl_shared : l_shared ≤ k) (h_shared : Cal P w K mg base C CX0 l_shared "shared" 2 φ_shared) {l_check_pile : Nat} (hl_check_pile : l_check_pile ≤ k) (h_check_pile : Cal P w K mg base C (L2.CX P w) l_check_pile "check_pile" 2 φ_check_pile) : Cal P w K mg base C (L2.CX P w) (k + 1) "pile_best" 2 (p_pile_best φ_shared φ_check_pile) := by
  obtain ⟨f, fd, F, g, b⟩ := hd
  obtain ⟨f_shared, fd_shared, ps_shared, G_shared, g_shared, k_shared, b_shared⟩ := h_shared
  obtain ⟨f_check_pile, fd_check_pile, ps_check_pile, G_check_pile, g_check_pile, k_check_pile, b_check_pile⟩ := h_check_pile
  exact ⟨f, fd, _, def_okX F sc_pile_best (fun cdv A outer s H E hr => ⟨_,
    (z_cons (z_exp (x_callX (n := 2) (mCons_len (mCons_len mNil_len)) (passes_call (takes_of rfl rfl rfl rfl) (fun _ _ _ _ h => h)) G_check_pile (hr.mono hl_check_pile) g_check_pile k_check_pile b_check_pile (a_cons (x_v 0) (a_cons (x_v 1) a_nil))))
    (z_cons (z_ret (x_call (n := 2) (mCons_len (mCons_len mNil_len)) G_shared (hr.mono hl_shared) g_shared k_shared b_shared (a_cons (x_v 0) (a_cons (x_v 1) a_nil))))
    z_nil))⟩), g, F.kp, b⟩
abbrev s_pay_for : Stmt := top 29
theorem sc_pay_for : FnScope ["pieces", "worths", "person", "total", "dealing", "without"] ["pieces", "worths", "person"] (defScope s_pay_for) := ⟨rfl, rfl, rfl, by decide +kernel, rfl, by decide +kernel, by decide +kernel⟩
set_option maxRecDepth 100000 in
theorem ok_pay_for {k : Nat} {φ_shared : List D → Rs D} (T : Tx K mg C c_BadWorths c_BadWeb c_BadCosts c_NoWay c_Alone c_TollError) (hd : Dn K mg "pay_for" s_pay_for ["pieces", "worths", "person"]) {l_shared : Nat} (hl_shared : l_shared ≤ k) (h_shared : Cal P w K mg base C CX0 l_shared "shared" 2 φ_shared) : Cal P w K mg base C CX0 (k + 1) "pay_for" 3 (p_pay_for φ_shared) := by
  obtain ⟨f, fd, F, g, b⟩ := hd
  obtain ⟨f_shared, fd_shared, ps_shared, G_shared, g_shared, k_shared, b_shared⟩ := h_shared
  exact ⟨f, fd, _, def_ok F sc_pay_for (fun cdv A outer s H E hr => ⟨_,
    (z_cons (z_set2 (i := 3) (j := 4) (x_call (n := 2) (mCons_len (mCons_len mNil_len)) G_shared (hr.mono hl_shared) g_shared k_shared b_shared (a_cons (x_v 0) (a_cons (x_v 1) a_nil))) (g_two sc_pay_for.nd rfl rfl (Or.inl rfl) (Or.inl rfl) rfl))
    (z_cons (z_set (i := 5) sc_pay_for.nd rfl (Or.inl rfl) (x_ix (x_call (n := 2) (mCons_len (mCons_len mNil_len)) G_shared (hr.mono hl_shared) g_shared k_shared b_shared (a_cons (x_v 0) (a_cons (x_add (x_sl (x_v 1) o_n (o_s (x_v 2))) (x_sl (x_v 1) (o_s (x_add (x_v 2) x_int)) o_n)) a_nil))) x_int))
    (z_cons (z_ret (x_sub (x_v 5) (x_sub (x_v 3) (x_sum rfl T.b_sum (a_cons (x_sl (x_ix (x_v 1) (x_v 2)) o_n (o_s (x_ix (x_v 4) (x_v 2)))) a_nil)))))
    z_nil)))⟩), g, F.kp, b⟩
abbrev s_pile_pays : Stmt := top 30
theorem sc_pile_pays : FnScope ["pieces", "worths", "person"] ["pieces", "worths"] (defScope s_pile_pays) := ⟨rfl, rfl, rfl, by decide +kernel, rfl, by decide +kernel, by decide +kernel⟩
set_option maxRecDepth 100000 in
theorem ok_pile_pays {k : Nat} {φ_pay_for φ_check_pile : List D → Rs D} (T : Tx K mg C c_BadWorths c_BadWeb c_BadCosts c_NoWay c_Alone c_TollError) (hd : Dn K mg "pile_pays" s_pile_pays ["pieces", "worths"]) {l_pay_for : Nat} (hl_pay_for : l_pay_for ≤ k) (h_pay_for : Cal P w K mg base C CX0 l_pay_for "pay_for" 3 φ_pay_for) {l_check_pile : Nat} (hl_check_pile : l_check_pile ≤ k) (h_check_pile : Cal P w K mg base C (L2.CX P w) l_check_pile "check_pile" 2 φ_check_pile) : Cal P w K mg base C (L2.CX P w) (k + 1) "pile_pays" 2 (p_pile_pays φ_pay_for φ_check_pile) := by
  obtain ⟨f, fd, F, g, b⟩ := hd
  obtain ⟨f_pay_for, fd_pay_for, ps_pay_for, G_pay_for, g_pay_for, k_pay_for, b_pay_for⟩ := h_pay_for
  obtain ⟨f_check_pile, fd_check_pile, ps_check_pile, G_check_pile, g_check_pile, k_check_pile, b_check_pile⟩ := h_check_pile
  exact ⟨f, fd, _, def_okX F sc_pile_pays (fun cdv A outer s H E hr => ⟨_,
    (z_cons (z_exp (x_callX (n := 2) (mCons_len (mCons_len mNil_len)) (passes_call (takes_of rfl rfl rfl rfl) (fun _ _ _ _ h => h)) G_check_pile (hr.mono hl_check_pile) g_check_pile k_check_pile b_check_pile (a_cons (x_v 0) (a_cons (x_v 1) a_nil))))
    (z_cons (z_ret (x_l (l_lc (own := [("person", 2)]) (T := .one 2) rfl rfl sc_pile_pays.nd (i_rng1 T.b_range (a_cons (x_len T.b_len (a_cons (x_v 1) a_nil)) a_nil)) (blkOk_by (N := ["pieces", "worths", "person"]) (sc := defScope s_pile_pays) (by decide +kernel)) (fun _ _ _ _ _ => (g_one sc_pile_pays.nd rfl (Or.inl rfl))) (fun _ _ _ _ _ => by exact ts_nil) (fun _ _ _ _ _ => by exact (x_call (n := 3) (mCons_len (mCons_len (mCons_len mNil_len))) G_pay_for (hr.mono hl_pay_for) g_pay_for k_pay_for b_pay_for (a_cons (x_v 0) (a_cons (x_v 1) (a_cons (x_v 2) a_nil))))) (by decide))))
    z_nil))⟩), g, F.kp, b⟩
abbrev s_law_cell_at : Stmt := top 32
theorem sc_law_cell_at : FnScope ["script", "k"] ["script", "k"] (defScope s_law_cell_at) := ⟨rfl, rfl, rfl, by decide +kernel, rfl, by decide +kernel, by decide +kernel⟩
set_option maxRecDepth 100000 in
theorem ok_law_cell_at {k : Nat} (T : Tx K mg C c_BadWorths c_BadWeb c_BadCosts c_NoWay c_Alone c_TollError) (hd : Dn K mg "_law_cell_at" s_law_cell_at ["script", "k"]) : Cal P w K mg base C CX0 (k + 1) "_law_cell_at" 2 (p_law_cell_at) := by
  obtain ⟨f, fd, F, g, b⟩ := hd
  exact ⟨f, fd, _, def_ok F sc_law_cell_at (fun cdv A outer s H E hr => ⟨_,
    (z_cons (z_if (y_lt (x_v 1) (x_len T.b_len (a_cons (x_v 0) a_nil))) (z_cons (z_ret (x_ix (x_v 0) (x_v 1)))
    z_nil)
    z_nil)
    (z_cons (z_ret x_int)
    z_nil))⟩), g, F.kp, b⟩
abbrev s_law_which : Stmt := top 33
theorem sc_law_which : FnScope ["e", "told"] ["e"] (defScope s_law_which) := ⟨rfl, rfl, rfl, by decide +kernel, rfl, by decide +kernel, by decide +kernel⟩
set_option maxRecDepth 100000 in
theorem cal_law_which (T : Tx K mg C c_BadWorths c_BadWeb c_BadCosts c_NoWay c_Alone c_TollError) (D_law_which : Dn K mg "_law_which" s_law_which ["e"]) : CalWh P w K mg base c_BadWorths c_BadWeb c_BadCosts c_NoWay c_Alone c_TollError 1 :=
  calWh_of (k := 0) D_law_which sc_law_which (fun a oe c dd f cdv A outer s H E hr hz hf =>
    pss_cons (ps_set sc_law_which.nd rfl (Or.inl rfl) (pe_lst (pa_cons (pe_isM List.mem_cons_self hz hf T.b_isinstance T.g_BadWorths) (pa_cons (pe_isM List.mem_cons_self hz hf T.b_isinstance T.g_BadWeb) (pa_cons (pe_isM List.mem_cons_self hz hf T.b_isinstance T.g_BadCosts) pa_nil)))))
    (pss_cons (ps_set sc_law_which.nd rfl (Or.inl rfl) (pe_op (op_add.or op_cat) (pv 1) (pe_lst (pa_cons (pe_isM List.mem_cons_self hz hf T.b_isinstance T.g_NoWay) (pa_cons (pe_isM List.mem_cons_self hz hf T.b_isinstance T.g_Alone) pa_nil)))))
    (pss_cons (ps_if (PW.pt (pw_or (pt_not (pt_val (pe_isM List.mem_cons_self hz hf T.b_isinstance T.g_TollError))) (pw_or (pt_not (pt_val (pe_isMB List.mem_cons_self hz hf T.b_isinstance T.b_ValueError (by decide +kernel)))) (pw_or1 (pt_cmpR op_ne (pe_bm PySem.F.plainAttrs_list PySem.F.slot_list_count PySem.F.type_list_count mt_countF (pv 1) (pa_cons pe_bl pa_nil)) pe_int (nomark _)))))) (pss_cons (ps_ret (pe_un un_neg pe_int)) pss_nil) pss_nil)
    (pss_cons (ps_ret (pe_bm PySem.F.plainAttrs_list PySem.F.slot_list_index PySem.F.type_list_index mt_index (pv 1) (pa_cons pe_bl pa_nil))) pss_nil))))
abbrev s_law_met_k17 : Stmt := top 34
theorem sc_law_met_k17 : FnScope ["way", "kind", "web", "e"] ["way", "kind"] (defScope s_law_met_k17) := ⟨rfl, rfl, rfl, by decide +kernel, rfl, by decide +kernel, by decide +kernel⟩
set_option maxRecDepth 100000 in
theorem ok_law_met_k17 {k : Nat} {φ_shelf_best φ_pile_best φ_pile_pays φ_road_best φ_road_gets φ_road_gain : List D → Rs D} (T : Tx K mg C c_BadWorths c_BadWeb c_BadCosts c_NoWay c_Alone c_TollError) (hd : Dn K mg "_law_met" s_law_met_k17 ["way", "kind"]) {l_shelf_best : Nat} (hl_shelf_best : l_shelf_best ≤ k) (h_shelf_best : Cal P w K mg base C (L2.CX P w) l_shelf_best "shelf_best" 1 φ_shelf_best) {l_pile_best : Nat} (hl_pile_best : l_pile_best ≤ k) (h_pile_best : Cal P w K mg base C (L2.CX P w) l_pile_best "pile_best" 2 φ_pile_best) {l_pile_pays : Nat} (hl_pile_pays : l_pile_pays ≤ k) (h_pile_pays : Cal P w K mg base C (L2.CX P w) l_pile_pays "pile_pays" 2 φ_pile_pays) {l_road_best : Nat} (hl_road_best : l_road_best ≤ k) (h_road_best : Cal P w K mg base C (L2.CX P w) l_road_best "road_best" 3 φ_road_best) {l_road_gets : Nat} (hl_road_gets : l_road_gets ≤ k) (h_road_gets : Cal P w K mg base C (L2.CX P w) l_road_gets "road_gets" 3 φ_road_gets) {l_road_gain : Nat} (hl_road_gain : l_road_gain ≤ k) (h_road_gain : Cal P w K mg base C (L2.CX P w) l_road_gain "road_gain" 5 φ_road_gain) {l_Web : Nat} (hl_Web : l_Web + 1 ≤ k) (h_Web : CalW P w K mg base C l_Web (chkW c_BadWeb)) {l_law_which : Nat} (hl_law_which : l_law_which ≤ k) (h_law_which : CalWh P w K mg base c_BadWorths c_BadWeb c_BadCosts c_NoWay c_Alone c_TollError l_law_which) : Cal P w K mg base C CX0 (k + 1) "_law_met" 2 (p_law_met_k17 c_BadWeb c_BadWorths c_BadCosts c_NoWay c_Alone φ_shelf_best φ_pile_best φ_pile_pays φ_road_best φ_road_gets φ_road_gain) := by
  obtain ⟨f, fd, F, g, b⟩ := hd
  obtain ⟨f_shelf_best, fd_shelf_best, ps_shelf_best, G_shelf_best, g_shelf_best, k_shelf_best, b_shelf_best⟩ := h_shelf_best
  obtain ⟨f_pile_best, fd_pile_best, ps_pile_best, G_pile_best, g_pile_best, k_pile_best, b_pile_best⟩ := h_pile_best
  obtain ⟨f_pile_pays, fd_pile_pays, ps_pile_pays, G_pile_pays, g_pile_pays, k_pile_pays, b_pile_pays⟩ := h_pile_pays
  obtain ⟨f_road_best, fd_road_best, ps_road_best, G_road_best, g_road_best, k_road_best, b_road_best⟩ := h_road_best
  obtain ⟨f_road_gets, fd_road_gets, ps_road_gets, G_road_gets, g_road_gets, k_road_gets, b_road_gets⟩ := h_road_gets
  obtain ⟨f_road_gain, fd_road_gain, ps_road_gain, G_road_gain, g_road_gain, k_road_gain, b_road_gain⟩ := h_road_gain
  exact ⟨f, fd, _, def_ok F sc_law_met_k17 (fun cdv A outer s H E hr => ⟨_,
    (z_cons (z_set (i := 2) sc_law_met_k17.nd rfl (Or.inl rfl) (x_make h_Web hr hl_Web passL (a_cons x_int (a_cons (x_l (l_lst (n := 3) (by decide) (a_cons (x_tup (n := 2) (by decide) (a_cons x_int (a_cons x_int a_nil)) (mCons_len (mCons_len mNil_len))) (a_cons (x_tup (n := 2) (by decide) (a_cons x_int (a_cons x_int a_nil)) (mCons_len (mCons_len mNil_len))) (a_cons (x_tup (n := 2) (by decide) (a_cons x_int (a_cons x_int a_nil)) (mCons_len (mCons_len mNil_len))) a_nil))) (mCons_len (mCons_len (mCons_len mNil_len))))) a_nil))))
    (z_cons (z_try17 (i := 3) (n := 4) rfl rfl sc_law_met_k17.nd rfl rfl rfl ⟨rfl, by decide, Or.inl T.g_Alone⟩ ⟨rfl, by decide, Or.inl T.g_TollError⟩ (Or.inl rfl) (fun E pn xe hx =>
    (z_cons (z_if (y_eq hr.units (x_v 0) x_int) (z_cons (z_exp (x_callX (n := 1) (mCons_len mNil_len) hx G_shelf_best (hr.mono hl_shelf_best) g_shelf_best k_shelf_best b_shelf_best (a_cons (x_l (l_lst (n := 0) (by decide) a_nil mNil_len)) a_nil)))
    z_nil)
    (z_cons (z_if (y_eq hr.units (x_v 0) x_int) (z_cons (z_exp (x_callX (n := 2) (mCons_len (mCons_len mNil_len)) hx G_pile_best (hr.mono hl_pile_best) g_pile_best k_pile_best b_pile_best (a_cons x_int (a_cons (x_l (l_lst (n := 1) (by decide) (a_cons (x_l (l_lst (n := 2) (by decide) (a_cons x_int (a_cons x_int a_nil)) (mCons_len (mCons_len mNil_len)))) a_nil) (mCons_len mNil_len))) a_nil))))
    z_nil)
    (z_cons (z_if (y_eq hr.units (x_v 0) x_int) (z_cons (z_exp (x_callX (n := 2) (mCons_len (mCons_len mNil_len)) hx G_pile_pays (hr.mono hl_pile_pays) g_pile_pays k_pile_pays b_pile_pays (a_cons x_int (a_cons (x_l (l_lst (n := 1) (by decide) (a_cons (x_l (l_lst (n := 2) (by decide) (a_cons x_int (a_cons x_int a_nil)) (mCons_len (mCons_len mNil_len)))) a_nil) (mCons_len mNil_len))) a_nil))))
    z_nil)
    (z_cons (z_if (y_eq hr.units (x_v 0) x_int) (z_cons (z_exp (x_make h_Web hr hl_Web hx (a_cons x_int (a_cons (x_l (l_lst (n := 0) (by decide) a_nil mNil_len)) a_nil))))
    z_nil)
    (z_cons (z_if (y_eq hr.units (x_v 0) x_int) (z_cons (z_exp (x_callX (n := 3) (mCons_len (mCons_len (mCons_len mNil_len))) hx G_road_best (hr.mono hl_road_best) g_road_best k_road_best b_road_best (a_cons (x_v 2) (a_cons (x_v 1) (a_cons (x_l (l_lst (n := 2) (by decide) (a_cons x_int (a_cons x_int a_nil)) (mCons_len (mCons_len mNil_len)))) a_nil)))))
    z_nil)
    (z_cons (z_if (y_eq hr.units (x_v 0) x_int) (z_cons (z_exp (x_callX (n := 3) (mCons_len (mCons_len (mCons_len mNil_len))) hx G_road_best (hr.mono hl_road_best) g_road_best k_road_best b_road_best (a_cons (x_make h_Web hr hl_Web hx (a_cons x_int (a_cons (x_l (l_lst (n := 1) (by decide) (a_cons (x_tup (n := 2) (by decide) (a_cons x_int (a_cons x_int a_nil)) (mCons_len (mCons_len mNil_len))) a_nil) (mCons_len mNil_len))) a_nil))) (a_cons (x_v 1) (a_cons (x_l (l_lst (n := 1) (by decide) (a_cons x_int a_nil) (mCons_len mNil_len))) a_nil)))))
    z_nil)
    (z_cons (z_if (y_eq hr.units (x_v 0) x_int) (z_cons (z_exp (x_callX (n := 3) (mCons_len (mCons_len (mCons_len mNil_len))) hx G_road_gets (hr.mono hl_road_gets) g_road_gets k_road_gets b_road_gets (a_cons (x_make h_Web hr hl_Web hx (a_cons x_int (a_cons (x_l (l_lst (n := 3) (by decide) (a_cons (x_tup (n := 2) (by decide) (a_cons x_int (a_cons x_int a_nil)) (mCons_len (mCons_len mNil_len))) (a_cons (x_tup (n := 2) (by decide) (a_cons x_int (a_cons x_int a_nil)) (mCons_len (mCons_len mNil_len))) (a_cons (x_tup (n := 2) (by decide) (a_cons x_int (a_cons x_int a_nil)) (mCons_len (mCons_len mNil_len))) a_nil))) (mCons_len (mCons_len (mCons_len mNil_len))))) a_nil))) (a_cons (x_v 1) (a_cons (x_l (l_lst (n := 3) (by decide) (a_cons x_int (a_cons x_int (a_cons x_int a_nil))) (mCons_len (mCons_len (mCons_len mNil_len))))) a_nil)))))
    z_nil)
    (z_cons (z_if (y_eq hr.units (x_v 0) x_int) (z_cons (z_exp (x_callX (n := 3) (mCons_len (mCons_len (mCons_len mNil_len))) hx G_road_gets (hr.mono hl_road_gets) g_road_gets k_road_gets b_road_gets (a_cons (x_v 2) (a_cons (x_v 1) (a_cons (x_l (l_lst (n := 3) (by decide) (a_cons x_int (a_cons x_int (a_cons x_int a_nil))) (mCons_len (mCons_len (mCons_len mNil_len))))) a_nil)))))
    z_nil)
    (z_cons (z_exp (x_callX (n := 5) (mCons_len (mCons_len (mCons_len (mCons_len (mCons_len mNil_len))))) hx G_road_gain (hr.mono hl_road_gain) g_road_gain k_road_gain b_road_gain (a_cons (x_v 2) (a_cons (x_v 1) (a_cons (x_l (l_lst (n := 3) (by decide) (a_cons x_int (a_cons x_int (a_cons x_int a_nil))) (mCons_len (mCons_len (mCons_len mNil_len))))) (a_cons x_int (a_cons x_int a_nil)))))))
    z_nil))
    z_nil))
    z_nil))
    z_nil))
    z_nil))
    z_nil))
    z_nil))
    z_nil))
    z_nil))
    T.xf_Alone T.nr_Alone h_law_which (hr.mono hl_law_which) T.m_Alone_Alone T.n_BadWorths_Alone T.n_BadWeb_Alone T.n_BadCosts_Alone T.n_NoWay_Alone T.m_BadWorths_TollError T.m_BadWeb_TollError T.m_BadCosts_TollError T.m_NoWay_TollError
    ⟨T.f_BadWorths, T.i_BadWorths_BadWorths, T.i_BadWorths_BadWeb, T.i_BadWorths_BadCosts, T.i_BadWorths_NoWay, T.i_BadWorths_Alone, T.i_BadWorths_TollError, T.i_BadWorths_ValueError, by decide⟩ ⟨T.f_BadWeb, T.i_BadWeb_BadWorths, T.i_BadWeb_BadWeb, T.i_BadWeb_BadCosts, T.i_BadWeb_NoWay, T.i_BadWeb_Alone, T.i_BadWeb_TollError, T.i_BadWeb_ValueError, by decide⟩ ⟨T.f_BadCosts, T.i_BadCosts_BadWorths, T.i_BadCosts_BadWeb, T.i_BadCosts_BadCosts, T.i_BadCosts_NoWay, T.i_BadCosts_Alone, T.i_BadCosts_TollError, T.i_BadCosts_ValueError, by decide⟩ ⟨T.f_NoWay, T.i_NoWay_BadWorths, T.i_NoWay_BadWeb, T.i_NoWay_BadCosts, T.i_NoWay_NoWay, T.i_NoWay_Alone, T.i_NoWay_TollError, T.i_NoWay_ValueError, by decide⟩ ⟨T.f_Alone, T.i_Alone_BadWorths, T.i_Alone_BadWeb, T.i_Alone_BadCosts, T.i_Alone_NoWay, T.i_Alone_Alone, T.i_Alone_TollError, T.i_Alone_ValueError, by decide⟩)
    (z_cons (z_ret x_int)
    z_nil)))⟩), g, F.kp, b⟩
abbrev s_law_k17 : Stmt := top 35
theorem sc_law_k17 : FnScope ["script", "first", "k", "way", "kind"] ["script"] (defScope s_law_k17) := ⟨rfl, rfl, rfl, by decide +kernel, rfl, by decide +kernel, by decide +kernel⟩
set_option maxRecDepth 100000 in
theorem ok_law_k17 {k : Nat} {φ_law_met_k17 φ_law_cell_at : List D → Rs D} (T : Tx K mg C c_BadWorths c_BadWeb c_BadCosts c_NoWay c_Alone c_TollError) {f : Addr} {fd : FuncData} (F : Fun K "law" "law" s_law_k17 f fd) {l_law_met_k17 : Nat} (hl_law_met_k17 : l_law_met_k17 ≤ k) (h_law_met_k17 : Cal P w K mg base C CX0 l_law_met_k17 "_law_met" 2 φ_law_met_k17) {l_law_cell_at : Nat} (hl_law_cell_at : l_law_cell_at ≤ k) (h_law_cell_at : Cal P w K mg base C CX0 l_law_cell_at "_law_cell_at" 2 φ_law_cell_at) : FnOk P w K mg base CX0 (k + 1) f fd ["script"] (spM K C 1 (p_law_k17 φ_law_met_k17 φ_law_cell_at)) := by
  obtain ⟨f_law_met_k17, fd_law_met_k17, ps_law_met_k17, G_law_met_k17, g_law_met_k17, k_law_met_k17, b_law_met_k17⟩ := h_law_met_k17
  obtain ⟨f_law_cell_at, fd_law_cell_at, ps_law_cell_at, G_law_cell_at, g_law_cell_at, k_law_cell_at, b_law_cell_at⟩ := h_law_cell_at
  exact def_ok F sc_law_k17 (fun cdv A outer s H E hr => ⟨_,
    (z_cons (z_set (i := 1) sc_law_k17.nd rfl (Or.inl rfl) (x_mod (x_call (n := 2) (mCons_len (mCons_len mNil_len)) G_law_cell_at (hr.mono hl_law_cell_at) g_law_cell_at k_law_cell_at b_law_cell_at (a_cons (x_v 0) (a_cons x_int a_nil))) x_int))
    (z_cons (z_for (T := .one 2) [2, 3, 4] PassesOwn.never rfl (i_rng1 T.b_range (a_cons x_int a_nil)) (g_one sc_law_k17.nd rfl (Or.inl rfl))
    (z_cons (z_set (i := 3) sc_law_k17.nd rfl (Or.inl rfl) (x_mod (x_add (x_v 1) (x_v 2)) x_int))
    (z_cons (z_set (i := 4) sc_law_k17.nd rfl (Or.inl rfl) (x_ix (x_l (l_lst (n := 2) (by decide) (a_cons x_str (a_cons x_str a_nil)) (mCons_len (mCons_len mNil_len)))) (x_mod (x_add (x_call (n := 2) (mCons_len (mCons_len mNil_len)) G_law_cell_at (hr.mono hl_law_cell_at) g_law_cell_at k_law_cell_at b_law_cell_at (a_cons (x_v 0) (a_cons x_int a_nil))) (x_v 2)) x_int)))
    (z_cons (z_if (y_ne hr.units (x_call (n := 2) (mCons_len (mCons_len mNil_len)) G_law_met_k17 (hr.mono hl_law_met_k17) g_law_met_k17 k_law_met_k17 b_law_met_k17 (a_cons (x_v 3) (a_cons (x_v 4) a_nil))) (x_ix (x_l (l_lst (n := 9) (by decide) (a_cons x_int (a_cons x_int (a_cons x_int (a_cons x_int (a_cons x_int (a_cons x_int (a_cons x_int (a_cons x_int (a_cons x_int a_nil))))))))) (mCons_len (mCons_len (mCons_len (mCons_len (mCons_len (mCons_len (mCons_len (mCons_len (mCons_len mNil_len))))))))))) (x_v 3))) (z_cons (z_ret x_bl)
    z_nil)
    z_nil)
    z_nil))))
    (z_cons (z_ret x_bl)
    z_nil)))⟩)
theorem cal_numbers_right (T : Tx K mg C c_BadWorths c_BadWeb c_BadCosts c_NoWay c_Alone c_TollError) (D_numbers_right : Dn K mg "numbers_right" s_numbers_right ["numbers"]) : Cal P w K mg base C CX0 1 "numbers_right" 1 (P_numbers_right) :=
  ok_numbers_right (k := 0) T D_numbers_right
theorem cal_check_shelf (T : Tx K mg C c_BadWorths c_BadWeb c_BadCosts c_NoWay c_Alone c_TollError) (D_numbers_right : Dn K mg "numbers_right" s_numbers_right ["numbers"]) (D_check_shelf : Dn K mg "check_shelf" s_check_shelf ["worths"]) : Cal P w K mg base C (L2.CX P w) 2 "check_shelf" 1 (P_check_shelf c_BadWorths) :=
  ok_check_shelf (k := 1) T D_check_shelf (by decide) (cal_numbers_right T D_numbers_right)
theorem cals_dealt (T : Tx K mg C c_BadWorths c_BadWeb c_BadCosts c_NoWay c_Alone c_TollError) (D_dealt : Dn K mg "dealt" s_dealt ["worths", "taken"]) : ∀ n : Nat, Cal P w K mg base C CX0 (0 + n) "dealt" 2 (P_dealt n)
  | 0 => Cal.mono (Cal.zero D_dealt rfl) (Nat.zero_le _)
  | n + 1 => by
    have ih := cals_dealt T D_dealt n
    exact ok_dealt (k := 0 + n) T D_dealt (Nat.le_refl _) ih
theorem cal_dealt (T : Tx K mg C c_BadWorths c_BadWeb c_BadCosts c_NoWay c_Alone c_TollError) (D_dealt : Dn K mg "dealt" s_dealt ["worths", "taken"]) : Cal P w K mg base C CX0 5 "dealt" 2 (P_dealt 5) := cals_dealt T D_dealt 5
theorem cal_shelf_best (T : Tx K mg C c_BadWorths c_BadWeb c_BadCosts c_NoWay c_Alone c_TollError) (D_dealt : Dn K mg "dealt" s_dealt ["worths", "taken"]) (D_numbers_right : Dn K mg "numbers_right" s_numbers_right ["numbers"]) (D_check_shelf : Dn K mg "check_shelf" s_check_shelf ["worths"]) (D_shelf_best : Dn K mg "shelf_best" s_shelf_best ["worths"]) : Cal P w K mg base C (L2.CX P w) 6 "shelf_best" 1 (P_shelf_best c_BadWorths) :=
  ok_shelf_best (k := 5) T D_shelf_best (by decide) (cal_dealt T D_dealt) (by decide) (cal_check_shelf T D_numbers_right D_check_shelf)
theorem cal_check_costs (T : Tx K mg C c_BadWorths c_BadWeb c_BadCosts c_NoWay c_Alone c_TollError) (D_numbers_right : Dn K mg "numbers_right" s_numbers_right ["numbers"]) (D_check_costs : Dn K mg "check_costs" s_check_costs ["web", "costs"]) : Cal P w K mg base C (L2.CX P w) 2 "check_costs" 2 (P_check_costs c_BadCosts) :=
  ok_check_costs (k := 1) T D_check_costs (by decide) (cal_numbers_right T D_numbers_right)
theorem cals_ways_from (T : Tx K mg C c_BadWorths c_BadWeb c_BadCosts c_NoWay c_Alone c_TollError) (D_ways_from : Dn K mg "ways_from" s_ways_from ["web", "here", "seen", "left"]) : ∀ n : Nat, Cal P w K mg base C CX0 (0 + n) "ways_from" 4 (P_ways_from n)
  | 0 => Cal.mono (Cal.zero D_ways_from rfl) (Nat.zero_le _)
  | n + 1 => by
    have ih := cals_ways_from T D_ways_from n
    exact ok_ways_from (k := 0 + n) T D_ways_from (Nat.le_refl _) ih
theorem cal_ways_from (T : Tx K mg C c_BadWorths c_BadWeb c_BadCosts c_NoWay c_Alone c_TollError) (D_ways_from : Dn K mg "ways_from" s_ways_from ["web", "here", "seen", "left"]) : Cal P w K mg base C CX0 7 "ways_from" 4 (P_ways_from 7) := cals_ways_from T D_ways_from 7
theorem cal_best_way (T : Tx K mg C c_BadWorths c_BadWeb c_BadCosts c_NoWay c_Alone c_TollError) (D_ways_from : Dn K mg "ways_from" s_ways_from ["web", "here", "seen", "left"]) (D_best_way : Dn K mg "best_way" s_best_way ["web", "costs", "left"]) : Cal P w K mg base C CX0 8 "best_way" 3 (P_best_way) :=
  ok_best_way (k := 7) T D_best_way (by decide) (cal_ways_from T D_ways_from)
theorem cal_best_tree (T : Tx K mg C c_BadWorths c_BadWeb c_BadCosts c_NoWay c_Alone c_TollError) (D_best_tree : Dn K mg "best_tree" s_best_tree ["web", "costs", "left"]) : Cal P w K mg base C CX0 1 "best_tree" 3 (P_best_tree) :=
  ok_best_tree (k := 0) T D_best_tree
theorem cal_best_by (T : Tx K mg C c_BadWorths c_BadWeb c_BadCosts c_NoWay c_Alone c_TollError) (D_best_tree : Dn K mg "best_tree" s_best_tree ["web", "costs", "left"]) (D_ways_from : Dn K mg "ways_from" s_ways_from ["web", "here", "seen", "left"]) (D_best_way : Dn K mg "best_way" s_best_way ["web", "costs", "left"]) (D_best_by : Dn K mg "best_by" s_best_by ["web", "kind", "costs", "left"]) : Cal P w K mg base C CX0 9 "best_by" 4 (P_best_by) :=
  ok_best_by (k := 8) T D_best_by (by decide) (cal_best_tree T D_best_tree) (by decide) (cal_best_way T D_ways_from D_best_way)
theorem cal_road_best (T : Tx K mg C c_BadWorths c_BadWeb c_BadCosts c_NoWay c_Alone c_TollError) (D_best_tree : Dn K mg "best_tree" s_best_tree ["web", "costs", "left"]) (D_ways_from : Dn K mg "ways_from" s_ways_from ["web", "here", "seen", "left"]) (D_best_way : Dn K mg "best_way" s_best_way ["web", "costs", "left"]) (D_best_by : Dn K mg "best_by" s_best_by ["web", "kind", "costs", "left"]) (D_numbers_right : Dn K mg "numbers_right" s_numbers_right ["numbers"]) (D_check_costs : Dn K mg "check_costs" s_check_costs ["web", "costs"]) (D_road_best : Dn K mg "road_best" s_road_best ["web", "kind", "costs"]) : Cal P w K mg base C (L2.CX P w) 10 "road_best" 3 (P_road_best c_BadCosts c_NoWay) :=
  ok_road_best (k := 9) T D_road_best (by decide) (cal_best_by T D_best_tree D_ways_from D_best_way D_best_by) (by decide) (cal_check_costs T D_numbers_right D_check_costs)
theorem cal_road_gets (T : Tx K mg C c_BadWorths c_BadWeb c_BadCosts c_NoWay c_Alone c_TollError) (D_best_tree : Dn K mg "best_tree" s_best_tree ["web", "costs", "left"]) (D_ways_from : Dn K mg "ways_from" s_ways_from ["web", "here", "seen", "left"]) (D_best_way : Dn K mg "best_way" s_best_way ["web", "costs", "left"]) (D_best_by : Dn K mg "best_by" s_best_by ["web", "kind", "costs", "left"]) (D_numbers_right : Dn K mg "numbers_right" s_numbers_right ["numbers"]) (D_check_costs : Dn K mg "check_costs" s_check_costs ["web", "costs"]) (D_road_best : Dn K mg "road_best" s_road_best ["web", "kind", "costs"]) (D_Alone : DnA K mg c_Alone s_Alone0) (D_road_gets : Dn K mg "road_gets" s_road_gets ["web", "kind", "costs"]) : Cal P w K mg base C (L2.CX P w) 11 "road_gets" 3 (P_road_gets c_Alone c_BadCosts c_NoWay) :=
  ok_road_gets (k := 10) T D_road_gets (by decide) (cal_best_by T D_best_tree D_ways_from D_best_way D_best_by) (by decide) (cal_road_best T D_best_tree D_ways_from D_best_way D_best_by D_numbers_right D_check_costs D_road_best) (by decide) (cal_Alone D_Alone)
theorem cal_road_gain (T : Tx K mg C c_BadWorths c_BadWeb c_BadCosts c_NoWay c_Alone c_TollError) (D_best_tree : Dn K mg "best_tree" s_best_tree ["web", "costs", "left"]) (D_ways_from : Dn K mg "ways_from" s_ways_from ["web", "here", "seen", "left"]) (D_best_way : Dn K mg "best_way" s_best_way ["web", "costs", "left"]) (D_best_by : Dn K mg "best_by" s_best_by ["web", "kind", "costs", "left"]) (D_numbers_right : Dn K mg "numbers_right" s_numbers_right ["numbers"]) (D_check_costs : Dn K mg "check_costs" s_check_costs ["web", "costs"]) (D_road_best : Dn K mg "road_best" s_road_best ["web", "kind", "costs"]) (D_Alone : DnA K mg c_Alone s_Alone0) (D_road_gets : Dn K mg "road_gets" s_road_gets ["web", "kind", "costs"]) (D_road_gain : Dn K mg "road_gain" s_road_gain ["web", "kind", "costs", "road", "truth"]) : Cal P w K mg base C (L2.CX P w) 12 "road_gain" 5 (P_road_gain c_Alone c_BadCosts c_NoWay) :=
  ok_road_gain (k := 11) T D_road_gain (by decide) (cal_road_best T D_best_tree D_ways_from D_best_way D_best_by D_numbers_right D_check_costs D_road_best) (by decide) (cal_road_gets T D_best_tree D_ways_from D_best_way D_best_by D_numbers_right D_check_costs D_road_best D_Alone D_road_gets)
theorem cal_row_right (T : Tx K mg C c_BadWorths c_BadWeb c_BadCosts c_NoWay c_Alone c_TollError) (D_numbers_right : Dn K mg "numbers_right" s_numbers_right ["numbers"]) (D_row_right : Dn K mg "row_right" s_row_right ["row"]) : Cal P w K mg base C CX0 2 "row_right" 1 (P_row_right) :=
  ok_row_right (k := 1) T D_row_right (by decide) (cal_numbers_right T D_numbers_right)
theorem cal_check_pile (T : Tx K mg C c_BadWorths c_BadWeb c_BadCosts c_NoWay c_Alone c_TollError) (D_numbers_right : Dn K mg "numbers_right" s_numbers_right ["numbers"]) (D_row_right : Dn K mg "row_right" s_row_right ["row"]) (D_check_pile : Dn K mg "check_pile" s_check_pile ["pieces", "worths"]) : Cal P w K mg base C (L2.CX P w) 3 "check_pile" 2 (P_check_pile c_BadWorths) :=
  ok_check_pile (k := 2) T D_check_pile (by decide) (cal_row_right T D_numbers_right D_row_right)
theorem cal_shared (T : Tx K mg C c_BadWorths c_BadWeb c_BadCosts c_NoWay c_Alone c_TollError) (D_shared : Dn K mg "shared" s_shared ["pieces", "worths"]) : Cal P w K mg base C CX0 1 "shared" 2 (P_shared) :=
  ok_shared (k := 0) T D_shared
theorem cal_pile_best (T : Tx K mg C c_BadWorths c_BadWeb c_BadCosts c_NoWay c_Alone c_TollError) (D_shared : Dn K mg "shared" s_shared ["pieces", "worths"]) (D_numbers_right : Dn K mg "numbers_right" s_numbers_right ["numbers"]) (D_row_right : Dn K mg "row_right" s_row_right ["row"]) (D_check_pile : Dn K mg "check_pile" s_check_pile ["pieces", "worths"]) (D_pile_best : Dn K mg "pile_best" s_pile_best ["pieces", "worths"]) : Cal P w K mg base C (L2.CX P w) 4 "pile_best" 2 (P_pile_best c_BadWorths) :=
  ok_pile_best (k := 3) T D_pile_best (by decide) (cal_shared T D_shared) (by decide) (cal_check_pile T D_numbers_right D_row_right D_check_pile)
theorem cal_pay_for (T : Tx K mg C c_BadWorths c_BadWeb c_BadCosts c_NoWay c_Alone c_TollError) (D_shared : Dn K mg "shared" s_shared ["pieces", "worths"]) (D_pay_for : Dn K mg "pay_for" s_pay_for ["pieces", "worths", "person"]) : Cal P w K mg base C CX0 2 "pay_for" 3 (P_pay_for) :=
  ok_pay_for (k := 1) T D_pay_for (by decide) (cal_shared T D_shared)
theorem cal_pile_pays (T : Tx K mg C c_BadWorths c_BadWeb c_BadCosts c_NoWay c_Alone c_TollError) (D_shared : Dn K mg "shared" s_shared ["pieces", "worths"]) (D_pay_for : Dn K mg "pay_for" s_pay_for ["pieces", "worths", "person"]) (D_numbers_right : Dn K mg "numbers_right" s_numbers_right ["numbers"]) (D_row_right : Dn K mg "row_right" s_row_right ["row"]) (D_check_pile : Dn K mg "check_pile" s_check_pile ["pieces", "worths"]) (D_pile_pays : Dn K mg "pile_pays" s_pile_pays ["pieces", "worths"]) : Cal P w K mg base C (L2.CX P w) 4 "pile_pays" 2 (P_pile_pays c_BadWorths) :=
  ok_pile_pays (k := 3) T D_pile_pays (by decide) (cal_pay_for T D_shared D_pay_for) (by decide) (cal_check_pile T D_numbers_right D_row_right D_check_pile)
theorem cal_law_cell_at (T : Tx K mg C c_BadWorths c_BadWeb c_BadCosts c_NoWay c_Alone c_TollError) (D_law_cell_at : Dn K mg "_law_cell_at" s_law_cell_at ["script", "k"]) : Cal P w K mg base C CX0 1 "_law_cell_at" 2 (P_law_cell_at) :=
  ok_law_cell_at (k := 0) T D_law_cell_at
theorem cal_law_met_k17 (T : Tx K mg C c_BadWorths c_BadWeb c_BadCosts c_NoWay c_Alone c_TollError) (D_dealt : Dn K mg "dealt" s_dealt ["worths", "taken"]) (D_numbers_right : Dn K mg "numbers_right" s_numbers_right ["numbers"]) (D_check_shelf : Dn K mg "check_shelf" s_check_shelf ["worths"]) (D_shelf_best : Dn K mg "shelf_best" s_shelf_best ["worths"]) (D_shared : Dn K mg "shared" s_shared ["pieces", "worths"]) (D_row_right : Dn K mg "row_right" s_row_right ["row"]) (D_check_pile : Dn K mg "check_pile" s_check_pile ["pieces", "worths"]) (D_pile_best : Dn K mg "pile_best" s_pile_best ["pieces", "worths"]) (D_pay_for : Dn K mg "pay_for" s_pay_for ["pieces", "worths", "person"]) (D_pile_pays : Dn K mg "pile_pays" s_pile_pays ["pieces", "worths"]) (D_best_tree : Dn K mg "best_tree" s_best_tree ["web", "costs", "left"]) (D_ways_from : Dn K mg "ways_from" s_ways_from ["web", "here", "seen", "left"]) (D_best_way : Dn K mg "best_way" s_best_way ["web", "costs", "left"]) (D_best_by : Dn K mg "best_by" s_best_by ["web", "kind", "costs", "left"]) (D_check_costs : Dn K mg "check_costs" s_check_costs ["web", "costs"]) (D_road_best : Dn K mg "road_best" s_road_best ["web", "kind", "costs"]) (D_Alone : DnA K mg c_Alone s_Alone0) (D_road_gets : Dn K mg "road_gets" s_road_gets ["web", "kind", "costs"]) (D_road_gain : Dn K mg "road_gain" s_road_gain ["web", "kind", "costs", "road", "truth"]) (D_Web : DnW K mg C s_Web0) (D_law_which : Dn K mg "_law_which" s_law_which ["e"]) (D_law_met_k17 : Dn K mg "_law_met" s_law_met_k17 ["way", "kind"]) : Cal P w K mg base C CX0 13 "_law_met" 2 (P_law_met_k17 c_Alone c_BadCosts c_BadWeb c_BadWorths c_NoWay) :=
  ok_law_met_k17 (k := 12) T D_law_met_k17 (by decide) (cal_shelf_best T D_dealt D_numbers_right D_check_shelf D_shelf_best) (by decide) (cal_pile_best T D_shared D_numbers_right D_row_right D_check_pile D_pile_best) (by decide) (cal_pile_pays T D_shared D_pay_for D_numbers_right D_row_right D_check_pile D_pile_pays) (by decide) (cal_road_best T D_best_tree D_ways_from D_best_way D_best_by D_numbers_right D_check_costs D_road_best) (by decide) (cal_road_gets T D_best_tree D_ways_from D_best_way D_best_by D_numbers_right D_check_costs D_road_best D_Alone D_road_gets) (by decide) (cal_road_gain T D_best_tree D_ways_from D_best_way D_best_by D_numbers_right D_check_costs D_road_best D_Alone D_road_gets D_road_gain) (by decide) (cal_Web T D_Web) (by decide) (cal_law_which T D_law_which)
theorem cal_law (T : Tx K mg C c_BadWorths c_BadWeb c_BadCosts c_NoWay c_Alone c_TollError) (D_dealt : Dn K mg "dealt" s_dealt ["worths", "taken"]) (D_numbers_right : Dn K mg "numbers_right" s_numbers_right ["numbers"]) (D_check_shelf : Dn K mg "check_shelf" s_check_shelf ["worths"]) (D_shelf_best : Dn K mg "shelf_best" s_shelf_best ["worths"]) (D_shared : Dn K mg "shared" s_shared ["pieces", "worths"]) (D_row_right : Dn K mg "row_right" s_row_right ["row"]) (D_check_pile : Dn K mg "check_pile" s_check_pile ["pieces", "worths"]) (D_pile_best : Dn K mg "pile_best" s_pile_best ["pieces", "worths"]) (D_pay_for : Dn K mg "pay_for" s_pay_for ["pieces", "worths", "person"]) (D_pile_pays : Dn K mg "pile_pays" s_pile_pays ["pieces", "worths"]) (D_best_tree : Dn K mg "best_tree" s_best_tree ["web", "costs", "left"]) (D_ways_from : Dn K mg "ways_from" s_ways_from ["web", "here", "seen", "left"]) (D_best_way : Dn K mg "best_way" s_best_way ["web", "costs", "left"]) (D_best_by : Dn K mg "best_by" s_best_by ["web", "kind", "costs", "left"]) (D_check_costs : Dn K mg "check_costs" s_check_costs ["web", "costs"]) (D_road_best : Dn K mg "road_best" s_road_best ["web", "kind", "costs"]) (D_Alone : DnA K mg c_Alone s_Alone0) (D_road_gets : Dn K mg "road_gets" s_road_gets ["web", "kind", "costs"]) (D_road_gain : Dn K mg "road_gain" s_road_gain ["web", "kind", "costs", "road", "truth"]) (D_Web : DnW K mg C s_Web0) (D_law_which : Dn K mg "_law_which" s_law_which ["e"]) (D_law_met_k17 : Dn K mg "_law_met" s_law_met_k17 ["way", "kind"]) (D_law_cell_at : Dn K mg "_law_cell_at" s_law_cell_at ["script", "k"]) {f : Addr} {fd : FuncData} (F : Fun K "law" "law" s_law_k17 f fd) : FnOk P w K mg base CX0 14 f fd ["script"] (spM K C 1 (P_law_k17 c_Alone c_BadCosts c_BadWeb c_BadWorths c_NoWay)) :=
  ok_law_k17 (k := 13) T F (by decide) (cal_law_met_k17 T D_dealt D_numbers_right D_check_shelf D_shelf_best D_shared D_row_right D_check_pile D_pile_best D_pay_for D_pile_pays D_best_tree D_ways_from D_best_way D_best_by D_check_costs D_road_best D_Alone D_road_gets D_road_gain D_Web D_law_which D_law_met_k17) (by decide) (cal_law_cell_at T D_law_cell_at)
end
def fnD : List He.DefD := [dat "numbers_right" s_numbers_right, dat "check_shelf" s_check_shelf, dat "dealt" s_dealt, dat "shelf_best" s_shelf_best, dat "check_costs" s_check_costs, dat "ways_from" s_ways_from, dat "best_way" s_best_way, dat "best_tree" s_best_tree, dat "best_by" s_best_by, dat "road_best" s_road_best, dat "road_gets" s_road_gets, dat "road_gain" s_road_gain, dat "row_right" s_row_right, dat "check_pile" s_check_pile, dat "shared" s_shared, dat "pile_best" s_pile_best, dat "pay_for" s_pay_for, dat "pile_pays" s_pile_pays, dat "_law_cell_at" s_law_cell_at, dat "_law_which" s_law_which, dat "_law_met" s_law_met_k17, dat "law" s_law_k17, datM "Web" "__init__" "Web.__init__" s_Web0, datM "Alone" "__init__" "Alone.__init__" s_Alone0]
def faD : List He.Fa := [.glo "numbers_right", .glo "check_shelf", .glo "dealt", .glo "shelf_best", .glo "check_costs", .glo "ways_from", .glo "best_way", .glo "best_tree", .glo "best_by", .glo "road_best", .glo "road_gets", .glo "road_gain", .glo "row_right", .glo "check_pile", .glo "shared", .glo "pile_best", .glo "pay_for", .glo "pile_pays", .glo "_law_cell_at", .glo "_law_which", .glo "_law_met", .glo "law", .free "ValueError", .free "all", .free "enumerate", .free "isinstance", .free "len", .free "list", .free "min", .free "range", .free "reversed", .free "sorted", .free "sum", .int "MOST" 1000, .int "MOST_PIECES" 12, .glo "BadWorths", .exc "BadWorths", .glo "BadWeb", .exc "BadWeb", .glo "BadCosts", .exc "BadCosts", .glo "NoWay", .exc "NoWay", .glo "Alone", .glo "TollError", .glo "Web", .cls "Web", .mkr "Web", .noat "Web" "places", .noat "Web" "roads", .glo "Alone", .meth "Alone" "__init__", .noat "Alone" "road"]
abbrev RR : PySem.W.OpenRow := PySem.W.OpenLaw.row PySem.Challenge.rw_truthtoll_k17_refusals_apart
def exL (K : PySem.W.Frag) : List Bool := [exFB K (He.ga K "Alone"),
  exFB K (He.ga K "BadCosts"),
  exFB K (He.ga K "BadWeb"),
  exFB K (He.ga K "BadWorths"),
  exFB K (He.ga K "NoWay"),
  decide (PySem.W.exmOne K (.ref (He.ga K "Alone")) (.ref (He.ga K "Alone")) = some true),
  decide (PySem.W.exmOne K (.ref (He.ga K "BadCosts")) (.ref (He.ga K "TollError")) = some true),
  decide (PySem.W.exmOne K (.ref (He.ga K "BadWeb")) (.ref (He.ga K "TollError")) = some true),
  decide (PySem.W.exmOne K (.ref (He.ga K "BadWorths")) (.ref (He.ga K "TollError")) = some true),
  decide (PySem.W.exmOne K (.ref (He.ga K "NoWay")) (.ref (He.ga K "TollError")) = some true),
  decide (PySem.W.exmOne K (.ref (He.ga K "BadCosts")) (.ref (He.ga K "Alone")) = some false),
  decide (PySem.W.exmOne K (.ref (He.ga K "BadWeb")) (.ref (He.ga K "Alone")) = some false),
  decide (PySem.W.exmOne K (.ref (He.ga K "BadWorths")) (.ref (He.ga K "Alone")) = some false),
  decide (PySem.W.exmOne K (.ref (He.ga K "NoWay")) (.ref (He.ga K "Alone")) = some false),
  decide (PySem.W.kitOne K (.ref (He.ga K "Alone")) (.type "ValueError") = some true),
  decide (PySem.W.kitOne K (.ref (He.ga K "BadCosts")) (.type "ValueError") = some true),
  decide (PySem.W.kitOne K (.ref (He.ga K "BadWeb")) (.type "ValueError") = some true),
  decide (PySem.W.kitOne K (.ref (He.ga K "BadWorths")) (.type "ValueError") = some true),
  decide (PySem.W.kitOne K (.ref (He.ga K "NoWay")) (.type "ValueError") = some true),
  decide (PySem.W.kitOne K (.ref (He.ga K "Alone")) (.ref (He.ga K "Alone")) = some true),
  decide (PySem.W.kitOne K (.ref (He.ga K "Alone")) (.ref (He.ga K "BadCosts")) = some false),
  decide (PySem.W.kitOne K (.ref (He.ga K "Alone")) (.ref (He.ga K "BadWeb")) = some false),
  decide (PySem.W.kitOne K (.ref (He.ga K "Alone")) (.ref (He.ga K "BadWorths")) = some false),
  decide (PySem.W.kitOne K (.ref (He.ga K "Alone")) (.ref (He.ga K "NoWay")) = some false),
  decide (PySem.W.kitOne K (.ref (He.ga K "Alone")) (.ref (He.ga K "TollError")) = some true),
  decide (PySem.W.kitOne K (.ref (He.ga K "BadCosts")) (.ref (He.ga K "Alone")) = some false),
  decide (PySem.W.kitOne K (.ref (He.ga K "BadCosts")) (.ref (He.ga K "BadCosts")) = some true),
  decide (PySem.W.kitOne K (.ref (He.ga K "BadCosts")) (.ref (He.ga K "BadWeb")) = some false),
  decide (PySem.W.kitOne K (.ref (He.ga K "BadCosts")) (.ref (He.ga K "BadWorths")) = some false),
  decide (PySem.W.kitOne K (.ref (He.ga K "BadCosts")) (.ref (He.ga K "NoWay")) = some false),
  decide (PySem.W.kitOne K (.ref (He.ga K "BadCosts")) (.ref (He.ga K "TollError")) = some true),
  decide (PySem.W.kitOne K (.ref (He.ga K "BadWeb")) (.ref (He.ga K "Alone")) = some false),
  decide (PySem.W.kitOne K (.ref (He.ga K "BadWeb")) (.ref (He.ga K "BadCosts")) = some false),
  decide (PySem.W.kitOne K (.ref (He.ga K "BadWeb")) (.ref (He.ga K "BadWeb")) = some true),
  decide (PySem.W.kitOne K (.ref (He.ga K "BadWeb")) (.ref (He.ga K "BadWorths")) = some false),
  decide (PySem.W.kitOne K (.ref (He.ga K "BadWeb")) (.ref (He.ga K "NoWay")) = some false),
  decide (PySem.W.kitOne K (.ref (He.ga K "BadWeb")) (.ref (He.ga K "TollError")) = some true),
  decide (PySem.W.kitOne K (.ref (He.ga K "BadWorths")) (.ref (He.ga K "Alone")) = some false),
  decide (PySem.W.kitOne K (.ref (He.ga K "BadWorths")) (.ref (He.ga K "BadCosts")) = some false),
  decide (PySem.W.kitOne K (.ref (He.ga K "BadWorths")) (.ref (He.ga K "BadWeb")) = some false),
  decide (PySem.W.kitOne K (.ref (He.ga K "BadWorths")) (.ref (He.ga K "BadWorths")) = some true),
  decide (PySem.W.kitOne K (.ref (He.ga K "BadWorths")) (.ref (He.ga K "NoWay")) = some false),
  decide (PySem.W.kitOne K (.ref (He.ga K "BadWorths")) (.ref (He.ga K "TollError")) = some true),
  decide (PySem.W.kitOne K (.ref (He.ga K "NoWay")) (.ref (He.ga K "Alone")) = some false),
  decide (PySem.W.kitOne K (.ref (He.ga K "NoWay")) (.ref (He.ga K "BadCosts")) = some false),
  decide (PySem.W.kitOne K (.ref (He.ga K "NoWay")) (.ref (He.ga K "BadWeb")) = some false),
  decide (PySem.W.kitOne K (.ref (He.ga K "NoWay")) (.ref (He.ga K "BadWorths")) = some false),
  decide (PySem.W.kitOne K (.ref (He.ga K "NoWay")) (.ref (He.ga K "NoWay")) = some true),
  decide (PySem.W.kitOne K (.ref (He.ga K "NoWay")) (.ref (He.ga K "TollError")) = some true),
  xfB K (He.ga K "Alone"),
  oexB K (He.ga K "Alone"),
  decide (PySem.W.typeIn K (.ref (He.ma K (He.ga K "Alone") "__init__")) = some (.type "function")),
  decide ((He.ga K "BadWorths") ≠ (He.ga K "Alone")),
  decide ((He.ga K "BadWeb") ≠ (He.ga K "Alone")),
  decide ((He.ga K "BadWeb") ≠ (He.ga K "BadWorths")),
  decide ((He.ga K "BadCosts") ≠ (He.ga K "Alone")),
  decide ((He.ga K "BadCosts") ≠ (He.ga K "BadWorths")),
  decide ((He.ga K "BadCosts") ≠ (He.ga K "BadWeb")),
  decide ((He.ga K "NoWay") ≠ (He.ga K "Alone")),
  decide ((He.ga K "NoWay") ≠ (He.ga K "BadWorths")),
  decide ((He.ga K "NoWay") ≠ (He.ga K "BadWeb")),
  decide ((He.ga K "NoWay") ≠ (He.ga K "BadCosts"))]
def exD (K : PySem.W.Frag) : Bool := (exL K).all id
theorem exD_at {K : PySem.W.Frag} (h : exD K = true) {i : Nat} {b : Bool} (e : (exL K)[i]? = some b) : b = true := List.all_eq_true.mp h b (List.mem_of_getElem? e)
abbrev hkD : PySem.W.Hook := He.hookX 4 faD fnD [] [] exD
def obD (s : PySem.W.SharedT) : He.AlX := He.obsX 4 faD fnD [] [] exD (HandSHeadRun.getT s)
theorem obD_eq (s : PySem.W.SharedT) : obD s = hkD.obs s.abs := He.obsX_eq (HandSHeadRun.getT_eq s)
def nms0 : List PySem.Str := ["numbers_right", "check_shelf", "dealt", "shelf_best", "check_costs", "ways_from", "best_way", "best_tree", "best_by", "road_best", "road_gets", "road_gain", "row_right", "check_pile", "shared", "pile_best", "pay_for", "pile_pays", "_law_cell_at", "_law_which", "_law_met", "TollError", "BadWorths", "BadWeb", "BadCosts", "NoWay", "Alone", "Web", "MOST", "MOST_PIECES"]
def nms : List PySem.Str := nms0
set_option maxHeartbeats 0 in
theorem runD (w : World) : HandSHeadRun.RunEq RR (PySem.W.view RR.prog [35]) hkD obD 4000 nms w := by
  intro os
  kernel_rfl
section
variable {K : PySem.W.Frag} {h : Heap} {mg : Str → Option Value}
theorem tx_of (X : K.In h) (G : h.Ns mainGlobals mg) (c : He.SaysD faD fnD K) (cm : exD K = true) : Tx K mg (He.ga K "Web") (He.ga K "BadWorths") (He.ga K "BadWeb") (He.ga K "BadCosts") (He.ga K "NoWay") (He.ga K "Alone") (He.ga K "TollError") :=
  { b_ValueError := He.free_ok X G (c.fact 22 (f := .free "ValueError") rfl),
    b_all := He.free_ok X G (c.fact 23 (f := .free "all") rfl),
    b_enumerate := He.free_ok X G (c.fact 24 (f := .free "enumerate") rfl),
    b_isinstance := He.free_ok X G (c.fact 25 (f := .free "isinstance") rfl),
    b_len := He.free_ok X G (c.fact 26 (f := .free "len") rfl),
    b_list := He.free_ok X G (c.fact 27 (f := .free "list") rfl),
    b_min := He.free_ok X G (c.fact 28 (f := .free "min") rfl),
    b_range := He.free_ok X G (c.fact 29 (f := .free "range") rfl),
    b_reversed := He.free_ok X G (c.fact 30 (f := .free "reversed") rfl),
    b_sorted := He.free_ok X G (c.fact 31 (f := .free "sorted") rfl),
    b_sum := He.free_ok X G (c.fact 32 (f := .free "sum") rfl),
    g_MOST := He.int_ok X G (c.fact 33 (f := .int "MOST" 1000) rfl),
    g_MOST_PIECES := He.int_ok X G (c.fact 34 (f := .int "MOST_PIECES" 12) rfl),
    x_BadWorths := (He.exc_ok (c.fact 36 (f := .exc "BadWorths") rfl)).1,
    g_BadWorths := He.glo_ok X G (c.fact 35 (f := .glo "BadWorths") rfl),
    k_BadWorths := (He.exc_ok (c.fact 36 (f := .exc "BadWorths") rfl)).2.1,
    s_BadWorths := (He.exc_ok (c.fact 36 (f := .exc "BadWorths") rfl)).2.2.1,
    t_BadWorths := (He.exc_ok (c.fact 36 (f := .exc "BadWorths") rfl)).2.2.2,
    x_BadWeb := (He.exc_ok (c.fact 38 (f := .exc "BadWeb") rfl)).1,
    g_BadWeb := He.glo_ok X G (c.fact 37 (f := .glo "BadWeb") rfl),
    k_BadWeb := (He.exc_ok (c.fact 38 (f := .exc "BadWeb") rfl)).2.1,
    s_BadWeb := (He.exc_ok (c.fact 38 (f := .exc "BadWeb") rfl)).2.2.1,
    t_BadWeb := (He.exc_ok (c.fact 38 (f := .exc "BadWeb") rfl)).2.2.2,
    x_BadCosts := (He.exc_ok (c.fact 40 (f := .exc "BadCosts") rfl)).1,
    g_BadCosts := He.glo_ok X G (c.fact 39 (f := .glo "BadCosts") rfl),
    k_BadCosts := (He.exc_ok (c.fact 40 (f := .exc "BadCosts") rfl)).2.1,
    s_BadCosts := (He.exc_ok (c.fact 40 (f := .exc "BadCosts") rfl)).2.2.1,
    t_BadCosts := (He.exc_ok (c.fact 40 (f := .exc "BadCosts") rfl)).2.2.2,
    x_NoWay := (He.exc_ok (c.fact 42 (f := .exc "NoWay") rfl)).1,
    g_NoWay := He.glo_ok X G (c.fact 41 (f := .glo "NoWay") rfl),
    k_NoWay := (He.exc_ok (c.fact 42 (f := .exc "NoWay") rfl)).2.1,
    s_NoWay := (He.exc_ok (c.fact 42 (f := .exc "NoWay") rfl)).2.2.1,
    t_NoWay := (He.exc_ok (c.fact 42 (f := .exc "NoWay") rfl)).2.2.2,
    g_Alone := He.glo_ok X G (c.fact 43 (f := .glo "Alone") rfl),
    g_TollError := He.glo_ok X G (c.fact 44 (f := .glo "TollError") rfl),
    nr_Alone := He.noat_ok (c.fact 52 (f := .noat "Alone" "road") rfl),
    webC := He.cls_ok (c.fact 46 (f := .cls "Web") rfl),
    no_places := He.noat_ok (c.fact 48 (f := .noat "Web" "places") rfl),
    no_roads := He.noat_ok (c.fact 49 (f := .noat "Web" "roads") rfl),
    f_Alone := exFB_ok (exD_at cm (i := 0) rfl),
    f_BadCosts := exFB_ok (exD_at cm (i := 1) rfl),
    f_BadWeb := exFB_ok (exD_at cm (i := 2) rfl),
    f_BadWorths := exFB_ok (exD_at cm (i := 3) rfl),
    f_NoWay := exFB_ok (exD_at cm (i := 4) rfl),
    m_Alone_Alone := of_decide_eq_true (exD_at cm (i := 5) rfl),
    m_BadCosts_TollError := of_decide_eq_true (exD_at cm (i := 6) rfl),
    m_BadWeb_TollError := of_decide_eq_true (exD_at cm (i := 7) rfl),
    m_BadWorths_TollError := of_decide_eq_true (exD_at cm (i := 8) rfl),
    m_NoWay_TollError := of_decide_eq_true (exD_at cm (i := 9) rfl),
    n_BadCosts_Alone := of_decide_eq_true (exD_at cm (i := 10) rfl),
    n_BadWeb_Alone := of_decide_eq_true (exD_at cm (i := 11) rfl),
    n_BadWorths_Alone := of_decide_eq_true (exD_at cm (i := 12) rfl),
    n_NoWay_Alone := of_decide_eq_true (exD_at cm (i := 13) rfl),
    i_Alone_ValueError := of_decide_eq_true (exD_at cm (i := 14) rfl),
    i_BadCosts_ValueError := of_decide_eq_true (exD_at cm (i := 15) rfl),
    i_BadWeb_ValueError := of_decide_eq_true (exD_at cm (i := 16) rfl),
    i_BadWorths_ValueError := of_decide_eq_true (exD_at cm (i := 17) rfl),
    i_NoWay_ValueError := of_decide_eq_true (exD_at cm (i := 18) rfl),
    i_Alone_Alone := of_decide_eq_true (exD_at cm (i := 19) rfl),
    i_Alone_BadCosts := of_decide_eq_true (exD_at cm (i := 20) rfl),
    i_Alone_BadWeb := of_decide_eq_true (exD_at cm (i := 21) rfl),
    i_Alone_BadWorths := of_decide_eq_true (exD_at cm (i := 22) rfl),
    i_Alone_NoWay := of_decide_eq_true (exD_at cm (i := 23) rfl),
    i_Alone_TollError := of_decide_eq_true (exD_at cm (i := 24) rfl),
    i_BadCosts_Alone := of_decide_eq_true (exD_at cm (i := 25) rfl),
    i_BadCosts_BadCosts := of_decide_eq_true (exD_at cm (i := 26) rfl),
    i_BadCosts_BadWeb := of_decide_eq_true (exD_at cm (i := 27) rfl),
    i_BadCosts_BadWorths := of_decide_eq_true (exD_at cm (i := 28) rfl),
    i_BadCosts_NoWay := of_decide_eq_true (exD_at cm (i := 29) rfl),
    i_BadCosts_TollError := of_decide_eq_true (exD_at cm (i := 30) rfl),
    i_BadWeb_Alone := of_decide_eq_true (exD_at cm (i := 31) rfl),
    i_BadWeb_BadCosts := of_decide_eq_true (exD_at cm (i := 32) rfl),
    i_BadWeb_BadWeb := of_decide_eq_true (exD_at cm (i := 33) rfl),
    i_BadWeb_BadWorths := of_decide_eq_true (exD_at cm (i := 34) rfl),
    i_BadWeb_NoWay := of_decide_eq_true (exD_at cm (i := 35) rfl),
    i_BadWeb_TollError := of_decide_eq_true (exD_at cm (i := 36) rfl),
    i_BadWorths_Alone := of_decide_eq_true (exD_at cm (i := 37) rfl),
    i_BadWorths_BadCosts := of_decide_eq_true (exD_at cm (i := 38) rfl),
    i_BadWorths_BadWeb := of_decide_eq_true (exD_at cm (i := 39) rfl),
    i_BadWorths_BadWorths := of_decide_eq_true (exD_at cm (i := 40) rfl),
    i_BadWorths_NoWay := of_decide_eq_true (exD_at cm (i := 41) rfl),
    i_BadWorths_TollError := of_decide_eq_true (exD_at cm (i := 42) rfl),
    i_NoWay_Alone := of_decide_eq_true (exD_at cm (i := 43) rfl),
    i_NoWay_BadCosts := of_decide_eq_true (exD_at cm (i := 44) rfl),
    i_NoWay_BadWeb := of_decide_eq_true (exD_at cm (i := 45) rfl),
    i_NoWay_BadWorths := of_decide_eq_true (exD_at cm (i := 46) rfl),
    i_NoWay_NoWay := of_decide_eq_true (exD_at cm (i := 47) rfl),
    i_NoWay_TollError := of_decide_eq_true (exD_at cm (i := 48) rfl),
    xf_Alone := xfB_ok (exD_at cm (i := 49) rfl) }
theorem dn_numbers_right (X : K.In h) (G : h.Ns mainGlobals mg) (c : He.SaysD faD fnD K) : Dn K mg "numbers_right" s_numbers_right ["numbers"] := dn_of X G c 0 0 rfl rfl fun _ _ _ _ _ _ us hl => match us, hl with | [_], _ => rfl
theorem dn_check_shelf (X : K.In h) (G : h.Ns mainGlobals mg) (c : He.SaysD faD fnD K) : Dn K mg "check_shelf" s_check_shelf ["worths"] := dn_of X G c 1 1 rfl rfl fun _ _ _ _ _ _ us hl => match us, hl with | [_], _ => rfl
theorem dn_dealt (X : K.In h) (G : h.Ns mainGlobals mg) (c : He.SaysD faD fnD K) : Dn K mg "dealt" s_dealt ["worths", "taken"] := dn_of X G c 2 2 rfl rfl fun _ _ _ _ _ _ us hl => match us, hl with | [_, _], _ => rfl
theorem dn_shelf_best (X : K.In h) (G : h.Ns mainGlobals mg) (c : He.SaysD faD fnD K) : Dn K mg "shelf_best" s_shelf_best ["worths"] := dn_of X G c 3 3 rfl rfl fun _ _ _ _ _ _ us hl => match us, hl with | [_], _ => rfl
theorem dn_check_costs (X : K.In h) (G : h.Ns mainGlobals mg) (c : He.SaysD faD fnD K) : Dn K mg "check_costs" s_check_costs ["web", "costs"] := dn_of X G c 4 4 rfl rfl fun _ _ _ _ _ _ us hl => match us, hl with | [_, _], _ => rfl
theorem dn_ways_from (X : K.In h) (G : h.Ns mainGlobals mg) (c : He.SaysD faD fnD K) : Dn K mg "ways_from" s_ways_from ["web", "here", "seen", "left"] := dn_of X G c 5 5 rfl rfl fun _ _ _ _ _ _ us hl => match us, hl with | [_, _, _, _], _ => rfl
theorem dn_best_way (X : K.In h) (G : h.Ns mainGlobals mg) (c : He.SaysD faD fnD K) : Dn K mg "best_way" s_best_way ["web", "costs", "left"] := dn_of X G c 6 6 rfl rfl fun _ _ _ _ _ _ us hl => match us, hl with | [_, _, _], _ => rfl
theorem dn_best_tree (X : K.In h) (G : h.Ns mainGlobals mg) (c : He.SaysD faD fnD K) : Dn K mg "best_tree" s_best_tree ["web", "costs", "left"] := dn_of X G c 7 7 rfl rfl fun _ _ _ _ _ _ us hl => match us, hl with | [_, _, _], _ => rfl
theorem dn_best_by (X : K.In h) (G : h.Ns mainGlobals mg) (c : He.SaysD faD fnD K) : Dn K mg "best_by" s_best_by ["web", "kind", "costs", "left"] := dn_of X G c 8 8 rfl rfl fun _ _ _ _ _ _ us hl => match us, hl with | [_, _, _, _], _ => rfl
theorem dn_road_best (X : K.In h) (G : h.Ns mainGlobals mg) (c : He.SaysD faD fnD K) : Dn K mg "road_best" s_road_best ["web", "kind", "costs"] := dn_of X G c 9 9 rfl rfl fun _ _ _ _ _ _ us hl => match us, hl with | [_, _, _], _ => rfl
theorem dn_road_gets (X : K.In h) (G : h.Ns mainGlobals mg) (c : He.SaysD faD fnD K) : Dn K mg "road_gets" s_road_gets ["web", "kind", "costs"] := dn_of X G c 10 10 rfl rfl fun _ _ _ _ _ _ us hl => match us, hl with | [_, _, _], _ => rfl
theorem dn_road_gain (X : K.In h) (G : h.Ns mainGlobals mg) (c : He.SaysD faD fnD K) : Dn K mg "road_gain" s_road_gain ["web", "kind", "costs", "road", "truth"] := dn_of X G c 11 11 rfl rfl fun _ _ _ _ _ _ us hl => match us, hl with | [_, _, _, _, _], _ => rfl
theorem dn_row_right (X : K.In h) (G : h.Ns mainGlobals mg) (c : He.SaysD faD fnD K) : Dn K mg "row_right" s_row_right ["row"] := dn_of X G c 12 12 rfl rfl fun _ _ _ _ _ _ us hl => match us, hl with | [_], _ => rfl
theorem dn_check_pile (X : K.In h) (G : h.Ns mainGlobals mg) (c : He.SaysD faD fnD K) : Dn K mg "check_pile" s_check_pile ["pieces", "worths"] := dn_of X G c 13 13 rfl rfl fun _ _ _ _ _ _ us hl => match us, hl with | [_, _], _ => rfl
theorem dn_shared (X : K.In h) (G : h.Ns mainGlobals mg) (c : He.SaysD faD fnD K) : Dn K mg "shared" s_shared ["pieces", "worths"] := dn_of X G c 14 14 rfl rfl fun _ _ _ _ _ _ us hl => match us, hl with | [_, _], _ => rfl
theorem dn_pile_best (X : K.In h) (G : h.Ns mainGlobals mg) (c : He.SaysD faD fnD K) : Dn K mg "pile_best" s_pile_best ["pieces", "worths"] := dn_of X G c 15 15 rfl rfl fun _ _ _ _ _ _ us hl => match us, hl with | [_, _], _ => rfl
theorem dn_pay_for (X : K.In h) (G : h.Ns mainGlobals mg) (c : He.SaysD faD fnD K) : Dn K mg "pay_for" s_pay_for ["pieces", "worths", "person"] := dn_of X G c 16 16 rfl rfl fun _ _ _ _ _ _ us hl => match us, hl with | [_, _, _], _ => rfl
theorem dn_pile_pays (X : K.In h) (G : h.Ns mainGlobals mg) (c : He.SaysD faD fnD K) : Dn K mg "pile_pays" s_pile_pays ["pieces", "worths"] := dn_of X G c 17 17 rfl rfl fun _ _ _ _ _ _ us hl => match us, hl with | [_, _], _ => rfl
theorem dn_law_cell_at (X : K.In h) (G : h.Ns mainGlobals mg) (c : He.SaysD faD fnD K) : Dn K mg "_law_cell_at" s_law_cell_at ["script", "k"] := dn_of X G c 18 18 rfl rfl fun _ _ _ _ _ _ us hl => match us, hl with | [_, _], _ => rfl
theorem dn_law_which (X : K.In h) (G : h.Ns mainGlobals mg) (c : He.SaysD faD fnD K) : Dn K mg "_law_which" s_law_which ["e"] := dn_of X G c 19 19 rfl rfl fun _ _ _ _ _ _ us hl => match us, hl with | [_], _ => rfl
theorem dn_law_met_k17 (X : K.In h) (G : h.Ns mainGlobals mg) (c : He.SaysD faD fnD K) : Dn K mg "_law_met" s_law_met_k17 ["way", "kind"] := dn_of X G c 20 20 rfl rfl fun _ _ _ _ _ _ us hl => match us, hl with | [_, _], _ => rfl
theorem dn_Web (X : K.In h) (G : h.Ns mainGlobals mg) (c : He.SaysD faD fnD K) : DnW K mg (He.ga K "Web") s_Web0 := dnW_of X G c 22 45 46 47 48 49 rfl rfl rfl rfl rfl rfl fun _ _ _ _ _ _ us hl => match us, hl with | [_, _, _], _ => rfl
theorem dn_Alone (X : K.In h) (G : h.Ns mainGlobals mg) (c : He.SaysD faD fnD K) (cm : exD K = true) : DnA K mg (He.ga K "Alone") s_Alone0 := dnA_of X G c 23 50 51 52 rfl rfl rfl rfl (exD_at cm (i := 50) rfl) (of_decide_eq_true (exD_at cm (i := 51) rfl)) fun _ _ _ _ _ _ us hl => match us, hl with | [_, _], _ => rfl
end
end Z
open PySem PySem.W PySem.Calls PyProof.Rows
theorem PySem.Challenge.cw_truthtoll_k17_refusals_apart_holds : PySem.Challenge.rw_truthtoll_k17_refusals_apart.Holds := by
  w_on; o_law
  refine HandSHeadRun.head_any (r := OpenLaw.row PySem.Challenge.rw_truthtoll_k17_refusals_apart) (q := view (OpenLaw.row PySem.Challenge.rw_truthtoll_k17_refusals_apart).prog [35]) (H := Z.hkD) (ob := Z.obD) (M := 4000) (loose := Z.nms) (d := HandSHeadRun.topDef (OpenLaw.row PySem.Challenge.rw_truthtoll_k17_refusals_apart).prog 35) (kwd := []) Z.obD_eq
    (by kernel_rfl) (fun s => by kernel_rfl) Z.runD (by kernel_rfl) (by kernel_rfl) (by kernel_rfl) (by rfl) (by first | assumption | decide +kernel) (by decide +kernel) ⟨rfl, rfl, rfl, rfl, rfl, by decide +kernel⟩ ?hw ?hc
  case hw => w_witness2
  case hc =>
    refine L2.walk_ofE (l := PySem.Challenge.rw_truthtoll_k17_refusals_apart) (n := 63) (k := 14) (x := "script") (CX := L2.CX0) rfl (by decide) (by kernel_rfl) ⟨rfl, by decide, by decide⟩ ?F (fun _ _ _ _ z => z)
    intro w mg fa h Y G hmg0
    obtain ⟨K, KX, cX⟩ := Y
    have c := cX.t.d
    have cm := cX.more
    have hmg : mg ("law" : PySem.Str) = some (.ref fa) := by
      have e : (HandSHeadRun.topDef (OpenLaw.row PySem.Challenge.rw_truthtoll_k17_refusals_apart).prog 35).name = ("law" : PySem.Str) := by kernel_rfl
      rw [← e]
      exact hmg0
    have hq := hmg.symm.trans (He.glo_ok KX G (c.fact 21 (f := .glo "law") rfl))
    cases hq
    obtain ⟨fd, F⟩ := c.def_ 21 (d := Z.dat "law" Z.s_law_k17) rfl
    have F2 : L2.Fun K "law" "law" Z.s_law_k17 (He.fAd K ("law", none)) fd := Z.funD_fun F
    have b := L2.FunD.bindsA (ps := ["script"]) F fun _ _ _ _ _ _ us hl => match us, hl with | [_], _ => rfl
    exact ⟨K, fd, Z.spM K (He.ga K "Web") 1 (Z.P_law_k17 (He.ga K "Alone") (He.ga K "BadCosts") (He.ga K "BadWeb") (He.ga K "BadWorths") (He.ga K "NoWay")), KX, fun s v => b s [v] rfl, fun H a ns hl _ hS => Z.spM_law hS (Z.main_k17 (He.ga K "Alone") (He.ga K "BadCosts") (He.ga K "BadWeb") (He.ga K "BadWorths") (He.ga K "NoWay") (of_decide_eq_true (Z.exD_at cm (i := 52) rfl)) (of_decide_eq_true (Z.exD_at cm (i := 53) rfl)) (of_decide_eq_true (Z.exD_at cm (i := 54) rfl)) (of_decide_eq_true (Z.exD_at cm (i := 55) rfl)) (of_decide_eq_true (Z.exD_at cm (i := 56) rfl)) (of_decide_eq_true (Z.exD_at cm (i := 57) rfl)) (of_decide_eq_true (Z.exD_at cm (i := 58) rfl)) (of_decide_eq_true (Z.exD_at cm (i := 59) rfl)) (of_decide_eq_true (Z.exD_at cm (i := 60) rfl)) (of_decide_eq_true (Z.exD_at cm (i := 61) rfl)) ns hl), fun base _ _ => Z.cal_law (Z.tx_of KX G c cm) (Z.dn_dealt KX G c) (Z.dn_numbers_right KX G c) (Z.dn_check_shelf KX G c) (Z.dn_shelf_best KX G c) (Z.dn_shared KX G c) (Z.dn_row_right KX G c) (Z.dn_check_pile KX G c) (Z.dn_pile_best KX G c) (Z.dn_pay_for KX G c) (Z.dn_pile_pays KX G c) (Z.dn_best_tree KX G c) (Z.dn_ways_from KX G c) (Z.dn_best_way KX G c) (Z.dn_best_by KX G c) (Z.dn_check_costs KX G c) (Z.dn_road_best KX G c) (Z.dn_Alone KX G c cm) (Z.dn_road_gets KX G c) (Z.dn_road_gain KX G c) (Z.dn_Web KX G c) (Z.dn_law_which KX G c) (Z.dn_law_met_k17 KX G c) (Z.dn_law_cell_at KX G c) F2⟩
