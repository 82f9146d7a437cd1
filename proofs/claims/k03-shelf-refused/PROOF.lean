import PyProof.Rows.All
import Wide.All
import OpenK.AllK
import Wide.FinOn
import HandS.ForMost
import HandS.Style
import HandS.IsInst
import HandS.Exc
import HandS.ExcOwn
import HandS.TryOnly
import HandS.WordsExc
import HandS.SortInts
import HandS.Head0
import HandS.Head1
import HandS.Head2
import HandS.HeadEnd
import HandS.HeadHook1
import HandS.HeadHook2
import HandS.HeadHook4
import HandS.Defaults
import KE.KExcIs
import HandS.TryMany
import PySem.Challenge.RW_truthtoll_k03_shelf_refused
set_option Elab.async false
set_option linter.all false
set_option maxRecDepth 100000
set_option maxHeartbeats 4000000
/-! Z, part A: plain data D, what it is to stand for data (Is), the state word SS, outcomes Rs, judgements of expressions. -/
namespace Z
open PySem L2
/-! ### data -/
inductive D where
  | non | bl (b : Bool) | int (i : Int) | str (x : Str)
  | lst (ds : List D) | tup (ds : List D)
  | web (n : Int) (ds : List D)
  | scr (ns : List Int)
def webF (n : Int) (r : Addr) : List (Str × V) := putF "roads" (.ref r) (putF "places" (.int n) [])
mutual
inductive Is (K : PySem.W.Frag) (C : Addr) (F : Hp) : V → D → Prop
  | non : Is K C F .non .non
  | bl (b : Bool) : Is K C F (.bl b) (.bl b)
  | int (i : Int) : Is K C F (.int i) (.int i)
  | str (x : Str) : Is K C F (.str x) (.str x)
  | lst {a : Addr} {vs : List V} {ds : List D} : F a = some (.lst vs) → IsA K C F vs ds → Is K C F (.ref a) (.lst ds)
  | tup {a : Addr} {vs : List V} {ds : List D} : F a = some (.tup vs) → IsA K C F vs ds → Is K C F (.ref a) (.tup ds)
  | web {a dx r : Addr} {vs : List V} {ds : List D} {n : Int} : F a = some (.ins C dx (webF n r)) → F dx = some (.own a) → F r = some (.lst vs) → IsA K C F vs ds → Is K C F (.ref a) (.web n ds)
  | scr {a : Addr} {ns : List Int} : SqL K F a (ns.map V.int) → Is K C F (.ref a) (.scr ns)
inductive IsA (K : PySem.W.Frag) (C : Addr) (F : Hp) : List V → List D → Prop
  | nil : IsA K C F [] []
  | cons {v : V} {vs : List V} {d : D} {ds : List D} : Is K C F v d → IsA K C F vs ds → IsA K C F (v :: vs) (d :: ds)
end
section
variable {K : PySem.W.Frag} {C : Addr} {F F' : Hp}
mutual
theorem Is.mono (e : Same F F') : ∀ (d : D) (v : V), Is K C F v d → Is K C F' v d
  | .non, _, h => by cases h; exact .non
  | .bl b, _, h => by cases h; exact .bl b
  | .int i, _, h => by cases h; exact .int i
  | .str x, _, h => by cases h; exact .str x
  | .lst ds, _, h => by
    cases h with
    | lst h1 h2 => exact .lst (e _ _ h1) (IsA.mono e ds _ h2)
  | .tup ds, _, h => by
    cases h with
    | tup h1 h2 => exact .tup (e _ _ h1) (IsA.mono e ds _ h2)
  | .web n ds, _, h => by
    cases h with
    | web h1 h2 h3 h4 => exact .web (e _ _ h1) (e _ _ h2) (e _ _ h3) (IsA.mono e ds _ h4)
  | .scr ns, _, h => by
    cases h with
    | scr h1 => exact .scr (e.seq h1)
theorem IsA.mono (e : Same F F') : ∀ (ds : List D) (vs : List V), IsA K C F vs ds → IsA K C F' vs ds
  | [], _, h => by cases h; exact .nil
  | d :: ds, _, h => by
    cases h with
    | cons h1 h2 => exact .cons (Is.mono e d _ h1) (IsA.mono e ds _ h2)
end
theorem IsA.len : ∀ {vs : List V} {ds : List D}, IsA K C F vs ds → vs.length = ds.length
  | _, _, .nil => rfl
  | _, _, .cons _ t => congrArg Nat.succ (IsA.len t)
theorem IsA.get : ∀ {vs : List V} {ds : List D} {i : Nat} {d : D}, IsA K C F vs ds → ds[i]? = some d → ∃ v, vs[i]? = some v ∧ Is K C F v d
  | _, _, _, _, .nil, e => by simp at e
  | _, _, 0, d, .cons h _, e => by
    have e' := Option.some.inj e
    subst e'
    exact ⟨_, rfl, h⟩
  | _, _, i + 1, d, .cons _ t, e => by
    obtain ⟨v, h1, h2⟩ := IsA.get (i := i) (d := d) t (by simpa using e)
    exact ⟨v, by simpa using h1, h2⟩
theorem IsA.at : ∀ {vs : List V} {ds : List D} {i : Nat} {v : V}, IsA K C F vs ds → vs[i]? = some v → ∃ d, ds[i]? = some d ∧ Is K C F v d
  | _, _, _, _, .nil, e => by simp at e
  | _, _, 0, v, .cons h _, e => by
    have e' := Option.some.inj e
    subst e'
    exact ⟨_, rfl, h⟩
  | _, _, i + 1, v, .cons _ t, e => by
    obtain ⟨d, h1, h2⟩ := IsA.at (i := i) (v := v) t (by simpa using e)
    exact ⟨d, by simpa using h1, h2⟩
theorem IsA.append : ∀ {vs ws : List V} {ds es : List D}, IsA K C F vs ds → IsA K C F ws es → IsA K C F (vs ++ ws) (ds ++ es)
  | _, _, _, _, .nil, s => s
  | _, _, _, _, .cons r t, s => .cons r (IsA.append t s)
theorem IsA.take : ∀ {vs : List V} {ds : List D} (n : Nat), IsA K C F vs ds → IsA K C F (vs.take n) (ds.take n)
  | _, _, 0, _ => .nil
  | _, _, _ + 1, .nil => .nil
  | _, _, n + 1, .cons r t => .cons r (IsA.take n t)
theorem IsA.drop : ∀ {vs : List V} {ds : List D} (n : Nat), IsA K C F vs ds → IsA K C F (vs.drop n) (ds.drop n)
  | _, _, 0, r => r
  | _, _, _ + 1, .nil => .nil
  | _, _, n + 1, .cons _ t => IsA.drop n t
theorem IsA.reverse : ∀ {vs : List V} {ds : List D}, IsA K C F vs ds → IsA K C F vs.reverse ds.reverse
  | _, _, .nil => .nil
  | _, _, .cons r t => by
    rw [List.reverse_cons, List.reverse_cons]
    exact (IsA.reverse t).append (.cons r .nil)
theorem IsA.set {v : V} {d : D} (r : Is K C F v d) : ∀ {vs : List V} {ds : List D} (n : Nat), IsA K C F vs ds → IsA K C F (vs.set n v) (ds.set n d)
  | _, _, _, .nil => .nil
  | _, _, 0, .cons _ t => .cons r t
  | _, _, n + 1, .cons q t => .cons q (IsA.set r n t)
theorem IsA.ints : ∀ {ns : List Int} {vs : List V}, IsA K C F vs (ns.map D.int) → vs = ns.map V.int
  | [], _, h => by cases h; rfl
  | n :: ns, _, h => by
    cases h with
    | cons h1 h2 =>
      cases h1
      rw [IsA.ints h2]
      rfl
theorem IsA.bls : ∀ {ns : List Bool} {vs : List V}, IsA K C F vs (ns.map D.bl) → vs = ns.map V.bl
  | [], _, h => by cases h; rfl
  | n :: ns, _, h => by
    cases h with
    | cons h1 h2 =>
      cases h1
      rw [IsA.bls h2]
      rfl
theorem IsA.rep {vs : List V} {ds : List D} (h : IsA K C F vs ds) : ∀ n : Nat, IsA K C F (List.replicate n vs).flatten (List.replicate n ds).flatten
  | 0 => .nil
  | n + 1 => by
    rw [List.replicate_succ, List.replicate_succ, List.flatten_cons, List.flatten_cons]
    exact h.append (IsA.rep h n)
end
/-! ### outcomes -/
inductive Rs (α : Type) where
  | ok (a : α)
  | ex (c : Addr) (r : Option Int)
  | no
def Rs.bind {α β : Type} (o : Rs α) (f : α → Rs β) : Rs β := match o with
  | .ok a => f a
  | .ex c r => .ex c r
  | .no => .no
def Rs.of {α : Type} : Option α → Rs α
  | some a => .ok a
  | none => .no
@[simp] theorem Rs.bind_ok {α β : Type} (a : α) (f : α → Rs β) : (Rs.ok a).bind f = f a := rfl
@[simp] theorem Rs.bind_ex {α β : Type} (c : Addr) (r : Option Int) (f : α → Rs β) : (Rs.ex c r).bind f = .ex c r := rfl
@[simp] theorem Rs.bind_no {α β : Type} (f : α → Rs β) : (Rs.no).bind f = .no := rfl
@[simp] theorem Rs.of_some {α : Type} (a : α) : Rs.of (some a) = .ok a := rfl
@[simp] theorem Rs.of_none {α : Type} : Rs.of (none : Option α) = .no := rfl
/-! ### the state: F is the frozen part of the heap H; P the cells that may still change; T what is held besides the names -/
structure Bs where
  K : PySem.W.Frag
  C : Addr
  F : Hp
  H : Hp
abbrev G := List (Option D)
structure Fz (B : Bs) (g : G) (P : List (Addr × List V)) (T : List (V × D)) (σ : L2.St) (H F : Hp) : Prop where
  eF : Same B.F F
  eH : Same F H
  e0 : Same B.H H
  nw : ∀ p, B.H p ≠ none → B.F p = none → F p = none
  sl : ∀ (i : Nat) (d : D), g[i]? = some (some d) → ∃ v, σ[i]? = some (some v) ∧ Is B.K B.C F v d
  ln : σ.length = g.length
  ts : ∀ x ∈ T, Is B.K B.C F x.1 x.2
  pr : ∀ x ∈ P, F x.1 = none ∧ B.H x.1 = none ∧ H x.1 = some (.lst x.2)
def SS (B : Bs) (g : G) (P : List (Addr × List V)) (T : List (V × D)) (σ : L2.St) (H : Hp) : Prop := ∃ F, Fz B g P T σ H F
section
variable {B : Bs} {g g' : G} {P P' : List (Addr × List V)} {T T' : List (V × D)} {σ σ' : L2.St} {H H2 F F2 : Hp} {v : V} {d : D}
theorem Fz.grow (h : Fz B g P T σ H F) (a : Same F F2) (b : Same F2 H2) (c : Same H H2) (n : ∀ p, H p ≠ none → F p = none → F2 p = none) : Fz B g P T σ H2 F2 where
  eF := h.eF.trans a
  eH := b
  e0 := h.e0.trans c
  nw := fun p hp hf => by
    refine n p (fun z => ?_) (h.nw p hp hf)
    cases q : B.H p with
    | none => exact hp q
    | some o =>
      rw [h.e0 p o q] at z
      cases z
  sl := fun i d e => by
    obtain ⟨v, h1, h2⟩ := h.sl i d e
    exact ⟨v, h1, Is.mono a d v h2⟩
  ln := h.ln
  ts := fun x hx => Is.mono a _ _ (h.ts x hx)
  pr := fun x hx => by
    obtain ⟨h1, h2, h3⟩ := h.pr x hx
    exact ⟨n x.1 (by rw [h3]; exact fun z => nomatch z) h1, h2, c _ _ h3⟩
theorem Fz.addT (h : Fz B g P T σ H F) (i : Is B.K B.C F v d) : Fz B g P ((v, d) :: T) σ H F := by
  have z : ∀ x ∈ (v, d) :: T, Is B.K B.C F x.1 x.2 := fun x hx => by
    rcases List.mem_cons.mp hx with e | e
    · rw [e]
      exact i
    · exact h.ts x e
  exact { h with ts := z }
theorem Fz.sub (h : Fz B g P T σ H F) (t : ∀ x ∈ T', x ∈ T) : Fz B g P T' σ H F := { h with ts := fun x hx => h.ts x (t x hx) }
theorem Fz.subP (h : Fz B g P T σ H F) (t : ∀ x ∈ P', x ∈ P) : Fz B g P' T σ H F := { h with pr := fun x hx => h.pr x (t x hx) }
theorem SS.sub (h : SS B g P T σ H) (t : ∀ x ∈ T', x ∈ T) : SS B g P T' σ H := let ⟨F, f⟩ := h; ⟨F, f.sub t⟩
theorem SS.subP (h : SS B g P T σ H) (t : ∀ x ∈ P', x ∈ P) : SS B g P' T σ H := let ⟨F, f⟩ := h; ⟨F, f.subP t⟩
theorem SS.tail {x : V × D} (h : SS B g P (x :: T) σ H) : SS B g P T σ H := h.sub fun _ m => List.mem_cons_of_mem _ m
theorem Fz.free (h : Fz B g P T σ H F) {p : Addr} (n : H p = none) : F p = none := h.eH.free n
/-- a new thing at p -/
theorem Fz.new (h : Fz B g P T σ H F) {p : Addr} (n : H p = none) (o : HO) : Fz B g P T σ (upd H p o) (upd F p o) := by
  have nf := h.free n
  refine h.grow (fun b u e => ?_) (fun b u e => ?_) (fun b u e => ?_) (fun q hq hf => ?_)
  · rw [upd_ne (ne_of_none e nf)]; exact e
  · by_cases z : b = p
    · subst z
      rw [upd_same] at e ⊢
      exact e
    · rw [upd_ne z] at e ⊢
      exact h.eH b u e
  · rw [upd_ne (ne_of_none e n)]; exact e
  · have z : q ≠ p := fun z => hq (by rw [z]; exact n)
    rw [upd_ne z]
    exact hf
/-- the heap gets a thing that nobody holds yet -/
theorem Fz.mut (h : Fz B g P T σ H F) {p : Addr} (n : H p = none) (o : HO) : Fz B g P T σ (upd H p o) F := by
  refine h.grow (Same.refl F) (fun b u e => ?_) (fun b u e => ?_) (fun q _ hf => hf)
  · have z := h.eH b u e
    rw [upd_ne (ne_of_none z n)]
    exact z
  · rw [upd_ne (ne_of_none e n)]; exact e
abbrev Al (T : List (V × D)) : List V → List D → Prop := Paired fun v d => (v, d) ∈ T
theorem Fz.all (h : Fz B g P T σ H F) : ∀ {vs : List V} {ds : List D}, Al T vs ds → IsA B.K B.C F vs ds
  | _, _, .nil => .nil
  | _, _, .cons r t => .cons (h.ts _ r) (Fz.all h t)
theorem Al.mono (t : ∀ x ∈ T, x ∈ T') : ∀ {vs : List V} {ds : List D}, Al T vs ds → Al T' vs ds
  | _, _, .nil => .nil
  | _, _, .cons r q => .cons (t _ r) (Al.mono t q)
theorem Al.len : ∀ {vs : List V} {ds : List D}, Al T vs ds → vs.length = ds.length
  | _, _, .nil => rfl
  | _, _, .cons _ q => congrArg Nat.succ (Al.len q)
theorem SS.newT (h : SS B g P T σ H) {p : Addr} {vs : List V} {ds : List D} (n : H p = none) (a : Al T vs ds) : SS B g P ((.ref p, .tup ds) :: T) σ (upd H p (.tup vs)) := by
  obtain ⟨F, f⟩ := h
  have f2 := f.new n (.tup vs)
  exact ⟨_, f2.addT (.tup upd_same (f2.all a))⟩
theorem SS.newL (h : SS B g P T σ H) {p : Addr} {vs : List V} {ds : List D} (n : H p = none) (a : Al T vs ds) : SS B g P ((.ref p, .lst ds) :: T) σ (upd H p (.lst vs)) := by
  obtain ⟨F, f⟩ := h
  have f2 := f.new n (.lst vs)
  exact ⟨_, f2.addT (.lst upd_same (f2.all a))⟩
/-- a thing held holds its things -/
theorem SS.addT (h : SS B g P T σ H) (i : ∀ F, Fz B g P T σ H F → Is B.K B.C F v d) : SS B g P ((v, d) :: T) σ H := let ⟨F, f⟩ := h; ⟨F, f.addT (i F f)⟩
end
/-! ### wishes -/
def XOk (H0 : Hp) (E : XK) (c : Addr) : Option Int → Prop
  | none => ∀ H', Same H0 H' → E (.ref c) none H'
  | some r => ∀ d H', Same H0 H' → H0 d = none → H' d = some (.xd [(("road" : Str), .int r)]) → E (.ref c) (some d) H'
def Wish {α : Type} (H0 : Hp) (E : XK) : Rs α → (α → Prop) → Prop
  | .ok a, Q => Q a
  | .ex c r, _ => XOk H0 E c r
  | .no, _ => False
section
variable {α β : Type} {H0 : Hp} {E : XK}
theorem Wish.mono {o : Rs α} {Q Q' : α → Prop} (h : Wish H0 E o Q) (q : ∀ a, Q a → Q' a) : Wish H0 E o Q' := by
  cases o with
  | ok a => exact q a h
  | ex c r => exact h
  | no => exact h
theorem Wish.bind {o : Rs α} {f : α → Rs β} {Q : β → Prop} (h : Wish H0 E (o.bind f) Q) : Wish H0 E o fun a => Wish H0 E (f a) Q := by
  cases o with
  | ok a => exact h
  | ex c r => exact h
  | no => exact h
theorem Wish.of {o : Option α} {Q : α → Prop} (h : Wish H0 E (Rs.of o) Q) : ∃ a, o = some a ∧ Q a := by
  cases o with
  | some a => exact ⟨a, rfl, h⟩
  | none => exact h.elim
end
/-! ### judgements of readings -/
structure EM (K : PySem.W.Frag) (C : Addr) (E : XK) (te : TE) (m : G → Rs D) : Prop where
  run : ∀ F0 H0 g P T σ H Q, SS ⟨K, C, F0, H0⟩ g P T σ H → Wish H0 E (m g) (fun d => ∀ v H', SS ⟨K, C, F0, H0⟩ g P ((v, d) :: T) σ H' → Q v H') → te σ H Q
structure TM (K : PySem.W.Frag) (C : Addr) (E : XK) (tt : TT) (m : G → Rs Bool) : Prop where
  run : ∀ F0 H0 g P T σ H Q, SS ⟨K, C, F0, H0⟩ g P T σ H → Wish H0 E (m g) (fun b => ∀ H', SS ⟨K, C, F0, H0⟩ g P T σ H' → Q b H') → tt σ H Q
structure AM (K : PySem.W.Frag) (C : Addr) (E : XK) (ta : TA) (m : G → Rs (List D)) : Prop where
  run : ∀ F0 H0 g P T σ H Q, SS ⟨K, C, F0, H0⟩ g P T σ H → Wish H0 E (m g) (fun ds => ∀ vs T' H', (∀ x ∈ T, x ∈ T') → Al T' vs ds → SS ⟨K, C, F0, H0⟩ g P T' σ H' → Q vs H') → ta σ H Q
/-- a new list, not frozen yet -/
structure LM (K : PySem.W.Frag) (C : Addr) (E : XK) (te : TE) (m : G → Rs (List D)) : Prop where
  run : ∀ F0 H0 g P T σ H Q, SS ⟨K, C, F0, H0⟩ g P T σ H → Wish H0 E (m g) (fun ds => ∀ p vs T' H', (∀ x ∈ T, x ∈ T') → Al T' vs ds → (∀ x ∈ P, x.1 ≠ p) → SS ⟨K, C, F0, H0⟩ g ((p, vs) :: P) T' σ H' → Q (.ref p) H') → te σ H Q
structure PEM (X : Cx) (K : PySem.W.Frag) (C : Addr) (E : XK) (e : Expr) (te : TE) (m : G → Rs D) : Prop where
  p : PE X e te
  q : EM K C E te m
structure PTM (X : Cx) (K : PySem.W.Frag) (C : Addr) (E : XK) (e : Expr) (tt : TT) (m : G → Rs Bool) : Prop where
  p : PT X e tt
  q : TM K C E tt m
structure PWM (X : Cx) (K : PySem.W.Frag) (C : Addr) (E : XK) (e : Expr) (tt : TT) (m : G → Rs Bool) : Prop where
  p : PW X e tt
  q : TM K C E tt m
structure PAM (X : Cx) (K : PySem.W.Frag) (C : Addr) (E : XK) (es : List Expr) (ta : TA) (m : G → Rs (List D)) : Prop where
  p : PA X es ta
  q : AM K C E ta m
structure PLM (X : Cx) (K : PySem.W.Frag) (C : Addr) (E : XK) (e : Expr) (te : TE) (m : G → Rs (List D)) : Prop where
  p : PE X e te
  q : LM K C E te m
/-! ### mirrors of expressions -/
def mV (i : Nat) : G → Rs D := fun g => match g[i]? with
  | some (some d) => .ok d
  | _ => .no
def mC (d : D) : G → Rs D := fun _ => .ok d
def m1 (f : D → Option D) (a : G → Rs D) : G → Rs D := fun g => (a g).bind fun x => .of (f x)
def m2 (f : D → D → Option D) (a b : G → Rs D) : G → Rs D := fun g => (a g).bind fun x => (b g).bind fun y => .of (f x y)
def mNil : G → Rs (List D) := fun _ => .ok []
def mCons (a : G → Rs D) (r : G → Rs (List D)) : G → Rs (List D) := fun g => (a g).bind fun x => (r g).bind fun xs => .ok (x :: xs)
def mA (f : List D → Option D) (a : G → Rs (List D)) : G → Rs D := fun g => (a g).bind fun xs => .of (f xs)
def mCall (f : List D → Rs D) (a : G → Rs (List D)) : G → Rs D := fun g => (a g).bind f
def mTup (a : G → Rs (List D)) : G → Rs D := fun g => (a g).bind fun xs => .ok (.tup xs)
def mLst (a : G → Rs (List D)) : G → Rs D := fun g => (a g).bind fun xs => .ok (.lst xs)
def mT (a : G → Rs D) : G → Rs Bool := fun g => (a g).bind fun x => match x with
  | .bl b => .ok b
  | _ => .no
def mAnd (a b : G → Rs Bool) : G → Rs Bool := fun g => (a g).bind fun x => if x = true then b g else .ok false
def mOr (a b : G → Rs Bool) : G → Rs Bool := fun g => (a g).bind fun x => if x = true then .ok true else b g
def mNot (a : G → Rs Bool) : G → Rs Bool := fun g => (a g).bind fun x => .ok (!x)
def mB (a : G → Rs Bool) : G → Rs D := fun g => (a g).bind fun b => .ok (.bl b)
def mIf (c : G → Rs Bool) (a b : G → Rs D) : G → Rs D := fun g => (c g).bind fun x => if x = true then a g else b g
section
variable {K : PySem.W.Frag} {C : Addr} {E : XK} {te ta tb : TE} {m ma mb : G → Rs D}
theorem em_v (i : Nat) : EM K C E (tVar i) (mV i) := ⟨fun F0 H0 g P T σ H Q S h => by
  unfold mV at h
  split at h
  · rename_i d e
    obtain ⟨F, f⟩ := S
    obtain ⟨v, h1, h2⟩ := f.sl i d e
    exact ⟨v, h1, h v H ⟨F, f.addT h2⟩⟩
  · exact h.elim⟩
theorem em_c {v : V} {d : D} (hi : ∀ F, Is K C F v d) : EM K C E (tC v) (mC d) := ⟨fun F0 H0 g P T σ H Q S h => h v H (S.addT fun F _ => hi F)⟩
def R1M (K : PySem.W.Frag) (C : Addr) (r : V → Hp → VK → Prop) (f : D → Option D) : Prop := ∀ F0 H0 g P T σ H (Q : VK) x dx d, SS ⟨K, C, F0, H0⟩ g P T σ H → (x, dx) ∈ T → f dx = some d → (∀ v H', SS ⟨K, C, F0, H0⟩ g P ((v, d) :: T) σ H' → Q v H') → r x H Q
def R2M (K : PySem.W.Frag) (C : Addr) (r : R2) (f : D → D → Option D) : Prop := ∀ F0 H0 g P T σ H (Q : VK) x y dx dy d, SS ⟨K, C, F0, H0⟩ g P T σ H → (x, dx) ∈ T → (y, dy) ∈ T → f dx dy = some d → (∀ v H', SS ⟨K, C, F0, H0⟩ g P ((v, d) :: T) σ H' → Q v H') → r x y H Q
def RAM (K : PySem.W.Frag) (C : Addr) (r : List V → Hp → VK → Prop) (f : List D → Option D) : Prop := ∀ F0 H0 g P T σ H (Q : VK) xs ds d, SS ⟨K, C, F0, H0⟩ g P T σ H → Al T xs ds → f ds = some d → (∀ v H', SS ⟨K, C, F0, H0⟩ g P ((v, d) :: T) σ H' → Q v H') → r xs H Q
theorem em_1 {r : V → Hp → VK → Prop} {f : D → Option D} (hr : R1M K C r f) (a : EM K C E ta ma) : EM K C E (tUn r ta) (m1 f ma) := ⟨fun F0 H0 g P T σ H Q S h =>
  a.run F0 H0 g P T σ H _ S (h.bind.mono fun x hx v H' S1 => by
    obtain ⟨d, e, q⟩ := hx.of
    exact hr F0 H0 g P _ σ H' Q v x d S1 List.mem_cons_self e fun v2 H2 S2 => q v2 H2 (S2.sub fun z hz => by
      rcases List.mem_cons.mp hz with e | e
      · exact List.mem_cons.mpr (.inl e)
      · exact List.mem_cons_of_mem _ (List.mem_cons_of_mem _ e)))⟩
theorem em_2 {r : R2} {f : D → D → Option D} (hr : R2M K C r f) (a : EM K C E ta ma) (b : EM K C E tb mb) : EM K C E (tOp r ta tb) (m2 f ma mb) := ⟨fun F0 H0 g P T σ H Q S h =>
  a.run F0 H0 g P T σ H _ S (h.bind.mono fun x hx v H' S1 => b.run F0 H0 g P _ σ H' _ S1 (hx.bind.mono fun y hy v' H'' S2 => by
    obtain ⟨d, e, q⟩ := hy.of
    exact hr F0 H0 g P _ σ H'' Q v v' x y d S2 (List.mem_cons_of_mem _ List.mem_cons_self) List.mem_cons_self e fun v2 H2 S3 => q v2 H2 (S3.sub fun z hz => by
      rcases List.mem_cons.mp hz with e | e
      · exact List.mem_cons.mpr (.inl e)
      · exact List.mem_cons_of_mem _ (List.mem_cons_of_mem _ (List.mem_cons_of_mem _ e)))))⟩
theorem am_nil : AM K C E tNil mNil := ⟨fun F0 H0 g P T σ H Q S h => h [] T H (fun _ z => z) .nil S⟩
theorem am_cons {tr : TA} {mr : G → Rs (List D)} (a : EM K C E ta ma) (r : AM K C E tr mr) : AM K C E (tCons ta tr) (mCons ma mr) := ⟨fun F0 H0 g P T σ H Q S h =>
  a.run F0 H0 g P T σ H _ S (h.bind.mono fun x hx v H' S1 => r.run F0 H0 g P _ σ H' _ S1 (hx.bind.mono fun xs hxs vs T' H'' ht al S2 =>
    hxs (v :: vs) T' H'' (fun z hz => ht z (List.mem_cons_of_mem _ hz)) (.cons (ht _ List.mem_cons_self) al) S2))⟩
theorem em_cb {r : List V → Hp → VK → Prop} {f : List D → Option D} {t : TA} {ms : G → Rs (List D)} (hr : RAM K C r f) (a : AM K C E t ms) : EM K C E (tCB r t) (mA f ms) := ⟨fun F0 H0 g P T σ H Q S h =>
  a.run F0 H0 g P T σ H _ S (h.bind.mono fun xs hx vs T' H' ht al S1 => by
    obtain ⟨d, e, q⟩ := hx.of
    exact hr F0 H0 g P _ σ H' Q vs xs d S1 al e fun v2 H2 S2 => q v2 H2 (S2.sub fun z hz => by
      rcases List.mem_cons.mp hz with e | e
      · exact List.mem_cons.mpr (.inl e)
      · exact List.mem_cons_of_mem _ (ht z e)))⟩
theorem em_tup {t : TA} {ms : G → Rs (List D)} (a : AM K C E t ms) (hl : ∀ g ds, ms g = .ok ds → ds.length ≤ 1000) : EM K C E (tTup t) (mTup ms) := ⟨fun F0 H0 g P T σ H Q S h =>
  a.run F0 H0 g P T σ H _ S (by
    unfold mTup at h
    cases e : ms g with
    | ok ds =>
      rw [e] at h
      show ∀ vs T' H', _ → _ → _ → _
      intro vs T' H' ht al S1
      refine ⟨by rw [al.len]; exact Nat.le_of_lt (small1000 (hl g ds e)), fun p hp => ?_⟩
      exact h _ _ ((S1.newT hp al).sub fun z hz => by
        rcases List.mem_cons.mp hz with e | e
        · exact List.mem_cons.mpr (.inl e)
        · exact List.mem_cons_of_mem _ (ht z e))
    | ex c r =>
      rw [e] at h
      exact h
    | no =>
      rw [e] at h
      exact h)⟩
/-- a new list that one holds -/
theorem em_l {ms : G → Rs (List D)} (a : LM K C E te ms) : EM K C E te (mLst ms) := ⟨fun F0 H0 g P T σ H Q S h =>
  a.run F0 H0 g P T σ H _ S (h.bind.mono fun ds hd p vs T' H' ht al hp S1 => by
    obtain ⟨F, f⟩ := S1
    obtain ⟨p1, p2, p3⟩ := f.pr (p, vs) List.mem_cons_self
    have f' : Fz ⟨K, C, F0, H0⟩ g P T' σ H' F := f.subP fun z hz => List.mem_cons_of_mem _ hz
    have f2 : Fz ⟨K, C, F0, H0⟩ g P T' σ H' (upd F p (.lst vs)) :=
      { eF := fun b u e => by
          have z := f'.eF b u e
          rw [upd_ne (ne_of_none z p1)]
          exact z
        eH := fun b u e => by
          by_cases z : b = p
          · subst z
            rw [upd_same] at e
            rw [← e]
            exact p3
          · rw [upd_ne z] at e
            exact f'.eH b u e
        e0 := f'.e0
        nw := fun q hq hf => by
          have z : q ≠ p := fun z => hq (by rw [z]; exact p2)
          rw [upd_ne z]
          exact f'.nw q hq hf
        sl := fun i d e => by
          obtain ⟨v, h1, h2⟩ := f'.sl i d e
          exact ⟨v, h1, Is.mono (fun b u e => by rw [upd_ne (ne_of_none e p1)]; exact e) d v h2⟩
        ln := f'.ln
        ts := fun x hx => Is.mono (fun b u e => by rw [upd_ne (ne_of_none e p1)]; exact e) _ _ (f'.ts x hx)
        pr := fun x hx => by
          obtain ⟨q1, q2, q3⟩ := f'.pr x hx
          exact ⟨by rw [upd_ne (hp x hx)]; exact q1, q2, q3⟩ }
    exact hd _ _ ⟨_, (f2.addT (.lst upd_same (f2.all al))).sub fun z hz => by
      rcases List.mem_cons.mp hz with e | e
      · exact List.mem_cons.mpr (.inl e)
      · exact List.mem_cons_of_mem _ (ht z e)⟩)⟩
theorem lm_new {P : List (Addr × List V)} {g : G} {T : List (V × D)} {σ : L2.St} {H : Hp} {B : Bs} {p : Addr} (S : SS B g P T σ H) (n : H p = none) (vs : List V) : (∀ x ∈ P, x.1 ≠ p) ∧ SS B g ((p, vs) :: P) T σ (upd H p (.lst vs)) := by
  obtain ⟨F, f⟩ := S
  refine ⟨fun x hx z => ?_, F, ?_⟩
  · obtain ⟨_, _, q3⟩ := f.pr x hx
    rw [z, n] at q3
    cases q3
  · have f2 := f.mut n (.lst vs)
    have z : ∀ x ∈ (p, vs) :: P, F x.1 = none ∧ B.H x.1 = none ∧ (upd H p (.lst vs)) x.1 = some (.lst x.2) := fun x hx => by
      rcases List.mem_cons.mp hx with e | e
      · subst e
        exact ⟨f.free n, f.e0.free n, upd_same⟩
      · exact f2.pr x e
    exact { f2 with pr := z }
theorem lm_lst {t : TA} {ms : G → Rs (List D)} (a : AM K C E t ms) (hl : ∀ g ds, ms g = .ok ds → ds.length ≤ 1000) : LM K C E (tLst t) ms := ⟨fun F0 H0 g P T σ H Q S h =>
  a.run F0 H0 g P T σ H _ S (by
    cases e : ms g with
    | ok ds =>
      rw [e] at h
      show ∀ vs T' H', _ → _ → _ → _
      intro vs T' H' ht al S1
      refine ⟨by rw [al.len]; exact Nat.le_of_lt (small1000 (hl g ds e)), fun p hp => ?_⟩
      obtain ⟨h1, h2⟩ := lm_new S1 hp vs
      exact h p vs T' _ ht al h1 h2
    | ex c r =>
      rw [e] at h
      exact h
    | no =>
      rw [e] at h
      exact h)⟩
theorem tm_t (a : EM K C E ta ma) : TM K C E (tTest ta) (mT ma) := ⟨fun F0 H0 g P T σ H Q S h =>
  a.run F0 H0 g P T σ H _ S (h.bind.mono fun d hd v H' S1 => by
    cases d with
    | bl b =>
      have hv : v = .bl b := by
        obtain ⟨F, f⟩ := S1
        have i := f.ts (v, .bl b) List.mem_cons_self
        cases i
        rfl
      exact ⟨b, hv, hd H' S1.tail⟩
    | non => exact hd.elim
    | int i => exact hd.elim
    | str x => exact hd.elim
    | lst x => exact hd.elim
    | tup x => exact hd.elim
    | web n x => exact hd.elim
    | scr x => exact hd.elim)⟩
theorem tm_or {t u : TT} {a b : G → Rs Bool} (h1 : TM K C E t a) (h2 : TM K C E u b) : TM K C E (tOr t u) (mOr a b) := ⟨fun F0 H0 g P T σ H Q S h =>
  h1.run F0 H0 g P T σ H _ S (h.bind.mono fun c hc H' S1 => by
    cases c with
    | true => exact hc H' S1
    | false => exact h2.run F0 H0 g P T σ H' _ S1 hc)⟩
theorem tm_not {t : TT} {a : G → Rs Bool} (h1 : TM K C E t a) : TM K C E (tNot t) (mNot a) := ⟨fun F0 H0 g P T σ H Q S h =>
  h1.run F0 H0 g P T σ H _ S (h.bind.mono fun c hc H' S1 => hc H' S1)⟩
theorem em_if {t : TT} {c : G → Rs Bool} (h1 : TM K C E t c) (a : EM K C E ta ma) (b : EM K C E tb mb) : EM K C E (tIf t ta tb) (mIf c ma mb) := ⟨fun F0 H0 g P T σ H Q S h =>
  h1.run F0 H0 g P T σ H _ S (h.bind.mono fun c hc H' S1 => by
    cases c with
    | true => exact a.run F0 H0 g P T σ H' _ S1 hc
    | false => exact b.run F0 H0 g P T σ H' _ S1 hc)⟩
end
end Z
set_option Elab.async false
set_option linter.all false
set_option maxRecDepth 100000
set_option maxHeartbeats 4000000
/-! Z, part B: the operations upon data, each with its rule of the hand layer. -/
namespace Z
open PySem L2
def LIM : Nat := 1000000
theorem lim_ok {n : Nat} (h : n ≤ LIM) : n ≤ sizeLine := Nat.le_trans h (by decide)
theorem lim_lt {n : Nat} (h : n ≤ LIM) : n < sizeLine := Nat.lt_of_le_of_lt h (by decide)
/-! ### reading data -/
def asInts : List D → Option (List Int)
  | [] => some []
  | .int i :: r => (asInts r).map (i :: ·)
  | _ :: _ => none
def asBls : List D → Option (List Bool)
  | [] => some []
  | .bl i :: r => (asBls r).map (i :: ·)
  | _ :: _ => none
@[simp] theorem asInts_map : ∀ ns : List Int, asInts (ns.map D.int) = some ns
  | [] => rfl
  | n :: r => by
    show (asInts (r.map D.int)).map (n :: ·) = some (n :: r)
    rw [asInts_map r]
    rfl
@[simp] theorem asBls_map : ∀ ns : List Bool, asBls (ns.map D.bl) = some ns
  | [] => rfl
  | n :: r => by
    show (asBls (r.map D.bl)).map (n :: ·) = some (n :: r)
    rw [asBls_map r]
    rfl
theorem asInts_some : ∀ {ds : List D} {ns : List Int}, asInts ds = some ns → ds = ns.map D.int
  | [], ns, h => by cases h; rfl
  | .int i :: r, ns, h => by
    unfold asInts at h
    cases e : asInts r with
    | none => rw [e] at h; cases h
    | some ms =>
      rw [e] at h
      cases h
      rw [asInts_some e]
      rfl
  | .non :: _, _, h => by cases h
  | .bl _ :: _, _, h => by cases h
  | .str _ :: _, _, h => by cases h
  | .lst _ :: _, _, h => by cases h
  | .tup _ :: _, _, h => by cases h
  | .web _ _ :: _, _, h => by cases h
  | .scr _ :: _, _, h => by cases h
theorem asBls_some : ∀ {ds : List D} {ns : List Bool}, asBls ds = some ns → ds = ns.map D.bl
  | [], ns, h => by cases h; rfl
  | .bl i :: r, ns, h => by
    unfold asBls at h
    cases e : asBls r with
    | none => rw [e] at h; cases h
    | some ms =>
      rw [e] at h
      cases h
      rw [asBls_some e]
      rfl
  | .non :: _, _, h => by cases h
  | .int _ :: _, _, h => by cases h
  | .str _ :: _, _, h => by cases h
  | .lst _ :: _, _, h => by cases h
  | .tup _ :: _, _, h => by cases h
  | .web _ _ :: _, _, h => by cases h
  | .scr _ :: _, _, h => by cases h
section
variable {K : PySem.W.Frag} {C : Addr} {B : Bs} {g : G} {P : List (Addr × List V)} {T : List (V × D)} {σ : L2.St} {H F : Hp}
theorem Fz.newL (f : Fz B g P T σ H F) {p : Addr} {vs : List V} {ds : List D} (n : H p = none) (a : IsA B.K B.C F vs ds) : SS B g P ((.ref p, .lst ds) :: T) σ (upd H p (.lst vs)) := by
  have f2 := f.new n (.lst vs)
  refine ⟨_, f2.addT (.lst upd_same (IsA.mono (fun b u e => ?_) ds vs a))⟩
  rw [upd_ne (ne_of_none e (f.free n))]
  exact e
theorem Fz.newT (f : Fz B g P T σ H F) {p : Addr} {vs : List V} {ds : List D} (n : H p = none) (a : IsA B.K B.C F vs ds) : SS B g P ((.ref p, .tup ds) :: T) σ (upd H p (.tup vs)) := by
  have f2 := f.new n (.tup vs)
  refine ⟨_, f2.addT (.tup upd_same (IsA.mono (fun b u e => ?_) ds vs a))⟩
  rw [upd_ne (ne_of_none e (f.free n))]
  exact e
theorem Fz.sqL (f : Fz B g P T σ H F) {a : Addr} {vs : List V} (h : F a = some (.lst vs)) : SqL B.K H a vs := .inl (.inl (f.eH _ _ h))
theorem Fz.sqT (f : Fz B g P T σ H F) {a : Addr} {vs : List V} (h : F a = some (.tup vs)) : SqT B.K H a vs := .inl (.inl (f.eH _ _ h))
theorem IsA.atI {vs : List V} {ds : List D} {i : Int} {d : D} (h : IsA K C F vs ds) (e : atI ds i = some d) : ∃ v, atI vs i = some v ∧ Is K C F v d := by
  unfold L2.atI at e ⊢
  rw [h.len]
  cases q : ixN ds.length i with
  | none => rw [q] at e; cases e
  | some j =>
    rw [q] at e
    exact h.get e
end
/-! ### + - * // % ** -/
def dAdd : D → D → Option D
  | .int i, .int j => some (.int (i + j))
  | .lst a, .lst b => if a.length + b.length ≤ LIM then some (.lst (a ++ b)) else none
  | _, _ => none
def dSub : D → D → Option D
  | .int i, .int j => some (.int (i - j))
  | _, _ => none
def dMul : D → D → Option D
  | .int i, .int j => if (-(2 ^ 64) < i ∧ i < 2 ^ 64) ∨ (-(2 ^ 64) < j ∧ j < 2 ^ 64) then some (.int (i * j)) else none
  | .lst a, .int k => if -1000000 ≤ k ∧ k ≤ 1000000 ∧ a.length * k.toNat ≤ LIM then some (.lst (List.replicate k.toNat a).flatten) else none
  | _, _ => none
def dMod : D → D → Option D
  | .int i, .int j => if 0 < j then some (.int (i % j)) else none
  | _, _ => none
def dDiv : D → D → Option D
  | .int i, .int j => if 0 < j ∧ j < 1073741824 then some (.int (i / j)) else none
  | _, _ => none
def dNeg : D → Option D
  | .int i => some (.int (-i))
  | _ => none
abbrev rAdd2 : R2 := fun x y H Q => rI0 (fun i j => .int (i + j)) x y H Q ∨ rCat x y H Q
abbrev rMul2 : R2 := fun x y H Q => rI CMul (fun i j => .int (i * j)) x y H Q ∨ rRep x y H Q
section
variable {K : PySem.W.Frag} {C : Addr}
theorem r_add : R2M K C rAdd2 dAdd := by
  intro F0 H0 g P T σ H Q x y dx dy d S hx hy e q
  obtain ⟨F, f⟩ := S
  have ix := f.ts _ hx
  have iy := f.ts _ hy
  unfold dAdd at e
  split at e
  · cases ix
    cases iy
    cases e
    exact .inl ⟨_, _, rfl, rfl, q _ H ⟨F, f.addT (.int _)⟩⟩
  · split at e
    · rename_i hl
      cases e
      cases ix with
      | lst ha hb =>
        cases iy with
        | lst hc hd =>
          refine .inr ⟨_, _, _, _, rfl, rfl, f.eH _ _ ha, f.eH _ _ hc, ?_, fun p hp => q _ _ (f.newL hp (hb.append hd))⟩
          rw [hb.len, hd.len]
          exact lim_ok hl
    · cases e
  · cases e
theorem r_sub : R2M K C (rI0 fun i j => .int (i - j)) dSub := by
  intro F0 H0 g P T σ H Q x y dx dy d S hx hy e q
  obtain ⟨F, f⟩ := S
  have ix := f.ts _ hx
  have iy := f.ts _ hy
  unfold dSub at e
  split at e
  · cases ix
    cases iy
    cases e
    exact ⟨_, _, rfl, rfl, q _ H ⟨F, f.addT (.int _)⟩⟩
  · cases e
theorem r_mul : R2M K C rMul2 dMul := by
  intro F0 H0 g P T σ H Q x y dx dy d S hx hy e q
  obtain ⟨F, f⟩ := S
  have ix := f.ts _ hx
  have iy := f.ts _ hy
  unfold dMul at e
  split at e
  · split at e
    · rename_i hc
      cases ix
      cases iy
      cases e
      exact .inl ⟨_, _, rfl, rfl, hc, q _ H ⟨F, f.addT (.int _)⟩⟩
    · cases e
  · split at e
    · rename_i hc
      cases e
      cases iy
      cases ix with
      | lst ha hb =>
        refine .inr ⟨_, _, _, rfl, rfl, f.eH _ _ ha, by omega, by omega, ?_, fun p hp => q _ _ (f.newL hp (hb.rep _))⟩
        rw [hb.len]
        exact lim_ok hc.2.2
    · cases e
  · cases e
theorem r_mod : R2M K C (rI (fun _ j => 0 < j) fun i j => .int (i % j)) dMod := by
  intro F0 H0 g P T σ H Q x y dx dy d S hx hy e q
  obtain ⟨F, f⟩ := S
  have ix := f.ts _ hx
  have iy := f.ts _ hy
  unfold dMod at e
  split at e
  · split at e
    · rename_i hc
      cases ix
      cases iy
      cases e
      exact ⟨_, _, rfl, rfl, hc, q _ H ⟨F, f.addT (.int _)⟩⟩
    · cases e
  · cases e
theorem r_div : R2M K C (rI CDiv fun i j => .int (i / j)) dDiv := by
  intro F0 H0 g P T σ H Q x y dx dy d S hx hy e q
  obtain ⟨F, f⟩ := S
  have ix := f.ts _ hx
  have iy := f.ts _ hy
  unfold dDiv at e
  split at e
  · split at e
    · rename_i hc
      cases ix
      cases iy
      cases e
      exact ⟨_, _, rfl, rfl, hc, q _ H ⟨F, f.addT (.int _)⟩⟩
    · cases e
  · cases e
theorem r_neg : R1M K C (rU fun i => .int (-i)) dNeg := by
  intro F0 H0 g P T σ H Q x dx d S hx e q
  obtain ⟨F, f⟩ := S
  have ix := f.ts _ hx
  unfold dNeg at e
  split at e
  · cases ix
    cases e
    exact ⟨_, rfl, q _ H ⟨F, f.addT (.int _)⟩⟩
  · cases e
/-! ### subscripts, slices -/
def dIx : D → D → Option D
  | .lst ds, .int i => atI ds i
  | .tup ds, .int i => atI ds i
  | .scr ns, .int i => (atI ns i).map D.int
  | _, _ => none
abbrev rIx2 (K : PySem.W.Frag) : R2 := fun x y H Q => rIxL K x y H Q ∨ rIxT K x y H Q
theorem r_ix : R2M K C (rIx2 K) dIx := by
  intro F0 H0 g P T σ H Q x y dx dy d S hx hy e q
  obtain ⟨F, f⟩ := S
  have ix := f.ts _ hx
  have iy := f.ts _ hy
  unfold dIx at e
  split at e
  · cases iy
    cases ix with
    | lst ha hb =>
      obtain ⟨v, h1, h2⟩ := hb.atI e
      exact .inl ⟨_, _, _, _, rfl, rfl, f.sqL ha, h1, q _ H ⟨F, f.addT h2⟩⟩
  · cases iy
    cases ix with
    | tup ha hb =>
      obtain ⟨v, h1, h2⟩ := hb.atI e
      exact .inr ⟨_, _, _, _, rfl, rfl, f.sqT ha, h1, q _ H ⟨F, f.addT h2⟩⟩
  · rename_i ns i
    cases iy
    cases ix with
    | scr ha =>
      cases e2 : atI ns i with
      | none => rw [e2] at e; cases e
      | some n =>
        rw [e2] at e
        cases e
        have e3 : atI (ns.map V.int) i = some (.int n) := by
          unfold L2.atI at e2 ⊢
          rw [List.length_map]
          cases q2 : ixN ns.length i with
          | none => rw [q2] at e2; cases e2
          | some j =>
            rw [q2] at e2
            show (ns.map V.int)[j]? = some (.int n)
            rw [List.getElem?_map, show ns[j]? = some n from e2]
            rfl
        exact .inl ⟨_, _, _, _, rfl, rfl, (f.eH.seq ha), e3, q _ H ⟨F, f.addT (.int _)⟩⟩
  · cases e
def cutD {α : Type} (xs : List α) (lo hi : Option Int) : List α := (xs.drop (HT.sIx xs.length 0 lo)).take (HT.sIx xs.length xs.length hi - HT.sIx xs.length 0 lo)
theorem IsA.cut {vs : List V} {ds : List D} {F : Hp} (h : IsA K C F vs ds) (lo hi : Option Int) : IsA K C F (cutV vs lo hi) (cutD ds lo hi) := by
  unfold cutV cutD
  rw [h.len]
  exact (h.drop _).take _
def dSl : D → Option Int → Option Int → Option D
  | .lst ds, lo, hi => some (.lst (cutD ds lo hi))
  | _, _, _ => none
/-- the parts of a slice -/
structure OM (K : PySem.W.Frag) (C : Addr) (E : XK) (to : TO) (m : G → Rs (Option Int)) : Prop where
  run : ∀ F0 H0 g P T σ H Q, SS ⟨K, C, F0, H0⟩ g P T σ H → Wish H0 E (m g) (fun o => ∀ H', SS ⟨K, C, F0, H0⟩ g P T σ H' → Q o H') → to σ H Q
structure POM (X : Cx) (K : PySem.W.Frag) (C : Addr) (E : XK) (e : Option Expr) (to : TO) (m : G → Rs (Option Int)) : Prop where
  p : PO X e to
  q : OM K C E to m
def mN : G → Rs (Option Int) := fun _ => .ok none
def mS (a : G → Rs D) : G → Rs (Option Int) := fun g => (a g).bind fun x => match x with
  | .int i => .ok (some i)
  | _ => .no
def mSl (a : G → Rs D) (lo hi : G → Rs (Option Int)) : G → Rs D := fun g => (a g).bind fun x => (lo g).bind fun l => (hi g).bind fun h => .of (dSl x l h)
variable {E : XK} {te ta tb tc : TE} {m ma mb mc : G → Rs D}
theorem om_n : OM K C E tNoPart mN := ⟨fun F0 H0 g P T σ H Q S h => h H S⟩
theorem om_s (a : EM K C E ta ma) : OM K C E (tPart ta) (mS ma) := ⟨fun F0 H0 g P T σ H Q S h =>
  a.run F0 H0 g P T σ H _ S (h.bind.mono fun d hd v H' S1 => by
    cases d with
    | int i =>
      have hv : v = .int i := by
        obtain ⟨F, f⟩ := S1
        have z := f.ts (v, .int i) List.mem_cons_self
        cases z
        rfl
      exact ⟨i, hv, hd H' S1.tail⟩
    | bl b => exact hd.elim
    | non => exact hd.elim
    | str x => exact hd.elim
    | lst x => exact hd.elim
    | tup x => exact hd.elim
    | web n x => exact hd.elim
    | scr x => exact hd.elim)⟩
theorem em_sl {tl th : TO} {ml mh : G → Rs (Option Int)} (a : EM K C E ta ma) (l : OM K C E tl ml) (h : OM K C E th mh) : EM K C E (tSl (rSlL K) ta tl th) (mSl ma ml mh) := ⟨fun F0 H0 g P T σ H Q S w =>
  a.run F0 H0 g P T σ H _ S (w.bind.mono fun x hx v H' S1 => l.run F0 H0 g P _ σ H' _ S1 (hx.bind.mono fun lo hlo H2 S2 => h.run F0 H0 g P _ σ H2 _ S2 (hlo.bind.mono fun hi hhi H3 S3 => by
    obtain ⟨d, e, q⟩ := hhi.of
    obtain ⟨F, f⟩ := S3
    have ix := f.ts _ List.mem_cons_self
    unfold dSl at e
    split at e
    · cases e
      cases ix with
      | lst ha hb => exact ⟨_, _, rfl, f.sqL ha, fun p hp => q _ _ ((f.newL hp (hb.cut lo hi)).sub fun z hz => by
          rcases List.mem_cons.mp hz with e | e
          · exact List.mem_cons.mpr (.inl e)
          · exact List.mem_cons_of_mem _ (List.mem_cons_of_mem _ e))⟩
    · cases e)))⟩
/-- xs[::-1] -/
def dRev : D → Option D
  | .lst ds => some (.lst ds.reverse)
  | _ => none
/-! ### comparisons -/
def dLt : D → D → Option D
  | .int i, .int j => some (.bl (decide (i < j)))
  | _, _ => none
def dLe : D → D → Option D
  | .int i, .int j => some (.bl (decide (i ≤ j)))
  | _, _ => none
def dGt : D → D → Option D
  | .int i, .int j => some (.bl (decide (j < i)))
  | _, _ => none
def dGe : D → D → Option D
  | .int i, .int j => some (.bl (decide (j ≤ i)))
  | _, _ => none
theorem r_lt : R2M K C (rI0 fun i j => .bl (decide (i < j))) dLt := by
  intro F0 H0 g P T σ H Q x y dx dy d S hx hy e q
  obtain ⟨F, f⟩ := S
  have ix := f.ts _ hx
  have iy := f.ts _ hy
  unfold dLt at e
  split at e
  · cases ix
    cases iy
    cases e
    exact ⟨_, _, rfl, rfl, q _ H ⟨F, f.addT (.bl _)⟩⟩
  · cases e
theorem r_le : R2M K C (rI0 fun i j => .bl (decide (i ≤ j))) dLe := by
  intro F0 H0 g P T σ H Q x y dx dy d S hx hy e q
  obtain ⟨F, f⟩ := S
  have ix := f.ts _ hx
  have iy := f.ts _ hy
  unfold dLe at e
  split at e
  · cases ix
    cases iy
    cases e
    exact ⟨_, _, rfl, rfl, q _ H ⟨F, f.addT (.bl _)⟩⟩
  · cases e
theorem r_gt : R2M K C (rI0 fun i j => .bl (decide (j < i))) dGt := by
  intro F0 H0 g P T σ H Q x y dx dy d S hx hy e q
  obtain ⟨F, f⟩ := S
  have ix := f.ts _ hx
  have iy := f.ts _ hy
  unfold dGt at e
  split at e
  · cases ix
    cases iy
    cases e
    exact ⟨_, _, rfl, rfl, q _ H ⟨F, f.addT (.bl _)⟩⟩
  · cases e
mutual
def toP : D → Option PyData
  | .non => some .none
  | .bl b => some (.bool b)
  | .int i => some (.int i)
  | .str x => some (.str x)
  | .lst ds => (toPs ds).map PyData.list
  | .tup ds => (toPs ds).map PyData.tuple
  | .web _ _ => none
  | .scr _ => none
def toPs : List D → Option (List PyData)
  | [] => some []
  | d :: ds => (toP d).bind fun p => (toPs ds).map (p :: ·)
end
mutual
theorem Is.dp {F H : Hp} (e : Same F H) : ∀ (d : D) (v : V) (p : PyData), Is K C F v d → toP d = some p → Dp K H v p
  | .non, _, _, h, q => by cases h; cases q; exact .non
  | .bl b, _, _, h, q => by cases h; cases q; exact .bl b
  | .int i, _, _, h, q => by cases h; cases q; exact .int i
  | .str x, _, _, h, q => by cases h; cases q; exact .str x
  | .lst ds, _, p, h, q => by
    cases h with
    | lst h1 h2 =>
      unfold toP at q
      cases e2 : toPs ds with
      | none => rw [e2] at q; cases q
      | some ps =>
        rw [e2] at q
        cases q
        exact .lst (.inl (.inl (e _ _ h1))) (IsA.dp e ds _ ps h2 e2)
  | .tup ds, _, p, h, q => by
    cases h with
    | tup h1 h2 =>
      unfold toP at q
      cases e2 : toPs ds with
      | none => rw [e2] at q; cases q
      | some ps =>
        rw [e2] at q
        cases q
        exact .tup (.inl (.inl (e _ _ h1))) (IsA.dp e ds _ ps h2 e2)
  | .web n ds, _, _, h, q => by cases q
  | .scr ns, _, _, h, q => by cases q
theorem IsA.dp {F H : Hp} (e : Same F H) : ∀ (ds : List D) (vs : List V) (ps : List PyData), IsA K C F vs ds → toPs ds = some ps → DpAll K H vs ps
  | [], _, _, h, q => by cases h; cases q; exact .nil
  | d :: ds, _, ps, h, q => by
    cases h with
    | cons h1 h2 =>
      unfold toPs at q
      cases e1 : toP d with
      | none => rw [e1] at q; cases q
      | some p =>
        rw [e1] at q
        cases e2 : toPs ds with
        | none => rw [e2] at q; cases q
        | some qs =>
          rw [e2] at q
          cases q
          exact .cons (Is.dp e d _ p h1 e1) (IsA.dp e ds _ qs h2 e2)
end
def deq (x y : D) : Option Bool := match toP x, toP y with
  | some p, some q => if SeqAt.shaped p = true ∧ SeqAt.shaped q = true then some (PyData.eqv p q) else none
  | _, _ => none
def dEq (x y : D) : Option D := (deq x y).map D.bl
def dNe (x y : D) : Option D := (deq x y).map fun b => D.bl (!b)
theorem deq_some {x y : D} {b : Bool} (h : deq x y = some b) : ∃ p q, toP x = some p ∧ toP y = some q ∧ SeqAt.shaped p = true ∧ SeqAt.shaped q = true ∧ b = PyData.eqv p q := by
  unfold deq at h
  split at h
  · rename_i p q e1 e2
    split at h
    · rename_i hc
      cases h
      exact ⟨p, q, e1, e2, hc.1, hc.2, rfl⟩
    · cases h
  · cases h
theorem r_eq : R2M K C (rEqD K) dEq := by
  intro F0 H0 g P T σ H Q x y dx dy d S hx hy e q
  obtain ⟨F, f⟩ := S
  have ix := f.ts _ hx
  have iy := f.ts _ hy
  unfold dEq at e
  cases e2 : deq dx dy with
  | none => rw [e2] at e; cases e
  | some b =>
    rw [e2] at e
    cases e
    obtain ⟨p1, p2, h1, h2, h3, h4, rfl⟩ := deq_some e2
    exact ⟨p1, p2, Is.dp f.eH _ _ _ ix h1, Is.dp f.eH _ _ _ iy h2, h3, h4, q _ H ⟨F, f.addT (.bl _)⟩⟩
theorem r_ne : R2M K C (rNeD K) dNe := by
  intro F0 H0 g P T σ H Q x y dx dy d S hx hy e q
  obtain ⟨F, f⟩ := S
  have ix := f.ts _ hx
  have iy := f.ts _ hy
  unfold dNe at e
  cases e2 : deq dx dy with
  | none => rw [e2] at e; cases e
  | some b =>
    rw [e2] at e
    cases e
    obtain ⟨p1, p2, h1, h2, h3, h4, rfl⟩ := deq_some e2
    exact ⟨p1, p2, Is.dp f.eH _ _ _ ix h1, Is.dp f.eH _ _ _ iy h2, h3, h4, q _ H ⟨F, f.addT (.bl _)⟩⟩
/-- in, not in: ints in a list or tuple of ints -/
def dInB : D → D → Option Bool
  | .int i, .lst ds => (asInts ds).map fun ns => decide (i ∈ ns)
  | .int i, .tup ds => (asInts ds).map fun ns => decide (i ∈ ns)
  | _, _ => none
def dIn (x y : D) : Option D := (dInB x y).map D.bl
def dNi (x y : D) : Option D := (dInB x y).map fun b => D.bl (!b)
theorem inV_ints (i : Int) : ∀ ns : List Int, inV (.int i) (ns.map V.int) = decide (i ∈ ns)
  | [] => by simp [inV]
  | n :: r => by
    have ih := inV_ints i r
    unfold inV at ih ⊢
    rw [List.map_cons, List.any_cons, ih]
    show ((n == i) || decide (i ∈ r)) = decide (i ∈ n :: r)
    by_cases h : n = i
    · subst h; simp
    · have h2 : (n == i) = false := by simp [h]
      rw [h2]
      simp [List.mem_cons, Ne.symm h]
theorem flat_ints : ∀ ns : List Int, (ns.map V.int).all flatV = true
  | [] => rfl
  | n :: r => by
    rw [List.map_cons, List.all_cons, flat_ints r]
    rfl
theorem in_fact {F0 H0 F : Hp} {g : G} {P : List (Addr × List V)} {T : List (V × D)} {σ : L2.St} {H : Hp} {x y : V} {dx dy : D} {b : Bool} (f : Fz ⟨K, C, F0, H0⟩ g P T σ H F) (hx : (x, dx) ∈ T) (hy : (y, dy) ∈ T) (e : dInB dx dy = some b) :
    ∃ p xs, y = .ref p ∧ (SqL K H p xs ∨ SqT K H p xs) ∧ flatV x = true ∧ xs.all flatV = true ∧ inV x xs = b := by
  have ix := f.ts _ hx
  have iy := f.ts _ hy
  unfold dInB at e
  split at e
  · rename_i i ds
    cases e2 : asInts ds with
    | none => rw [e2] at e; cases e
    | some ns =>
      rw [e2] at e
      cases e
      have e3 := asInts_some e2
      subst e3
      cases ix
      cases iy with
      | lst ha hb =>
        have e4 := hb.ints
        subst e4
        exact ⟨_, _, rfl, .inl (f.sqL ha), rfl, flat_ints ns, inV_ints i ns⟩
  · rename_i i ds
    cases e2 : asInts ds with
    | none => rw [e2] at e; cases e
    | some ns =>
      rw [e2] at e
      cases e
      have e3 := asInts_some e2
      subst e3
      cases ix
      cases iy with
      | tup ha hb =>
        have e4 := hb.ints
        subst e4
        exact ⟨_, _, rfl, .inr (f.sqT ha), rfl, flat_ints ns, inV_ints i ns⟩
  · cases e
theorem r_in : R2M K C (rIn K false) dIn := by
  intro F0 H0 g P T σ H Q x y dx dy d S hx hy e q
  obtain ⟨F, f⟩ := S
  unfold dIn at e
  cases e2 : dInB dx dy with
  | none => rw [e2] at e; cases e
  | some b =>
    rw [e2] at e
    cases e
    obtain ⟨p, xs, h1, h2, h3, h4, rfl⟩ := in_fact f hx hy e2
    exact ⟨p, xs, h1, h2, h3, h4, q _ H ⟨F, f.addT (.bl _)⟩⟩
theorem r_ni : R2M K C (rIn K true) dNi := by
  intro F0 H0 g P T σ H Q x y dx dy d S hx hy e q
  obtain ⟨F, f⟩ := S
  unfold dNi at e
  cases e2 : dInB dx dy with
  | none => rw [e2] at e; cases e
  | some b =>
    rw [e2] at e
    cases e
    obtain ⟨p, xs, h1, h2, h3, h4, rfl⟩ := in_fact f hx hy e2
    exact ⟨p, xs, h1, h2, h3, h4, q _ H ⟨F, f.addT (.bl _)⟩⟩
/-- x is None, x is not None -/
def dIsN : D → D → Option D
  | .non, .non => some (.bl true)
  | .web _ _, .non => none
  | .scr _, .non => none
  | _, .non => some (.bl false)
  | _, _ => none
def dNotN : D → D → Option D
  | .non, .non => some (.bl false)
  | .web _ _, .non => none
  | .scr _, .non => none
  | _, .non => some (.bl true)
  | _, _ => none
/-- a chain of two comparisons -/
def mCh (f f' : D → D → Option D) (ma mb mc : G → Rs D) : G → Rs D := fun g => (ma g).bind fun x => (mb g).bind fun y => (Rs.of (f x y)).bind fun z => match z with
  | .bl true => (mc g).bind fun w => .of (f' y w)
  | .bl false => .ok (.bl false)
  | _ => .no
theorem em_ch {r r' : R2} {f f' : D → D → Option D} (hr : R2M K C r f) (hr' : R2M K C r' f') (a : EM K C E ta ma) (b : EM K C E tb mb) (c : EM K C E tc mc) : EM K C E (tChain r r' ta tb tc) (mCh f f' ma mb mc) := ⟨fun F0 H0 g P T σ H Q S h =>
  a.run F0 H0 g P T σ H _ S (h.bind.mono fun x hx v H1 S1 => b.run F0 H0 g P _ σ H1 _ S1 (hx.bind.mono fun y hy v' H2 S2 => by
    obtain ⟨d, e, hd⟩ := hy.bind.of
    refine hr F0 H0 g P _ σ H2 _ v v' x y d S2 (List.mem_cons_of_mem _ List.mem_cons_self) List.mem_cons_self e fun u H3 S3 => ?_
    have iu : Is K C (Classical.choose S3) u d := (Classical.choose_spec S3).ts (u, d) List.mem_cons_self
    split at hd
    · cases iu
      refine ⟨true, rfl, ?_⟩
      rw [if_pos rfl]
      refine c.run F0 H0 g P _ σ H3 _ S3 (hd.bind.mono fun w hw t H4 S4 => ?_)
      obtain ⟨d2, e2, q2⟩ := hw.of
      refine hr' F0 H0 g P _ σ H4 _ v' t y w d2 S4 (List.mem_cons_of_mem _ (List.mem_cons_of_mem _ List.mem_cons_self)) List.mem_cons_self e2 fun u2 H5 S5 => q2 u2 H5 (S5.sub fun z hz => ?_)
      rcases List.mem_cons.mp hz with e | e
      · exact List.mem_cons.mpr (.inl e)
      · exact List.mem_cons_of_mem _ (List.mem_cons_of_mem _ (List.mem_cons_of_mem _ (List.mem_cons_of_mem _ (List.mem_cons_of_mem _ e))))
    · cases iu
      refine ⟨false, rfl, ?_⟩
      rw [if_neg Bool.false_ne_true]
      refine hd _ H3 ((S3.sub fun z hz => ?_).addT fun F f => .bl _)
      exact List.mem_cons_of_mem _ (List.mem_cons_of_mem _ (List.mem_cons_of_mem _ hz))
    · exact hd.elim))⟩
/-! ### and, or, not as values; a value as a test -/
def mAndV (a b : G → Rs D) : G → Rs D := fun g => (a g).bind fun x => match x with
  | .bl true => b g
  | .bl false => .ok (.bl false)
  | _ => .no
def mOrV (a b : G → Rs D) : G → Rs D := fun g => (a g).bind fun x => match x with
  | .bl true => .ok (.bl true)
  | .bl false => b g
  | _ => .no
def dNot : D → Option D
  | .bl b => some (.bl (!b))
  | _ => none
theorem tm_b (a : EM K C E ta ma) : TM K C E (tB ta) (mT ma) := ⟨fun F0 H0 g P T σ H Q S h => (tm_t a).run F0 H0 g P T σ H Q S h⟩
/-! ### built-ins by name -/
def dLen : List D → Option D
  | [.lst ds] => some (.int ds.length)
  | [.tup ds] => some (.int ds.length)
  | [.scr ns] => some (.int ns.length)
  | _ => none
abbrev rLenS (K : PySem.W.Frag) : List V → Hp → VK → Prop := fun xs H Q => ∃ p ys, xs = [.ref p] ∧ (SqL K H p ys ∨ SqT K H p ys) ∧ Q (.int ys.length) H
theorem al1 {T : List (V × D)} {xs : List V} {d : D} (h : Al T xs [d]) : ∃ x, xs = [x] ∧ (x, d) ∈ T := by
  cases h with
  | cons r t =>
    cases t
    exact ⟨_, rfl, r⟩
theorem r_len : RAM K C (rLenS K) dLen := by
  intro F0 H0 g P T σ H Q xs ds d S al e q
  obtain ⟨F, f⟩ := S
  unfold dLen at e
  split at e
  · cases e
    obtain ⟨x, rfl, hx⟩ := al1 al
    have ix := f.ts _ hx
    cases ix with
    | lst ha hb => exact ⟨_, _, rfl, .inl (f.sqL ha), q _ H ⟨F, f.addT (by rw [hb.len]; exact .int _)⟩⟩
  · cases e
    obtain ⟨x, rfl, hx⟩ := al1 al
    have ix := f.ts _ hx
    cases ix with
    | tup ha hb => exact ⟨_, _, rfl, .inr (f.sqT ha), q _ H ⟨F, f.addT (by rw [hb.len]; exact .int _)⟩⟩
  · cases e
    obtain ⟨x, rfl, hx⟩ := al1 al
    have ix := f.ts _ hx
    cases ix with
    | scr ha => exact ⟨_, _, rfl, .inl (f.eH.seq ha), q _ H ⟨F, f.addT (by rw [List.length_map]; exact .int _)⟩⟩
  · cases e
def dSum : List D → Option D
  | [.lst ds] => (asInts ds).map fun ns => D.int ns.sum
  | _ => none
def dMax2 : List D → Option D
  | [.int i, .int j] => some (.int (if j > i then j else i))
  | _ => none
def dMin2 : List D → Option D
  | [.int i, .int j] => some (.int (if j < i then j else i))
  | _ => none
def dAll : List D → Option D
  | [.lst ds] => (asBls ds).map fun bs => D.bl (bs.all id)
  | _ => none
theorem r_all : RAM K C (rAll K) dAll := by
  intro F0 H0 g P T σ H Q xs ds d S al e q
  obtain ⟨F, f⟩ := S
  unfold dAll at e
  split at e
  · rename_i es
    cases e2 : asBls es with
    | none => rw [e2] at e; cases e
    | some ns =>
      rw [e2] at e
      cases e
      obtain ⟨x, rfl, hx⟩ := al1 al
      have e3 := asBls_some e2
      subst e3
      have ix := f.ts _ hx
      cases ix with
      | lst ha hb =>
        have e4 := hb.bls
        subst e4
        exact ⟨_, ns, rfl, f.sqL ha, q _ H ⟨F, f.addT (.bl _)⟩⟩
  · cases e
/-- int(x) -/
def dInt : List D → Option D
  | [.int i] => some (.int i)
  | [.bl b] => some (.int (if b then 1 else 0))
  | _ => none
/-- list(xs) -/
def dList : List D → Option D
  | [.lst ds] => some (.lst ds)
  | [.tup ds] => some (.lst ds)
  | _ => none
abbrev rListS (K : PySem.W.Frag) : List V → Hp → VK → Prop := fun xs H Q => ∃ p ys, xs = [.ref p] ∧ (SqL K H p ys ∨ SqT K H p ys) ∧ ∀ l, H l = none → Q (.ref l) (upd H l (.lst ys))
theorem r_list : RAM K C (rListS K) dList := by
  intro F0 H0 g P T σ H Q xs ds d S al e q
  obtain ⟨F, f⟩ := S
  unfold dList at e
  split at e
  · cases e
    obtain ⟨x, rfl, hx⟩ := al1 al
    have ix := f.ts _ hx
    cases ix with
    | lst ha hb => exact ⟨_, _, rfl, .inl (f.sqL ha), fun l hl => q _ _ (f.newL hl hb)⟩
  · cases e
    obtain ⟨x, rfl, hx⟩ := al1 al
    have ix := f.ts _ hx
    cases ix with
    | tup ha hb => exact ⟨_, _, rfl, .inr (f.sqT ha), fun l hl => q _ _ (f.newL hl hb)⟩
  · cases e
end
end Z
set_option Elab.async false
set_option linter.all false
set_option maxRecDepth 100000
set_option maxHeartbeats 4000000
/-! Z, part C: what is walked, comprehensions, calls, statements, defs. -/
namespace Z
set_option autoImplicit false
open PySem L2
/-! ### slots -/
def Sl (T : List (V × D)) (g : G) (σ : L2.St) : Prop := σ.length = g.length ∧ ∀ (i : Nat) (d : D), g[i]? = some (some d) → ∃ v, σ[i]? = some (some v) ∧ (v, d) ∈ T
def killG (ks : List Nat) (g : G) : G := match ks with
  | [] => g
  | k :: r => (killG r g).set k none
section
variable {B : Bs} {g g' : G} {P P' : List (Addr × List V)} {T T' : List (V × D)} {σ σ' : L2.St} {H H2 F F2 : Hp} {v : V} {d : D}
theorem Sl.mono (h : Sl T g σ) (t : ∀ x ∈ T, x ∈ T') : Sl T' g σ := ⟨h.1, fun i d e => let ⟨v, h1, h2⟩ := h.2 i d e; ⟨v, h1, t _ h2⟩⟩
theorem get_set {α : Type} {l : List α} {i j : Nat} {a b : α} (h : (l.set i a)[j]? = some b) : (i = j ∧ b = a ∧ i < l.length) ∨ (i ≠ j ∧ l[j]? = some b) := by
  by_cases e : i = j
  · subst e
    rw [List.getElem?_set_self'] at h
    cases q : l[i]? with
    | none => rw [q] at h; cases h
    | some z =>
      rw [q] at h
      have z2 : b = a := (Option.some.inj h).symm
      exact .inl ⟨rfl, z2, (List.getElem?_eq_some_iff.mp q).1⟩
  · rw [List.getElem?_set_ne e] at h
    exact .inr ⟨e, h⟩
theorem Sl.set (h : Sl T g σ) {i : Nat} (m : (v, d) ∈ T) : Sl T (g.set i (some d)) (σ.set i (some v)) := by
  refine ⟨by rw [List.length_set, List.length_set]; exact h.1, fun j e he => ?_⟩
  rcases get_set he with ⟨z, z2, z3⟩ | ⟨z, z2⟩
  · subst z
    cases z2
    refine ⟨v, ?_, m⟩
    rw [List.getElem?_set_self (by rw [h.1]; exact z3)]
  · obtain ⟨w, h1, h2⟩ := h.2 j e z2
    exact ⟨w, by rw [List.getElem?_set_ne z]; exact h1, h2⟩
theorem Sl.set0 (h : Sl T g σ) {i : Nat} {o : Option V} : Sl T (g.set i none) (σ.set i o) := by
  refine ⟨by rw [List.length_set, List.length_set]; exact h.1, fun j e he => ?_⟩
  rcases get_set he with ⟨z, z2, z3⟩ | ⟨z, z2⟩
  · cases z2
  · obtain ⟨w, h1, h2⟩ := h.2 j e z2
    exact ⟨w, by rw [List.getElem?_set_ne z]; exact h1, h2⟩
theorem Sl.kill1 (h : Sl T g σ) {i : Nat} : Sl T (g.set i none) σ := by
  refine ⟨by rw [List.length_set]; exact h.1, fun j e he => ?_⟩
  rcases get_set he with ⟨z, z2, z3⟩ | ⟨z, z2⟩
  · cases z2
  · exact h.2 j e z2
theorem Sl.kill (h : Sl T g σ) : ∀ ks : List Nat, Sl T (killG ks g) σ
  | [] => h
  | k :: r => (h.kill r).kill1
theorem Sl.wipe (h : Sl T g σ) : ∀ ks : List Nat, Sl T (killG ks g) (L2.wipe σ ks)
  | [] => h
  | k :: r => (h.wipe r).set0
theorem SS.reslot (h : SS B g' P T σ' H) (s : Sl T g σ) : SS B g P T σ H := by
  obtain ⟨F, f⟩ := h
  refine ⟨F, ⟨f.eF, f.eH, f.e0, f.nw, fun i d e => ?_, s.1, f.ts, f.pr⟩⟩
  obtain ⟨v, h1, h2⟩ := s.2 i d e
  exact ⟨v, h1, f.ts _ h2⟩
theorem slots_at (f : Fz B g P T σ H F) : ∀ n : Nat, ∃ Ts : List (V × D), (∀ x ∈ Ts, Is B.K B.C F x.1 x.2) ∧ ∀ i d, i < n → g[i]? = some (some d) → ∃ v, σ[i]? = some (some v) ∧ (v, d) ∈ Ts
  | 0 => ⟨[], fun _ h => (by cases h), fun i d h => absurd h (Nat.not_lt_zero i)⟩
  | n + 1 => by
    obtain ⟨Ts, h1, h2⟩ := slots_at f n
    cases q : g[n]? with
    | none =>
      refine ⟨Ts, h1, fun i d hi e => ?_⟩
      rcases Nat.lt_succ_iff_lt_or_eq.mp hi with z | z
      · exact h2 i d z e
      · subst z
        rw [q] at e
        cases e
    | some o =>
      cases o with
      | none =>
        refine ⟨Ts, h1, fun i d hi e => ?_⟩
        rcases Nat.lt_succ_iff_lt_or_eq.mp hi with z | z
        · exact h2 i d z e
        · subst z
          rw [q] at e
          cases e
      | some d0 =>
        obtain ⟨v, e1, e2⟩ := f.sl n d0 q
        refine ⟨(v, d0) :: Ts, fun x hx => ?_, fun i d hi e => ?_⟩
        · rcases List.mem_cons.mp hx with z | z
          · rw [z]; exact e2
          · exact h1 x z
        · rcases Nat.lt_succ_iff_lt_or_eq.mp hi with z | z
          · obtain ⟨w, w1, w2⟩ := h2 i d z e
            exact ⟨w, w1, List.mem_cons_of_mem _ w2⟩
          · subst z
            rw [q] at e
            cases e
            exact ⟨v, e1, List.mem_cons_self⟩
/-- the slots' things are held -/
theorem SS.slots (h : SS B g P T σ H) : ∃ T', (∀ x ∈ T, x ∈ T') ∧ Sl T' g σ ∧ SS B g P T' σ H := by
  obtain ⟨F, f⟩ := h
  obtain ⟨Ts, h1, h2⟩ := slots_at f g.length
  refine ⟨Ts ++ T, fun x hx => List.mem_append_right _ hx, ⟨f.ln, fun i d e => ?_⟩, F, { f with ts := fun x hx => ?_ }⟩
  · obtain ⟨v, e1, e2⟩ := h2 i d (List.getElem?_eq_some_iff.mp e).1 e
    exact ⟨v, e1, List.mem_append_left _ e2⟩
  · rcases List.mem_append.mp hx with z | z
    · exact h1 x z
    · exact f.ts x z
theorem SS.set (h : SS B g P T σ H) {i : Nat} (m : (v, d) ∈ T) : SS B (g.set i (some d)) P T (σ.set i (some v)) H := by
  obtain ⟨T', t, s, h'⟩ := h.slots
  exact (h'.reslot (s.set (t _ m))).sub t
theorem SS.set0 (h : SS B g P T σ H) {i : Nat} {o : Option V} : SS B (g.set i none) P T (σ.set i o) H := by
  obtain ⟨T', t, s, h'⟩ := h.slots
  exact (h'.reslot s.set0).sub t
theorem SS.kill (h : SS B g P T σ H) (ks : List Nat) : SS B (killG ks g) P T σ H := by
  obtain ⟨T', t, s, h'⟩ := h.slots
  exact (h'.reslot (s.kill ks)).sub t
/-- a cell that may change is frozen -/
theorem SS.frz {p : Addr} {vs : List V} {ds : List D} (h : SS B g ((p, vs) :: P) T σ H) (hp : ∀ x ∈ P, x.1 ≠ p) (al : Al T vs ds) : SS B g P ((.ref p, .lst ds) :: T) σ H := by
  obtain ⟨F, f⟩ := h
  obtain ⟨p1, p2, p3⟩ := f.pr (p, vs) List.mem_cons_self
  have f' : Fz B g P T σ H F := f.subP fun z hz => List.mem_cons_of_mem _ hz
  have up : Same F (upd F p (.lst vs)) := fun b u e => by rw [upd_ne (ne_of_none e p1)]; exact e
  have f2 : Fz B g P T σ H (upd F p (.lst vs)) :=
    { eF := f'.eF.trans up
      eH := fun b u e => by
        by_cases z : b = p
        · subst z
          rw [upd_same] at e
          rw [← e]
          exact p3
        · rw [upd_ne z] at e
          exact f'.eH b u e
      e0 := f'.e0
      nw := fun q hq hf => by
        have z : q ≠ p := fun z => hq (by rw [z]; exact p2)
        rw [upd_ne z]
        exact f'.nw q hq hf
      sl := fun i d e => by
        obtain ⟨v, h1, h2⟩ := f'.sl i d e
        exact ⟨v, h1, Is.mono up d v h2⟩
      ln := f'.ln
      ts := fun x hx => Is.mono up _ _ (f'.ts x hx)
      pr := fun x hx => by
        obtain ⟨q1, q2, q3⟩ := f'.pr x hx
        exact ⟨by rw [upd_ne (hp x hx)]; exact q1, q2, q3⟩ }
  exact ⟨_, f2.addT (.lst upd_same (f2.all al))⟩
/-- such a cell is written -/
theorem SS.write {p : Addr} {vs ws : List V} (h : SS B g ((p, vs) :: P) T σ H) (hp : ∀ x ∈ P, x.1 ≠ p) : SS B g ((p, ws) :: P) T σ (upd H p (.lst ws)) := by
  obtain ⟨F, f⟩ := h
  obtain ⟨p1, p2, p3⟩ := f.pr (p, vs) List.mem_cons_self
  refine ⟨F, ⟨f.eF, fun b u e => ?_, fun b u e => ?_, f.nw, f.sl, f.ln, f.ts, fun x hx => ?_⟩⟩
  · rw [upd_ne (ne_of_none e p1)]
    exact f.eH b u e
  · rw [upd_ne (ne_of_none e p2)]
    exact f.e0 b u e
  · rcases List.mem_cons.mp hx with e | e
    · subst e
      exact ⟨p1, p2, upd_same⟩
    · obtain ⟨q1, q2, q3⟩ := f.pr x (List.mem_cons_of_mem _ e)
      exact ⟨q1, q2, by show upd H p (.lst ws) x.1 = _; rw [upd_ne (hp x e)]; exact q3⟩
theorem SS.cell {p : Addr} {vs : List V} (h : SS B g ((p, vs) :: P) T σ H) : H p = some (.lst vs) := let ⟨F, f⟩ := h; (f.pr (p, vs) List.mem_cons_self).2.2
theorem isA_zip {K : PySem.W.Frag} {C : Addr} {F : Hp} : ∀ {vs : List V} {ds : List D}, IsA K C F vs ds → ∀ x ∈ vs.zip ds, Is K C F x.1 x.2
  | _, _, .nil, _, h => by simp at h
  | _, _, .cons h t, x, hx => by
    rw [List.zip_cons_cons] at hx
    rcases List.mem_cons.mp hx with e | e
    · rw [e]
      exact h
    · exact isA_zip t x e
theorem al_zip {T : List (V × D)} {K : PySem.W.Frag} {C : Addr} {F : Hp} : ∀ {vs : List V} {ds : List D}, IsA K C F vs ds → (∀ x ∈ vs.zip ds, x ∈ T) → Al T vs ds
  | _, _, .nil, _ => .nil
  | _, _, .cons h t, hT => .cons (hT _ (by rw [List.zip_cons_cons]; exact List.mem_cons_self)) (al_zip t fun x hx => hT x (by rw [List.zip_cons_cons]; exact List.mem_cons_of_mem _ hx))
theorem SS.openT {ds : List D} (h : SS B g P T σ H) (m : (v, .tup ds) ∈ T) : ∃ a vs, v = .ref a ∧ H a = some (.tup vs) ∧ Al (vs.zip ds ++ T) vs ds ∧ SS B g P (vs.zip ds ++ T) σ H := by
  obtain ⟨F, f⟩ := h
  have i := f.ts _ m
  cases i with
  | tup ha hb =>
    refine ⟨_, _, rfl, f.eH _ _ ha, al_zip hb fun x hx => List.mem_append_left _ hx, F, { f with ts := fun x hx => ?_ }⟩
    rcases List.mem_append.mp hx with z | z
    · exact isA_zip hb x z
    · exact f.ts x z
end
/-! ### what is walked -/
def Walks (K : PySem.W.Frag) (C : Addr) (F0 H0 : Hp) (J : It) (ds : List D) (T0 : List (V × D)) : Prop := ∀ (i : Nat) g P T σ H, (∀ x ∈ T0, x ∈ T) → SS ⟨K, C, F0, H0⟩ g P T σ H →
  (∀ d, ds[i]? = some d → J.go i H ∧ ∀ x H', J.yld i H x H' → SS ⟨K, C, F0, H0⟩ g P ((x, d) :: T) σ H') ∧ (i = ds.length → J.stop i H)
structure IM (K : PySem.W.Frag) (C : Addr) (E : XK) (wi : TI) (m : G → Rs (List D)) : Prop where
  run : ∀ F0 H0 g P T σ H R, SS ⟨K, C, F0, H0⟩ g P T σ H → Wish H0 E (m g) (fun ds => ∀ J T' H1, (∀ x ∈ T, x ∈ T') → SS ⟨K, C, F0, H0⟩ g P T' σ H1 → Walks K C F0 H0 J ds T' → R J H1) → wi σ H R
structure PIM (X : Cx) (K : PySem.W.Frag) (C : Addr) (E : XK) (tg iter : Expr) (wi : TI) (m : G → Rs (List D)) : Prop where
  p : PI X tg iter wi
  q : IM K C E wi m
def mItems (a : G → Rs D) : G → Rs (List D) := fun g => (a g).bind fun x => match x with
  | .lst ds => .ok ds
  | _ => .no
def rgD (lo hi : Int) : List D := (List.range (hi - lo).toNat).map fun (i : Nat) => D.int (lo + (i : Int))
def mRng1 (a : G → Rs (List D)) : G → Rs (List D) := fun g => (a g).bind fun xs => match xs with
  | [.int n] => if -1000000 ≤ n ∧ n ≤ 1000000 then .ok (rgD 0 n) else .no
  | _ => .no
def mRng2 (a : G → Rs (List D)) : G → Rs (List D) := fun g => (a g).bind fun xs => match xs with
  | [.int m, .int n] => if -1000000 ≤ n ∧ n ≤ 1000000 ∧ -1000000 ≤ m ∧ m ≤ 1000000 then .ok (rgD m n) else .no
  | _ => .no
def enumD (ds : List D) : List D := (List.range ds.length).map fun i => D.tup [.int (i : Nat), ds.getD i .non]
def mEnum (a : G → Rs (List D)) : G → Rs (List D) := fun g => (a g).bind fun xs => match xs with
  | [.lst ds] => .ok (enumD ds)
  | _ => .no
def zipD (ds es : List D) : List D := List.zipWith (fun x y => D.tup [x, y]) ds es
def mZip (a : G → Rs (List D)) : G → Rs (List D) := fun g => (a g).bind fun xs => match xs with
  | [.lst ds, .lst es] => .ok (zipD ds es)
  | _ => .no
def mRevI (a : G → Rs (List D)) : G → Rs (List D) := fun g => (a g).bind fun xs => match xs with
  | [.lst ds] => .ok ds.reverse
  | _ => .no
section
variable {K : PySem.W.Frag} {C : Addr} {E : XK} {te ta tb tc : TE} {m ma mb mc : G → Rs D} {t : TA} {ms : G → Rs (List D)}
theorem walks_list {F0 H0 : Hp} {a : Addr} {ds : List D} {T0 : List (V × D)} (h0 : (V.ref a, D.lst ds) ∈ T0) : Walks K C F0 H0 (Itl K a) ds T0 := fun i g P T σ H ht S => by
  obtain ⟨F, f⟩ := S
  have z := f.ts _ (ht _ h0)
  cases z with
  | lst ha hb =>
    refine ⟨fun d e => ?_, fun e => ⟨_, f.sqL ha, by rw [hb.len, e]; exact Nat.le_refl _⟩⟩
    obtain ⟨v, h1, h2⟩ := hb.get e
    refine ⟨⟨_, v, f.sqL ha, h1⟩, fun x H' y => ?_⟩
    obtain ⟨rfl, y⟩ := y
    have e2 : some v = some x := h1.symm.trans (y _ (f.sqL ha))
    cases e2
    exact ⟨F, f.addT h2⟩
theorem walks_range {F0 H0 : Hp} {lo hi : Int} {T0 : List (V × D)} : Walks K C F0 H0 (Itr lo (hi - lo).toNat) (rgD lo hi) T0 := fun i g P T σ H ht S => by
  have hl : (rgD lo hi).length = (hi - lo).toNat := by unfold rgD; rw [List.length_map, List.length_range]
  refine ⟨fun d e => ?_, fun e => by show (hi - lo).toNat ≤ i; rw [e, hl]; exact Nat.le_refl _⟩
  have hi2 := (List.getElem?_eq_some_iff.mp e).1
  rw [hl] at hi2
  unfold rgD at e
  rw [List.getElem?_map, List.getElem?_range hi2] at e
  cases e
  refine ⟨hi2, fun x H' y => ?_⟩
  obtain ⟨rfl, rfl⟩ := y
  exact S.addT fun _ _ => .int _
theorem walks_enum {F0 H0 : Hp} {a : Addr} {ds : List D} {T0 : List (V × D)} (h0 : (V.ref a, D.lst ds) ∈ T0) : Walks K C F0 H0 (Ite K a) (enumD ds) T0 := fun i g P T σ H ht S => by
  obtain ⟨F, f⟩ := S
  have z := f.ts _ (ht _ h0)
  have hl : (enumD ds).length = ds.length := by unfold enumD; rw [List.length_map, List.length_range]
  cases z with
  | lst ha hb =>
    refine ⟨fun d e => ?_, fun e => ⟨_, f.sqL ha, by rw [hb.len, e, hl]; exact Nat.le_refl _⟩⟩
    have hi := (List.getElem?_eq_some_iff.mp e).1
    rw [hl] at hi
    unfold enumD at e
    rw [List.getElem?_map, List.getElem?_range hi] at e
    cases e
    have e2 : ds[i]? = some (ds.getD i .non) := by
      rw [List.getD_eq_getElem?_getD, List.getElem?_eq_getElem hi]
      rfl
    obtain ⟨v, h1, h2⟩ := hb.get e2
    refine ⟨⟨_, v, f.sqL ha, h1⟩, fun x H' y => ?_⟩
    obtain ⟨T', x', rfl, hn, rfl, y⟩ := y
    have e3 : some v = some x' := h1.symm.trans (y _ (f.sqL ha))
    cases e3
    exact f.newT hn (.cons (.int _) (.cons h2 .nil))
theorem im_list (a : EM K C E ta ma) : IM K C E (iList K ta) (mItems ma) := ⟨fun F0 H0 g P T σ H R S h =>
  a.run F0 H0 g P T σ H _ S (h.bind.mono fun x hx v H' S1 => by
    split at hx
    · rename_i ds
      obtain ⟨F, f⟩ := S1
      have z := f.ts _ List.mem_cons_self
      cases z with
      | lst ha hb => exact ⟨_, rfl, ⟨_, f.sqL ha⟩, hx _ _ H' (fun z hz => List.mem_cons_of_mem _ hz) ⟨F, f⟩ (walks_list List.mem_cons_self)⟩
    · exact hx.elim)⟩
theorem im_rng1 (a : AM K C E t ms) : IM K C E (iRng1 t) (mRng1 ms) := ⟨fun F0 H0 g P T σ H R S h =>
  a.run F0 H0 g P T σ H _ S (h.bind.mono fun xs hx vs T' H' ht al S1 => by
    split at hx
    · rename_i n
      split at hx
      · rename_i hn
        obtain ⟨v, rfl, hv⟩ := al1 al
        obtain ⟨F, f⟩ := S1
        have z := f.ts _ hv
        cases z
        refine ⟨n, rfl, by omega, by omega, hx _ T' H' ht ⟨F, f⟩ ?_⟩
        have w : Walks K C F0 H0 (Itr 0 (n - 0).toNat) (rgD 0 n) T' := walks_range
        rw [Int.sub_zero] at w
        exact w
      · exact hx.elim
    · exact hx.elim)⟩
theorem im_enum (a : AM K C E t ms) : IM K C E (iEnum K t) (mEnum ms) := ⟨fun F0 H0 g P T σ H R S h =>
  a.run F0 H0 g P T σ H _ S (h.bind.mono fun xs hx vs T' H' ht al S1 => by
    split at hx
    · rename_i ds
      obtain ⟨v, rfl, hv⟩ := al1 al
      obtain ⟨F, f⟩ := S1
      have z := f.ts _ hv
      cases z with
      | lst ha hb => exact ⟨_, _, rfl, f.sqL ha, hx _ T' H' ht ⟨F, f⟩ (walks_enum hv)⟩
    · exact hx.elim)⟩
end
/-! ### targets: one name, or a pair of names -/
inductive Tg where
  | one (i : Nat)
  | two (i j : Nat)
def Tg.g (K : PySem.W.Frag) : Tg → TG
  | .one i => gName i
  | .two i j => gTup K 2 (gCons (gName i) (gCons (gName j) gNil))
def Tg.put' : Tg → D → Rs (List (Nat × D))
  | .one i, d => .ok [(i, d)]
  | .two i j, .tup [a, b] => .ok [(i, a), (j, b)]
  | .two _ _, _ => .no
def setsG (g : G) (ps : List (Nat × D)) : G := ps.foldl (fun g p => g.set p.1 (some p.2)) g
def setsS (σ : L2.St) (ps : List (Nat × V)) : L2.St := ps.foldl (fun g p => g.set p.1 (some p.2)) σ
theorem Tg.run {K : PySem.W.Frag} {C : Addr} {F0 H0 : Hp} {g0 : G} {P : List (Addr × List V)} {T : List (V × D)} {σ0 σ : L2.St} {H : Hp} {E : XK} {x : V} {d : D} {Q : L2.St → Hp → Prop} (tg : Tg) (S : SS ⟨K, C, F0, H0⟩ g0 P T σ0 H) (hx : (x, d) ∈ T)
    (h : Wish H0 E (tg.put' d) fun ps => ∀ qs T', (∀ z ∈ T, z ∈ T') → Paired (fun (p : Nat × D) (q : Nat × V) => p.1 = q.1 ∧ (q.2, p.2) ∈ T') ps qs → SS ⟨K, C, F0, H0⟩ g0 P T' σ0 H → Q (setsS σ qs) H) : tg.g K x σ H Q := by
  cases tg with
  | one i => exact h [(i, x)] T (fun _ z => z) (.cons ⟨rfl, hx⟩ .nil) S
  | two i j =>
    unfold Tg.put' at h
    split at h
    · rename_i z
      cases z
    · rename_i i' j' a b z
      cases z
      obtain ⟨p, vs, rfl, hp, al, S2⟩ := S.openT hx
      cases al with
      | cons r1 t1 =>
        cases t1 with
        | cons r2 t2 =>
          cases t2
          exact ⟨p, _, rfl, .inl (.inl hp), rfl, _, _, rfl, _, _, rfl, rfl, h [(i, _), (j, _)] _ (fun z hz => List.mem_append_right _ hz) (.cons ⟨rfl, r1⟩ (.cons ⟨rfl, r2⟩ .nil)) S2⟩
    · exact h.elim
theorem Sl.sets {T : List (V × D)} {ps : List (Nat × D)} {qs : List (Nat × V)} (r : Paired (fun (p : Nat × D) (q : Nat × V) => p.1 = q.1 ∧ (q.2, p.2) ∈ T) ps qs) : ∀ {g : G} {σ : L2.St}, Sl T g σ → Sl T (setsG g ps) (setsS σ qs) := by
  induction r with
  | nil => exact fun h => h
  | cons h1 t ih =>
    intro g σ h
    obtain ⟨e, m⟩ := h1
    rename_i p q _ _
    obtain ⟨i, d⟩ := p
    obtain ⟨j, v⟩ := q
    cases e
    exact ih (h.set m)
/-! ### comprehensions -/
theorem al_snoc {T : List (V × D)} {v : V} {d : D} (hv : (v, d) ∈ T) : ∀ {vs : List V} {ds : List D}, Al T vs ds → Al T (vs ++ [v]) (ds ++ [d])
  | _, _, .nil => .cons hv .nil
  | _, _, .cons r t => .cons r (al_snoc hv t)
def Rs.nx {α : Type} : Rs α → Rs α
  | .ok a => .ok a
  | _ => .no
@[simp] theorem Rs.nx_ok {α : Type} (a : α) : (Rs.ok a).nx = .ok a := rfl
theorem Wish.nx {α : Type} {H0 : Hp} {E E' : XK} {o : Rs α} {Q : α → Prop} (h : Wish H0 E o.nx Q) : Wish H0 E' o Q := by
  cases o with
  | ok a => exact h
  | ex c r => exact h.elim
  | no => exact h.elim
def lcGo (g0 : G) (tg : Tg) (c : G → Rs Bool) (e : G → Rs D) : List D → Rs (List D)
  | [] => .ok []
  | d :: r => (tg.put' d).bind fun ps => (c (setsG g0 ps)).nx.bind fun b => if b = true then (e (setsG g0 ps)).nx.bind fun y => (lcGo g0 tg c e r).bind fun ys => .ok (y :: ys) else lcGo g0 tg c e r
def mLc (vs : List Nat) (mi : G → Rs (List D)) (tg : Tg) (c : G → Rs Bool) (e : G → Rs D) : G → Rs (List D) := fun g => (mi g).bind fun ds => if ds.length ≤ LIM then lcGo (killG vs g) tg c e ds else .no
def mYes : G → Rs Bool := fun _ => .ok true
theorem tm_yes {K : PySem.W.Frag} {C : Addr} {E : XK} : TM K C E tYes mYes := ⟨fun F0 H0 g P T σ H Q S h => h H S⟩
theorem wipe_sets {vs : List Nat} {σ : L2.St} : ∀ {qs : List (Nat × V)}, (∀ q ∈ qs, q.1 ∈ vs) → ∀ τ : L2.St, L2.wipe (setsS τ qs) vs = L2.wipe τ vs
  | [], _, τ => rfl
  | q :: r, h, τ => by
    have ih := wipe_sets (σ := σ) (qs := r) (fun q hq => h q (List.mem_cons_of_mem _ hq)) (τ.set q.1 (some q.2))
    show L2.wipe (setsS (τ.set q.1 (some q.2)) r) vs = _
    rw [ih]
    have hq := h q List.mem_cons_self
    clear ih h
    induction vs with
    | nil => cases hq
    | cons v vs ihv =>
      show (L2.wipe (τ.set q.1 (some q.2)) vs).set v none = (L2.wipe τ vs).set v none
      by_cases hm : q.1 ∈ vs
      · rw [ihv hm]
      · have e : q.1 = v := by
          rcases List.mem_cons.mp hq with z | z
          · exact z
          · exact absurd z hm
        have ind : ∀ (ws : List Nat), q.1 ∉ ws → L2.wipe (τ.set q.1 (some q.2)) ws = (L2.wipe τ ws).set q.1 (some q.2) := by
          intro ws hw
          induction ws with
          | nil => rfl
          | cons w ws ihw =>
            show (L2.wipe (τ.set q.1 (some q.2)) ws).set w none = ((L2.wipe τ ws).set w none).set q.1 (some q.2)
            rw [ihw fun z => hw (List.mem_cons_of_mem _ z), List.set_comm _ _ fun z => hw (by rw [← z]; exact List.mem_cons_self)]
        rw [ind vs hm, e, List.set_set]
theorem wipe_idem (σ : L2.St) : ∀ vs : List Nat, L2.wipe (L2.wipe σ vs) vs = L2.wipe σ vs := by
  have aux : ∀ (ws : List Nat) (τ : L2.St) (v : Nat), L2.wipe (τ.set v none) ws = (L2.wipe τ ws).set v none := by
    intro ws
    induction ws with
    | nil => intro τ v; rfl
    | cons w ws ih =>
      intro τ v
      show (L2.wipe (τ.set v none) ws).set w none = ((L2.wipe τ ws).set w none).set v none
      rw [ih]
      by_cases e : v = w
      · subst e
        rfl
      · rw [List.set_comm _ _ e]
  intro vs
  induction vs with
  | nil => rfl
  | cons v vs ih =>
    show (L2.wipe ((L2.wipe σ vs).set v none) vs).set v none = (L2.wipe σ vs).set v none
    rw [aux, List.set_set, ih]
def Tg.slots : Tg → List Nat
  | .one i => [i]
  | .two i j => [i, j]
theorem Tg.put_slots {tg : Tg} {d : D} {ps : List (Nat × D)} (h : tg.put' d = .ok ps) : ∀ p ∈ ps, p.1 ∈ tg.slots := by
  unfold Tg.put' at h
  split at h
  · cases h
    intro p hp
    rw [List.mem_singleton] at hp
    subst hp
    simp [Tg.slots]
  · cases h
    intro p hp
    simp only [List.mem_cons, List.not_mem_nil, or_false] at hp
    rcases hp with e | e <;> subst e <;> simp [Tg.slots]
  · cases h
theorem paired_fst {T : List (V × D)} {ps : List (Nat × D)} {qs : List (Nat × V)} (r : Paired (fun (p : Nat × D) (q : Nat × V) => p.1 = q.1 ∧ (q.2, p.2) ∈ T) ps qs) {vs : List Nat} (h : ∀ p ∈ ps, p.1 ∈ vs) : ∀ q ∈ qs, q.1 ∈ vs := by
  induction r with
  | nil => intro q hq; cases hq
  | cons h1 t ih =>
    intro q hq
    rcases List.mem_cons.mp hq with e | e
    · subst e
      rw [← h1.1]
      exact h _ List.mem_cons_self
    · exact ih (fun p hp => h p (List.mem_cons_of_mem _ hp)) q e
section
variable {K : PySem.W.Frag} {C : Addr} {E E' : XK} {te : TE} {me : G → Rs D} {tt : TT} {mc : G → Rs Bool} {wi : TI} {mi : G → Rs (List D)}
theorem lm_lc {vs : List Nat} {tg : Tg} (hi : IM K C E wi mi) (hc : TM K C E' tt mc) (he : EM K C E' te me) (hv : ∀ i ∈ tg.slots, i ∈ vs) : LM K C E (tLc wi (tg.g K) tt te vs) (mLc vs mi tg mc me) := ⟨fun F0 H0 g P T σ H Q S h =>
  hi.run F0 H0 g P T σ H _ S (h.bind.mono fun ds hd J T1 H1 ht1 S1 wk => by
    split at hd
    · rename_i hl
      intro p hp
      obtain ⟨T2, t2, sl, S2⟩ := S1.slots
      obtain ⟨hne, S3⟩ := lm_new S2 hp []
      refine ⟨fun i n H' => ∃ T' ys ws, i ≤ ds.length ∧ n = ds.length - i ∧ (∀ x ∈ T2, x ∈ T') ∧ Al T' ws ys ∧ ws.length ≤ i ∧ SS ⟨K, C, F0, H0⟩ g ((p, ws) :: P) T' σ H' ∧
        Wish H0 E (lcGo (killG vs g) tg mc me (ds.drop i)) (fun rest => ∀ zs T'' H'', (∀ x ∈ T', x ∈ T'') → Al T'' zs (ys ++ rest) → SS ⟨K, C, F0, H0⟩ g ((p, zs) :: P) T'' σ H'' → Q (.ref p) H''),
        ⟨ds.length, T2, [], [], Nat.zero_le _, rfl, fun _ z => z, .nil, Nat.le_refl _, S3, ?_⟩, ?_⟩
      · rw [List.drop_zero]
        exact hd.mono fun rest hr zs T'' H'' t' al S' => hr p zs T'' H'' (fun x hx => t' x (t2 x (ht1 x hx))) al hne S'
      · rintro i n H' ⟨T', ys, ws, hil, rfl, t', al, hlw, S4, w⟩
        obtain ⟨wk1, wk2⟩ := wk i g _ T' σ H' (fun x hx => t' x (t2 x hx)) S4
        by_cases hlt : i < ds.length
        · obtain ⟨go, yl⟩ := wk1 ds[i] (List.getElem?_eq_getElem hlt)
          rw [List.drop_eq_getElem_cons hlt] at w
          refine .inr ⟨go, fun H5 => ∃ T' ys ws, i + 1 ≤ ds.length ∧ (∀ x ∈ T2, x ∈ T') ∧ Al T' ws ys ∧ ws.length ≤ i + 1 ∧ SS ⟨K, C, F0, H0⟩ g ((p, ws) :: P) T' σ H5 ∧
            Wish H0 E (lcGo (killG vs g) tg mc me (ds.drop (i + 1))) (fun rest => ∀ zs T'' H'', (∀ x ∈ T', x ∈ T'') → Al T'' zs (ys ++ rest) → SS ⟨K, C, F0, H0⟩ g ((p, zs) :: P) T'' σ H'' → Q (.ref p) H''), ?_, ?_⟩
          · rintro H5 ⟨T5, ys5, ws5, a1, a2, a3, a4, a5, a6⟩
            exact ⟨ds.length - (i + 1), by omega, T5, ys5, ws5, a1, rfl, a2, a3, a4, a5, a6⟩
          · intro x H5 y
            have S5 := yl x H5 y
            have sl5 : Sl ((x, ds[i]) :: T') g σ := sl.mono fun z hz => List.mem_cons_of_mem _ (t' z hz)
            have S6 := S5.reslot (sl5.wipe vs)
            refine Tg.run (E := E) (g0 := killG vs g) (σ0 := L2.wipe σ vs) tg S6 List.mem_cons_self ?_
            have w0 := w.bind
            cases ep : tg.put' ds[i] with
            | ex c r =>
              rw [ep] at w0
              exact w0
            | no =>
              rw [ep] at w0
              exact w0
            | ok ps =>
              rw [ep] at w0
              intro qs T6 t6 pr S7
              have w1 := (show Wish H0 E ((mc (setsG (killG vs g) ps)).nx.bind _) _ from w0).bind
              have sl6 : Sl T6 (killG vs g) (L2.wipe σ vs) := (sl5.wipe vs).mono t6
              have S8 := S7.reslot (sl6.sets pr)
              refine ⟨?_, ?_⟩
              · have e1 := wipe_sets (σ := σ) (paired_fst pr fun q hq => hv _ (Tg.put_slots ep q hq)) (L2.wipe σ vs)
                rw [e1, wipe_idem]
              · refine hc.run F0 H0 _ _ _ _ H5 _ S8 ((w1.nx (E' := E')).mono fun b hb H6 S9 => ?_)
                cases b with
                | false =>
                  rw [if_neg Bool.false_ne_true] at hb ⊢
                  have S10 := S9.reslot (sl5.mono t6)
                  refine ⟨T6, ys, ws, hlt, fun z hz => t6 z (List.mem_cons_of_mem _ (t' z hz)), al.mono fun z hz => t6 z (List.mem_cons_of_mem _ hz), by omega, S10, ?_⟩
                  exact hb.mono fun rest hr zs T'' H'' tz alz Sz => hr zs T'' H'' (fun x hx => tz x (t6 x (List.mem_cons_of_mem _ hx))) alz Sz
                | true =>
                  rw [if_pos rfl] at hb ⊢
                  refine he.run F0 H0 _ _ _ _ H6 _ S9 ((hb.bind.nx (E' := E')).mono fun yd hy v H7 S11 => ?_)
                  have S12 := S11.reslot ((sl5.mono t6).mono fun z hz => List.mem_cons_of_mem (v, yd) hz)
                  refine ⟨ws, S12.cell, by have := lim_lt hl; omega, (v, yd) :: T6, ys ++ [yd], ws ++ [v], hlt, fun z hz => List.mem_cons_of_mem _ (t6 z (List.mem_cons_of_mem _ (t' z hz))), ?_, ?_, S12.write hne, ?_⟩
                  · exact al_snoc List.mem_cons_self (al.mono fun z hz => List.mem_cons_of_mem _ (t6 z (List.mem_cons_of_mem _ hz)))
                  · rw [List.length_append]
                    show ws.length + 1 ≤ i + 1
                    omega
                  · refine hy.bind.mono fun rest hr zs T'' H'' tz alz Sz => hr zs T'' H'' (fun x hx => tz x (List.mem_cons_of_mem _ (t6 x (List.mem_cons_of_mem _ hx)))) ?_ Sz
                    rw [List.append_assoc] at alz
                    exact alz
        · have e : i = ds.length := by omega
          refine .inl ⟨wk2 e, ?_⟩
          rw [List.drop_of_length_le (by omega)] at w
          have w' := (show ∀ zs T'' H'', _ → Al T'' zs (ys ++ []) → _ → _ from w) ws T' H' (fun _ z => z)
          rw [List.append_nil] at w'
          exact w' al S4
    · exact hd.elim)⟩
end
/-! ### calls -/
def spM (K : PySem.W.Frag) (C : Addr) (n : Nat) (φ : List D → Rs D) : Sp := fun vs H Q E => ∃ F ds, Same F H ∧ IsA K C F vs ds ∧ vs.length = n ∧
  Wish H E (φ ds) (fun d => ∀ v H' g P T σ, SS ⟨K, C, F, H⟩ g P ((v, d) :: T) σ H' → Q v H')
theorem XOk.mono {H0 H1 : Hp} {E : XK} {c : Addr} {r : Option Int} (h : XOk H0 E c r) (e : Same H0 H1) : XOk H1 E c r := by
  cases r with
  | none => exact fun H' s => h H' (e.trans s)
  | some r => exact fun d H' s n => h d H' (e.trans s) (e.free n)
section
variable {K : PySem.W.Frag} {C : Addr} {E E' : XK} {t : TA} {ms : G → Rs (List D)} {φ : List D → Rs D} {n : Nat}
theorem em_call (hn : ∀ g ds, ms g = .ok ds → ds.length = n) (a : AM K C E t ms) : EM K C E (tCall (spM K C n φ) [] E t) (mCall φ ms) := ⟨fun F0 H0 g P T σ H Q S h =>
  a.run F0 H0 g P T σ H _ S (by
    cases e : ms g with
    | ex c r =>
      unfold mCall at h
      rw [e] at h
      exact h
    | no =>
      unfold mCall at h
      rw [e] at h
      exact h
    | ok ds =>
      unfold mCall at h
      rw [e] at h
      show ∀ vs T' H', _ → _ → _ → _
      intro vs T' H' ht al S1
      obtain ⟨F, f⟩ := S1
      rw [List.append_nil]
      refine ⟨F, ds, f.eH, f.all al, by rw [al.len]; exact hn g ds e, ?_⟩
      have h' : Wish H0 E (φ ds) _ := h
      cases eo : φ ds with
      | no =>
        rw [eo] at h'
        exact h'.elim
      | ex c r =>
        rw [eo] at h'
        exact XOk.mono h' f.e0
      | ok d =>
        rw [eo] at h'
        intro v H2 g2 P2 T2 σ2 S2
        obtain ⟨F2, f2⟩ := S2
        refine h' v H2 ?_
        have f3 : Fz ⟨K, C, F0, H0⟩ g P T' σ H2 F2 := f.grow f2.eF f2.eH f2.e0 fun p hp hf => f2.nw p hp hf
        exact ⟨F2, (f3.sub ht).addT (f2.ts _ List.mem_cons_self)⟩)⟩
/-- a call of a def that nothing leaves -/
theorem em_call0 (hn : ∀ g ds, ms g = .ok ds → ds.length = n) (a : AM K C E t ms) : EM K C E (tCall (spM K C n φ) [] E' t) (mCall (fun ds => (φ ds).nx) ms) := ⟨fun F0 H0 g P T σ H Q S h =>
  a.run F0 H0 g P T σ H _ S (by
    cases e : ms g with
    | ex c r =>
      unfold mCall at h
      rw [e] at h
      exact h
    | no =>
      unfold mCall at h
      rw [e] at h
      exact h
    | ok ds =>
      unfold mCall at h
      rw [e] at h
      show ∀ vs T' H', _ → _ → _ → _
      intro vs T' H' ht al S1
      obtain ⟨F, f⟩ := S1
      rw [List.append_nil]
      refine ⟨F, ds, f.eH, f.all al, by rw [al.len]; exact hn g ds e, ?_⟩
      have h' : Wish H0 E (φ ds).nx _ := h
      cases eo : φ ds with
      | no =>
        rw [eo] at h'
        exact h'.elim
      | ex c r =>
        rw [eo] at h'
        exact h'.elim
      | ok d =>
        rw [eo] at h'
        intro v H2 g2 P2 T2 σ2 S2
        obtain ⟨F2, f2⟩ := S2
        refine h' v H2 ?_
        have f3 : Fz ⟨K, C, F0, H0⟩ g P T' σ H2 F2 := f.grow f2.eF f2.eH f2.e0 fun p hp hf => f2.nw p hp hf
        exact ⟨F2, (f3.sub ht).addT (f2.ts _ List.mem_cons_self)⟩)⟩
end
/-! ### statements -/
structure Sta where
  g : G
  mu : Option (Nat × List D)
inductive Ou where
  | nx (s : Sta)
  | rt (d : D)
  | bk (s : Sta)
  | ct (s : Sta)
def MuOk (mu : Option (Nat × List D)) (g : G) (P : List (Addr × List V)) (T : List (V × D)) (σ : L2.St) : Prop := match mu with
  | none => P = []
  | some (i, ds) => ∃ p vs, P = [(p, vs)] ∧ σ[i]? = some (some (.ref p)) ∧ Al T vs ds ∧ g[i]? = some none
def SSm (B : Bs) (s : Sta) (T : List (V × D)) (σ : L2.St) (H : Hp) : Prop := ∃ P T', (∀ x ∈ T, x ∈ T') ∧ MuOk s.mu s.g P T' σ ∧ SS B s.g P T' σ H
def Post (K : PySem.W.Frag) (C : Addr) (F0 H0 : Hp) (T : List (V × D)) (D' : Ends) : Ou → Prop
  | .nx s => ∀ σ H, SSm ⟨K, C, F0, H0⟩ s T σ H → D'.nx σ H
  | .rt d => ∀ v H g P T' σ, SS ⟨K, C, F0, H0⟩ g P ((v, d) :: T') σ H → D'.rt v H
  | .bk s => ∀ σ H, SSm ⟨K, C, F0, H0⟩ s T σ H → D'.bk σ H
  | .ct s => ∀ σ H, SSm ⟨K, C, F0, H0⟩ s T σ H → D'.ct σ H
structure SM (K : PySem.W.Frag) (C : Addr) (E : XK) (t : TS) (m : Sta → Rs Ou) : Prop where
  run : ∀ F0 H0 s T σ H D', SSm ⟨K, C, F0, H0⟩ s T σ H → Wish H0 E (m s) (Post K C F0 H0 T D') → t D' σ H
structure PSM (X : Cx) (K : PySem.W.Frag) (C : Addr) (E : XK) (st : Stmt) (t : TS) (m : Sta → Rs Ou) : Prop where
  p : PS X st t
  q : SM K C E t m
structure PSSM (X : Cx) (K : PySem.W.Frag) (C : Addr) (E : XK) (st : List Stmt) (t : TS) (m : Sta → Rs Ou) : Prop where
  p : PSs X st t
  q : SM K C E t m
def Sta.set (s : Sta) (i : Nat) (d : D) : Sta := ⟨s.g.set i (some d), match s.mu with
  | none => none
  | some (j, ds) => if j = i then none else some (j, ds)⟩
def Sta.frz (s : Sta) : Sta := match s.mu with
  | none => s
  | some (i, ds) => ⟨s.g.set i (some (.lst ds)), none⟩
def Sta.kill (ks : List Nat) (s : Sta) : Sta := ⟨killG ks s.g, s.mu⟩
def sNil : Sta → Rs Ou := fun s => .ok (.nx s)
def sSeq (a b : Sta → Rs Ou) : Sta → Rs Ou := fun s => (a s).bind fun o => match o with
  | .nx s' => b s'
  | o => .ok o
def sSet (i : Nat) (e : G → Rs D) : Sta → Rs Ou := fun s => (e s.g).bind fun d => .ok (.nx (s.set i d))
def sSet2 (i j : Nat) (e : G → Rs D) : Sta → Rs Ou := fun s => (e s.g).bind fun d => match d with
  | .tup [a, b] => .ok (.nx ((s.set i a).set j b))
  | _ => .no
def sPar (i j : Nat) (e : G → Rs (List D)) : Sta → Rs Ou := fun s => (e s.g).bind fun d => match d with
  | [a, b] => .ok (.nx ((s.set i a).set j b))
  | _ => .no
def sNew (i : Nat) (e : G → Rs (List D)) : Sta → Rs Ou := fun s => (e s.g).bind fun ds => if i < s.g.length then .ok (.nx ⟨s.g.set i none, some (i, ds)⟩) else .no
def sFrz (m : Sta → Rs Ou) : Sta → Rs Ou := fun s => m s.frz
def sKill (ks : List Nat) (m : Sta → Rs Ou) : Sta → Rs Ou := fun s => m (s.kill ks)
def sApp (i : Nat) (e : G → Rs D) : Sta → Rs Ou := fun s => match s.mu with
  | some (j, ds) => if j = i ∧ ds.length ≤ LIM then (e s.g).bind fun d => .ok (.nx ⟨s.g, some (j, ds ++ [d])⟩) else .no
  | none => .no
def sPut (i : Nat) (k e : G → Rs D) : Sta → Rs Ou := fun s => match s.mu with
  | some (j, ds) => if j = i then (e s.g).bind fun d => (k s.g).bind fun z => (match z with
      | .int z => (match ixN ds.length z with
        | some n => .ok (.nx ⟨s.g, some (j, ds.set n d)⟩)
        | none => .no)
      | _ => .no) else .no
  | none => .no
def sIf (c : G → Rs Bool) (a b : Sta → Rs Ou) : Sta → Rs Ou := fun s => (c s.g).bind fun x => if x = true then a s else b s
def sRet (e : G → Rs D) : Sta → Rs Ou := fun s => (e s.g).bind fun d => .ok (.rt d)
def sExp (e : G → Rs D) : Sta → Rs Ou := fun s => (e s.g).bind fun _ => .ok (.nx s)
def sRaise (c : Addr) : Sta → Rs Ou := fun _ => .ex c none
def Sta.sets (s : Sta) (ps : List (Nat × D)) : Sta := ⟨setsG s.g ps, s.mu⟩
def muFree (mu : Option (Nat × List D)) (ks : List Nat) : Bool := match mu with
  | none => true
  | some (j, _) => !ks.contains j
def forGo (tg : Tg) (ks : List Nat) (b : Sta → Rs Ou) : List D → Sta → Rs Ou
  | [], s => .ok (.nx s)
  | d :: r, s => (tg.put' d).bind fun ps => if muFree s.mu tg.slots = true then (b (s.sets ps)).bind fun o => match o with
      | .nx s' => forGo tg ks b r (s'.kill ks)
      | .ct s' => forGo tg ks b r (s'.kill ks)
      | .bk s' => .ok (.nx s')
      | .rt d => .ok (.rt d) else .no
def sFor (mi : G → Rs (List D)) (tg : Tg) (ks : List Nat) (b : Sta → Rs Ou) : Sta → Rs Ou := fun s => (mi s.g).bind fun ds => forGo tg ks b ds (s.kill ks)
section
variable {B : Bs} {s s' : Sta} {T T' : List (V × D)} {σ σ' : L2.St} {H H' : Hp} {P : List (Addr × List V)} {v : V} {d : D} {mu : Option (Nat × List D)} {g : G}
theorem MuOk.mono (h : MuOk mu g P T σ) (t : ∀ x ∈ T, x ∈ T') : MuOk mu g P T' σ := by
  unfold MuOk at h ⊢
  split at h
  · exact h
  · obtain ⟨p, vs, h1, h2, h3, h4⟩ := h
    exact ⟨p, vs, h1, h2, h3.mono t, h4⟩
theorem SSm.sub (h : SSm B s T σ H) (t : ∀ x ∈ T', x ∈ T) : SSm B s T' σ H := by
  obtain ⟨P, T1, t1, mu, S⟩ := h
  exact ⟨P, T1, fun x hx => t1 x (t x hx), mu, S⟩
theorem SSm.of (S : SS B s.g P T' σ H) (m : MuOk s.mu s.g P T' σ) (t : ∀ x ∈ T, x ∈ T') : SSm B s T σ H := ⟨P, T', t, m, S⟩
theorem MuOk.set (h : MuOk s.mu s.g P T σ) {i : Nat} : ∃ P', (∀ x ∈ P', x ∈ P) ∧ MuOk (s.set i d).mu (s.set i d).g P' T (σ.set i (some v)) := by
  unfold Sta.set
  cases e : s.mu with
  | none =>
    rw [e] at h
    exact ⟨P, fun _ z => z, h⟩
  | some q =>
    obtain ⟨j, ds⟩ := q
    rw [e] at h
    obtain ⟨p, vs, h1, h2, h3, h4⟩ := h
    dsimp only
    by_cases z : j = i
    · rw [if_pos z]
      exact ⟨[], fun _ z => (by cases z), rfl⟩
    · rw [if_neg z]
      refine ⟨P, fun _ z => z, p, vs, h1, ?_, h3, ?_⟩
      · rw [List.getElem?_set_ne (Ne.symm z)]
        exact h2
      · rw [List.getElem?_set_ne (Ne.symm z)]
        exact h4
theorem SSm.set (S : SS B s.g P T σ H) (m : MuOk s.mu s.g P T σ) {i : Nat} (hv : (v, d) ∈ T) : ∃ P', MuOk (s.set i d).mu (s.set i d).g P' T (σ.set i (some v)) ∧ SS B (s.set i d).g P' T (σ.set i (some v)) H := by
  obtain ⟨P', p1, p2⟩ := m.set (i := i) (d := d) (v := v)
  exact ⟨P', p2, (S.set hv).subP p1⟩
theorem SSm.frz (h : SSm B s T σ H) : SSm B s.frz T σ H := by
  obtain ⟨P, T1, t1, mu, S⟩ := h
  unfold Sta.frz
  cases e : s.mu with
  | none => exact ⟨P, T1, t1, mu, S⟩
  | some q =>
    obtain ⟨i, ds⟩ := q
    rw [e] at mu
    obtain ⟨p, vs, h1, h2, h3, h4⟩ := mu
    subst h1
    have S2 := S.frz (fun x hx => by cases hx) h3
    have S3 := S2.set (i := i) List.mem_cons_self
    have e2 : σ.set i (some (.ref p)) = σ := by
      obtain ⟨h1, h2⟩ := List.getElem?_eq_some_iff.mp h2
      rw [← h2]
      exact List.set_getElem_self h1
    rw [e2] at S3
    exact ⟨[], _, fun x hx => List.mem_cons_of_mem _ (t1 x hx), rfl, S3⟩
theorem killG_none {g : G} {i : Nat} (h : g[i]? = some none) : ∀ ks : List Nat, (killG ks g)[i]? = some none
  | [] => h
  | k :: r => by
    have ih := killG_none h r
    show ((killG r g).set k none)[i]? = some none
    by_cases e : k = i
    · subst e
      rw [List.getElem?_set_self (List.getElem?_eq_some_iff.mp ih).1]
    · rw [List.getElem?_set_ne e]
      exact ih
theorem SSm.kill (h : SSm B s T σ H) (ks : List Nat) : SSm B (s.kill ks) T σ H := by
  obtain ⟨P, T1, t1, mu, S⟩ := h
  refine ⟨P, T1, t1, ?_, S.kill ks⟩
  unfold Sta.kill
  unfold MuOk at mu ⊢
  split at mu
  · rename_i e
    rw [e]
    exact mu
  · rename_i i ds e
    rw [e]
    obtain ⟨p, vs, h1, h2, h3, h4⟩ := mu
    exact ⟨p, vs, h1, h2, h3, killG_none h4 ks⟩
theorem setsG_get {i : Nat} {o : Option D} : ∀ {ps : List (Nat × D)} {g : G}, (∀ p ∈ ps, p.1 ≠ i) → g[i]? = some o → (setsG g ps)[i]? = some o
  | [], g, _, h => h
  | p :: r, g, hn, h => setsG_get (ps := r) (g := g.set p.1 (some p.2)) (fun q hq => hn q (List.mem_cons_of_mem _ hq)) (by rw [List.getElem?_set_ne (hn p List.mem_cons_self)]; exact h)
theorem setsS_get {i : Nat} {o : Option V} : ∀ {ps : List (Nat × V)} {g : L2.St}, (∀ p ∈ ps, p.1 ≠ i) → g[i]? = some o → (setsS g ps)[i]? = some o
  | [], g, _, h => h
  | p :: r, g, hn, h => setsS_get (ps := r) (g := g.set p.1 (some p.2)) (fun q hq => hn q (List.mem_cons_of_mem _ hq)) (by rw [List.getElem?_set_ne (hn p List.mem_cons_self)]; exact h)
theorem muFree_ne {mu : Option (Nat × List D)} {ks : List Nat} {j : Nat} {ds : List D} (h : muFree mu ks = true) (e : mu = some (j, ds)) : ∀ k ∈ ks, k ≠ j := by
  subst e
  intro k hk z
  subst z
  have h2 : (!ks.contains k) = true := h
  rw [Bool.not_eq_true', List.contains_eq_mem, decide_eq_false_iff_not] at h2
  exact h2 hk
end
section
variable {K : PySem.W.Frag} {C : Addr} {E E' : XK} {te ta ti : TE} {me mi' : G → Rs D} {t u : TS} {m m' a b : Sta → Rs Ou} {tt : TT} {mc : G → Rs Bool} {wi : TI} {mi : G → Rs (List D)}
theorem sm_nil : SM K C E tNext sNil := ⟨fun F0 H0 s T σ H D' S h => h σ H S⟩
theorem sm_seq (h1 : SM K C E t a) (h2 : SM K C E u b) : SM K C E (tSeq t u) (sSeq a b) := ⟨fun F0 H0 s T σ H D' S h =>
  h1.run F0 H0 s T σ H _ S (h.bind.mono fun o ho => by
    cases o with
    | nx s' => exact fun σ' H' S' => h2.run F0 H0 s' T σ' H' D' S' ho
    | rt d => exact ho
    | bk s' => exact ho
    | ct s' => exact ho)⟩
theorem sm_frz (h : SM K C E t m) : SM K C E t (sFrz m) := ⟨fun F0 H0 s T σ H D' S w => h.run F0 H0 s.frz T σ H D' S.frz w⟩
theorem sm_set {i : Nat} (h : EM K C E te me) : SM K C E (tAsg te (gName i)) (sSet i me) := ⟨fun F0 H0 s T σ H D' S w => by
  obtain ⟨P, T1, t1, mu, S1⟩ := S
  refine h.run F0 H0 s.g P T1 σ H _ S1 (w.bind.mono fun d hd v H' S2 => ?_)
  obtain ⟨P', p1, p2⟩ := SSm.set S2 (mu.mono fun z hz => List.mem_cons_of_mem _ hz) (i := i) List.mem_cons_self
  exact hd _ _ ⟨P', _, fun x hx => List.mem_cons_of_mem _ (t1 x hx), p1, p2⟩⟩
theorem two_set {i j : Nat} {F0 H0 : Hp} {s : Sta} {P : List (Addr × List V)} {T1 : List (V × D)} {σ : L2.St} {H : Hp} {v w : V} {a b : D} (S : SS ⟨K, C, F0, H0⟩ s.g P T1 σ H) (mu : MuOk s.mu s.g P T1 σ) (h1 : (v, a) ∈ T1) (h2 : (w, b) ∈ T1) {T : List (V × D)} (t : ∀ x ∈ T, x ∈ T1) :
    SSm ⟨K, C, F0, H0⟩ ((s.set i a).set j b) T ((σ.set i (some v)).set j (some w)) H := by
  obtain ⟨P1, p1, p2⟩ := SSm.set S mu (i := i) h1
  obtain ⟨P2, p3, p4⟩ := SSm.set (s := s.set i a) p2 p1 (i := j) h2
  exact ⟨P2, T1, t, p3, p4⟩
theorem sm_set2 {i j : Nat} (h : EM K C E te me) : SM K C E (tAsg te ((Tg.two i j).g K)) (sSet2 i j me) := ⟨fun F0 H0 s T σ H D' S w => by
  obtain ⟨P, T1, t1, mu, S1⟩ := S
  refine h.run F0 H0 s.g P T1 σ H _ S1 (w.bind.mono fun d hd v H' S2 => ?_)
  split at hd
  · rename_i a b
    obtain ⟨p, vs, rfl, hp, al, S3⟩ := S2.openT List.mem_cons_self
    cases al with
    | cons r1 q1 =>
      cases q1 with
      | cons r2 q2 =>
        cases q2
        exact ⟨p, _, rfl, .inl (.inl hp), rfl, _, _, rfl, _, _, rfl, rfl, hd _ _ (two_set S3 (mu.mono fun z hz => List.mem_append_right _ (List.mem_cons_of_mem _ hz)) r1 r2 fun x hx => List.mem_append_right _ (List.mem_cons_of_mem _ (t1 x hx)))⟩
  · exact hd.elim⟩
theorem sm_new {i : Nat} {ms : G → Rs (List D)} (h : LM K C E te ms) : SM K C E (tAsg te (gName i)) (sNew i ms) := ⟨fun F0 H0 s T σ H D' S w => by
  obtain ⟨P, T1, t1, mu, S1⟩ := S
  refine h.run F0 H0 s.g P T1 σ H _ S1 (w.bind.mono fun ds hd p vs T' H' ht al hp S2 => ?_)
  split at hd
  · rename_i hi
    have S3 := (S2.set0 (i := i) (o := some (.ref p))).subP (P' := [(p, vs)]) fun x hx => by
      rw [List.mem_singleton] at hx
      rw [hx]
      exact List.mem_cons_self
    have hl : σ.length = s.g.length := by
      obtain ⟨F, f⟩ := S2
      exact f.ln
    refine hd _ _ ⟨_, T', fun x hx => ht x (t1 x hx), ⟨p, vs, rfl, ?_, al, ?_⟩, S3⟩
    · rw [List.getElem?_set_self (by rw [hl]; exact hi)]
    · rw [List.getElem?_set_self hi]
  · exact hd.elim⟩
theorem al_set {T : List (V × D)} {v : V} {d : D} (hv : (v, d) ∈ T) : ∀ {vs : List V} {ds : List D} (n : Nat), Al T vs ds → Al T (vs.set n v) (ds.set n d)
  | _, _, _, .nil => .nil
  | _, _, 0, .cons _ t => .cons hv t
  | _, _, n + 1, .cons r t => .cons r (al_set hv n t)
theorem sm_app {i : Nat} (h : EM K C E te me) : SM K C E (tDrop (tBM K "list" rAppend (tVar i) (tCons te tNil))) (sApp i me) := ⟨fun F0 H0 s T σ H D' S w => by
  obtain ⟨P, T1, t1, mu, S1⟩ := S
  unfold sApp at w
  cases e : s.mu with
  | none =>
    rw [e] at w
    exact w.elim
  | some q =>
    obtain ⟨j, ds⟩ := q
    rw [e] at w mu
    dsimp only at w
    split at w
    · rename_i hc
      obtain ⟨rfl, hl⟩ := hc
      obtain ⟨p, vs, h1, h2, h3, h4⟩ := mu
      subst h1
      refine ⟨.ref p, h2, .inl ⟨rfl, vs, .inl (.inl S1.cell)⟩, ?_⟩
      refine h.run F0 H0 s.g _ T1 σ H _ S1 (w.bind.mono fun d hd v H' S2 => ?_)
      refine ⟨p, vs, v, rfl, rfl, S2.cell, by rw [h3.len]; exact lim_lt hl, ?_⟩
      refine hd _ _ ⟨[(p, vs ++ [v])], _, fun x hx => List.mem_cons_of_mem _ (t1 x hx), ⟨p, _, rfl, h2, al_snoc List.mem_cons_self (h3.mono fun z hz => List.mem_cons_of_mem _ hz), h4⟩, S2.write fun x hx => by cases hx⟩
    · exact w.elim⟩
theorem sm_if (hc : TM K C E tt mc) (h1 : SM K C E t a) (h2 : SM K C E u b) : SM K C E (tIfS tt t u) (sIf mc a b) := ⟨fun F0 H0 s T σ H D' S w => by
  obtain ⟨P, T1, t1, mu, S1⟩ := S
  refine hc.run F0 H0 s.g P T1 σ H _ S1 (w.bind.mono fun x hx H' S2 => ?_)
  cases x with
  | true => exact h1.run F0 H0 s T σ H' D' ⟨P, T1, t1, mu, S2⟩ hx
  | false => exact h2.run F0 H0 s T σ H' D' ⟨P, T1, t1, mu, S2⟩ hx⟩
theorem sm_ret (h : EM K C E te me) : SM K C E (tRet te) (sRet me) := ⟨fun F0 H0 s T σ H D' S w => by
  obtain ⟨P, T1, t1, mu, S1⟩ := S
  exact h.run F0 H0 s.g P T1 σ H _ S1 (w.bind.mono fun d hd v H' S2 => hd v H' _ _ _ _ S2)⟩
theorem sm_exp (h : EM K C E te me) : SM K C E (tDrop te) (sExp me) := ⟨fun F0 H0 s T σ H D' S w => by
  obtain ⟨P, T1, t1, mu, S1⟩ := S
  exact h.run F0 H0 s.g P T1 σ H _ S1 (w.bind.mono fun d hd v H' S2 => hd σ H' ⟨P, _, fun x hx => List.mem_cons_of_mem _ (t1 x hx), mu.mono fun z hz => List.mem_cons_of_mem _ hz, S2⟩)⟩
theorem sm_raise {c : Addr} : SM K C E (fun _ _ H => E (.ref c) none H) (sRaise c) := ⟨fun F0 H0 s T σ H D' S w => by
  obtain ⟨P, T1, t1, mu, F, f⟩ := S
  exact w H f.e0⟩
theorem paired_in {T1 : List (V × D)} {ps : List (Nat × D)} {qs : List (Nat × V)} (r : Paired (fun (p : Nat × D) (q : Nat × V) => p.1 = q.1 ∧ (q.2, p.2) ∈ T1) ps qs) : ∀ q ∈ qs, ∃ p ∈ ps, p.1 = q.1 := by
  induction r with
  | nil =>
    intro q hq
    cases hq
  | cons h1 t ih =>
    intro q hq
    rcases List.mem_cons.mp hq with e | e
    · subst e
      exact ⟨_, List.mem_cons_self, h1.1⟩
    · obtain ⟨p, hp, e2⟩ := ih q e
      exact ⟨p, List.mem_cons_of_mem _ hp, e2⟩
theorem SSm.sets {F0 H0 : Hp} {s : Sta} {P : List (Addr × List V)} {T1 T : List (V × D)} {σ : L2.St} {H : Hp} {ps : List (Nat × D)} {qs : List (Nat × V)} (S : SS ⟨K, C, F0, H0⟩ s.g P T1 σ H) (mu : MuOk s.mu s.g P T1 σ) (hf : ∀ j ds, s.mu = some (j, ds) → ∀ p ∈ ps, p.1 ≠ j)
    (r : Paired (fun (p : Nat × D) (q : Nat × V) => p.1 = q.1 ∧ (q.2, p.2) ∈ T1) ps qs) (t : ∀ x ∈ T, x ∈ T1) : SSm ⟨K, C, F0, H0⟩ (s.sets ps) T (setsS σ qs) H := by
  obtain ⟨T2, t2, sl, S2⟩ := S.slots
  have r2 : Paired (fun (p : Nat × D) (q : Nat × V) => p.1 = q.1 ∧ (q.2, p.2) ∈ T2) ps qs := Paired.mapP r fun a b h => ⟨h.1, t2 _ h.2⟩
  refine ⟨P, T2, fun x hx => t2 x (t x hx), ?_, S2.reslot (sl.sets r2)⟩
  have mu2 := mu.mono t2
  unfold MuOk at mu2 ⊢
  show match s.mu with | none => _ | some (i, ds) => _
  split
  · rename_i e
    rw [e] at mu2
    exact mu2
  · rename_i j ds e
    rw [e] at mu2
    obtain ⟨p, vs, h1, h2, h3, h4⟩ := mu2
    have hn := hf j ds e
    refine ⟨p, vs, h1, setsS_get (fun q hq z => ?_) h2, h3, setsG_get hn h4⟩
    obtain ⟨p, hp, e2⟩ := paired_in r q hq
    exact hn p hp (e2.trans z)
theorem sm_for {tg : Tg} {ks : List Nat} (hi : IM K C E wi mi) (hb : SM K C E t b) : SM K C E (tFor wi (tg.g K) t) (sFor mi tg ks b) := ⟨fun F0 H0 s T σ H D' S w => by
  obtain ⟨P, T1, t1, mu, S1⟩ := S
  refine hi.run F0 H0 s.g P T1 σ H _ S1 (w.bind.mono fun ds hd J T2 H1 ht2 S2 wk => ?_)
  have S3 : SSm ⟨K, C, F0, H0⟩ s T2 σ H1 := ⟨P, T2, fun _ z => z, mu.mono ht2, S2⟩
  refine ⟨fun i n σ' H' => ∃ s', i ≤ ds.length ∧ n = ds.length - i ∧ SSm ⟨K, C, F0, H0⟩ s' T2 σ' H' ∧ Wish H0 E (forGo tg ks b (ds.drop i) s') (Post K C F0 H0 T D'), ⟨ds.length, s.kill ks, Nat.zero_le _, rfl, S3.kill ks, by rw [List.drop_zero]; exact hd⟩, ?_⟩
  rintro i n σ' H' ⟨s', hil, rfl, S4, w4⟩
  obtain ⟨P4, T4, t4, mu4, S5⟩ := S4
  obtain ⟨wk1, wk2⟩ := wk i s'.g P4 T4 σ' H' t4 S5
  by_cases hlt : i < ds.length
  · obtain ⟨go, yl⟩ := wk1 ds[i] (List.getElem?_eq_getElem hlt)
    rw [List.drop_eq_getElem_cons hlt] at w4
    refine .inr ⟨go, fun σ'' H'' => ∃ s'', SSm ⟨K, C, F0, H0⟩ s'' T2 σ'' H'' ∧ Wish H0 E (forGo tg ks b (ds.drop (i + 1)) s'') (Post K C F0 H0 T D'), ?_, ?_⟩
    · rintro σ'' H'' ⟨s'', a1, a2⟩
      exact ⟨ds.length - (i + 1), by omega, s'', hlt, rfl, a1, a2⟩
    · intro x H5 y
      have S6 := yl x H5 y
      refine Tg.run (E := E) (g0 := s'.g) (σ0 := σ') tg S6 List.mem_cons_self ?_
      have w0 := w4.bind
      cases ep : tg.put' ds[i] with
      | ex c r =>
        rw [ep] at w0
        exact w0
      | no =>
        rw [ep] at w0
        exact w0
      | ok ps =>
        rw [ep] at w0
        intro qs T6 t6 pr S7
        have w1 : Wish H0 E (if muFree s'.mu tg.slots = true then _ else _) _ := w0
        split at w1
        · rename_i hf
          have S8 : SSm ⟨K, C, F0, H0⟩ (s'.sets ps) T2 (setsS σ' qs) H5 := SSm.sets S7 (mu4.mono fun z hz => t6 z (List.mem_cons_of_mem _ hz)) (fun j es e p hp => muFree_ne hf e _ (Tg.put_slots ep p hp)) pr fun x hx => t6 x (List.mem_cons_of_mem _ (t4 x hx))
          refine hb.run F0 H0 _ T2 _ H5 _ S8 (w1.bind.mono fun o ho => ?_)
          cases o with
          | nx s2 => exact fun σ7 H7 S9 => ⟨s2.kill ks, S9.kill ks, ho⟩
          | ct s2 => exact fun σ7 H7 S9 => ⟨s2.kill ks, S9.kill ks, ho⟩
          | bk s2 => exact fun σ7 H7 S9 => (show ∀ σ H, SSm ⟨K, C, F0, H0⟩ s2 T σ H → D'.nx σ H from ho) σ7 H7 (S9.sub fun x hx => ht2 x (t1 x hx))
          | rt d => exact ho
        · exact w1.elim
  · have e : i = ds.length := by omega
    refine .inl ⟨wk2 e, ?_⟩
    rw [List.drop_of_length_le (by omega)] at w4
    exact (show ∀ σ H, SSm ⟨K, C, F0, H0⟩ s' T σ H → D'.nx σ H from w4) σ' H' ⟨P4, T4, fun x hx => t4 x (ht2 x (t1 x hx)), mu4, S5⟩⟩
end
/-! ### defs -/
def startG (n : Nat) (ds : List D) : G := ds.map some ++ List.replicate (n - ds.length) none
def runM (n : Nat) (m : Sta → Rs Ou) (ds : List D) : Rs D := (m ⟨startG n ds, none⟩).bind fun o => match o with
  | .rt d => .ok d
  | .nx _ => .ok .non
  | _ => .no
theorem start_SS {K : PySem.W.Frag} {C : Addr} {F H : Hp} {N : List Str} {vs : List V} {ds : List D} (e : Same F H) (a : IsA K C F vs ds) : SS ⟨K, C, F, H⟩ (startG N.length ds) [] [] (L2.start N vs) H := by
  refine ⟨F, ⟨Same.refl F, e, Same.refl H, fun _ _ h => h, fun i d h => ?_, ?_, fun x hx => (by cases hx), fun x hx => (by cases hx)⟩⟩
  · unfold startG at h
    by_cases hi : i < ds.length
    · rw [List.getElem?_append_left (by rw [List.length_map]; exact hi), List.getElem?_map] at h
      cases q : ds[i]? with
      | none => rw [q] at h; cases h
      | some d0 =>
        rw [q] at h
        cases h
        obtain ⟨v, h1, h2⟩ := a.get q
        refine ⟨v, ?_, h2⟩
        unfold L2.start
        rw [List.getElem?_append_left (by rw [List.length_map, a.len]; exact hi), List.getElem?_map, h1]
        rfl
    · rw [List.getElem?_append_right (by rw [List.length_map]; omega), List.getElem?_replicate] at h
      split at h
      · cases h
      · cases h
  · unfold L2.start startG
    rw [List.length_append, List.length_append, List.length_map, List.length_map, List.length_replicate, List.length_replicate, a.len]
section
variable {P : Program} {w : World} {K : PySem.W.Frag} {mg : Str → Option Value} {base : Heap} {C : Addr}
/-- a def that nothing leaves -/
theorem def_ok {x qual : Str} {st : Stmt} {f : Addr} {fd : FuncData} {N ps : List Str} {k : Nat} {m : Sta → Rs Ou} (F : Fun K x qual st f fd) (S : FnScope N ps (defScope st))
    (hb : ∀ (cdv : Value) (A : Around) (outer : List Env) (s : Shared) (H : Hp) (E : XK), Room k (A.deeper (PyProof.Rows.envOfC qual (defScope st) s.heap.objs.size f cdv)) →
      ∃ t, PSSM (cxOf CX0 P w K mg base N qual (defScope st) f cdv A outer s H E).nox K C E0 (defBody st) t m) : FnOk P w K mg base CX0 (k + 1) f fd ps (spM K C ps.length fun ds => (runM N.length m ds).nx) := by
  refine F.ok S (fun vs H Q E h => ?_) (fun cdv A outer s H vs Q E hr h => ?_)
  · obtain ⟨_, _, _, _, h, _⟩ := h
    exact h
  · obtain ⟨F, ds, e, a, hl, h⟩ := h
    obtain ⟨t, pt⟩ := hb cdv A outer s H E hr
    refine ⟨t, pt.p, pt.q.run F H ⟨startG N.length ds, none⟩ [] _ H _ ⟨[], [], fun _ z => z, rfl, start_SS e a⟩ ?_⟩
    have h2 := (h.nx (E' := E0)).bind
    exact h2.mono fun o ho => by
      cases o with
      | rt d => exact fun v H' g P T' σ S => ho v H' g P T' σ S
      | nx s =>
        intro σ H' S
        obtain ⟨P, T', t, mu, S⟩ := S
        exact ho .non H' _ _ _ _ (S.addT fun _ _ => .non)
      | bk s => exact ho.elim
      | ct s => exact ho.elim
/-- a def that may raise -/
theorem def_okX {x qual : Str} {st : Stmt} {f : Addr} {fd : FuncData} {N ps : List Str} {k : Nat} {m : Sta → Rs Ou} (F : Fun K x qual st f fd) (S : FnScope N ps (defScope st))
    (hb : ∀ (cdv : Value) (A : Around) (outer : List Env) (s : Shared) (H : Hp) (E : XK), Room k (A.deeper (PyProof.Rows.envOfC qual (defScope st) s.heap.objs.size f cdv)) →
      ∃ t, PSSM (cxOf (L2.CX P w) P w K mg base N qual (defScope st) f cdv A outer s H E) K C E (defBody st) t m) : FnOk P w K mg base (L2.CX P w) (k + 1) f fd ps (spM K C ps.length (runM N.length m)) := by
  refine F.okX S (fun vs H Q E h => ?_) (fun cdv A outer s H vs Q E hr h => ?_)
  · obtain ⟨_, _, _, _, h, _⟩ := h
    exact h
  · obtain ⟨F, ds, e, a, hl, h⟩ := h
    obtain ⟨t, pt⟩ := hb cdv A outer s H E hr
    refine ⟨t, pt.p, pt.q.run F H ⟨startG N.length ds, none⟩ [] _ H _ ⟨[], [], fun _ z => z, rfl, start_SS e a⟩ ?_⟩
    exact h.bind.mono fun o ho => by
      cases o with
      | rt d => exact fun v H' g P T' σ S => ho v H' g P T' σ S
      | nx s =>
        intro σ H' S
        obtain ⟨P, T', t, mu, S⟩ := S
        exact ho .non H' _ _ _ _ (S.addT fun _ _ => .non)
      | bk s => exact ho.elim
      | ct s => exact ho.elim
end
end Z
set_option Elab.async false
set_option linter.all false
set_option maxRecDepth 100000
set_option maxHeartbeats 4000000
/-! Z, part D: for each construct the rule that gives the reading and the mirror at once. -/
namespace Z
set_option autoImplicit false
open PySem L2
abbrev qSub : R2 := rI0 fun i j => .int (i - j)
abbrev qMod : R2 := rI (fun _ j => 0 < j) fun i j => .int (i % j)
abbrev qDiv : R2 := rI CDiv fun i j => .int (i / j)
abbrev qNeg : V → Hp → VK → Prop := rU fun i => .int (-i)
abbrev qLt : R2 := rI0 fun i j => .bl (decide (i < j))
abbrev qLe : R2 := rI0 fun i j => .bl (decide (i ≤ j))
abbrev qGt : R2 := rI0 fun i j => .bl (decide (j < i))
section
variable {X : Cx} {K : PySem.W.Frag} {C : Addr} {E : XK} {e a b c : Expr} {es ifs : List Expr} {te ta tb tc : TE} {m ma mb mc : G → Rs D} {t : TA} {ms : G → Rs (List D)} {pos p p2 : Pos} {tt tA tB' : TT} {mt mA' mB' : G → Rs Bool}
/-! ### expressions -/
theorem x_v (i : Nat) {x : Str} (hN : X.N[i]? = some x := by rfl) (hv : Vis X.env.scope x := by first | exact Or.inl rfl | exact Or.inr (Or.inl rfl) | exact Or.inr (Or.inr rfl)) (hd : (x == ("__debug__" : Str)) = false := by decide)
    (hcd : (x == ("__classdict__" : Str)) = false := by decide) : PEM X K C E (.Name x pos) (tVar i) (mV i) := ⟨pe_var hN hv hd hcd, em_v i⟩
theorem x_int {i : Int} {j : Nat} : PEM X K C E (.Constant (.int i) j pos) (tC (.int i)) (mC (.int i)) := ⟨pe_int, em_c fun _ => .int i⟩
theorem x_bl {i : Bool} {j : Nat} : PEM X K C E (.Constant (.bool i) j pos) (tC (.bl i)) (mC (.bl i)) := ⟨pe_bl, em_c fun _ => .bl i⟩
theorem x_glob {x : Str} {n : Int} (hm : ∃ tk, X.mg x = some (.int n tk)) (hg : Gl X x := by rfl) (hd : (x == ("__debug__" : Str)) = false := by decide) : PEM X K C E (.Name x pos) (tC (.int n)) (mC (.int n)) := ⟨hm.elim fun tk h => pe_glob hg h ⟨tk, rfl⟩ hd, em_c fun _ => .int n⟩
theorem x_bin {op : Operator} {r : R2} {f : D → D → Option D} (ho : OpR X (binaryOp op) r) (hf : R2M K C r f) (ha : PEM X K C E a ta ma) (hb : PEM X K C E b tb mb) : PEM X K C E (.BinOp a op b pos) (tOp r ta tb) (m2 f ma mb) := ⟨pe_op ho ha.p hb.p, em_2 hf ha.q hb.q⟩
theorem x_add (ha : PEM X K C E a ta ma) (hb : PEM X K C E b tb mb) : PEM X K C E (.BinOp a .Add b pos) (tOp rAdd2 ta tb) (m2 dAdd ma mb) := x_bin (op_add.or op_cat) r_add ha hb
theorem x_sub (ha : PEM X K C E a ta ma) (hb : PEM X K C E b tb mb) : PEM X K C E (.BinOp a .Sub b pos) (tOp qSub ta tb) (m2 dSub ma mb) := x_bin op_sub r_sub ha hb
theorem x_mul (ha : PEM X K C E a ta ma) (hb : PEM X K C E b tb mb) : PEM X K C E (.BinOp a .Mult b pos) (tOp rMul2 ta tb) (m2 dMul ma mb) := x_bin (op_mul.or op_rep) r_mul ha hb
theorem x_mod (ha : PEM X K C E a ta ma) (hb : PEM X K C E b tb mb) : PEM X K C E (.BinOp a .Mod b pos) (tOp qMod ta tb) (m2 dMod ma mb) := x_bin op_mod r_mod ha hb
theorem x_div (ha : PEM X K C E a ta ma) (hb : PEM X K C E b tb mb) : PEM X K C E (.BinOp a .FloorDiv b pos) (tOp qDiv ta tb) (m2 dDiv ma mb) := x_bin op_fdiv r_div ha hb
theorem x_neg (ha : PEM X K C E a ta ma) : PEM X K C E (.UnaryOp .USub a pos) (tUn qNeg ta) (m1 dNeg ma) := ⟨pe_un un_neg ha.p, em_1 r_neg ha.q⟩
theorem x_cmp {op : CmpOp} {r : R2} {f : D → D → Option D} (ho : OpR X (compareOp op) r) (hf : R2M K C r f) (hm : behindInMarks op b = false) (ha : PEM X K C E a ta ma) (hb : PEM X K C E b tb mb) : PEM X K C E (.Compare a [op] [b] pos) (tOp r ta tb) (m2 f ma mb) := ⟨pe_cmpR ho ha.p hb.p hm, em_2 hf ha.q hb.q⟩
theorem x_eq (hu : X.A.units + 64 < cLine) (ha : PEM X K C E a ta ma) (hb : PEM X K C E b tb mb) (hK : X.K = K := by rfl) : PEM X K C E (.Compare a [.Eq] [b] pos) (tOp (rEqD K) ta tb) (m2 dEq ma mb) := by
  subst hK
  exact x_cmp (op_eqD hu) r_eq (nomark _) ha hb
theorem x_chLeLe (ha : PEM X K C E a ta ma) (hb : PEM X K C E b tb mb) (hc : PEM X K C E c tc mc) (hm : lastMarks [.LtE, .LtE] [b, c] = false := by with_unfolding_all rfl) : PEM X K C E (.Compare a [.LtE, .LtE] [b, c] pos) (tChain qLe qLe ta tb tc) (mCh dLe dLe ma mb mc) := ⟨pe_chain op_le op_le ha.p hb.p hc.p hm, em_ch r_le r_le ha.q hb.q hc.q⟩
theorem x_ix (ha : PEM X K C E a ta ma) (hb : PEM X K C E b tb mb) (hs : PlainIx b := by exact fun _ _ => rfl) (hK : X.K = K := by rfl) : PEM X K C E (.Subscript a b pos) (tOp (rIx2 K) ta tb) (m2 dIx ma mb) := by
  subst hK
  exact ⟨pe_ix (ix_list.or ix_tup) ha.p hb.p hs, em_2 r_ix ha.q hb.q⟩
theorem o_n : POM X K C E none tNoPart mN := ⟨po_none, om_n⟩
theorem o_s (ha : PEM X K C E a ta ma) : POM X K C E (some a) (tPart ta) (mS ma) := ⟨po_some ha.p, om_s ha.q⟩
theorem x_sl {lo hi : Option Expr} {tl th : TO} {ml mh : G → Rs (Option Int)} (ha : PEM X K C E a ta ma) (hl : POM X K C E lo tl ml) (hh : POM X K C E hi th mh) (hK : X.K = K := by rfl) : PEM X K C E (.Subscript a (.Slice lo hi none p2) pos) (tSl (rSlL K) ta tl th) (mSl ma ml mh) := by
  subst hK
  exact ⟨pe_slice sl_list ha.p hl.p hh.p, em_sl ha.q hl.q hh.q⟩
/-! ### arguments, displays -/
theorem a_nil : PAM X K C E [] tNil mNil := ⟨pa_nil, am_nil⟩
theorem a_cons (ha : PEM X K C E e te m) (hr : PAM X K C E es t ms) (hs : starEach (e :: es) X.env = (false, eval e X.env) :: starEach es X.env := by rfl) : PAM X K C E (e :: es) (tCons te t) (mCons m ms) := ⟨pa_cons ha.p hr.p hs, am_cons ha.q hr.q⟩
theorem mNil_len : ∀ (g : G) ds, mNil g = .ok ds → ds.length = 0 := fun g ds h => by cases h; rfl
theorem mCons_len {n : Nat} (h : ∀ (g : G) ds, ms g = .ok ds → ds.length = n) : ∀ (g : G) ds, mCons m ms g = .ok ds → ds.length = n + 1 := fun g ds q => by
  unfold mCons at q
  cases e1 : m g with
  | ok x =>
    rw [e1] at q
    cases e2 : ms g with
    | ok xs =>
      rw [Rs.bind_ok, e2, Rs.bind_ok] at q
      cases q
      exact congrArg Nat.succ (h g xs e2)
    | ex c r => rw [Rs.bind_ok, e2] at q; cases q
    | no => rw [Rs.bind_ok, e2] at q; cases q
  | ex c r => rw [e1] at q; cases q
  | no => rw [e1] at q; cases q
theorem len_le {n : Nat} (h : ∀ (g : G) ds, ms g = .ok ds → ds.length = n) (hn : n ≤ 1000) : ∀ (g : G) ds, ms g = .ok ds → ds.length ≤ 1000 := fun g ds q => by rw [h g ds q]; exact hn
theorem x_tup {n : Nat} {k : Nat} (hn : n ≤ 1000) (ha : PAM X K C E es t ms) (hl : ∀ (g : G) ds, ms g = .ok ds → ds.length = n) : PEM X K C E (.Tuple es k pos) (tTup t) (mTup ms) := ⟨pe_tup ha.p, em_tup ha.q (len_le hl hn)⟩
/-- a display of a list, not frozen yet; frozen -/
theorem l_lst {n : Nat} (hn : n ≤ 1000) (ha : PAM X K C E es t ms) (hl : ∀ (g : G) ds, ms g = .ok ds → ds.length = n) : PLM X K C E (.List es pos) (tLst t) ms := ⟨pe_lst ha.p, lm_lst ha.q (len_le hl hn)⟩
theorem x_l (h : PLM X K C E e te ms) : PEM X K C E e te (mLst ms) := ⟨h.p, em_l h.q⟩
/-! ### built-ins -/
theorem x_cb {x : Str} {id : String} {r : List V → Hp → VK → Prop} {f : List D → Option D} (hc : CallR X (.builtin id) r) (hf : RAM K C r f) (hm : X.mg x = none) (hv : bootBuiltins x = some (.builtin id)) (ha : PAM X K C E (e :: es) t ms) (hg : Gl X x := by rfl) (hn : x ≠ "__name__" := by decide) (hdb : (x == ("__debug__" : Str)) = false := by decide)
    (he : starEach (e :: es) X.env = (false, eval e X.env) :: starEach es X.env := by rfl) (hpl : (backTo pos (starEach es X.env)).any (·.1) = false := by rfl) : PEM X K C E (.Call (.Name x p) (e :: es) [] pos) (tCB r t) (mA f ms) := ⟨pe_callB hc hg hm hv ha.p hn hdb he hpl, em_cb hf ha.q⟩
theorem x_ct {x : Str} {T : String} {r : List V → Hp → VK → Prop} {f : List D → Option D} (hc : CallR X (.type T) r) (hf : RAM K C r f) (hm : X.mg x = none) (hv : bootBuiltins x = some (.type T)) (ha : PAM X K C E (e :: es) t ms) (hg : Gl X x := by rfl) (hn : x ≠ "__name__" := by decide) (hdb : (x == ("__debug__" : Str)) = false := by decide)
    (he : starEach (e :: es) X.env = (false, eval e X.env) :: starEach es X.env := by rfl) (hpl : (backTo pos (starEach es X.env)).any (·.1) = false := by rfl) : PEM X K C E (.Call (.Name x p) (e :: es) [] pos) (tCB r t) (mA f ms) := ⟨pe_callTy hc hg hm hv ha.p hn hdb he hpl, em_cb hf ha.q⟩
/-! the built-ins by name -/
section
variable {x1 : Expr}
theorem x_len (hm : X.mg "len" = none) (ha : PAM X K C E (e :: es) t ms) (hg : Gl X "len" := by rfl) (he : starEach (e :: es) X.env = (false, eval e X.env) :: starEach es X.env := by rfl) (hpl : (backTo pos (starEach es X.env)).any (·.1) = false := by rfl) (hK : X.K = K := by rfl) : PEM X K C E (.Call (.Name "len" p) (e :: es) [] pos) (tCB (rLenS K) t) (mA dLen ms) := by
  subst hK
  exact x_cb call_len_seq r_len hm PySem.boot_len ha hg (by decide) (by decide) he hpl
theorem x_all (hc : X.calm = true) (hm : X.mg "all" = none) (ha : PAM X K C E (e :: es) t ms) (hg : Gl X "all" := by rfl) (he : starEach (e :: es) X.env = (false, eval e X.env) :: starEach es X.env := by rfl) (hpl : (backTo pos (starEach es X.env)).any (·.1) = false := by rfl) (hK : X.K = K := by rfl) : PEM X K C E (.Call (.Name "all" p) (e :: es) [] pos) (tCB (rAll K) t) (mA dAll ms) := by
  subst hK
  exact x_cb (cr_all hc) r_all hm (by decide +kernel) ha hg (by decide) (by decide) he hpl
theorem x_list (hm : X.mg "list" = none) (ha : PAM X K C E (e :: es) t ms) (hg : Gl X "list" := by rfl) (he : starEach (e :: es) X.env = (false, eval e X.env) :: starEach es X.env := by rfl) (hpl : (backTo pos (starEach es X.env)).any (·.1) = false := by rfl) (hK : X.K = K := by rfl) : PEM X K C E (.Call (.Name "list" p) (e :: es) [] pos) (tCB (rListS K) t) (mA dList ms) := by
  subst hK
  exact x_ct call_list_of r_list hm (by decide +kernel) ha hg (by decide) (by decide) he hpl
end
/-! ### tests -/
theorem y_cmp {op : CmpOp} {r : R2} {f : D → D → Option D} (ho : OpR X (compareOp op) r) (hf : R2M K C r f) (hm : behindInMarks op b = false) (ha : PEM X K C E a ta ma) (hb : PEM X K C E b tb mb) : PTM X K C E (.Compare a [op] [b] pos) (tTest (tOp r ta tb)) (mT (m2 f ma mb)) := ⟨pt_cmpR ho ha.p hb.p hm, tm_t (em_2 hf ha.q hb.q)⟩
theorem y_lt (ha : PEM X K C E a ta ma) (hb : PEM X K C E b tb mb) : PTM X K C E (.Compare a [.Lt] [b] pos) (tTest (tOp qLt ta tb)) (mT (m2 dLt ma mb)) := y_cmp op_lt r_lt (nomark _) ha hb
theorem y_gt (ha : PEM X K C E a ta ma) (hb : PEM X K C E b tb mb) : PTM X K C E (.Compare a [.Gt] [b] pos) (tTest (tOp qGt ta tb)) (mT (m2 dGt ma mb)) := y_cmp op_gt r_gt (nomark _) ha hb
theorem y_eq (hu : X.A.units + 64 < cLine) (ha : PEM X K C E a ta ma) (hb : PEM X K C E b tb mb) (hK : X.K = K := by rfl) : PTM X K C E (.Compare a [.Eq] [b] pos) (tTest (tOp (rEqD K) ta tb)) (mT (m2 dEq ma mb)) := by
  subst hK
  exact y_cmp (op_eqD hu) r_eq (nomark _) ha hb
theorem y_ne (hu : X.A.units + 64 < cLine) (ha : PEM X K C E a ta ma) (hb : PEM X K C E b tb mb) (hK : X.K = K := by rfl) : PTM X K C E (.Compare a [.NotEq] [b] pos) (tTest (tOp (rNeD K) ta tb)) (mT (m2 dNe ma mb)) := by
  subst hK
  exact y_cmp (op_neD hu) r_ne (nomark _) ha hb
theorem y_in (ha : PEM X K C E a ta ma) (hb : PEM X K C E b tb mb) (hm : behindInMarks .In b = false := by rfl) (hK : X.K = K := by rfl) : PTM X K C E (.Compare a [.In] [b] pos) (tTest (tOp (rIn K false) ta tb)) (mT (m2 dIn ma mb)) := by
  subst hK
  exact y_cmp op_in_seq r_in hm ha hb
theorem y_ni (ha : PEM X K C E a ta ma) (hb : PEM X K C E b tb mb) (hm : behindInMarks .NotIn b = false := by rfl) (hK : X.K = K := by rfl) : PTM X K C E (.Compare a [.NotIn] [b] pos) (tTest (tOp (rIn K true) ta tb)) (mT (m2 dNi ma mb)) := by
  subst hK
  exact y_cmp op_notIn_seq r_ni hm ha hb
theorem y_chLeLe (ha : PEM X K C E a ta ma) (hb : PEM X K C E b tb mb) (hc : PEM X K C E c tc mc) (hm : lastMarks [.LtE, .LtE] [b, c] = false := by with_unfolding_all rfl) : PTM X K C E (.Compare a [.LtE, .LtE] [b, c] pos) (tTest (tChain qLe qLe ta tb tc)) (mT (mCh dLe dLe ma mb mc)) := ⟨pt_chain op_le op_le ha.p hb.p hc.p hm, tm_t (em_ch r_le r_le ha.q hb.q hc.q)⟩
theorem y_val (h : PEM X K C E e te m) (he : ∀ whole, isTrue e X.env whole = (do let v ← whole; standAt e.pos; holding [v] (truthy v)) := by intro _; rfl) : PTM X K C E e (tB te) (mT m) := ⟨pt_val h.p he, tm_b h.q⟩
theorem y_not (h : PTM X K C E a tt mt) : PTM X K C E (.UnaryOp .Not a pos) (tNot tt) (mNot mt) := ⟨pt_not h.p, tm_not h.q⟩
theorem w_or1 (h : PTM X K C E a tt mt) : PWM X K C E (.BoolOp .Or [a] pos) tt mt := ⟨pw_or1 h.p, h.q⟩
theorem w_or (h : PTM X K C E a tA mA') (h2 : PWM X K C E (.BoolOp .Or (b :: es) pos) tB' mB') : PWM X K C E (.BoolOp .Or (a :: b :: es) pos) (tOr tA tB') (mOr mA' mB') := ⟨pw_or h.p h2.p, tm_or h.q h2.q⟩
theorem y_w (h : PWM X K C E e tt mt) : PTM X K C E e tt mt := ⟨h.p.pt, h.q⟩
/-! ### and, or, not as values; conditional -/
theorem x_if (h : PTM X K C E c tt mt) (ha : PEM X K C E a ta ma) (hb : PEM X K C E b tb mb) : PEM X K C E (.IfExp c a b pos) (tIf tt ta tb) (mIf mt ma mb) := ⟨pe_ifExp h.p ha.p hb.p, em_if h.q ha.q hb.q⟩
/-! ### calls of the program's defs -/
theorem x_call {x : Str} {k n : Nat} {f : Addr} {fd : FuncData} {ps : List Str} {φ : List D → Rs D} (hn : ∀ (g : G) ds, ms g = .ok ds → ds.length = n) (F : FnOk X.prog X.w K X.mg X.base CX0 k f fd ps (spM K C n φ)) (hr : Room k X.A) (hm : X.mg x = some (.ref f)) (hk : PySem.W.keepIn K (.ref f) = true) (hb : Binds K fd ps [])
    (ha : PAM X K C E (e :: es) t ms) (hg : Gl X x := by rfl) (hdb : (x == ("__debug__" : Str)) = false := by decide) (he : starEach (e :: es) X.env = (false, eval e X.env) :: starEach es X.env := by rfl) (hpl : (backTo pos (starEach es X.env)).any (·.1) = false := by rfl) (hK : X.K = K := by rfl) :
    PEM X K C E (.Call (.Name x p) (e :: es) [] pos) (tCall (spM K C n φ) [] E0 t) (mCall (fun ds => (φ ds).nx) ms) := by
  subst hK
  exact ⟨pe_call F hr hg hm hk hb .nil pass0 ha.p hdb he hpl, em_call0 hn ha.q⟩
/-- a def that may raise, called in a def that may raise -/
theorem x_callX {x : Str} {k n : Nat} {f : Addr} {fd : FuncData} {ps : List Str} {φ : List D → Rs D} (hn : ∀ (g : G) ds, ms g = .ok ds → ds.length = n) (hx : Passes (L2.CX X.prog X.w) X E) (F : FnOk X.prog X.w K X.mg X.base (L2.CX X.prog X.w) k f fd ps (spM K C n φ)) (hr : Room k X.A) (hm : X.mg x = some (.ref f)) (hk : PySem.W.keepIn K (.ref f) = true) (hb : Binds K fd ps [])
    (ha : PAM X K C E (e :: es) t ms) (hg : Gl X x := by rfl) (hdb : (x == ("__debug__" : Str)) = false := by decide) (he : starEach (e :: es) X.env = (false, eval e X.env) :: starEach es X.env := by rfl) (hpl : (backTo pos (starEach es X.env)).any (·.1) = false := by rfl) (hK : X.K = K := by rfl) :
    PEM X K C E (.Call (.Name x p) (e :: es) [] pos) (tCall (spM K C n φ) [] E t) (mCall φ ms) := by
  subst hK
  exact ⟨pe_call F hr hg hm hk hb .nil hx ha.p hdb he hpl, em_call hn ha.q⟩
/-! ### what is walked -/
variable {tg iter : Expr} {wi : TI} {mi : G → Rs (List D)}
theorem i_list (ha : PEM X K C E a ta ma) (hK : X.K = K := by rfl) : PIM X K C E tg a (iList K ta) (mItems ma) := by
  subst hK
  exact ⟨pi_list ha.p, im_list ha.q⟩
theorem i_rng1 (hm : X.mg "range" = none) (ha : PAM X K C E [a] t ms) (hg : Gl X "range" := by rfl) (hs : starEach [a] X.env = [(false, eval a X.env)] := by rfl) : PIM X K C E tg (.Call (.Name "range" p) [a] [] pos) (iRng1 t) (mRng1 ms) := ⟨pi_range1 hg hm ha.p hs, im_rng1 ha.q⟩
theorem i_enum {elts : List Expr} {kk : Nat} {tpos : Pos} (hm : X.mg "enumerate" = none) (ha : PAM X K C E [a] t ms) (hg : Gl X "enumerate" := by rfl) (hs : starEach [a] X.env = [(false, eval a X.env)] := by rfl) (hK : X.K = K := by rfl) : PIM X K C E (.Tuple elts kk tpos) (.Call (.Name "enumerate" p) [a] [] pos) (iEnum K t) (mEnum ms) := by
  subst hK
  exact ⟨pi_enum hg hm ha.p hs, im_enum ha.q⟩
/-! ### targets -/
theorem g_one {i : Nat} {x : Str} (hN : X.N.Nodup) (hi : X.N[i]? = some x) (hx : Loc X.env.scope x) (hf : X.fn x = true ∨ X.env.scope.names.lookup x = some .local := by first | exact .inl rfl | exact .inr rfl | assumption) (hK : X.K = K := by rfl) : PG X (.Name x pos) ((Tg.one i).g K) := by
  subst hK
  exact pg_name hN hi hx hf
theorem g_two {i j k : Nat} {x y : Str} {px py : Pos} (hN : X.N.Nodup) (hi : X.N[i]? = some x) (hj : X.N[j]? = some y) (hx : Loc X.env.scope x) (hy : Loc X.env.scope y) (hc : X.calm = true) (hf : X.fn x = true ∨ X.env.scope.names.lookup x = some .local := by first | exact .inl rfl | exact .inr rfl | assumption) (hf2 : X.fn y = true ∨ X.env.scope.names.lookup y = some .local := by first | exact .inl rfl | exact .inr rfl | assumption)
    (hs : (assignEach [.Name x px, .Name y py] X.env).map (·.2) = assign (.Name x px) X.env :: (assignEach [.Name y py] X.env).map (·.2) := by rfl) (hs2 : (assignEach [.Name y py] X.env).map (·.2) = assign (.Name y py) X.env :: (assignEach [] X.env).map (·.2) := by rfl)
    (hn : (assignEach [.Name x px, .Name y py] X.env).length = 2 := by rfl) (hst : (assignEach [.Name x px, .Name y py] X.env).findIdx? (·.1) = none := by rfl) (hK : X.K = K := by rfl) : PG X (.Tuple [.Name x px, .Name y py] k pos) ((Tg.two i j).g K) := by
  subst hK
  exact pg_tup hc (pgs_cons (pg_name hN hi hx hf) (pgs_cons (pg_name hN hj hy hf2) pgs_nil hs2) hs) hn hst
/-! ### comprehensions -/
structure PTsM (X : Cx) (K : PySem.W.Frag) (C : Addr) (E : XK) (ifs : List Expr) (tt : TT) (m : G → Rs Bool) : Prop where
  p : PTs X ifs tt
  q : TM K C E tt m
theorem ts_nil : PTsM X K C E [] tYes mYes := ⟨pts_nil, tm_yes⟩
theorem l_lc {elt : Expr} {scope : Scope} {own : List (Str × Nat)} {vs : List Nat} {T : Tg} {me : G → Rs D} {mc : G → Rs Bool} (hvs : own.map (·.2) = vs) (hc : X.calm = true) (hN : X.N.Nodup) (hi : PIM X K C E tg iter wi mi) (ok : BlkOk X.N X.env.scope scope own)
    (hg : ∀ (s : Shared) (H : Hp) (Cc : Addr) (cl : List (Str × Addr)) (fp : List Addr), PG (X.blk s H scope (compEnvC scope cl Cc X.env) fp) tg (T.g K)) (ht : ∀ (s : Shared) (H : Hp) (Cc : Addr) (cl : List (Str × Addr)) (fp : List Addr), PTsM (X.blk s H scope (compEnvC scope cl Cc X.env) fp) K C E0 ifs tt mc)
    (he : ∀ (s : Shared) (H : Hp) (Cc : Addr) (cl : List (Str × Addr)) (fp : List Addr), PEM (X.blk s H scope (compEnvC scope cl Cc X.env) fp) K C E0 elt te me) (hv : ∀ i ∈ T.slots, i ∈ vs) (hs : ∀ x, foldedSetIterable iter X.env x = pure x := by intro _; rfl) (hK : X.K = K := by rfl) :
    PLM X K C E (.ListComp elt [⟨tg, iter, ifs, 0⟩] scope pos) (tLc wi (T.g K) tt te vs) (mLc vs mi T mc me) := by
  subst hK
  subst hvs
  exact ⟨pe_lc hc hN hi.p ok hg (fun s H Cc cl fp => (ht s H Cc cl fp).p) (fun s H Cc cl fp => (he s H Cc cl fp).p) hs, lm_lc hi.q (ht X.s_0 (fun _ => none) 0 [] []).q (he X.s_0 (fun _ => none) 0 [] []).q hv⟩
/-! ### statements -/
variable {st st2 : Stmt} {sts sts2 : List Stmt} {tS uS : TS} {sS sU : Sta → Rs Ou}
theorem z_nil : PSSM X K C E [] tNext sNil := ⟨pss_nil, sm_nil⟩
theorem z_cons (h : PSM X K C E st tS sS) (h2 : PSSM X K C E sts uS sU) : PSSM X K C E (st :: sts) (tSeq tS uS) (sSeq sS sU) := ⟨pss_cons h.p h2.p, sm_seq h.q h2.q⟩
theorem z_frz (h : PSM X K C E st tS sS) : PSM X K C E st tS (sFrz sS) := ⟨h.p, sm_frz h.q⟩
theorem z_set {i : Nat} {x : Str} {pos' : Pos} (hN : X.N.Nodup) (hi : X.N[i]? = some x) (hx : Loc X.env.scope x) (he : PEM X K C E e te m) (hs : swapsWith e (some (.Name x pos')) pos.line X.env = pure false := by rfl) (hf : X.fn x = true ∨ X.env.scope.names.lookup x = some .local := by first | exact .inl rfl | exact .inr rfl | assumption) :
    PSM X K C E (.Assign [.Name x pos'] e pos) (tAsg te (gName i)) (sSet i m) := ⟨ps_set hN hi hx he.p hs hf, sm_set he.q⟩
theorem z_new {i : Nat} {x : Str} {pos' : Pos} (hN : X.N.Nodup) (hi : X.N[i]? = some x) (hx : Loc X.env.scope x) (he : PLM X K C E e te ms) (hs : swapsWith e (some (.Name x pos')) pos.line X.env = pure false := by rfl) (hf : X.fn x = true ∨ X.env.scope.names.lookup x = some .local := by first | exact .inl rfl | exact .inr rfl | assumption) :
    PSM X K C E (.Assign [.Name x pos'] e pos) (tAsg te (gName i)) (sNew i ms) := ⟨ps_set hN hi hx he.p hs hf, sm_new he.q⟩
/-- name = [..] of a comprehension, the name a local -/
theorem z_setLc {i : Nat} {y : Str} {py : Pos} {elt : Expr} {scope : Scope} {own : List (Str × Nat)} {vs : List Nat} {T : Tg} {me : G → Rs D} {mc : G → Rs Bool} (hvs : own.map (·.2) = vs) (hc : X.calm = true) (hN : X.N.Nodup) (hy : X.N[i]? = some y) (hyl : X.env.scope.names.lookup y = some .local)
    (hsw : swapsWith (.ListComp elt [⟨tg, iter, ifs, 0⟩] scope p) (some (.Name y py)) pos.line X.env = pure true) (hi : PIM X K C E tg iter wi mi) (ok : BlkOk X.N X.env.scope scope own)
    (hg : ∀ (s : Shared) (H : Hp) (Cc : Addr) (cl : List (Str × Addr)) (fp : List Addr), PG (X.blk s H scope (compEnvC scope cl Cc X.env) fp) tg (T.g K)) (ht : ∀ (s : Shared) (H : Hp) (Cc : Addr) (cl : List (Str × Addr)) (fp : List Addr), PTsM (X.blk s H scope (compEnvC scope cl Cc X.env) fp) K C E0 ifs tt mc)
    (he : ∀ (s : Shared) (H : Hp) (Cc : Addr) (cl : List (Str × Addr)) (fp : List Addr), PEM (X.blk s H scope (compEnvC scope cl Cc X.env) fp) K C E0 elt te me) (hv : ∀ i ∈ T.slots, i ∈ vs) (hs : ∀ x, foldedSetIterable iter X.env x = pure x := by intro _; rfl) (hK : X.K = K := by rfl) :
    PSM X K C E (.Assign [.Name y py] (.ListComp elt [⟨tg, iter, ifs, 0⟩] scope p) pos) (tAsg (tLc wi (T.g K) tt te vs) (gName i)) (sSet i (mLst (mLc vs mi T mc me))) := by
  subst hK
  subst hvs
  exact ⟨ps_setLc hc hN hy hyl hsw hi.p ok hg (fun s H Cc cl fp => (ht s H Cc cl fp).p) (fun s H Cc cl fp => (he s H Cc cl fp).p) hs, sm_set (em_l (lm_lc hi.q (ht X.s_0 (fun _ => none) 0 [] []).q (he X.s_0 (fun _ => none) 0 [] []).q hv))⟩
theorem z_set2 {i j : Nat} (he : PEM X K C E e te m) (hg : PG X tg ((Tg.two i j).g K)) (hs : swapsWithSole [tg] e pos.line X.env = pure false := by rfl) (hw : swappedStores [tg] e X.env = pure none := by rfl)
    (h1 : (assignEach [tg] X.env).map (·.2) = [assign tg X.env] := by rfl) (hK : X.K = K := by rfl) : PSM X K C E (.Assign [tg] e pos) (tAsg te ((Tg.two i j).g K)) (sSet2 i j m) := by
  subst hK
  exact ⟨ps_asg he.p hg hs hw h1, sm_set2 he.q⟩
theorem z_app {i : Nat} {x : Str} {px apos cpos : Pos} (hN : X.N[i]? = some x) (hv : Vis X.env.scope x) (he : PEM X K C E e te m) (hd : (x == ("__debug__" : Str)) = false := by decide) (hcd : (x == ("__classdict__" : Str)) = false := by decide)
    (hbase : attributeBase (.Name x px) "append" X.env (eval (.Name x px) X.env) = eval (.Name x px) X.env := by rfl)
    (hfew : ((backTo cpos (starEach [e] X.env)).all (fun x => !x.1) && (backToKw cpos (keywordEach [] X.env)).all (fun x => x.1.isSome) && decide ([e].length + ([] : List Keyword).length + (if ([] : List Keyword).isEmpty then 0 else 1) < 30)) = true := by rfl)
    (hline : (apos.endLine == cpos.line) = true := by rfl) (hs : starEach [e] X.env = (false, eval e X.env) :: starEach [] X.env := by rfl) (hplain : (backTo cpos (starEach [] X.env)).any (·.1) = false := by rfl)
    (hsw : swapsWith (.Call (.Attribute (.Name x px) "append" apos) [e] [] cpos) none pos.line X.env = pure false := by rfl) (hK : X.K = K := by rfl) :
    PSM X K C E (.Expr (.Call (.Attribute (.Name x px) "append" apos) [e] [] cpos) pos) (tDrop (tBM K "list" rAppend (tVar i) (tCons te tNil))) (sApp i m) := by
  subst hK
  exact ⟨ps_expr (pe_bm PySem.F.plainAttrs_list PySem.F.slot_list_append PySem.F.type_list_append mt_append (pe_var hN hv hd hcd) (pa_cons he.p pa_nil hs) hbase hfew hline hs hplain) hsw, sm_app he.q⟩
theorem z_if (h : PTM X K C E c tt mt) (ha : PSSM X K C E sts tS sS) (hb : PSSM X K C E sts2 uS sU) : PSM X K C E (.If c sts sts2 pos) (tIfS tt tS uS) (sIf mt sS sU) := ⟨ps_if h.p ha.p hb.p, sm_if h.q ha.q hb.q⟩
theorem z_ret (he : PEM X K C E e te m) : PSM X K C E (.Return (some e) pos) (tRet te) (sRet m) := ⟨ps_ret he.p, sm_ret he.q⟩
theorem z_exp (he : PEM X K C E e te m) (hsw : swapsWith e none pos.line X.env = pure false := by rfl) : PSM X K C E (.Expr e pos) (tDrop te) (sExp m) := ⟨ps_expr he.p hsw, sm_exp he.q⟩
theorem z_for {T : Tg} (ks : List Nat) (hp : PassesOwn (model X.prog X.w) X.A X.env X.xe) (hc : X.calm = true) (hi : PIM X K C E tg iter wi mi) (hg : PG X tg (T.g K)) (hb : PSSM X K C E sts tS sS) (hs : ∀ x, foldedSetIterable iter X.env x = pure x := by intro _; rfl) (hK : X.K = K := by rfl) :
    PSM X K C E (.For tg iter sts [] pos) (tFor wi (T.g K) tS) (sFor mi T ks sS) := by
  subst hK
  exact ⟨ps_for hp hc hi.p hg hb.p hs, sm_for hi.q hb.q⟩
/-- raise C('..'), C an own class over ValueError without __init__ -/
theorem z_raise {x msg : Str} {Cx : Addr} {j : Nat} {pe p1 p3 : Pos} {bm : List Value} (hc : X.calm = true) (tk : Takes X (fun cls d _ H => E cls d H)) (q : PySem.W.excIn K Cx bm "ValueError.__new__" = true) (gC : X.mg x = some (.ref Cx)) (kC : PySem.W.keepIn K (.ref Cx) = true) (r : Raises X (.ref Cx))
    (hbm : ExcBaseFacts "ValueError" "ValueError.__new__" "ValueError.__init__" bm) (hg : Gl X x := by rfl) (hdb : (x == ("__debug__" : Str)) = false := by decide) (hK : X.K = K := by rfl) : PSM X K C E (.Raise (some (.Call (.Name x pe) [.Constant (.str msg) j p1] [] p3)) none pos) (fun _ _ H => E (.ref Cx) none H) (sRaise Cx) := by
  subst hK
  exact ⟨ps_raise hc tk (pmk_own hbm q gC kC r hg hdb), sm_raise⟩
end
end Z
namespace Z
set_option autoImplicit false
open PySem L2
/-! ### defs and callees in one word each -/
section
variable (P : Program) (w : World) (K : PySem.W.Frag) (mg : Str → Option Value) (base : Heap) (C : Addr)
/-- the def nm stands as st says -/
def Dn (nm : Str) (st : Stmt) (ps : List Str) : Prop := ∃ f fd, Fun K nm nm st f fd ∧ mg nm = some (.ref f) ∧ Binds K fd ps []
/-- the def nm, called with n arguments, does what φ says -/
def Cal (CX : CXT) (k : Nat) (nm : Str) (n : Nat) (φ : List D → Rs D) : Prop := ∃ f fd ps, FnOk P w K mg base CX k f fd ps (spM K C n φ) ∧ mg nm = some (.ref f) ∧ PySem.W.keepIn K (.ref f) = true ∧ Binds K fd ps []
end
section
variable {P : Program} {w : World} {K : PySem.W.Frag} {mg : Str → Option Value} {base : Heap} {C : Addr} {CX : CXT} {k n : Nat} {nm : Str} {φ φ' : List D → Rs D}
theorem Cal.mono {j : Nat} (h : Cal P w K mg base C CX k nm n φ) (hj : k ≤ j) : Cal P w K mg base C CX j nm n φ := by
  obtain ⟨f, fd, ps, F, r⟩ := h
  exact ⟨f, fd, ps, F.mono hj, r⟩
theorem Cal.zero {nm : Str} {st : Stmt} {ps : List Str} (h : Dn K mg nm st ps) (hn : n = ps.length) : Cal P w K mg base C CX 0 nm n fun _ => .no := by
  obtain ⟨f, fd, F, g, b⟩ := h
  refine ⟨f, fd, ps, ⟨fun vs H Q E q => ?_, fun A outer s H args us vs Q E hr he hb hv q => ?_⟩, g, F.kp, b⟩
  all_goals
    obtain ⟨F0, ds, e, a, hl2, z⟩ := q
    exact z.elim
end
end Z
set_option Elab.async false
set_option linter.all false
set_option maxRecDepth 100000
set_option maxHeartbeats 4000000
/-! Z, part E: sorted, new lists that change (list(), repetition, +). -/
namespace Z
set_option autoImplicit false
open PySem L2
/-! ### sorted(ints) -/
def insI (x : Int) : List Int → List Int
  | [] => [x]
  | y :: r => if x ≤ y then x :: y :: r else y :: insI x r
def isort : List Int → List Int
  | [] => []
  | x :: r => insI x (isort r)
def dSorted : List D → Option D
  | [.lst ds] => (asInts ds).map fun ns => D.lst ((isort ns).map D.int)
  | _ => none
section
variable {K : PySem.W.Frag} {C : Addr}
/-! ### new lists that may change -/
def mLs (f : List D → Option (List D)) (a : G → Rs (List D)) : G → Rs (List D) := fun g => (a g).bind fun xs => .of (f xs)
def dListL : List D → Option (List D)
  | [.lst ds] => some ds
  | [.tup ds] => some ds
  | _ => none
variable {E : XK} {ta tb : TE} {ma mb : G → Rs D} {t : TA} {ms : G → Rs (List D)}
theorem Fz.newM {B : Bs} {g : G} {P : List (Addr × List V)} {T : List (V × D)} {σ : L2.St} {H F : Hp} (f : Fz B g P T σ H F) {p : Addr} {vs : List V} {ds : List D} (n : H p = none) (a : IsA B.K B.C F vs ds) :
    (∀ x ∈ P, x.1 ≠ p) ∧ SS B g ((p, vs) :: P) (vs.zip ds ++ T) σ (upd H p (.lst vs)) ∧ Al (vs.zip ds ++ T) vs ds := by
  have S : SS B g P (vs.zip ds ++ T) σ H := ⟨F, { f with ts := fun x hx => (List.mem_append.mp hx).elim (fun z => isA_zip a x z) fun z => f.ts x z }⟩
  obtain ⟨h1, h2⟩ := lm_new S n vs
  exact ⟨h1, h2, al_zip a fun x hx => List.mem_append_left _ hx⟩
theorem lm_list (a : AM K C E t ms) : LM K C E (tCB (rListS K) t) (mLs dListL ms) := ⟨fun F0 H0 g P T σ H Q S h =>
  a.run F0 H0 g P T σ H _ S (h.bind.mono fun xs hx vs T' H' ht al S1 => by
    obtain ⟨ds, e, q⟩ := hx.of
    obtain ⟨F, f⟩ := S1
    unfold dListL at e
    split at e
    · cases e
      obtain ⟨x, rfl, hx⟩ := al1 al
      have ix := f.ts _ hx
      cases ix with
      | lst ha hb =>
        refine ⟨_, _, rfl, .inl (f.sqL ha), fun l hl => ?_⟩
        obtain ⟨h1, h2, h3⟩ := f.newM hl hb
        exact q l _ _ _ (fun x hx => List.mem_append_right _ (ht x hx)) h3 h1 h2
    · cases e
      obtain ⟨x, rfl, hx⟩ := al1 al
      have ix := f.ts _ hx
      cases ix with
      | tup ha hb =>
        refine ⟨_, _, rfl, .inr (f.sqT ha), fun l hl => ?_⟩
        obtain ⟨h1, h2, h3⟩ := f.newM hl hb
        exact q l _ _ _ (fun x hx => List.mem_append_right _ (ht x hx)) h3 h1 h2
    · cases e)⟩
end
section
variable {X : Cx} {K : PySem.W.Frag} {C : Addr} {E : XK} {e a b c : Expr} {es ifs : List Expr} {te ta tb tc : TE} {m ma mb mc : G → Rs D} {t : TA} {ms : G → Rs (List D)} {pos p p2 : Pos}
theorem l_list (hm : X.mg "list" = none) (ha : PAM X K C E (e :: es) t ms) (hg : Gl X "list" := by rfl) (he : starEach (e :: es) X.env = (false, eval e X.env) :: starEach es X.env := by rfl) (hpl : (backTo pos (starEach es X.env)).any (·.1) = false := by rfl) (hK : X.K = K := by rfl) : PLM X K C E (.Call (.Name "list" p) (e :: es) [] pos) (tCB (rListS K) t) (mLs dListL ms) := by
  subst hK
  exact ⟨pe_callTy call_list_of hg hm (by decide +kernel) ha.p (by decide) (by decide) he hpl, lm_list ha.q⟩
end
end Z
set_option Elab.async false
set_option linter.all false
set_option maxRecDepth 100000
set_option maxHeartbeats 4000000
/-! Z, part F: how mirrors are evaluated. -/
namespace Z
set_option autoImplicit false
open PySem L2
theorem dAdd_i (i j : Int) : dAdd (.int i) (.int j) = some (.int (i + j)) := rfl
theorem dAdd_l {a b : List D} (h : a.length + b.length ≤ LIM) : dAdd (.lst a) (.lst b) = some (.lst (a ++ b)) := if_pos h
theorem dSub_i (i j : Int) : dSub (.int i) (.int j) = some (.int (i - j)) := rfl
theorem dMul_a {i j : Int} (h : -(2 ^ 64) < i ∧ i < 2 ^ 64) : dMul (.int i) (.int j) = some (.int (i * j)) := if_pos (.inl h)
theorem dMul_l {a : List D} {k : Int} (h : -1000000 ≤ k ∧ k ≤ 1000000 ∧ a.length * k.toNat ≤ LIM) : dMul (.lst a) (.int k) = some (.lst (List.replicate k.toNat a).flatten) := if_pos h
theorem dMod_i {i j : Int} (h : 0 < j) : dMod (.int i) (.int j) = some (.int (i % j)) := if_pos h
theorem dDiv_i {i j : Int} (h : 0 < j ∧ j < 1073741824) : dDiv (.int i) (.int j) = some (.int (i / j)) := if_pos h
theorem dNeg_i (i : Int) : dNeg (.int i) = some (.int (-i)) := rfl
theorem dIx_l (ds : List D) (i : Int) : dIx (.lst ds) (.int i) = atI ds i := rfl
theorem dIx_t (ds : List D) (i : Int) : dIx (.tup ds) (.int i) = atI ds i := rfl
theorem dIx_s (ns : List Int) (i : Int) : dIx (.scr ns) (.int i) = (atI ns i).map D.int := rfl
theorem dSl_l (ds : List D) (lo hi : Option Int) : dSl (.lst ds) lo hi = some (.lst (cutD ds lo hi)) := rfl
theorem dRev_l (ds : List D) : dRev (.lst ds) = some (.lst ds.reverse) := rfl
theorem dLt_i (i j : Int) : dLt (.int i) (.int j) = some (.bl (decide (i < j))) := rfl
theorem dLe_i (i j : Int) : dLe (.int i) (.int j) = some (.bl (decide (i ≤ j))) := rfl
theorem dGt_i (i j : Int) : dGt (.int i) (.int j) = some (.bl (decide (j < i))) := rfl
theorem dGe_i (i j : Int) : dGe (.int i) (.int j) = some (.bl (decide (j ≤ i))) := rfl
theorem shaped_int (i : Int) : SeqAt.shaped (.int i) = true := by
  show ((PyData.int i).canLay0 && decide ((PyData.int i).depth ≤ 64)) = true
  simp [PyData.canLay0, PyData.depth]
theorem shaped_bool (i : Bool) : SeqAt.shaped (.bool i) = true := by
  show ((PyData.bool i).canLay0 && decide ((PyData.bool i).depth ≤ 64)) = true
  simp [PyData.canLay0, PyData.depth]
theorem deq_i (i j : Int) : deq (.int i) (.int j) = some (decide (i = j)) := by
  unfold deq
  show (if SeqAt.shaped (.int i) = true ∧ SeqAt.shaped (.int j) = true then some (PyData.eqv (.int i) (.int j)) else none) = _
  rw [if_pos ⟨shaped_int i, shaped_int j⟩]
  simp only [PyData.eqv]
  rw [Bool.beq_eq_decide_eq]
theorem deq_b (i j : Bool) : deq (.bl i) (.bl j) = some (decide (i = j)) := by
  unfold deq
  show (if SeqAt.shaped (.bool i) = true ∧ SeqAt.shaped (.bool j) = true then some (PyData.eqv (.bool i) (.bool j)) else none) = _
  rw [if_pos ⟨shaped_bool i, shaped_bool j⟩]
  simp only [PyData.eqv]
  rw [Bool.beq_eq_decide_eq]
theorem dEq_of {x y : D} {b : Bool} (h : deq x y = some b) : dEq x y = some (.bl b) := by
  unfold dEq
  rw [h]
  rfl
theorem dNe_of {x y : D} {b : Bool} (h : deq x y = some b) : dNe x y = some (.bl (!b)) := by
  unfold dNe
  rw [h]
  rfl
theorem dEq_i (i j : Int) : dEq (.int i) (.int j) = some (.bl (decide (i = j))) := dEq_of (deq_i i j)
theorem dNe_i (i j : Int) : dNe (.int i) (.int j) = some (.bl (!decide (i = j))) := dNe_of (deq_i i j)
theorem dEq_b (i j : Bool) : dEq (.bl i) (.bl j) = some (.bl (decide (i = j))) := dEq_of (deq_b i j)
theorem dNe_b (i j : Bool) : dNe (.bl i) (.bl j) = some (.bl (!decide (i = j))) := dNe_of (deq_b i j)
/-! deep equality: data of lists and tuples of ints -/
mutual
/-- ints in lists and tuples, no deeper than n -/
def shp : Nat → D → Bool
  | _, .int _ => true
  | n + 1, .lst ds => shps n ds
  | n + 1, .tup ds => shps n ds
  | _, _ => false
def shps : Nat → List D → Bool
  | _, [] => true
  | n, d :: ds => shp n d && shps n ds
end
mutual
def deqB : D → D → Bool
  | .int i, .int j => i == j
  | .lst a, .lst b => deqBs a b
  | .tup a, .tup b => deqBs a b
  | _, _ => false
def deqBs : List D → List D → Bool
  | [], [] => true
  | x :: xs, y :: ys => deqB x y && deqBs xs ys
  | _, _ => false
end
mutual
theorem shp_toP : ∀ (n : Nat) (d : D), shp n d = true → ∃ p, toP d = some p ∧ p.canLay0 = true ∧ p.depth ≤ n
  | n, .int i, _ => ⟨_, rfl, by simp [PyData.canLay0], by simp [PyData.depth]⟩
  | n + 1, .lst ds, h => by
    obtain ⟨ps, h1, h2, h3⟩ := shps_toP n ds (by simpa [shp] using h)
    exact ⟨.list ps, by simp [toP, h1], by simp [PyData.canLay0, h2], by simp only [PyData.depth]; omega⟩
  | n + 1, .tup ds, h => by
    obtain ⟨ps, h1, h2, h3⟩ := shps_toP n ds (by simpa [shp] using h)
    exact ⟨.tuple ps, by simp [toP, h1], by simp [PyData.canLay0, h2], by simp only [PyData.depth]; omega⟩
  | 0, .lst _, h => by simp [shp] at h
  | 0, .tup _, h => by simp [shp] at h
  | 0, .non, h => by simp [shp] at h
  | 0, .bl _, h => by simp [shp] at h
  | 0, .str _, h => by simp [shp] at h
  | 0, .web _ _, h => by simp [shp] at h
  | 0, .scr _, h => by simp [shp] at h
  | _ + 1, .non, h => by simp [shp] at h
  | _ + 1, .bl _, h => by simp [shp] at h
  | _ + 1, .str _, h => by simp [shp] at h
  | _ + 1, .web _ _, h => by simp [shp] at h
  | _ + 1, .scr _, h => by simp [shp] at h
theorem shps_toP : ∀ (n : Nat) (ds : List D), shps n ds = true → ∃ ps, toPs ds = some ps ∧ PyData.canLayAll0 ps = true ∧ PyData.depthAll ps ≤ n
  | n, [], _ => ⟨[], rfl, by simp [PyData.canLayAll0], by simp [PyData.depthAll]⟩
  | n, d :: ds, h => by
    unfold shps at h
    rw [Bool.and_eq_true] at h
    obtain ⟨p, h1, h2, h3⟩ := shp_toP n d h.1
    obtain ⟨ps, h4, h5, h6⟩ := shps_toP n ds h.2
    exact ⟨p :: ps, by simp [toPs, h1, h4], by simp [PyData.canLayAll0, h2, h5], by simp only [PyData.depthAll]; omega⟩
end
mutual
theorem eqv_deqB : ∀ (n m : Nat) (x y : D) (p q : PyData), shp n x = true → shp m y = true → toP x = some p → toP y = some q → PyData.eqv p q = deqB x y
  | n, m, .int i, .int j, p, q, _, _, h1, h2 => by
    cases h1; cases h2
    simp [PyData.eqv, deqB]
  | n + 1, m + 1, .lst a, .lst b, p, q, hx, hy, h1, h2 => by
    simp only [toP] at h1 h2
    cases e1 : toPs a with
    | none => rw [e1] at h1; cases h1
    | some ps =>
      cases e2 : toPs b with
      | none => rw [e2] at h2; cases h2
      | some qs =>
        rw [e1] at h1; rw [e2] at h2
        cases h1; cases h2
        simp only [PyData.eqv, deqB]
        exact eqvs_deqBs n m a b ps qs (by simpa [shp] using hx) (by simpa [shp] using hy) e1 e2
  | n + 1, m + 1, .tup a, .tup b, p, q, hx, hy, h1, h2 => by
    simp only [toP] at h1 h2
    cases e1 : toPs a with
    | none => rw [e1] at h1; cases h1
    | some ps =>
      cases e2 : toPs b with
      | none => rw [e2] at h2; cases h2
      | some qs =>
        rw [e1] at h1; rw [e2] at h2
        cases h1; cases h2
        simp only [PyData.eqv, deqB]
        exact eqvs_deqBs n m a b ps qs (by simpa [shp] using hx) (by simpa [shp] using hy) e1 e2
  | n + 1, m, .lst a, .int j, p, q, _, _, h1, h2 => by
    simp only [toP] at h1
    cases e1 : toPs a with
    | none => rw [e1] at h1; cases h1
    | some ps => rw [e1] at h1; cases h1; cases h2; simp [PyData.eqv, deqB]
  | n + 1, m, .tup a, .int j, p, q, _, _, h1, h2 => by
    simp only [toP] at h1
    cases e1 : toPs a with
    | none => rw [e1] at h1; cases h1
    | some ps => rw [e1] at h1; cases h1; cases h2; simp [PyData.eqv, deqB]
  | n, m + 1, .int i, .lst a, p, q, _, _, h1, h2 => by
    simp only [toP] at h2
    cases e1 : toPs a with
    | none => rw [e1] at h2; cases h2
    | some ps => rw [e1] at h2; cases h2; cases h1; simp [PyData.eqv, deqB]
  | n, m + 1, .int i, .tup a, p, q, _, _, h1, h2 => by
    simp only [toP] at h2
    cases e1 : toPs a with
    | none => rw [e1] at h2; cases h2
    | some ps => rw [e1] at h2; cases h2; cases h1; simp [PyData.eqv, deqB]
  | n + 1, m + 1, .lst a, .tup b, p, q, _, _, h1, h2 => by
    simp only [toP] at h1 h2
    cases e1 : toPs a with
    | none => rw [e1] at h1; cases h1
    | some ps =>
      cases e2 : toPs b with
      | none => rw [e2] at h2; cases h2
      | some qs => rw [e1] at h1; rw [e2] at h2; cases h1; cases h2; simp [PyData.eqv, deqB]
  | n + 1, m + 1, .tup a, .lst b, p, q, _, _, h1, h2 => by
    simp only [toP] at h1 h2
    cases e1 : toPs a with
    | none => rw [e1] at h1; cases h1
    | some ps =>
      cases e2 : toPs b with
      | none => rw [e2] at h2; cases h2
      | some qs => rw [e1] at h1; rw [e2] at h2; cases h1; cases h2; simp [PyData.eqv, deqB]
  | 0, _, .lst _, _, _, _, h, _, _, _ => by simp [shp] at h
  | 0, _, .tup _, _, _, _, h, _, _, _ => by simp [shp] at h
  | _, 0, .int _, .lst _, _, _, _, h, _, _ => by simp [shp] at h
  | _, 0, .int _, .tup _, _, _, _, h, _, _ => by simp [shp] at h
  | _ + 1, 0, .lst _, .lst _, _, _, _, h, _, _ => by simp [shp] at h
  | _ + 1, 0, .lst _, .tup _, _, _, _, h, _, _ => by simp [shp] at h
  | _ + 1, 0, .tup _, .lst _, _, _, _, h, _, _ => by simp [shp] at h
  | _ + 1, 0, .tup _, .tup _, _, _, _, h, _, _ => by simp [shp] at h
  | n, _, .non, _, _, _, h, _, _, _ => by cases n <;> simp [shp] at h
  | n, _, .bl _, _, _, _, h, _, _, _ => by cases n <;> simp [shp] at h
  | n, _, .str _, _, _, _, h, _, _, _ => by cases n <;> simp [shp] at h
  | n, _, .web _ _, _, _, _, h, _, _, _ => by cases n <;> simp [shp] at h
  | n, _, .scr _, _, _, _, h, _, _, _ => by cases n <;> simp [shp] at h
  | _, n, _, .non, _, _, _, h, _, _ => by cases n <;> simp [shp] at h
  | _, n, _, .bl _, _, _, _, h, _, _ => by cases n <;> simp [shp] at h
  | _, n, _, .str _, _, _, _, h, _, _ => by cases n <;> simp [shp] at h
  | _, n, _, .web _ _, _, _, _, h, _, _ => by cases n <;> simp [shp] at h
  | _, n, _, .scr _, _, _, _, h, _, _ => by cases n <;> simp [shp] at h
theorem eqvs_deqBs : ∀ (n m : Nat) (x y : List D) (p q : List PyData), shps n x = true → shps m y = true → toPs x = some p → toPs y = some q → PyData.eqvAll p q = deqBs x y
  | n, m, [], [], p, q, _, _, h1, h2 => by cases h1; cases h2; simp [PyData.eqvAll, deqBs]
  | n, m, [], y :: ys, p, q, _, _, h1, h2 => by
    cases h1
    simp only [toPs] at h2
    cases e1 : toP y with
    | none => rw [e1] at h2; cases h2
    | some a =>
      rw [e1] at h2
      cases e2 : toPs ys with
      | none => rw [e2] at h2; cases h2
      | some as => rw [e2] at h2; cases h2; simp [PyData.eqvAll, deqBs]
  | n, m, x :: xs, [], p, q, _, _, h1, h2 => by
    cases h2
    simp only [toPs] at h1
    cases e1 : toP x with
    | none => rw [e1] at h1; cases h1
    | some a =>
      rw [e1] at h1
      cases e2 : toPs xs with
      | none => rw [e2] at h1; cases h1
      | some as => rw [e2] at h1; cases h1; simp [PyData.eqvAll, deqBs]
  | n, m, x :: xs, y :: ys, p, q, hx, hy, h1, h2 => by
    simp only [toPs] at h1 h2
    unfold shps at hx hy
    rw [Bool.and_eq_true] at hx hy
    cases e1 : toP x with
    | none => rw [e1] at h1; cases h1
    | some a =>
      rw [e1] at h1
      cases e2 : toPs xs with
      | none => rw [e2] at h1; cases h1
      | some as =>
        rw [e2] at h1
        cases e3 : toP y with
        | none => rw [e3] at h2; cases h2
        | some b =>
          rw [e3] at h2
          cases e4 : toPs ys with
          | none => rw [e4] at h2; cases h2
          | some bs =>
            rw [e4] at h2
            cases h1; cases h2
            simp only [PyData.eqvAll, deqBs]
            rw [eqv_deqB n m x y a b hx.1 hy.1 e1 e3, eqvs_deqBs n m xs ys as bs hx.2 hy.2 e2 e4]
end
theorem deq_shp {n m : Nat} {x y : D} (hx : shp n x = true) (hy : shp m y = true) (hn : n ≤ 64) (hm : m ≤ 64) : deq x y = some (deqB x y) := by
  obtain ⟨p, p1, p2, p3⟩ := shp_toP n x hx
  obtain ⟨q, q1, q2, q3⟩ := shp_toP m y hy
  unfold deq
  rw [p1, q1]
  show (if SeqAt.shaped p = true ∧ SeqAt.shaped q = true then some (PyData.eqv p q) else none) = _
  have a1 : SeqAt.shaped p = true := by
    show (p.canLay0 && decide (p.depth ≤ 64)) = true
    rw [p2, decide_eq_true (Nat.le_trans p3 hn)]
    rfl
  have a2 : SeqAt.shaped q = true := by
    show (q.canLay0 && decide (q.depth ≤ 64)) = true
    rw [q2, decide_eq_true (Nat.le_trans q3 hm)]
    rfl
  rw [if_pos ⟨a1, a2⟩, eqv_deqB n m x y p q hx hy p1 q1]
mutual
theorem deqB_self : ∀ (n : Nat) (x : D), shp n x = true → deqB x x = true
  | n, .int i, _ => by simp [deqB]
  | n + 1, .lst ds, h => by simp only [deqB]; exact deqBs_self n ds (by simpa [shp] using h)
  | n + 1, .tup ds, h => by simp only [deqB]; exact deqBs_self n ds (by simpa [shp] using h)
  | 0, .lst _, h => by simp [shp] at h
  | 0, .tup _, h => by simp [shp] at h
  | n, .non, h => by cases n <;> simp [shp] at h
  | n, .bl _, h => by cases n <;> simp [shp] at h
  | n, .str _, h => by cases n <;> simp [shp] at h
  | n, .web _ _, h => by cases n <;> simp [shp] at h
  | n, .scr _, h => by cases n <;> simp [shp] at h
theorem deqBs_self : ∀ (n : Nat) (x : List D), shps n x = true → deqBs x x = true
  | n, [], _ => by simp [deqBs]
  | n, d :: ds, h => by
    unfold shps at h
    rw [Bool.and_eq_true] at h
    simp only [deqBs]
    rw [deqB_self n d h.1, deqBs_self n ds h.2]
    rfl
end
theorem deq_same {n : Nat} {x : D} (hx : shp n x = true) (hn : n ≤ 64) : deq x x = some true := by rw [deq_shp hx hx hn hn, deqB_self n x hx]
def intsD (ns : List Int) : D := .lst (ns.map D.int)
theorem shps_ints (n : Nat) : ∀ ns : List Int, shps n (ns.map D.int) = true
  | [] => by simp [shps]
  | x :: r => by
    rw [List.map_cons]
    unfold shps
    rw [shps_ints n r]
    simp [shp]
theorem shp_ints (n : Nat) (ns : List Int) : shp (n + 1) (.lst (ns.map D.int)) = true := by simp only [shp]; exact shps_ints n ns
theorem shps_rows (n : Nat) : ∀ rs : List (List Int), shps (n + 1) (rs.map intsD) = true
  | [] => by simp [shps]
  | x :: r => by
    rw [List.map_cons]
    unfold shps
    rw [shps_rows n r]
    simp only [Bool.and_true]
    exact shp_ints n x
theorem shp_rows (n : Nat) (rs : List (List Int)) : shp (n + 2) (.lst (rs.map intsD)) = true := by simp only [shp]; exact shps_rows n rs
theorem dLen_l (ds : List D) : dLen [.lst ds] = some (.int ds.length) := rfl
theorem dLen_t2 (a b : D) : dLen [.tup [a, b]] = some (.int 2) := rfl
theorem dLen_s (ds : List Int) : dLen [.scr ds] = some (.int ds.length) := rfl
theorem dSum_l (ns : List Int) : dSum [.lst (ns.map D.int)] = some (.int ns.sum) := by
  show (asInts (ns.map D.int)).map _ = _
  rw [asInts_map]
  rfl
theorem dAll_l (ns : List Bool) : dAll [.lst (ns.map D.bl)] = some (.bl (ns.all id)) := by
  show (asBls (ns.map D.bl)).map _ = _
  rw [asBls_map]
  rfl
theorem dSorted_l (ns : List Int) : dSorted [.lst (ns.map D.int)] = some (.lst ((isort ns).map D.int)) := by
  show (asInts (ns.map D.int)).map _ = _
  rw [asInts_map]
  rfl
theorem dInB_l (i : Int) (ns : List Int) : dInB (.int i) (.lst (ns.map D.int)) = some (decide (i ∈ ns)) := by
  show (asInts (ns.map D.int)).map _ = _
  rw [asInts_map]
  rfl
theorem dIn_l (i : Int) (ns : List Int) : dIn (.int i) (.lst (ns.map D.int)) = some (.bl (decide (i ∈ ns))) := by
  unfold dIn
  rw [dInB_l]
  rfl
theorem dNi_l (i : Int) (ns : List Int) : dNi (.int i) (.lst (ns.map D.int)) = some (.bl (!decide (i ∈ ns))) := by
  unfold dNi
  rw [dInB_l]
  rfl
theorem dMax2_i (i j : Int) : dMax2 [.int i, .int j] = some (.int (if j > i then j else i)) := rfl
theorem dMin2_i (i j : Int) : dMin2 [.int i, .int j] = some (.int (if j < i then j else i)) := rfl
theorem dInt_i (i : Int) : dInt [.int i] = some (.int i) := rfl
theorem dInt_b (i : Bool) : dInt [.bl i] = some (.int (if i then 1 else 0)) := rfl
theorem dList_l (ds : List D) : dList [.lst ds] = some (.lst ds) := rfl
theorem dList_t (ds : List D) : dList [.tup ds] = some (.lst ds) := rfl
theorem atI_some {α : Type} {xs : List α} {k : Nat} (h : k < xs.length) : atI xs (k : Int) = some xs[k] := atI_nat (List.getElem?_eq_getElem h)
theorem atI_int {α : Type} {xs : List α} {k : Int} {v : α} (h0 : 0 ≤ k) (h : xs[k.toNat]? = some v) : atI xs k = some v := by
  have e : k = ((k.toNat : Nat) : Int) := by omega
  rw [e]
  exact atI_nat h
theorem Sta.set_no (g : G) (i : Nat) (d : D) : (⟨g, none⟩ : Sta).set i d = ⟨g.set i (some d), none⟩ := rfl
theorem Sta.set_mu {g : G} {i j : Nat} {d : D} {ds : List D} (h : (j == i) = false) : (⟨g, some (j, ds)⟩ : Sta).set i d = ⟨g.set i (some d), some (j, ds)⟩ := by
  show (⟨g.set i (some d), if j = i then none else some (j, ds)⟩ : Sta) = _
  rw [if_neg (by simpa using h)]
theorem Sta.set_at {g : G} {j : Nat} {d : D} {ds : List D} : (⟨g, some (j, ds)⟩ : Sta).set j d = ⟨g.set j (some d), none⟩ := by
  show (⟨g.set j (some d), if j = j then none else some (j, ds)⟩ : Sta) = _
  rw [if_pos rfl]
theorem sApp_eq {i : Nat} {e : G → Rs D} {g : G} {ds : List D} {d : D} (h : e g = .ok d) (hl : ds.length ≤ LIM) : sApp i e ⟨g, some (i, ds)⟩ = .ok (.nx ⟨g, some (i, ds ++ [d])⟩) := by
  show (if i = i ∧ ds.length ≤ LIM then _ else _) = _
  rw [if_pos ⟨rfl, hl⟩]
  show (e g).bind _ = _
  rw [h, Rs.bind_ok]
theorem sNew_eq {i : Nat} {e : G → Rs (List D)} {g : G} {mu : Option (Nat × List D)} {ds : List D} (h : e g = .ok ds) (hi : i < g.length) : sNew i e ⟨g, mu⟩ = .ok (.nx ⟨g.set i none, some (i, ds)⟩) := by
  show (e g).bind _ = _
  rw [h, Rs.bind_ok]
  show (if i < g.length then _ else _) = _
  rw [if_pos hi]
theorem Sta.frz_mu (g : G) (i : Nat) (ds : List D) : (⟨g, some (i, ds)⟩ : Sta).frz = ⟨g.set i (some (.lst ds)), none⟩ := rfl
theorem Sta.frz_no (g : G) : (⟨g, none⟩ : Sta).frz = ⟨g, none⟩ := rfl
/-! one statement at a time -/
section
variable {a b : Sta → Rs Ou} {s s' : Sta} {r : Rs Ou} {d x y : D} {e : G → Rs D} {c : G → Rs Bool} {i j n : Nat} {m : Sta → Rs Ou} {ds : List D}
theorem sSeq_eq (h1 : a s = .ok (.nx s')) (h2 : b s' = r) : sSeq a b s = r := by
  unfold sSeq
  rw [h1, Rs.bind_ok]
  exact h2
theorem sSeq_rt (h1 : a s = .ok (.rt d)) : sSeq a b s = .ok (.rt d) := by
  unfold sSeq
  rw [h1, Rs.bind_ok]
theorem sSeq_ex {c : Addr} {z : Option Int} (h1 : a s = .ex c z) : sSeq a b s = .ex c z := by
  unfold sSeq
  rw [h1, Rs.bind_ex]
theorem sSeq_nil (h1 : a s = r) : sSeq a sNil s = r := by
  unfold sSeq
  rw [h1]
  cases r with
  | ok o => cases o <;> rfl
  | ex c z => rfl
  | no => rfl
theorem sSet_eq (h : e s.g = .ok d) : sSet i e s = .ok (.nx (s.set i d)) := by
  unfold sSet
  rw [h, Rs.bind_ok]
theorem sSet2_eq (h : e s.g = .ok (.tup [x, y])) : sSet2 i j e s = .ok (.nx ((s.set i x).set j y)) := by
  unfold sSet2
  rw [h, Rs.bind_ok]
theorem sRet_eq (h : e s.g = .ok d) : sRet e s = .ok (.rt d) := by
  unfold sRet
  rw [h, Rs.bind_ok]
theorem sExp_eq (h : e s.g = .ok d) : sExp e s = .ok (.nx s) := by
  unfold sExp
  rw [h, Rs.bind_ok]
theorem sExp_ex {c : Addr} {z : Option Int} (h : e s.g = .ex c z) : sExp e s = .ex c z := by
  unfold sExp
  rw [h, Rs.bind_ex]
theorem sIf_t (h : c s.g = .ok true) (h2 : a s = r) : sIf c a b s = r := by
  unfold sIf
  rw [h, Rs.bind_ok, if_pos rfl, h2]
theorem sIf_f (h : c s.g = .ok false) (h2 : b s = r) : sIf c a b s = r := by
  unfold sIf
  rw [h, Rs.bind_ok, if_neg Bool.false_ne_true, h2]
theorem sFrz_eq (h : m s.frz = r) : sFrz m s = r := h
theorem runM_rt (h : m ⟨startG n ds, none⟩ = .ok (.rt d)) : runM n m ds = .ok d := by
  unfold runM
  rw [h, Rs.bind_ok]
theorem runM_nx (h : m ⟨startG n ds, none⟩ = .ok (.nx s)) : runM n m ds = .ok .non := by
  unfold runM
  rw [h, Rs.bind_ok]
theorem runM_ex {c : Addr} {z : Option Int} (h : m ⟨startG n ds, none⟩ = .ex c z) : runM n m ds = .ex c z := by
  unfold runM
  rw [h, Rs.bind_ex]
theorem runM_rt' (h : m ⟨startG n ds, none⟩ = .ok (.rt d)) : (runM n m ds).nx = .ok d := by
  rw [runM_rt h]
  rfl
end
/-! loops and comprehensions as plain recursions -/
/-- without a test, over a list of encoded items -/
theorem lcGo_enc {α : Type} {g0 : G} {tg : Tg} {e : G → Rs D} (en : α → D) (v : α → D) : ∀ ds : List α, (∀ a ∈ ds, ∃ ps, tg.put' (en a) = .ok ps ∧ e (setsG g0 ps) = .ok (v a)) → lcGo g0 tg mYes e (ds.map en) = .ok (ds.map v)
  | [], _ => rfl
  | d :: r, h => by
    obtain ⟨ps, h1, h2⟩ := h d List.mem_cons_self
    have ih := lcGo_enc en v r fun x hx => h x (List.mem_cons_of_mem _ hx)
    rw [List.map_cons]
    unfold lcGo
    rw [h1, Rs.bind_ok]
    show ((Rs.ok true).nx.bind _) = _
    rw [Rs.nx_ok, Rs.bind_ok, if_pos rfl, h2, Rs.nx_ok, Rs.bind_ok, ih]
    rfl
theorem mLc_eq {vs : List Nat} {mi : G → Rs (List D)} {tg : Tg} {c : G → Rs Bool} {e : G → Rs D} {g : G} {ds : List D} {r : Rs (List D)} (h1 : mi g = .ok ds) (hl : ds.length ≤ LIM) (h2 : lcGo (killG vs g) tg c e ds = r) : mLc vs mi tg c e g = r := by
  unfold mLc
  rw [h1, Rs.bind_ok, if_pos hl, h2]
theorem sFor_eq {mi : G → Rs (List D)} {tg : Tg} {ks : List Nat} {b : Sta → Rs Ou} {s : Sta} {ds : List D} {r : Rs Ou} (h1 : mi s.g = .ok ds) (h2 : forGo tg ks b ds (s.kill ks) = r) : sFor mi tg ks b s = r := by
  unfold sFor
  rw [h1, Rs.bind_ok, h2]
/-- a loop whose turns all go on: a fold -/
theorem forGo_fold {α β : Type} {tg : Tg} {ks : List Nat} {b : Sta → Rs Ou} (en : α → D) (st : β → Sta) (f : β → α → β) : ∀ (ds : List α) (x : β), (∀ a ∈ ds, ∀ x, ∃ ps s', tg.put' (en a) = .ok ps ∧ muFree (st x).mu tg.slots = true ∧ b ((st x).sets ps) = .ok (.nx s') ∧ s'.kill ks = st (f x a)) →
    forGo tg ks b (ds.map en) (st x) = .ok (.nx (st (ds.foldl f x)))
  | [], x, _ => rfl
  | a :: r, x, h => by
    obtain ⟨ps, s', h1, h2, h3, h4⟩ := h a List.mem_cons_self x
    have ih := forGo_fold en st f r (f x a) fun y hy => h y (List.mem_cons_of_mem _ hy)
    rw [List.map_cons]
    unfold forGo
    rw [h1, Rs.bind_ok, if_pos h2, h3, Rs.bind_ok]
    show forGo tg ks b (r.map en) (s'.kill ks) = _
    rw [h4, ih]
    rfl
end Z
set_option Elab.async false
set_option linter.all false
set_option maxRecDepth 100000
set_option maxHeartbeats 4000000
/-! Z, part G: mirrors evaluated piece by piece. -/
namespace Z
set_option autoImplicit false
open PySem L2
section
variable {a b c : G → Rs D} {ar r : G → Rs (List D)} {t u : G → Rs Bool} {g : G} {x y z d : D} {xs : List D} {i j : Int}
theorem m2_eq {f : D → D → Option D} (h : a g = .ok x) (h2 : b g = .ok y) (e : f x y = some d) : m2 f a b g = .ok d := by
  unfold m2; rw [h, Rs.bind_ok, h2, Rs.bind_ok, e]; rfl
theorem mNil_eq : mNil g = .ok [] := rfl
theorem mCons_eq (h : a g = .ok x) (h2 : r g = .ok xs) : mCons a r g = .ok (x :: xs) := by
  unfold mCons; rw [h, Rs.bind_ok, h2]; rfl
theorem mA_eq {f : List D → Option D} (h : ar g = .ok xs) (e : f xs = some d) : mA f ar g = .ok d := by
  unfold mA; rw [h, Rs.bind_ok, e]; rfl
theorem mCall_eq {φ : List D → Rs D} (h : ar g = .ok xs) (e : φ xs = .ok d) : mCall φ ar g = .ok d := by
  unfold mCall; rw [h, Rs.bind_ok, e]
theorem mCall_ex {φ : List D → Rs D} {q : Addr} {k : Option Int} (h : ar g = .ok xs) (e : φ xs = .ex q k) : mCall φ ar g = .ex q k := by
  unfold mCall; rw [h, Rs.bind_ok, e]
theorem mCalln_eq {φ : List D → Rs D} (h : ar g = .ok xs) (e : φ xs = .ok d) : mCall (fun ds => (φ ds).nx) ar g = .ok d := by
  unfold mCall; rw [h, Rs.bind_ok, e]; rfl
theorem mLst_eq (h : ar g = .ok xs) : mLst ar g = .ok (.lst xs) := by
  unfold mLst; rw [h]; rfl
theorem mT_eq {k : Bool} (h : a g = .ok (.bl k)) : mT a g = .ok k := by
  unfold mT; rw [h]; rfl
theorem mNot_eq {k : Bool} (h : t g = .ok k) : mNot t g = .ok (!k) := by
  unfold mNot; rw [h]; rfl
theorem mOr_eq {k l : Bool} (h : t g = .ok k) (h2 : k = false → u g = .ok l) : mOr t u g = .ok (k || l) := by
  unfold mOr; rw [h, Rs.bind_ok]
  cases k with
  | true => rw [if_pos rfl, Bool.true_or]
  | false => rw [if_neg Bool.false_ne_true, h2 rfl, Bool.false_or]
theorem mIf_t (h : t g = .ok true) (h2 : a g = .ok x) : mIf t a b g = .ok x := by
  unfold mIf; rw [h, Rs.bind_ok, if_pos rfl, h2]
theorem mIf_f (h : t g = .ok false) (h2 : b g = .ok x) : mIf t a b g = .ok x := by
  unfold mIf; rw [h, Rs.bind_ok, if_neg Bool.false_ne_true, h2]
theorem mS_eq (h : a g = .ok (.int i)) : mS a g = .ok (some i) := by
  unfold mS; rw [h]; rfl
theorem mN_eq : mN g = .ok none := rfl
theorem mSl_eq {l h : G → Rs (Option Int)} {lo hi : Option Int} (ha : a g = .ok (.lst xs)) (hl : l g = .ok lo) (hh : h g = .ok hi) : mSl a l h g = .ok (.lst (cutD xs lo hi)) := by
  unfold mSl; rw [ha, Rs.bind_ok, hl, Rs.bind_ok, hh, Rs.bind_ok]; rfl
theorem chain_le {k : Int} (ha : a g = .ok (.int i)) (hb : b g = .ok (.int j)) (hc : c g = .ok (.int k)) : mCh dLe dLe a b c g = .ok (.bl (decide (i ≤ j) && decide (j ≤ k))) := by
  unfold mCh
  rw [ha, Rs.bind_ok, hb, Rs.bind_ok, dLe_i, Rs.of_some, Rs.bind_ok]
  cases decide (i ≤ j) with
  | false => rfl
  | true =>
    show (c g).bind _ = _
    rw [hc, Rs.bind_ok, dLe_i]
    rfl
theorem mItems_l (h : a g = .ok (.lst xs)) : mItems a g = .ok xs := by
  unfold mItems; rw [h]; rfl
theorem rgD_0 (n : Nat) : rgD 0 (n : Int) = (List.range n).map fun (i : Nat) => D.int (i : Int) := by
  unfold rgD
  rw [show ((n : Int) - 0).toNat = n by omega]
  refine List.map_congr_left fun i _ => ?_
  rw [Int.zero_add]
theorem rng1_nat {n : Nat} (hn : n ≤ LIM) (h : ar g = .ok [.int n]) : mRng1 ar g = .ok ((List.range n).map fun (i : Nat) => D.int (i : Int)) := by
  unfold mRng1
  rw [h]
  show (if _ then _ else _) = _
  rw [if_pos (by unfold LIM at hn; omega), rgD_0]
theorem rng2_eq {lo hi : Int} (hn : -1000000 ≤ lo ∧ lo ≤ 1000000 ∧ -1000000 ≤ hi ∧ hi ≤ 1000000) (h : ar g = .ok [.int lo, .int hi]) : mRng2 ar g = .ok (rgD lo hi) := by
  unfold mRng2
  rw [h]
  show (if _ then _ else _) = _
  rw [if_pos (by omega)]
theorem dLen_map {α : Type} (f : α → D) (l : List α) : dLen [.lst (l.map f)] = some (.int l.length) := by rw [dLen_l, List.length_map]
theorem tst {k l : Bool} (h : t g = .ok k) (e : k = l) : t g = .ok l := e ▸ h
theorem dEq_t (h : i = j) : dEq (.int i) (.int j) = some (.bl true) := by rw [dEq_i, decide_eq_true h]
theorem dEq_f (h : i ≠ j) : dEq (.int i) (.int j) = some (.bl false) := by rw [dEq_i, decide_eq_false h]
theorem dLt_t (h : i < j) : dLt (.int i) (.int j) = some (.bl true) := by rw [dLt_i, decide_eq_true h]
theorem dLt_f (h : ¬ i < j) : dLt (.int i) (.int j) = some (.bl false) := by rw [dLt_i, decide_eq_false h]
theorem dGt_t (h : j < i) : dGt (.int i) (.int j) = some (.bl true) := by rw [dGt_i, decide_eq_true h]
theorem dGt_f (h : ¬ j < i) : dGt (.int i) (.int j) = some (.bl false) := by rw [dGt_i, decide_eq_false h]
theorem dAdd_map {α : Type} {f : α → D} {p q : List α} (h : p.length + q.length ≤ LIM) : dAdd (.lst (p.map f)) (.lst (q.map f)) = some (.lst ((p ++ q).map f)) := by
  rw [dAdd_l (by rw [List.length_map, List.length_map]; exact h), List.map_append]
theorem atI_0 {α : Type} (x : α) (l : List α) : atI (x :: l) 0 = some x := atI_nat (j := 0) rfl
end
/-! ### comprehensions and loops in one word -/
theorem mLc_enc {α : Type} {vs : List Nat} {mi : G → Rs (List D)} {tg : Tg} {e : G → Rs D} {g : G} (en : α → D) (v : α → D) (xs : List α) (h1 : mi g = .ok (xs.map en)) (hl : xs.length ≤ LIM)
    (h : ∀ a ∈ xs, ∃ ps, tg.put' (en a) = .ok ps ∧ e (setsG (killG vs g) ps) = .ok (v a)) : mLc vs mi tg mYes e g = .ok (xs.map v) :=
  mLc_eq h1 (by rw [List.length_map]; exact hl) (lcGo_enc en v xs h)
/-- a loop that only looks: it goes on while f says so, else it ends with r -/
theorem forGo_look {α : Type} {tg : Tg} {ks : List Nat} {b : Sta → Rs Ou} {st : Sta} (en : α → D) (f : α → Bool) (r : Rs Ou) (hr : ∀ s, r ≠ .ok (.nx s) ∧ r ≠ .ok (.ct s) ∧ r ≠ .ok (.bk s)) : ∀ xs : List α, (∀ a ∈ xs, ∃ ps, tg.put' (en a) = .ok ps ∧ muFree st.mu tg.slots = true ∧
      (f a = true → ∃ s', b (st.sets ps) = .ok (.nx s') ∧ s'.kill ks = st) ∧ (f a = false → b (st.sets ps) = r)) → forGo tg ks b (xs.map en) st = if xs.all f then .ok (.nx st) else r
  | [], _ => rfl
  | a :: xs, h => by
    obtain ⟨ps, h1, h2, h3, h4⟩ := h a List.mem_cons_self
    have ih := forGo_look en f r hr xs fun x hx => h x (List.mem_cons_of_mem _ hx)
    rw [List.map_cons, List.all_cons]
    unfold forGo
    rw [h1, Rs.bind_ok, if_pos h2]
    cases q : f a with
    | true =>
      obtain ⟨s', h5, h6⟩ := h3 q
      rw [h5, Rs.bind_ok]
      show forGo tg ks b (xs.map en) (s'.kill ks) = _
      rw [h6, ih, Bool.true_and]
    | false =>
      rw [h4 q, Bool.false_and]
      cases e : r with
      | ok o =>
        cases o with
        | nx s => exact absurd e (hr s).1
        | ct s => exact absurd e (hr s).2.1
        | bk s => exact absurd e (hr s).2.2
        | rt d => rfl
      | ex c z => rfl
      | no => rfl
/-- a loop that only looks and never ends early -/
theorem forGo_pass {α : Type} {tg : Tg} {ks : List Nat} {b : Sta → Rs Ou} {st : Sta} (en : α → D) (xs : List α) (h : ∀ a ∈ xs, ∃ ps, tg.put' (en a) = .ok ps ∧ muFree st.mu tg.slots = true ∧ ∃ s', b (st.sets ps) = .ok (.nx s') ∧ s'.kill ks = st) : forGo tg ks b (xs.map en) st = .ok (.nx st) := by
  have e := forGo_look (b := b) en (fun _ => true) (.no) (fun s => ⟨(fun z => nomatch z), (fun z => nomatch z), (fun z => nomatch z)⟩) xs fun a ha => by
    obtain ⟨ps, h1, h2, h3⟩ := h a ha
    exact ⟨ps, h1, h2, fun _ => h3, fun z => nomatch z⟩
  rw [e, if_pos (List.all_eq_true.mpr fun _ _ => rfl)]
end Z
set_option Elab.async false
set_option linter.all false
set_option maxRecDepth 100000
set_option maxHeartbeats 4000000
/-! Z, part H: from the top's facts to the defs; the law's end. -/
namespace Z
set_option autoImplicit false
open PySem L2
section
variable {P : Program} {w : World} {K : PySem.W.Frag} {mg : Str → Option Value} {base : Heap} {C : Addr} {h : Heap} {fa : List He.Fa} {fn : List He.DefD}
theorem funD_fun {x qual : Str} {st : Stmt} {f : Addr} {fd : FuncData} (F : FunD K x qual (defArgs st) (defBody st) (defScope st) [] [] f fd) : Fun K x qual st f fd := by
  obtain ⟨⟨oc, od, dV, kV, doc, pm, an, cdv, ct, osl, e, lk, hcd, hD, _⟩, kp⟩ := F
  rcases hD with ⟨_, rfl⟩ | ⟨z, _⟩
  · exact ⟨⟨oc, od, kV, doc, pm, an, cdv, ct, osl, e, lk, hcd⟩, kp⟩
  · exact absurd rfl z
/-- the datum of a def -/
def dat (x : Str) (st : Stmt) : He.DefD := ⟨(x, none), x, x, defArgs st, defBody st, defScope st, [], []⟩
theorem dn_of (X : K.In h) (G : h.Ns mainGlobals mg) (c : He.SaysD fa fn K) (i j : Nat) {x : Str} {st : Stmt} {ps : List Str} (hi : fn[i]? = some (dat x st)) (hj : fa[j]? = some (.glo x))
    (hb : ∀ (kV doc pm : Value) (an : Option Addr) (cdv ct : Value) (us : List Value), us.length = ps.length → bindArgs (PySem.W.fnOf x x (defArgs st) (defBody st) (defScope st) .none kV doc pm an cdv ct) ⟨us, []⟩ = pure (ps.zip us)) : Dn K mg x st ps := by
  obtain ⟨fd, F⟩ := c.def_ i hi
  have F2 : Fun K x x st (He.fAd K (x, none)) fd := funD_fun F
  exact ⟨_, fd, F2, He.glo_ok X G (c.fact j hj), F2.binds hb⟩
end
/-! the law's end: what its mirror tells is True -/
theorem spM_law {K : PySem.W.Frag} {C : Addr} {φ : List D → Rs D} {H : Hp} {a : Addr} {ns : List Int} (hS : SqL K H a (ns.map V.int)) (hq : φ [.scr ns] = .ok (.bl true)) : spM K C 1 φ [.ref a] H (fun v _ => v = .bl true) fun _ _ _ => False := by
  refine ⟨H, [.scr ns], Same.refl H, .cons (.scr hS) .nil, rfl, ?_⟩
  rw [hq]
  intro v H' g P T σ S
  obtain ⟨F, f⟩ := S
  have z := f.ts _ List.mem_cons_self
  cases z
  rfl
end Z
set_option Elab.async false
set_option linter.all false
set_option maxRecDepth 100000
set_option maxHeartbeats 4000000
/-! Z, part M: a list that was told is changed. -/
namespace Z
set_option autoImplicit false
open PySem L2
section
variable {K : PySem.W.Frag} {C : Addr}
/-- where the list that is changed lies in what was told -/
inductive Pth where
  | here
  | snd
def Pth.get : Pth → D → Option (List D)
  | .here, .lst ds => some ds
  | .snd, .tup [_, .lst ds] => some ds
  | _, _ => none
def Pth.te (K : PySem.W.Frag) (f : Nat) : Pth → TE
  | .here => tVar f
  | .snd => tOp (rIx2 K) (tVar f) (tC (.int 1))
theorem Pth.run {pth : Pth} {f : Nat} {σ : L2.St} {H F : Hp} {v : V} {d : D} {ds : List D} {Q : VK} (hf : σ[f]? = some (some v)) (e : Same F H) (iv : Is K C F v d) (h : pth.get d = some ds) (q : ∀ p vs, F p = some (.lst vs) → IsA K C F vs ds → Q (.ref p) H) : pth.te K f σ H Q := by
  cases pth with
  | here =>
    cases iv <;> try cases h
    rename_i h1 h2
    exact ⟨_, hf, q _ _ h1 h2⟩
  | snd =>
    cases iv with
    | @tup a vs dd h1 h2 =>
      unfold Pth.get at h
      split at h
      · rename_i ez; cases ez
      · rename_i x ds' ez
        cases ez
        cases h
        cases h2 with
        | cons i1 i2 =>
          cases i2 with
          | cons i3 i4 =>
            cases i4
            cases i3 with
            | lst h5 h6 =>
              exact ⟨_, hf, .inr ⟨_, _, 1, _, rfl, rfl, .inl (.inl (e _ _ h1)), atI_nat (j := 1) rfl, q _ _ h5 h6⟩⟩
      · cases h
    | _ => cases h
variable {E : XK}
end
end Z
set_option Elab.async false
set_option linter.all false
set_option maxRecDepth 100000
set_option maxHeartbeats 4000000
/-! Z, part T: try .. except. -/
namespace Z
set_option autoImplicit false
open PySem L2
/-! ### a wish that every state of the frame grants -/
def EWn (n : Nat) (W : WX) : XK := fun cls d H => ∀ σ : L2.St, σ.length = n → W cls d σ H
theorem passes_n {X : Cx} {W : WX} {n : Nat} (tk : Takes X W) (hn : X.N.length = n) : Passes (L2.CX X.prog X.w) X (EWn n W) :=
  fun pins σ H s e s' I c => tk e s' (XE.of_call I (fun cls d H' h => h σ (I.len.trans hn)) c)
/-- another base of a state -/
theorem SS.rebase {K : PySem.W.Frag} {C : Addr} {F0 H0 F H H' : Hp} {g g' : G} {P P' : List (Addr × List V)} {T T' : List (V × D)} {σ σ' : L2.St} (f : Fz ⟨K, C, F0, H0⟩ g P T σ H F) (S : SS ⟨K, C, F, H⟩ g' P' T' σ' H') : SS ⟨K, C, F0, H0⟩ g' P' T' σ' H' := by
  obtain ⟨F2, f2⟩ := S
  exact ⟨F2,
    { eF := f.eF.trans f2.eF
      eH := f2.eH
      e0 := f.e0.trans f2.e0
      nw := fun p hp hf => by
        cases q : H0 p with
        | none => exact absurd q hp
        | some o =>
          have h1 : H p = some o := f.e0 p o q
          exact f2.nw p (by show H p ≠ none; rw [h1]; exact fun z => nomatch z) (f.nw p hp hf)
      sl := f2.sl
      ln := f2.ln
      ts := f2.ts
      pr := fun x hx => by
        obtain ⟨a, b, c⟩ := f2.pr x hx
        exact ⟨a, f.e0.free b, c⟩ }⟩
theorem SSm.rebase {K : PySem.W.Frag} {C : Addr} {F0 H0 F H H' : Hp} {g : G} {P : List (Addr × List V)} {T T' : List (V × D)} {σ σ' : L2.St} {s : Sta} (f : Fz ⟨K, C, F0, H0⟩ g P T σ H F) (S : SSm ⟨K, C, F, H⟩ s T' σ' H') : SSm ⟨K, C, F0, H0⟩ s T' σ' H' := by
  obtain ⟨P2, T2, t, mu, S⟩ := S
  exact ⟨P2, T2, t, mu, SS.rebase f S⟩
def sTry (n : Nat) (m : Sta → Rs Ou) (hnd : Addr → Option Int → Rs D) : Sta → Rs Ou := fun s => match s.mu with
  | some _ => .no
  | none => if s.g.length = n then (match m s with
    | .ok o => .ok o
    | .ex c r => (hnd c r).nx.bind fun d => .ok (.rt d)
    | .no => .no) else .no
/-- the error's own dict -/
def Xd (H : Hp) (dd : Option Addr) : Option Int → Prop
  | none => dd = none
  | some m => ∃ p, dd = some p ∧ H p = some (.xd [(("road" : Str), .int m)])
/-- what the clauses do with an error -/
structure SuW (K : PySem.W.Frag) (C : Addr) (n : Nat) (wW : Ends → WX) (hnd : Addr → Option Int → Rs D) : Prop where
  run : ∀ F0 H0 F H c r dd d D' σ, Fz ⟨K, C, F0, H0⟩ (List.replicate n none) [] [] σ H F → Xd H dd r → hnd c r = .ok d → (∀ v H' T g P σ', SS ⟨K, C, F0, H0⟩ g P ((v, d) :: T) σ' H' → D'.rt v H') → wW D' (.ref c) dd σ H
section
variable {K : PySem.W.Frag} {C : Addr} {E : XK}
theorem sm_try {n : Nat} {tb : XK → TS} {m : Sta → Rs Ou} {wW : Ends → WX} {hnd : Addr → Option Int → Rs D} (hb : ∀ E, SM K C E (tb E) m) (hw : SuW K C n wW hnd) : SM K C E (fun D' σ H => tb (EWn n (wW D')) D' σ H) (sTry n m hnd) := ⟨fun F0 H0 s T σ H D' S wsh => by
  obtain ⟨P, T1, t1, mu, S1⟩ := S
  obtain ⟨F, f⟩ := S1
  unfold sTry at wsh
  cases emu : s.mu with
  | some q =>
    rw [emu] at wsh
    exact wsh.elim
  | none =>
    rw [emu] at wsh mu
    have mu' : P = [] := mu
    subst mu'
    dsimp only at wsh
    split at wsh
    · rename_i hn
      have S2 : SSm ⟨K, C, F, H⟩ s T σ H := ⟨[], T1, t1, by rw [emu]; rfl, F,
        { eF := Same.refl F, eH := f.eH, e0 := Same.refl H, nw := fun _ _ z => z, sl := f.sl, ln := f.ln, ts := f.ts, pr := fun x hx => by cases hx }⟩
      refine (hb (EWn n (wW D'))).run F H s T σ H D' S2 ?_
      have growH : ∀ {H' : Hp}, Same H H' → Fz ⟨K, C, F0, H0⟩ s.g [] T1 σ H' F := fun e => f.grow (Same.refl F) (f.eH.trans e) e fun _ _ z => z
      cases em : m s with
      | no =>
        rw [em] at wsh
        exact wsh.elim
      | ok o =>
        rw [em] at wsh
        show Post K C F H T D' o
        have wsh' : Post K C F0 H0 T D' o := wsh
        cases o with
        | nx s' => exact fun σ' H' Z => wsh' σ' H' (SSm.rebase f Z)
        | rt d => exact fun v H' g P T' σ' Z => wsh' v H' g P T' σ' (SS.rebase f Z)
        | bk s' => exact fun σ' H' Z => wsh' σ' H' (SSm.rebase f Z)
        | ct s' => exact fun σ' H' Z => wsh' σ' H' (SSm.rebase f Z)
      | ex c r =>
        rw [em] at wsh
        dsimp only at wsh
        have key : ∃ d, hnd c r = .ok d ∧ ∀ v H' g P T' σ', SS ⟨K, C, F0, H0⟩ g P ((v, d) :: T') σ' H' → D'.rt v H' := by
          cases eh : hnd c r with
          | ok d =>
            rw [eh] at wsh
            exact ⟨d, rfl, wsh⟩
          | ex _ _ => rw [eh] at wsh; exact wsh.elim
          | no => rw [eh] at wsh; exact wsh.elim
        obtain ⟨d, eh, hd⟩ := key
        have go : ∀ (dd : Option Addr) (H' : Hp), Same H H' → Xd H' dd r → EWn n (wW D') (.ref c) dd H' := fun dd H' e x σ' hσ => by
          refine hw.run F0 H0 F H' c r dd d D' σ' ?_ x eh fun v H2 T2 g2 P2 σ2 S => hd v H2 g2 P2 T2 σ2 S
          have g1 := growH e
          exact
            { eF := g1.eF
              eH := g1.eH
              e0 := g1.e0
              nw := g1.nw
              sl := fun i d' z => by
                rw [List.getElem?_replicate] at z
                split at z <;> cases z
              ln := by rw [hσ, List.length_replicate]
              ts := fun x hx => by cases hx
              pr := fun x hx => by cases hx }
        show XOk H (EWn n (wW D')) c r
        cases r with
        | none => exact fun H' e => go none H' e rfl
        | some k => exact fun dx H' e hn hx => go (some dx) H' e ⟨dx, rfl, hx⟩
    · exact wsh.elim⟩
end
/-! ### isinstance of a caught error -/
structure ExF (K : PySem.W.Frag) (c : Addr) : Prop where
  hcl : (PySem.W.clsIn K c).isSome = true
  hga : PySem.W.findIn K (.ref c) "__getattribute__" = some (some (.builtin "BaseException.__getattribute__"))
  hgt : PySem.W.findIn K (.ref c) "__getattr__" = some none
  hsub : PySem.W.subIn K (.ref c) (.type "BaseException") = some true
  ha : PySem.W.findIn K (.ref c) "__class__" = some (some (.builtin "object.__class__"))
  hn : PySem.W.specialIn K (.builtin "object.__class__") "__get__" = some (some (.builtin "getset_descriptor.__get__"))
  ht : PySem.W.takesIn K (.builtin "object.__class__") = some true
  hm : PySem.W.mroIn K c (.type "object") = some true
def exFB (K : PySem.W.Frag) (c : Addr) : Bool := (PySem.W.clsIn K c).isSome && (decide (PySem.W.findIn K (.ref c) "__getattribute__" = some (some (.builtin "BaseException.__getattribute__"))) && (decide (PySem.W.findIn K (.ref c) "__getattr__" = some none) && (decide (PySem.W.subIn K (.ref c) (.type "BaseException") = some true) &&
  (decide (PySem.W.findIn K (.ref c) "__class__" = some (some (.builtin "object.__class__"))) && (decide (PySem.W.specialIn K (.builtin "object.__class__") "__get__" = some (some (.builtin "getset_descriptor.__get__"))) && (decide (PySem.W.takesIn K (.builtin "object.__class__") = some true) && decide (PySem.W.mroIn K c (.type "object") = some true)))))))
theorem exFB_ok {K : PySem.W.Frag} {c : Addr} (h : exFB K c = true) : ExF K c := by
  unfold exFB at h
  simp only [Bool.and_eq_true, decide_eq_true_eq] at h
  obtain ⟨h1, h2, h3, h4, h5, h6, h7, h8⟩ := h
  exact ⟨h1, h2, h3, h4, h5, h6, h7, h8⟩
def Xfs (H : Hp) (dd : Option Addr) : Prop := dd = none ∨ ∃ p fs, dd = some p ∧ H p = some (.xd fs)
theorem Xd.fs {H : Hp} {dd : Option Addr} {r : Option Int} (h : Xd H dd r) : Xfs H dd := by
  cases r with
  | none => exact .inl h
  | some m =>
    obtain ⟨p, e, z⟩ := h
    exact .inr ⟨p, _, e, z⟩
def rIsO (K : PySem.W.Frag) (a : Addr) (cls : Value) (dd : Option Addr) (t : Value) : List V → Hp → VK → Prop := fun xs H Q => ∃ (c : Addr) (u : V) (b : Bool), xs = [.ref a, u] ∧ (∀ z, RelV u z → z = t) ∧ cls = .ref c ∧ ExF K c ∧ Xfs H dd ∧ PySem.W.kitOne K (.ref c) t = some b ∧ Q (.bl b) H
theorem inst_of {X : Cx} {a c : Addr} {dd : Option Addr} {oe : Obj} {pn pins : List (Addr × Obj)} {σ : L2.St} {H : Hp} {s : Shared} (I : Inv (X.suite a ((a, oe) :: pn)) pins σ H s) (hz : Zc (.ref c) dd oe) (hf : ∃ vs, oe.data = .fields vs) (hx : Xfs H dd) : ∃ od, PySem.W.InstAt s.heap a oe c od := by
  obtain ⟨hget, _⟩ := I.pin (a, oe) (List.mem_append.mpr (.inl List.mem_cons_self))
  obtain ⟨vs, hv⟩ := hf
  have hno : PySem.W.notCls oe = true := by unfold PySem.W.notCls; rw [hv]
  rcases hx with e | ⟨p, fs, e, hp⟩
  · refine ⟨none, hget, hz.1, hno, ?_⟩
    rw [hz.2, e]
    trivial
  · have ho : ObjOk X.prog X.w H s.heap p (.xd fs) := I.hok p _ hp
    obtain ⟨mA, hns, _⟩ := ho
    obtain ⟨od, h1, _⟩ := lookIn_ns hns
    refine ⟨some od, hget, hz.1, hno, ?_⟩
    rw [hz.2, e]
    exact h1
theorem call_isO {X : Cx} {a : Addr} {cls : Value} {dd : Option Addr} {oe : Obj} {pn : List (Addr × Obj)} {t : Value} (hz : Zc cls dd oe) (hf : ∃ vs, oe.data = .fields vs) : CallR (X.suite a ((a, oe) :: pn)) (.builtin "isinstance") (rIsO X.K a cls dd t) := by
  intro pins s σ H xs us Q I r h
  obtain ⟨c, u, b, exs, hu, ecl, EF, hx, hk, hq⟩ := h
  subst exs
  subst ecl
  cases r with
  | cons ra rr =>
  cases rr with
  | cons rt re =>
  cases re
  have e2 := hu _ rt
  subst e2
  cases ra
  obtain ⟨od, J⟩ := inst_of I hz hf hx
  exact PySem.W.kia_one (PySem.W.kitx_exc EF.hcl EF.hga EF.hgt EF.hsub EF.ha EF.hn EF.ht EF.hm) I.kIn J hk (fun z => nomatch z) fun tk => ⟨.bl b, H, I.kept (t' := tk) fun _ _ z => z, rfl, hq⟩
/-- isinstance(e, T) of the error that the suite holds -/
def tIsE (K : PySem.W.Frag) (i a : Addr) (cls : Value) (dd : Option Addr) (u : V) (t : Value) : TE := tCB (rIsO K a cls dd t) (tCons (tVar i) (tCons (tC u) tNil))
section
variable {X : Cx} {K : PySem.W.Frag} {C : Addr} {E : XK}
theorem pe_isO {a i tA : Addr} {cls : Value} {dd : Option Addr} {oe : Obj} {pn : List (Addr × Obj)} {x tn : Str} {p q1 q2 pos : Pos} (hz : Zc cls dd oe) (hf : ∃ vs, oe.data = .fields vs) (hm : X.mg "isinstance" = none) (hT : X.mg tn = some (.ref tA)) (hN : X.N[i]? = some x) (hv : Vis X.env.scope x)
    (hd : (x == ("__debug__" : Str)) = false := by decide) (hcd : (x == ("__classdict__" : Str)) = false := by decide) (hg : Gl X "isinstance" := by rfl) (hgT : Gl X tn := by rfl) (hdT : (tn == ("__debug__" : Str)) = false := by decide)
    (he : starEach [.Name x q1, .Name tn q2] X.env = (false, eval (.Name x q1) X.env) :: starEach [.Name tn q2] X.env := by rfl) (he2 : starEach [.Name tn q2] X.env = (false, eval (.Name tn q2) X.env) :: starEach [] X.env := by rfl) (hpl : (backTo pos (starEach [.Name tn q2] X.env)).any (·.1) = false := by rfl) :
    PE (X.suite a ((a, oe) :: pn)) (.Call (.Name "isinstance" p) [.Name x q1, .Name tn q2] [] pos) (tIsE X.K i a cls dd (.ref tA) (.ref tA)) :=
  pe_callB (X := X.suite a ((a, oe) :: pn)) (call_isO hz hf) hg hm (by decide +kernel) (pa_cons (pe_var hN hv hd hcd) (pa_cons (pe_glob hgT hT rfl hdT) pa_nil he2) he) (by decide) (by decide) he hpl
def hIs (l : List (Addr × Bool)) : Addr → Option Int → Rs D := fun c _ => match l.lookup c with
  | some b => .ok (.bl b)
  | none => .no
theorem suW_is {c i tA n : Nat} {l : List (Addr × Bool)} (hi : i < n) (hl : ∀ c' b, l.lookup c' = some b → PySem.W.exmOne K (.ref c') (.ref c) = some true ∧ ExF K c' ∧ PySem.W.kitOne K (.ref c') (.ref tA) = some b) :
    SuW K C n (fun D' => wAs K (.ref c) i (fun a cls d => tSeq (tRet (tIsE K i a cls d (.ref tA) (.ref tA))) tNext) (fun _ _ _ _ => False) D') (hIs l) := ⟨fun F0 H0 F H c' r dd d D' σ f hx eh hd => by
  unfold hIs at eh
  cases el : l.lookup c' with
  | none => rw [el] at eh; cases eh
  | some b =>
    rw [el] at eh
    cases eh
    obtain ⟨h1, h2, h3⟩ := hl c' b el
    refine ⟨true, h1, fun _ a ha => ?_, fun z => nomatch z⟩
    refine ⟨.ref a, ?_, c', .ref tA, b, rfl, fun z hz => hz, rfl, h2, hx.fs, h3, ?_⟩
    · have hln : σ.length = n := by rw [f.ln, List.length_replicate]
      rw [List.getElem?_set_self (by rw [hln]; exact hi)]
    · refine hd (.bl b) H [] (List.replicate n none) [] σ ⟨F, ?_⟩
      exact f.addT (.bl b)⟩
/-- try: .. except X as e: return isinstance(e, T) -/
theorem z_tryIs {body : List Stmt} {x nm : Str} {c i tA n : Nat} {np p q1 q2 p2 pos' pos q3 : Pos} {tn : Str} {tb : XK → TS} {m : Sta → Rs Ou} {l : List (Addr × Bool)} (hs : X.stack = X.env :: X.outer) (hf : X.env.frame = some X.env.locals) (hN : X.N.Nodup) (hi : X.N[i]? = some nm) (hln : X.env.kindOf nm = some .local) (hn : X.N.length = n)
    (hc : Names X x (.ref c)) (hm : X.mg "isinstance" = none) (hT : X.mg tn = some (.ref tA)) (hv : Vis X.env.scope nm) (hb : ∀ (E : XK) (pn : List (Addr × Obj)) (xe : Value → Shared → Prop), Passes (L2.CX X.prog X.w) (X.tr pn xe) E → PSSM (X.tr pn xe) K C E body (tb E) m)
    (hl : ∀ c' b, l.lookup c' = some b → PySem.W.exmOne K (.ref c') (.ref c) = some true ∧ ExF K c' ∧ PySem.W.kitOne K (.ref c') (.ref tA) = some b)
    (hg : Gl X "isinstance" := by rfl) (hgT : Gl X tn := by rfl) (hdT : (tn == ("__debug__" : Str)) = false := by decide) (hd : (nm == ("__debug__" : Str)) = false := by decide) (hcd : (nm == ("__classdict__" : Str)) = false := by decide)
    (he : starEach [.Name nm q1, .Name tn q2] X.env = (false, eval (.Name nm q1) X.env) :: starEach [.Name tn q2] X.env := by rfl) (he2 : starEach [.Name tn q2] X.env = (false, eval (.Name tn q2) X.env) :: starEach [] X.env := by rfl) (hpl : (backTo p2 (starEach [.Name tn q2] X.env)).any (·.1) = false := by rfl) (hK : X.K = K := by rfl) :
    PSM X K C E (.Try body [.ExceptHandler (some (.Name x np)) (some nm) [.Return (some (.Call (.Name "isinstance" p) [.Name nm q1, .Name tn q2] [] p2)) q3] pos'] [] [] pos)
      (fun D' σ H => tb (EWn n (wAs K (.ref c) i (fun a cls d => tSeq (tRet (tIsE K i a cls d (.ref tA) (.ref tA))) tNext) (fun _ _ _ _ => False) D')) D' σ H) (sTry n m (hIs l)) := by
  subst hK
  refine ⟨?_, sm_try (fun E => (hb E [] (fun _ _ => True) fun _ _ _ _ _ _ _ _ => trivial).q) (suW_is (by rw [← hn]; exact (List.getElem?_eq_some_iff.mp hi).1) hl)⟩
  exact ps_try_as (tb := fun W => tb (EWn n W)) hs hf hN hi hln hc takes0 (fun W pn xe tk _ => (hb (EWn n W) pn xe (passes_n tk hn)).p) (fun a oe cls d pn hz hfl => pss_cons (ps_ret (pe_isO hz hfl hm hT hi hv hd hcd hg hgT hdT he he2 hpl)) pss_nil)
theorem lookup_in {l : List (Addr × Bool)} {c : Addr} {b : Bool} (h : l.lookup c = some b) : (c, b) ∈ l := by
  induction l with
  | nil => cases h
  | cons q r ih =>
    obtain ⟨c1, b1⟩ := q
    by_cases e : c = c1
    · subst e
      rw [List.lookup_cons_self] at h
      cases h
      exact List.mem_cons_self
    · have e2 : (c == c1) = false := by simpa using e
      have h' : (match c == c1 with | true => some b1 | false => r.lookup c) = some b := h
      rw [e2] at h'
      exact List.mem_cons_of_mem _ (ih h')
theorem hl_of {l : List (Addr × Bool)} {P : Addr → Bool → Prop} (h : ∀ q ∈ l, P q.1 q.2) : ∀ c' b, l.lookup c' = some b → P c' b := fun c' b e => h (c', b) (lookup_in e)
theorem hl_nil {P : Addr → Bool → Prop} : ∀ q ∈ ([] : List (Addr × Bool)), P q.1 q.2 := fun q hq => nomatch hq
theorem hl_cons {l : List (Addr × Bool)} {P : Addr → Bool → Prop} {c : Addr} {b : Bool} (h : P c b) (r : ∀ q ∈ l, P q.1 q.2) : ∀ q ∈ (c, b) :: l, P q.1 q.2 := fun q hq => by
  rcases List.mem_cons.mp hq with e | e
  · rw [e]; exact h
  · exact r q e
/-- xs[k] = e, where k and e, numbers, look at xs -/
def sPutP (i : Nat) (k e : G → Rs D) : Sta → Rs Ou := fun s => match s.mu with
  | none => .no
  | some (j, ds) => if j = i ∧ i < s.g.length then (e (s.g.set i (some (.lst ds)))).nx.bind fun d => (k (s.g.set i (some (.lst ds)))).nx.bind fun z => (match d, z with
      | .int d, .int z => (match ixN ds.length z with
        | some n => .ok (.nx ⟨s.g, some (j, ds.set n (.int d))⟩)
        | none => .no)
      | _, _ => .no) else .no
theorem wish_ok {α : Type} {o : Rs α} {H0 : Hp} {E : XK} {Q : α → Prop} (h : Wish H0 E o.nx Q) : ∃ a, o = .ok a ∧ Q a := by
  cases o with
  | ok a => exact ⟨a, rfl, h⟩
  | ex c r => exact h.elim
  | no => exact h.elim
/-- a look at a list that may still change: an int is read -/
theorem peek_run {F0 H0 : Hp} {s : Sta} {i : Nat} {ds : List D} {p : Addr} {vs : List V} {T : List (V × D)} {σ : L2.St} {H : Hp} {te : TE} {m : G → Rs D} {n : Int} {Q : VK} (h : EM K C E te m) (S : SS ⟨K, C, F0, H0⟩ s.g [(p, vs)] T σ H) (hi : σ[i]? = some (some (.ref p))) (al : Al T vs ds)
    (e : m (s.g.set i (some (.lst ds))) = .ok (.int n)) (q : ∀ H', SS ⟨K, C, F0, H0⟩ s.g [(p, vs)] T σ H' → Q (.int n) H') : te σ H Q := by
  obtain ⟨F, f⟩ := S
  obtain ⟨p1, p2, p3⟩ := f.pr (p, vs) List.mem_cons_self
  have eFp : Same F (upd F p (.lst vs)) := fun b u z => by
    rw [upd_ne (ne_of_none z p1)]
    exact z
  have S2 : SS ⟨K, C, upd F p (.lst vs), H⟩ (s.g.set i (some (.lst ds))) [] [] σ H := ⟨upd F p (.lst vs),
    { eF := Same.refl _
      eH := fun b u z => by
        by_cases hb : b = p
        · subst hb
          rw [upd_same] at z
          rw [← z]
          exact p3
        · rw [upd_ne hb] at z
          exact f.eH b u z
      e0 := Same.refl _
      nw := fun _ _ z => z
      sl := fun j d z => by
        rcases get_set z with ⟨rfl, z2, _⟩ | ⟨_, z2⟩
        · cases z2
          exact ⟨.ref p, hi, .lst upd_same (IsA.mono eFp _ _ (f.all al))⟩
        · obtain ⟨v, h1, h2⟩ := f.sl j d z2
          exact ⟨v, h1, Is.mono eFp _ _ h2⟩
      ln := by rw [List.length_set]; exact f.ln
      ts := fun x hx => by cases hx
      pr := fun x hx => by cases hx }⟩
  refine h.run _ H _ [] [] σ H Q S2 ?_
  rw [e]
  intro v H' S3
  obtain ⟨F3, f3⟩ := S3
  have iv := f3.ts _ List.mem_cons_self
  cases iv
  exact q H' ⟨F, f.grow (Same.refl F) (f.eH.trans f3.e0) f3.e0 fun _ _ z => z⟩
theorem sm_putP {i : Nat} {k me : G → Rs D} {te tk : TE} (h : EM K C E te me) (hk : EM K C E tk k) : SM K C E (tAsg te (gSub (tVar i) tk rSetL)) (sPutP i k me) := ⟨fun F0 H0 s T σ H D' S w => by
  obtain ⟨P, T1, t1, mu, S1⟩ := S
  unfold sPutP at w
  cases e : s.mu with
  | none =>
    rw [e] at w
    exact w.elim
  | some q =>
    obtain ⟨j, ds⟩ := q
    rw [e] at w mu
    dsimp only at w
    split at w
    · rename_i hc
      obtain ⟨rfl, hlt⟩ := hc
      obtain ⟨p, vs, h1, h2, h3, h4⟩ := mu
      subst h1
      obtain ⟨d, ed, w⟩ := wish_ok w.bind
      obtain ⟨z, ez, w⟩ := wish_ok w.bind
      cases d with
      | int dn =>
        cases z with
        | int zn =>
          dsimp only at w
          cases en : ixN ds.length zn with
          | none =>
            rw [en] at w
            exact w.elim
          | some n =>
            rw [en] at w
            refine peek_run h S1 h2 h3 ed fun H1 S2 => ?_
            refine ⟨.ref p, h2, ?_⟩
            refine peek_run hk S2 h2 h3 ez fun H2 S3 => ?_
            refine ⟨p, vs, zn, n, rfl, rfl, S3.cell, by rw [h3.len]; exact en, ?_⟩
            have S4 : SS ⟨K, C, F0, H0⟩ s.g [(p, vs)] ((.int dn, .int dn) :: T1) σ H2 := S3.addT fun F _ => .int dn
            exact w _ _ ⟨[(p, vs.set n (.int dn))], (.int dn, .int dn) :: T1, fun x hx => List.mem_cons_of_mem _ (t1 x hx), ⟨p, _, rfl, h2, al_set List.mem_cons_self n (h3.mono fun z hz => List.mem_cons_of_mem _ hz), h4⟩, S4.write fun x hx => by cases hx⟩
        | _ => exact w.elim
      | _ => exact w.elim
    · exact w.elim⟩
theorem z_putP {i : Nat} {x : Str} {e k : Expr} {te tk : TE} {m mk : G → Rs D} {p1 p2 pos : Pos} (hN : X.N[i]? = some x) (hv : Vis X.env.scope x) (he : PEM X K C E e te m) (hk : PEM X K C E k tk mk) (hd : (x == ("__debug__" : Str)) = false := by decide) (hcd : (x == ("__classdict__" : Str)) = false := by decide)
    (ha : ∀ v, assign (.Subscript (.Name x p1) k p2) X.env v = (do
      let ov ← holding [v] (eval (.Name x p1) X.env)
      let iv ← holding [v, ov] (eval k X.env)
      standAt p2
      holding [v, ov, iv] (setItem ov iv v)
      release [v, ov, iv] []) := by intro _; rfl)
    (hs : swapsWithSole [.Subscript (.Name x p1) k p2] e pos.line X.env = pure false := by rfl) (hw : swappedStores [.Subscript (.Name x p1) k p2] e X.env = pure none := by rfl)
    (h1 : (assignEach [.Subscript (.Name x p1) k p2] X.env).map (·.2) = [assign (.Subscript (.Name x p1) k p2) X.env] := by rfl) : PSM X K C E (.Assign [.Subscript (.Name x p1) k p2] e pos) (tAsg te (gSub (tVar i) tk rSetL)) (sPutP i mk m) :=
  ⟨ps_asg he.p (pg_sub (pe_var hN hv hd hcd) hk.p set_list ha) hs hw h1, sm_putP he.q hk.q⟩
end
end Z
set_option Elab.async false
set_option linter.all false
set_option maxRecDepth 100000
set_option maxHeartbeats 4000000
namespace Z
set_option autoImplicit false
open PySem L2
def m_numbers_right : Sta → Rs Ou :=
    (sSeq (sRet (mA dAll (mCons (mLst (mLc [1] (mItems (mV 0)) (.one 1) mYes (mCh dLe dLe (mC (.int 0)) (mV 1) (mC (.int 1000))))) mNil)))
    sNil)
def p_numbers_right : List D → Rs D := fun ds => (runM 2 (m_numbers_right) ds).nx
def P_numbers_right : List D → Rs D := p_numbers_right
def m_check_shelf (c_BadWorths : Addr) (φ_numbers_right : List D → Rs D) : Sta → Rs Ou :=
    (sSeq (sIf (mNot (mT (mCh dLe dLe (mC (.int 1)) (mA dLen (mCons (mV 0) mNil)) (mC (.int 4))))) (sSeq (sRaise c_BadWorths)
    sNil)
    sNil)
    (sSeq (sFor (mItems (mV 0)) (.one 1) [1]
    (sSeq (sIf (mOr (mNot (mT (mCh dLe dLe (mC (.int 1)) (mA dLen (mCons (mV 1) mNil)) (mC (.int 4))))) (mOr (mT (m2 dNe (mA dLen (mCons (mV 1) mNil)) (mA dLen (mCons (m2 dIx (mV 0) (mC (.int 0))) mNil)))) (mNot (mT (mCall (fun ds => (φ_numbers_right ds).nx) (mCons (mV 1) mNil)))))) (sSeq (sRaise c_BadWorths)
    sNil)
    sNil)
    sNil))
    sNil))
def p_check_shelf (c_BadWorths : Addr) (φ_numbers_right : List D → Rs D) : List D → Rs D := runM 2 (m_check_shelf c_BadWorths φ_numbers_right)
def P_check_shelf (c_BadWorths : Addr) : List D → Rs D := p_check_shelf c_BadWorths (P_numbers_right)
def m_dealt (φ_dealt : List D → Rs D) : Sta → Rs Ou :=
    (sSeq (sIf (mT (m2 dEq (mA dLen (mCons (mV 0) mNil)) (mC (.int 0)))) (sSeq (sRet (mTup (mCons (mC (.int 0)) (mCons (mLst mNil) mNil))))
    sNil)
    sNil)
    (sSeq (sSet2 2 3 (mCall (fun ds => (φ_dealt ds).nx) (mCons (mSl (mV 0) (mS (mC (.int 1))) mN) (mCons (mV 1) mNil))))
    (sSeq (sSet 4 (mTup (mCons (mV 2) (mCons (m2 dAdd (mLst (mCons (m1 dNeg (mC (.int 1))) mNil)) (mV 3)) mNil))))
    (sSeq (sFor (mEnum (mCons (m2 dIx (mV 0) (mC (.int 0))) mNil)) (.two 5 6) [2, 3, 5, 6, 7]
    (sSeq (sIf (mT (m2 dNi (mV 5) (mV 1))) (sSeq (sSet2 7 3 (mCall (fun ds => (φ_dealt ds).nx) (mCons (mSl (mV 0) (mS (mC (.int 1))) mN) (mCons (m2 dAdd (mV 1) (mLst (mCons (mV 5) mNil))) mNil))))
    (sSeq (sIf (mT (m2 dGt (m2 dAdd (mV 6) (mV 7)) (m2 dIx (mV 4) (mC (.int 0))))) (sSeq (sSet 4 (mTup (mCons (m2 dAdd (mV 6) (mV 7)) (mCons (m2 dAdd (mLst (mCons (mV 5) mNil)) (mV 3)) mNil))))
    sNil)
    sNil)
    sNil))
    sNil)
    sNil))
    (sSeq (sRet (mV 4))
    sNil)))))
def p_dealt (φ_dealt : List D → Rs D) : List D → Rs D := fun ds => (runM 8 (m_dealt φ_dealt) ds).nx
def P_dealt : Nat → List D → Rs D
  | 0 => fun _ => .no
  | n + 1 => p_dealt (P_dealt n)
def m_shelf_best (φ_dealt φ_check_shelf : List D → Rs D) : Sta → Rs Ou :=
    (sSeq (sExp (mCall φ_check_shelf (mCons (mV 0) mNil)))
    (sSeq (sRet (mCall (fun ds => (φ_dealt ds).nx) (mCons (mV 0) (mCons (mLst mNil) mNil))))
    sNil))
def p_shelf_best (φ_dealt φ_check_shelf : List D → Rs D) : List D → Rs D := runM 1 (m_shelf_best φ_dealt φ_check_shelf)
def P_shelf_best (c_BadWorths : Addr) : List D → Rs D := p_shelf_best (P_dealt 5) (P_check_shelf c_BadWorths)
def m_law_cell_at : Sta → Rs Ou :=
    (sSeq (sIf (mT (m2 dLt (mV 1) (mA dLen (mCons (mV 0) mNil)))) (sSeq (sRet (m2 dIx (mV 0) (mV 1)))
    sNil)
    sNil)
    (sSeq (sRet (mC (.int 0)))
    sNil))
def p_law_cell_at : List D → Rs D := fun ds => (runM 2 (m_law_cell_at) ds).nx
def P_law_cell_at : List D → Rs D := p_law_cell_at
def m_law_mix : Sta → Rs Ou :=
    (sSeq (sSet 3 (mLst (mCons (mC (.int 48271)) (mCons (mC (.int 69621)) (mCons (mC (.int 16807)) (mCons (mC (.int 39373)) (mCons (mC (.int 30269)) (mCons (mC (.int 40014)) (mCons (mC (.int 40692)) (mCons (mC (.int 50021)) (mCons (mC (.int 61687)) (mCons (mC (.int 71993)) (mCons (mC (.int 83869)) (mCons (mC (.int 95561)) (mCons (mC (.int 30307)) mNil)))))))))))))))
    (sSeq (sSet 4 (m2 dAdd (m2 dAdd (m2 dMul (m2 dAdd (m2 dMod (mV 0) (mC (.int 2147483647))) (mC (.int 12345))) (m2 dIx (mV 3) (m2 dMod (mV 1) (mC (.int 13))))) (m2 dMul (mC (.int 977)) (mV 1))) (m2 dMul (mC (.int 7919)) (m2 dDiv (mV 1) (mC (.int 13))))))
    (sSeq (sSet 4 (m2 dMod (mV 4) (mC (.int 1000000007))))
    (sSeq (sRet (m2 dMod (m2 dDiv (m2 dMod (m2 dAdd (m2 dMul (mV 4) (mV 4)) (m2 dMul (mC (.int 48271)) (mV 1))) (mC (.int 1000000007))) (mC (.int 7))) (mV 2)))
    sNil))))
def p_law_mix : List D → Rs D := fun ds => (runM 5 (m_law_mix) ds).nx
def P_law_mix : List D → Rs D := p_law_mix
def m_law_worths_by (φ_law_mix φ_law_cell_at : List D → Rs D) : Sta → Rs Ou :=
    (sSeq (sNew 4 mNil)
    (sSeq (sFor (mRng1 (mCons (mV 2) mNil)) (.one 5) [2, 5, 6, 7, 8]
    (sSeq (sSet 6 (mCall (fun ds => (φ_law_cell_at ds).nx) (mCons (mV 0) (mCons (m2 dAdd (mV 1) (mV 5)) mNil))))
    (sSeq (sSet 7 (m2 dIx (mLst (mCons (mC (.int 3)) (mCons (mC (.int 11)) (mCons (mC (.int 1001)) mNil)))) (mCall (fun ds => (φ_law_mix ds).nx) (mCons (mV 6) (mCons (mC (.int 20)) (mCons (mC (.int 3)) mNil))))))
    (sSeq (sApp 4 (mLst (mLc [8] (mRng1 (mCons (mV 3) mNil)) (.one 8) mYes (mCall (fun ds => (φ_law_mix ds).nx) (mCons (mV 6) (mCons (mV 8) (mCons (mV 7) mNil)))))))
    sNil))))
    (sSeq (sFrz (sRet (mV 4)))
    sNil)))
def p_law_worths_by (φ_law_mix φ_law_cell_at : List D → Rs D) : List D → Rs D := fun ds => (runM 9 (m_law_worths_by φ_law_mix φ_law_cell_at) ds).nx
def P_law_worths_by : List D → Rs D := p_law_worths_by (P_law_mix) (P_law_cell_at)
def m_law_size_by (φ_law_cell_at : List D → Rs D) : Sta → Rs Ou :=
    (sSeq (sRet (mTup (mCons (m2 dAdd (mC (.int 1)) (m2 dMod (mCall (fun ds => (φ_law_cell_at ds).nx) (mCons (mV 0) (mCons (mC (.int 0)) mNil))) (mC (.int 4)))) (mCons (m2 dAdd (mC (.int 1)) (m2 dMod (mCall (fun ds => (φ_law_cell_at ds).nx) (mCons (mV 0) (mCons (mC (.int 1)) mNil))) (mC (.int 4)))) mNil))))
    sNil)
def p_law_size_by (φ_law_cell_at : List D → Rs D) : List D → Rs D := fun ds => (runM 1 (m_law_size_by φ_law_cell_at) ds).nx
def P_law_size_by : List D → Rs D := p_law_size_by (P_law_cell_at)
def m_worth_to : Sta → Rs Ou :=
    (sSeq (sIf (mT (m2 dEq (mV 1) (m1 dNeg (mC (.int 1))))) (sSeq (sRet (mC (.int 0)))
    sNil)
    sNil)
    (sSeq (sRet (m2 dIx (mV 0) (mV 1)))
    sNil))
def p_worth_to : List D → Rs D := fun ds => (runM 2 (m_worth_to) ds).nx
def P_worth_to : List D → Rs D := p_worth_to
def m_pay_of (φ_worth_to φ_dealt : List D → Rs D) : Sta → Rs Ou :=
    (sSeq (sSet2 2 3 (mCall (fun ds => (φ_dealt ds).nx) (mCons (mV 0) (mCons (mLst mNil) mNil))))
    (sSeq (sSet 4 (m2 dIx (mCall (fun ds => (φ_dealt ds).nx) (mCons (m2 dAdd (mSl (mV 0) mN (mS (mV 1))) (mSl (mV 0) (mS (m2 dAdd (mV 1) (mC (.int 1)))) mN)) (mCons (mLst mNil) mNil))) (mC (.int 0))))
    (sSeq (sRet (m2 dSub (mV 4) (m2 dSub (mV 2) (mCall (fun ds => (φ_worth_to ds).nx) (mCons (m2 dIx (mV 0) (mV 1)) (mCons (m2 dIx (mV 3) (mV 1)) mNil))))))
    sNil)))
def p_pay_of (φ_worth_to φ_dealt : List D → Rs D) : List D → Rs D := fun ds => (runM 5 (m_pay_of φ_worth_to φ_dealt) ds).nx
def P_pay_of : List D → Rs D := p_pay_of (P_worth_to) (P_dealt 5)
def m_shelf_pays (φ_pay_of φ_check_shelf : List D → Rs D) : Sta → Rs Ou :=
    (sSeq (sExp (mCall φ_check_shelf (mCons (mV 0) mNil)))
    (sSeq (sRet (mLst (mLc [1] (mRng1 (mCons (mA dLen (mCons (mV 0) mNil)) mNil)) (.one 1) mYes (mCall (fun ds => (φ_pay_of ds).nx) (mCons (mV 0) (mCons (mV 1) mNil))))))
    sNil))
def p_shelf_pays (φ_pay_of φ_check_shelf : List D → Rs D) : List D → Rs D := runM 2 (m_shelf_pays φ_pay_of φ_check_shelf)
def P_shelf_pays (c_BadWorths : Addr) : List D → Rs D := p_shelf_pays (P_pay_of) (P_check_shelf c_BadWorths)
def m_shelf_gain (φ_worth_to φ_pay_of φ_dealt φ_check_shelf : List D → Rs D) : Sta → Rs Ou :=
    (sSeq (sExp (mCall φ_check_shelf (mCons (mV 0) mNil)))
    (sSeq (sSet 3 (m2 dIx (mCall (fun ds => (φ_dealt ds).nx) (mCons (mV 0) (mCons (mLst mNil) mNil))) (mC (.int 1))))
    (sSeq (sRet (m2 dSub (mCall (fun ds => (φ_worth_to ds).nx) (mCons (mV 2) (mCons (m2 dIx (mV 3) (mV 1)) mNil))) (mCall (fun ds => (φ_pay_of ds).nx) (mCons (mV 0) (mCons (mV 1) mNil)))))
    sNil)))
def p_shelf_gain (φ_worth_to φ_pay_of φ_dealt φ_check_shelf : List D → Rs D) : List D → Rs D := runM 4 (m_shelf_gain φ_worth_to φ_pay_of φ_dealt φ_check_shelf)
def P_shelf_gain (c_BadWorths : Addr) : List D → Rs D := p_shelf_gain (P_worth_to) (P_pay_of) (P_dealt 5) (P_check_shelf c_BadWorths)
def m_law_hurt_k03 : Sta → Rs Ou :=
    (sSeq (sSet 2 (m2 dMod (mV 1) (mC (.int 6))))
    (sSeq (sSet 3 (m2 dMod (m2 dDiv (mV 1) (mC (.int 6))) (mA dLen (mCons (mV 0) mNil))))
    (sSeq (sIf (mT (m2 dEq (mV 2) (mC (.int 0)))) (sSeq (sRet (m2 dIx (mLst (mCons (mLst mNil) (mCons (m2 dAdd (mV 0) (mLst (mLc [5] (mRng1 (mCons (m2 dSub (mC (.int 5)) (mA dLen (mCons (mV 0) mNil))) mNil)) (.one 5) mYes (mA dList (mCons (m2 dIx (mV 0) (mC (.int 0))) mNil))))) mNil))) (m2 dMod (m2 dDiv (mV 1) (mC (.int 6))) (mC (.int 2)))))
    sNil)
    sNil)
    (sSeq (sIf (mT (m2 dEq (mV 2) (mC (.int 1)))) (sSeq (sRet (mLst (mLc [4] (mItems (mV 0)) (.one 4) mYes (m2 dIx (mLst (mCons (mLst mNil) (mCons (mLst (mCons (mC (.int 0)) (mCons (mC (.int 0)) (mCons (mC (.int 0)) (mCons (mC (.int 0)) (mCons (mC (.int 0)) mNil)))))) mNil))) (m2 dMod (m2 dDiv (mV 1) (mC (.int 6))) (mC (.int 2)))))))
    sNil)
    sNil)
    (sSeq (sIf (mT (m2 dEq (mV 2) (mC (.int 2)))) (sSeq (sSet 0 (mIf (mT (m2 dLt (mA dLen (mCons (mV 0) mNil)) (mC (.int 4)))) (m2 dAdd (mV 0) (mLst (mCons (mA dList (mCons (m2 dIx (mV 0) (mC (.int 0))) mNil)) mNil))) (mV 0)))
    (sSeq (sRet (m2 dAdd (m2 dAdd (mSl (mV 0) mN (mS (mV 3))) (mLst (mCons (m2 dAdd (m2 dIx (mV 0) (mV 3)) (mLst (mCons (mC (.int 1)) mNil))) mNil))) (mSl (mV 0) (mS (m2 dAdd (mV 3) (mC (.int 1)))) mN)))
    sNil))
    sNil)
    (sSeq (sIf (mT (m2 dEq (mV 2) (mC (.int 3)))) (sSeq (sSet 0 (mIf (mT (m2 dLt (mA dLen (mCons (mV 0) mNil)) (mC (.int 4)))) (m2 dAdd (mV 0) (mLst (mCons (mA dList (mCons (m2 dIx (mV 0) (mC (.int 0))) mNil)) mNil))) (mV 0)))
    (sSeq (sRet (m2 dAdd (m2 dAdd (mSl (mV 0) mN (mS (mV 3))) (mLst (mCons (mSl (m2 dIx (mV 0) (mV 3)) (mS (mC (.int 1))) mN) mNil))) (mSl (mV 0) (mS (m2 dAdd (mV 3) (mC (.int 1)))) mN)))
    sNil))
    sNil)
    (sSeq (sNew 4 (mLs dListL (mCons (m2 dIx (mV 0) (mV 3)) mNil)))
    (sSeq (sPutP 4 (m2 dMod (m2 dDiv (mV 1) (mC (.int 60))) (mA dLen (mCons (mV 4) mNil))) (m2 dIx (mLst (mCons (m1 dNeg (mC (.int 1))) (mCons (mC (.int 1001)) mNil))) (m2 dSub (mV 2) (mC (.int 4)))))
    (sSeq (sFrz (sRet (m2 dAdd (m2 dAdd (mSl (mV 0) mN (mS (mV 3))) (mLst (mCons (mV 4) mNil))) (mSl (mV 0) (mS (m2 dAdd (mV 3) (mC (.int 1)))) mN))))
    sNil)))))))))
def p_law_hurt_k03 : List D → Rs D := fun ds => (runM 6 (m_law_hurt_k03) ds).nx
def P_law_hurt_k03 : List D → Rs D := p_law_hurt_k03
def m_law_met_k03 (c_BadWorths : Addr) (φ_shelf_best φ_shelf_pays φ_shelf_gain : List D → Rs D) : Sta → Rs Ou :=
    (sSeq (sTry 3 (sSeq (sIf (mT (m2 dEq (mV 1) (mC (.int 0)))) (sSeq (sExp (mCall φ_shelf_best (mCons (mV 0) mNil)))
    sNil)
    (sSeq (sIf (mT (m2 dEq (mV 1) (mC (.int 1)))) (sSeq (sExp (mCall φ_shelf_pays (mCons (mV 0) mNil)))
    sNil)
    (sSeq (sExp (mCall φ_shelf_gain (mCons (mV 0) (mCons (mC (.int 0)) (mCons (m2 dMul (mLst (mCons (mC (.int 0)) mNil)) (mIf (mT (m2 dGt (mA dLen (mCons (mV 0) mNil)) (mC (.int 0)))) (mA dLen (mCons (m2 dIx (mV 0) (mC (.int 0))) mNil)) (mC (.int 1)))) mNil)))))
    sNil))
    sNil))
    sNil) (hIs [(c_BadWorths, true)]))
    (sSeq (sRet (mC (.bl false)))
    sNil))
def p_law_met_k03 (c_BadWorths : Addr) (φ_shelf_best φ_shelf_pays φ_shelf_gain : List D → Rs D) : List D → Rs D := fun ds => (runM 3 (m_law_met_k03 c_BadWorths φ_shelf_best φ_shelf_pays φ_shelf_gain) ds).nx
def P_law_met_k03 (c_BadWorths : Addr) : List D → Rs D := p_law_met_k03 c_BadWorths (P_shelf_best c_BadWorths) (P_shelf_pays c_BadWorths) (P_shelf_gain c_BadWorths)
def m_law_k03 (φ_law_met_k03 φ_law_hurt_k03 φ_law_cell_at φ_law_worths_by φ_law_size_by : List D → Rs D) : Sta → Rs Ou :=
    (sSeq (sSet2 1 2 (mCall (fun ds => (φ_law_size_by ds).nx) (mCons (mV 0) mNil)))
    (sSeq (sSet 3 (mCall (fun ds => (φ_law_worths_by ds).nx) (mCons (mV 0) (mCons (mC (.int 2)) (mCons (mV 1) (mCons (mV 2) mNil))))))
    (sSeq (sSet 4 (mCall (fun ds => (φ_law_cell_at ds).nx) (mCons (mV 0) (mCons (mC (.int 7)) mNil))))
    (sSeq (sSet 5 (m2 dEq (m2 dMod (mV 4) (mC (.int 3))) (mC (.int 0))))
    (sSeq (sIf (mNot (mT (mV 5))) (sSeq (sSet 3 (mCall (fun ds => (φ_law_hurt_k03 ds).nx) (mCons (mV 3) (mCons (m2 dDiv (mV 4) (mC (.int 3))) mNil))))
    sNil)
    sNil)
    (sSeq (sSet 6 (mLst (mLc [8] (mItems (mV 3)) (.one 8) mYes (mA dList (mCons (mV 8) mNil)))))
    (sSeq (sFor (mRng1 (mCons (mC (.int 3)) mNil)) (.one 7) [0, 1, 2, 4, 7, 8]
    (sSeq (sIf (mOr (mT (m2 dEq (mCall (fun ds => (φ_law_met_k03 ds).nx) (mCons (mV 6) (mCons (mV 7) mNil))) (mV 5))) (mT (m2 dNe (mV 6) (mV 3)))) (sSeq (sRet (mC (.bl false)))
    sNil)
    sNil)
    sNil))
    (sSeq (sRet (mC (.bl true)))
    sNil))))))))
def p_law_k03 (φ_law_met_k03 φ_law_hurt_k03 φ_law_cell_at φ_law_worths_by φ_law_size_by : List D → Rs D) : List D → Rs D := fun ds => (runM 9 (m_law_k03 φ_law_met_k03 φ_law_hurt_k03 φ_law_cell_at φ_law_worths_by φ_law_size_by) ds).nx
def P_law_k03 (c_BadWorths : Addr) : List D → Rs D := p_law_k03 (P_law_met_k03 c_BadWorths) (P_law_hurt_k03) (P_law_cell_at) (P_law_worths_by) (P_law_size_by)
def m_row_right (φ_numbers_right : List D → Rs D) : Sta → Rs Ou :=
    (sSeq (sIf (mOr (mT (m2 dGt (mA dLen (mCons (mV 0) mNil)) (mC (.int 5)))) (mNot (mT (mCall (fun ds => (φ_numbers_right ds).nx) (mCons (mV 0) mNil))))) (sSeq (sRet (mC (.bl false)))
    sNil)
    sNil)
    (sSeq (sRet (mA dAll (mCons (mLst (mLc [1] (mRng2 (mCons (mC (.int 1)) (mCons (mA dLen (mCons (mV 0) mNil)) mNil))) (.one 1) mYes (m2 dGe (m2 dIx (mV 0) (m2 dSub (mV 1) (mC (.int 1)))) (m2 dIx (mV 0) (mV 1))))) mNil)))
    sNil))
def p_row_right (φ_numbers_right : List D → Rs D) : List D → Rs D := fun ds => (runM 2 (m_row_right φ_numbers_right) ds).nx
def P_row_right : List D → Rs D := p_row_right (P_numbers_right)
def m_check_pile (c_BadWorths : Addr) (φ_row_right : List D → Rs D) : Sta → Rs Ou :=
    (sSeq (sIf (mOr (mNot (mT (mCh dLe dLe (mC (.int 1)) (mA dLen (mCons (mV 1) mNil)) (mC (.int 5))))) (mNot (mT (mA dAll (mCons (mLst (mLc [2] (mItems (mV 1)) (.one 2) mYes (mCall (fun ds => (φ_row_right ds).nx) (mCons (mV 2) mNil)))) mNil))))) (sSeq (sRaise c_BadWorths)
    sNil)
    sNil)
    (sSeq (sIf (mNot (mT (mCh dLe dLe (mC (.int 0)) (mV 0) (mC (.int 12))))) (sSeq (sRaise c_BadWorths)
    sNil)
    sNil)
    sNil))
def p_check_pile (c_BadWorths : Addr) (φ_row_right : List D → Rs D) : List D → Rs D := runM 3 (m_check_pile c_BadWorths φ_row_right)
def P_check_pile (c_BadWorths : Addr) : List D → Rs D := p_check_pile c_BadWorths (P_row_right)
end Z
set_option Elab.async false
set_option linter.all false
set_option maxRecDepth 100000
set_option maxHeartbeats 4000000
/-! S, part 1: what the mirrors of the drawing helpers and of the shelf tell. -/
namespace Z
set_option autoImplicit false
open PySem L2
/-! ### slices -/
theorem cut_from {α : Type} (xs : List α) (k : Nat) : cutD xs (some (k : Int)) none = xs.drop k := by
  unfold cutD
  rw [HT.sIx_nat, HT.sIx_none]
  by_cases h : k ≤ xs.length
  · rw [Nat.min_eq_left h]
    exact List.take_of_length_le (by rw [List.length_drop]; omega)
  · rw [Nat.min_eq_right (by omega), List.drop_of_length_le (Nat.le_refl _), List.drop_of_length_le (by omega)]
    exact List.take_nil
theorem cut_to {α : Type} (xs : List α) (k : Nat) : cutD xs none (some (k : Int)) = xs.take k := by
  unfold cutD
  rw [HT.sIx_nat, HT.sIx_none, List.drop_zero, Nat.sub_zero]
  by_cases h : k ≤ xs.length
  · rw [Nat.min_eq_left h]
  · rw [Nat.min_eq_right (by omega), List.take_of_length_le (Nat.le_refl _), List.take_of_length_le (by omega)]
theorem cut_1 {α : Type} (xs : List α) : cutD xs (some 1) none = xs.drop 1 := cut_from xs 1
/-! ### draws -/
def cellAt (ns : List Int) (k : Nat) : Int := ns.getD k 0
theorem sp_cell_at (ns : List Int) (k : Nat) : P_law_cell_at [.scr ns, .int k] = .ok (.int (cellAt ns k)) := by
  unfold P_law_cell_at p_law_cell_at m_law_cell_at
  simp only [runM, sSeq, sSet, sSet2, sPar, sIf, sRet, sNil, sExp, sFrz, sKill, sPut, sRaise, mV, mC, m1, m2, mA, mCons, mNil, mCall, mLst, mTup, mT, mAnd, mOr, mNot, mB, mIf, mAndV, mOrV, mSl, mS, mN, mCh, mItems, mRng1, mRng2, mEnum, mZip, mRevI, mYes, Sta.set_no, Sta.set_mu, Sta.set_at, Sta.frz_mu, Sta.frz_no, Nat.reduceBEq, Sta.kill, killG, Rs.bind_ok, Rs.bind_ex, Rs.bind_no, Rs.of_some, Rs.of_none, Rs.nx_ok, startG, List.length_cons, List.length_nil, List.replicate_succ, List.replicate_zero, List.cons_append, List.nil_append, List.map_cons, List.map_nil, List.getElem?_cons_succ, List.getElem?_cons_zero, List.set_cons_succ, List.set_cons_zero, dAdd_i, dSub_i, dIx_l, dIx_t, dIx_s, dSl_l, dRev_l, dLt_i, dLe_i, dGt_i, dGe_i, dNeg_i, dNot, dLen_l, dLen_t2, dLen_s, dMax2_i, dMin2_i, dInt_i, dInt_b, dList_l, dList_t, dIsN, dNotN, dEq_i, dNe_i, dEq_b, dNe_b, dSum_l, dAll_l, dSorted_l, dIn_l, dNi_l, Bool.not_true, Bool.not_false,  Bool.false_eq_true, reduceIte, reduceCtorEq]
  by_cases h : k < ns.length
  · have h' : ((k : Int) < (ns.length : Int)) := by omega
    simp only [runM, sSeq, sSet, sSet2, sPar, sIf, sRet, sNil, sExp, sFrz, sKill, sPut, sRaise, mV, mC, m1, m2, mA, mCons, mNil, mCall, mLst, mTup, mT, mAnd, mOr, mNot, mB, mIf, mAndV, mOrV, mSl, mS, mN, mCh, mItems, mRng1, mRng2, mEnum, mZip, mRevI, mYes, Sta.set_no, Sta.set_mu, Sta.set_at, Sta.frz_mu, Sta.frz_no, Nat.reduceBEq, Sta.kill, killG, Rs.bind_ok, Rs.bind_ex, Rs.bind_no, Rs.of_some, Rs.of_none, Rs.nx_ok, startG, List.length_cons, List.length_nil, List.replicate_succ, List.replicate_zero, List.cons_append, List.nil_append, List.map_cons, List.map_nil, List.getElem?_cons_succ, List.getElem?_cons_zero, List.set_cons_succ, List.set_cons_zero, dAdd_i, dSub_i, dIx_l, dIx_t, dIx_s, dSl_l, dRev_l, dLt_i, dLe_i, dGt_i, dGe_i, dNeg_i, dNot, dLen_l, dLen_t2, dLen_s, dMax2_i, dMin2_i, dInt_i, dInt_b, dList_l, dList_t, dIsN, dNotN, dEq_i, dNe_i, dEq_b, dNe_b, dSum_l, dAll_l, dSorted_l, dIn_l, dNi_l, Bool.not_true, Bool.not_false,  Bool.false_eq_true, reduceIte, reduceCtorEq, h', decide_true, atI_some h, Option.map_some]
    unfold cellAt
    rw [List.getD_eq_getElem?_getD, List.getElem?_eq_getElem h]
    rfl
  · have h' : ¬ ((k : Int) < (ns.length : Int)) := by omega
    simp only [runM, sSeq, sSet, sSet2, sPar, sIf, sRet, sNil, sExp, sFrz, sKill, sPut, sRaise, mV, mC, m1, m2, mA, mCons, mNil, mCall, mLst, mTup, mT, mAnd, mOr, mNot, mB, mIf, mAndV, mOrV, mSl, mS, mN, mCh, mItems, mRng1, mRng2, mEnum, mZip, mRevI, mYes, Sta.set_no, Sta.set_mu, Sta.set_at, Sta.frz_mu, Sta.frz_no, Nat.reduceBEq, Sta.kill, killG, Rs.bind_ok, Rs.bind_ex, Rs.bind_no, Rs.of_some, Rs.of_none, Rs.nx_ok, startG, List.length_cons, List.length_nil, List.replicate_succ, List.replicate_zero, List.cons_append, List.nil_append, List.map_cons, List.map_nil, List.getElem?_cons_succ, List.getElem?_cons_zero, List.set_cons_succ, List.set_cons_zero, dAdd_i, dSub_i, dIx_l, dIx_t, dIx_s, dSl_l, dRev_l, dLt_i, dLe_i, dGt_i, dGe_i, dNeg_i, dNot, dLen_l, dLen_t2, dLen_s, dMax2_i, dMin2_i, dInt_i, dInt_b, dList_l, dList_t, dIsN, dNotN, dEq_i, dNe_i, dEq_b, dNe_b, dSum_l, dAll_l, dSorted_l, dIn_l, dNi_l, Bool.not_true, Bool.not_false,  Bool.false_eq_true, reduceIte, reduceCtorEq, h', decide_false]
    unfold cellAt
    rw [List.getD_eq_getElem?_getD, List.getElem?_eq_none (by omega)]
    rfl
theorem sp_cell_0 (ns : List Int) : P_law_cell_at [.scr ns, .int 0] = .ok (.int (cellAt ns 0)) := sp_cell_at ns 0
theorem sp_cell_1 (ns : List Int) : P_law_cell_at [.scr ns, .int 1] = .ok (.int (cellAt ns 1)) := sp_cell_at ns 1
def tab : List Int := [48271, 69621, 16807, 39373, 30269, 40014, 40692, 50021, 61687, 71993, 83869, 95561, 30307]
def tabAt (k : Int) : Int := tab.getD (k % 13).toNat 0
def stir (c k : Int) : Int := ((c % 2147483647 + 12345) * tabAt k + 977 * k + 7919 * (k / 13)) % 1000000007
def mix (c k m : Int) : Int := (stir c k * stir c k + 48271 * k) % 1000000007 / 7 % m
theorem tab_at (k : Int) : atI (tab.map D.int) (k % 13) = some (.int (tabAt k)) := by
  have h : k % 13 = 0 ∨ k % 13 = 1 ∨ k % 13 = 2 ∨ k % 13 = 3 ∨ k % 13 = 4 ∨ k % 13 = 5 ∨ k % 13 = 6 ∨ k % 13 = 7 ∨ k % 13 = 8 ∨ k % 13 = 9 ∨ k % 13 = 10 ∨ k % 13 = 11 ∨ k % 13 = 12 := by omega
  unfold tabAt
  rcases h with h | h | h | h | h | h | h | h | h | h | h | h | h <;> rw [h] <;> rfl
theorem mix_nonneg (c k m : Int) (h : 0 < m) : 0 ≤ mix c k m := Int.emod_nonneg _ (by omega)
theorem mix_lt (c k m : Int) (h : 0 < m) : mix c k m < m := Int.emod_lt_of_pos _ h
theorem sp_mix (c k m : Int) (h : 0 < m) : P_law_mix [.int c, .int k, .int m] = .ok (.int (mix c k m)) := by
  unfold P_law_mix p_law_mix m_law_mix
  have e := tab_at k
  unfold tab at e
  simp only [List.map_cons, List.map_nil] at e
  have hs : 0 ≤ stir c k ∧ stir c k < 1000000007 := by unfold stir; omega
  have c1 : -2 ^ 64 < (c % 2147483647 + 12345) ∧ (c % 2147483647 + 12345) < 2 ^ 64 := by omega
  have c2 : -2 ^ 64 < stir c k ∧ stir c k < 2 ^ 64 := by omega
  have c3 : (0 : Int) < 7 ∧ (7 : Int) < 1073741824 := by decide
  have c4 : (0 : Int) < 13 ∧ (13 : Int) < 1073741824 := by decide
  simp only [runM, sSeq, sSet, sSet2, sPar, sIf, sRet, sNil, sExp, sFrz, sKill, sPut, sRaise, mV, mC, m1, m2, mA, mCons, mNil, mCall, mLst, mTup, mT, mAnd, mOr, mNot, mB, mIf, mAndV, mOrV, mSl, mS, mN, mCh, mItems, mRng1, mRng2, mEnum, mZip, mRevI, mYes, Sta.set_no, Sta.set_mu, Sta.set_at, Sta.frz_mu, Sta.frz_no, Nat.reduceBEq, Sta.kill, killG, Rs.bind_ok, Rs.bind_ex, Rs.bind_no, Rs.of_some, Rs.of_none, Rs.nx_ok, startG, List.length_cons, List.length_nil, List.replicate_succ, List.replicate_zero, List.cons_append, List.nil_append, List.map_cons, List.map_nil, List.getElem?_cons_succ, List.getElem?_cons_zero, List.set_cons_succ, List.set_cons_zero, dAdd_i, dSub_i, dIx_l, dIx_t, dIx_s, dSl_l, dRev_l, dLt_i, dLe_i, dGt_i, dGe_i, dNeg_i, dNot, dLen_l, dLen_t2, dLen_s, dMax2_i, dMin2_i, dInt_i, dInt_b, dList_l, dList_t, dIsN, dNotN, dEq_i, dNe_i, dEq_b, dNe_b, dSum_l, dAll_l, dSorted_l, dIn_l, dNi_l, Bool.not_true, Bool.not_false,  Bool.false_eq_true, reduceIte, reduceCtorEq, dMod_i (show (0 : Int) < 2147483647 by decide), dMod_i (show (0 : Int) < 13 by decide), e, dMul_a c1, dMul_a (show -2 ^ 64 < (977 : Int) ∧ (977 : Int) < 2 ^ 64 by decide), dMul_a (show -2 ^ 64 < (7919 : Int) ∧ (7919 : Int) < 2 ^ 64 by decide), dDiv_i c4, dMod_i (show (0 : Int) < 1000000007 by decide)]
  rw [show ((c % 2147483647 + 12345) * tabAt k + 977 * k + 7919 * (k / 13)) % 1000000007 = stir c k from rfl]
  simp only [runM, sSeq, sSet, sSet2, sPar, sIf, sRet, sNil, sExp, sFrz, sKill, sPut, sRaise, mV, mC, m1, m2, mA, mCons, mNil, mCall, mLst, mTup, mT, mAnd, mOr, mNot, mB, mIf, mAndV, mOrV, mSl, mS, mN, mCh, mItems, mRng1, mRng2, mEnum, mZip, mRevI, mYes, Sta.set_no, Sta.set_mu, Sta.set_at, Sta.frz_mu, Sta.frz_no, Nat.reduceBEq, Sta.kill, killG, Rs.bind_ok, Rs.bind_ex, Rs.bind_no, Rs.of_some, Rs.of_none, Rs.nx_ok, startG, List.length_cons, List.length_nil, List.replicate_succ, List.replicate_zero, List.cons_append, List.nil_append, List.map_cons, List.map_nil, List.getElem?_cons_succ, List.getElem?_cons_zero, List.set_cons_succ, List.set_cons_zero, dAdd_i, dSub_i, dIx_l, dIx_t, dIx_s, dSl_l, dRev_l, dLt_i, dLe_i, dGt_i, dGe_i, dNeg_i, dNot, dLen_l, dLen_t2, dLen_s, dMax2_i, dMin2_i, dInt_i, dInt_b, dList_l, dList_t, dIsN, dNotN, dEq_i, dNe_i, dEq_b, dNe_b, dSum_l, dAll_l, dSorted_l, dIn_l, dNi_l, Bool.not_true, Bool.not_false,  Bool.false_eq_true, reduceIte, reduceCtorEq, dMul_a c2, dMul_a (show -2 ^ 64 < (48271 : Int) ∧ (48271 : Int) < 2 ^ 64 by decide), dMod_i (show (0 : Int) < 1000000007 by decide), dDiv_i c3, dMod_i h]
  rfl
def mostOf (c : Int) : Int := [3, 11, 1001].getD (mix c 20 3).toNat 0
theorem most_at (c : Int) : atI [D.int 3, D.int 11, D.int 1001] (mix c 20 3) = some (.int (mostOf c)) ∧ 0 < mostOf c ∧ mostOf c ≤ 1001 := by
  have h0 := mix_nonneg c 20 3 (by decide)
  have h1 := mix_lt c 20 3 (by decide)
  unfold mostOf
  have h : mix c 20 3 = 0 ∨ mix c 20 3 = 1 ∨ mix c 20 3 = 2 := by omega
  rcases h with h | h | h <;> rw [h] <;> exact ⟨rfl, by decide, by decide⟩
/-! ### what is found -/
end Z
set_option Elab.async false
set_option linter.all false
set_option maxRecDepth 100000
set_option maxHeartbeats 4000000
/-! S, part 2: the shelf: worths drawn, all dealings, the best of them. -/
namespace Z
set_option autoImplicit false
open PySem L2
theorem forGo_idx {tg : Tg} {ks : List Nat} {b : Sta → Rs Ou} (st : Nat → Sta) : ∀ (ds : List D) (k : Nat), (∀ i d, ds[i]? = some d → ∃ ps s', tg.put' d = .ok ps ∧ muFree (st (k + i)).mu tg.slots = true ∧ b ((st (k + i)).sets ps) = .ok (.nx s') ∧ s'.kill ks = st (k + i + 1)) → forGo tg ks b ds (st k) = .ok (.nx (st (k + ds.length)))
  | [], k, _ => rfl
  | d :: r, k, h => by
    obtain ⟨ps, s', h1, h2, h3, h4⟩ := h 0 d rfl
    have ih := forGo_idx st r (k + 1) fun i e hi => by
      have q := h (i + 1) e hi
      rw [show k + (i + 1) = k + 1 + i by omega] at q
      exact q
    unfold forGo
    rw [Nat.add_zero] at h2 h3 h4
    rw [h1, Rs.bind_ok, if_pos h2, h3, Rs.bind_ok]
    show forGo tg ks b r (s'.kill ks) = _
    rw [h4, ih, List.length_cons, show k + 1 + r.length = k + (r.length + 1) by omega]
theorem sFor_idx {mi : G → Rs (List D)} {tg : Tg} {ks : List Nat} {b : Sta → Rs Ou} {s : Sta} (st : Nat → Sta) (ds : List D) (h1 : mi s.g = .ok ds) (h0 : s.kill ks = st 0)
    (h : ∀ i d, ds[i]? = some d → ∃ ps, tg.put' d = .ok ps ∧ muFree (st i).mu tg.slots = true ∧ ∃ s', b ((st i).sets ps) = .ok (.nx s') ∧ s'.kill ks = st (i + 1)) : sFor mi tg ks b s = .ok (.nx (st ds.length)) := by
  refine sFor_eq h1 ?_
  rw [h0, forGo_idx st ds 0 fun i d hd => ?_, Nat.zero_add]
  rw [Nat.zero_add]
  obtain ⟨ps, a1, a2, s', a3, a4⟩ := h i d hd
  exact ⟨ps, s', a1, a2, a3, a4⟩
theorem rgD_len (lo hi : Int) : (rgD lo hi).length = (hi - lo).toNat := by unfold rgD; rw [List.length_map, List.length_range]
theorem rgD_get {lo hi : Int} {i : Nat} {d : D} (h : (rgD lo hi)[i]? = some d) : d = .int (lo + (i : Int)) ∧ i < (hi - lo).toNat := by
  have hi2 := (List.getElem?_eq_some_iff.mp h).1
  rw [rgD_len] at hi2
  unfold rgD at h
  rw [List.getElem?_map, List.getElem?_range hi2] at h
  exact ⟨(Option.some.inj h).symm, hi2⟩
/-! ### sizes and worths -/
def sizeP (ns : List Int) : Nat := (1 + cellAt ns 0 % 4).toNat
def sizeG (ns : List Int) : Nat := (1 + cellAt ns 1 % 4).toNat
theorem sizeP_b (ns : List Int) : 1 ≤ sizeP ns ∧ sizeP ns ≤ 4 ∧ (sizeP ns : Int) = 1 + cellAt ns 0 % 4 := by unfold sizeP; omega
theorem sizeG_b (ns : List Int) : 1 ≤ sizeG ns ∧ sizeG ns ≤ 4 ∧ (sizeG ns : Int) = 1 + cellAt ns 1 % 4 := by unfold sizeG; omega
theorem sp_size_by (ns : List Int) : P_law_size_by [.scr ns] = .ok (.tup [.int (sizeP ns), .int (sizeG ns)]) := by
  unfold P_law_size_by p_law_size_by m_law_size_by
  simp only [runM, sSeq, sSet, sSet2, sPar, sIf, sRet, sNil, sExp, sFrz, sKill, sPut, sRaise, mV, mC, m1, m2, mA, mCons, mNil, mCall, mLst, mTup, mT, mAnd, mOr, mNot, mB, mIf, mAndV, mOrV, mSl, mS, mN, mCh, mItems, mRng1, mRng2, mEnum, mZip, mRevI, mYes, Sta.set_no, Sta.set_mu, Sta.set_at, Sta.frz_mu, Sta.frz_no, Nat.reduceBEq, Sta.kill, killG, Rs.bind_ok, Rs.bind_ex, Rs.bind_no, Rs.of_some, Rs.of_none, Rs.nx_ok, startG, List.length_cons, List.length_nil, List.replicate_succ, List.replicate_zero, List.cons_append, List.nil_append, List.map_cons, List.map_nil, List.getElem?_cons_succ, List.getElem?_cons_zero, List.set_cons_succ, List.set_cons_zero, dAdd_i, dSub_i, dIx_l, dIx_t, dIx_s, dSl_l, dRev_l, dLt_i, dLe_i, dGt_i, dGe_i, dNeg_i, dNot, dLen_l, dLen_t2, dLen_s, dMax2_i, dMin2_i, dInt_i, dInt_b, dList_l, dList_t, dIsN, dNotN, dEq_i, dNe_i, dEq_b, dNe_b, dSum_l, dAll_l, dSorted_l, dIn_l, dNi_l, Bool.not_true, Bool.not_false,  Bool.false_eq_true, reduceIte, reduceCtorEq, sp_cell_0, sp_cell_1, dMod_i (show (0 : Int) < 4 by decide)]
  rw [(sizeP_b ns).2.2, (sizeG_b ns).2.2]
def rowOf (c : Int) (goods : Nat) : List Int := (List.range goods).map fun (j : Nat) => mix c j (mostOf c)
def worthsBy (ns : List Int) (start people goods : Nat) : List (List Int) := (List.range people).map fun k => rowOf (cellAt ns (start + k)) goods
theorem rowOf_len (c : Int) (n : Nat) : (rowOf c n).length = n := by unfold rowOf; rw [List.length_map, List.length_range]
theorem worthsBy_len (ns : List Int) (s p g : Nat) : (worthsBy ns s p g).length = p := by unfold worthsBy; rw [List.length_map, List.length_range]
theorem worthsBy_rows {ns : List Int} {s p g : Nat} : ∀ r ∈ worthsBy ns s p g, r.length = g := fun r hr => by
  unfold worthsBy at hr
  obtain ⟨k, _, rfl⟩ := List.mem_map.mp hr
  exact rowOf_len _ _
theorem worthsBy_in {ns : List Int} {s p g : Nat} : ∀ r ∈ worthsBy ns s p g, ∀ x ∈ r, 0 ≤ x ∧ x ≤ 1000 := fun r hr x hx => by
  unfold worthsBy at hr
  obtain ⟨k, _, rfl⟩ := List.mem_map.mp hr
  unfold rowOf at hx
  obtain ⟨j, _, rfl⟩ := List.mem_map.mp hx
  obtain ⟨_, h1, h2⟩ := most_at (cellAt ns (s + k))
  have := mix_nonneg (cellAt ns (s + k)) j _ h1
  have := mix_lt (cellAt ns (s + k)) j _ h1
  omega
theorem sp_worths_by (ns : List Int) (start people goods : Nat) (hp : people ≤ 1000) (hg : goods ≤ 1000) : P_law_worths_by [.scr ns, .int start, .int people, .int goods] = .ok (.lst ((worthsBy ns start people goods).map intsD)) := by
  let st : Nat → Sta := fun i => ⟨[some (.scr ns), some (.int start), none, some (.int goods), none, none, none, none, none], some (4, ((worthsBy ns start i goods).map intsD))⟩
  refine runM_rt' ?_
  refine sSeq_eq (s' := ⟨[some (.scr ns), some (.int start), some (.int people), some (.int goods), none, none, none, none, none], some (4, [])⟩) (sNew_eq rfl (by show 4 < 9; decide)) ?_
  refine sSeq_eq (s' := st people) ?_ ?_
  · have el : (rgD 0 people).length = people := by rw [rgD_len]; omega
    rw [sFor_idx st (rgD 0 people) ?_ rfl fun i d hd => ?_, el]
    · simp only [runM, sSeq, sSet, sSet2, sPar, sIf, sRet, sNil, sExp, sFrz, sKill, sPut, sRaise, mV, mC, m1, m2, mA, mCons, mNil, mCall, mLst, mTup, mT, mAnd, mOr, mNot, mB, mIf, mAndV, mOrV, mSl, mS, mN, mCh, mItems, mRng1, mRng2, mEnum, mZip, mRevI, mYes, Sta.set_no, Sta.set_mu, Sta.set_at, Sta.frz_mu, Sta.frz_no, Nat.reduceBEq, Sta.kill, killG, Rs.bind_ok, Rs.bind_ex, Rs.bind_no, Rs.of_some, Rs.of_none, Rs.nx_ok, startG, List.length_cons, List.length_nil, List.replicate_succ, List.replicate_zero, List.cons_append, List.nil_append, List.map_cons, List.map_nil, List.getElem?_cons_succ, List.getElem?_cons_zero, List.set_cons_succ, List.set_cons_zero, dAdd_i, dSub_i, dIx_l, dIx_t, dIx_s, dSl_l, dRev_l, dLt_i, dLe_i, dGt_i, dGe_i, dNeg_i, dNot, dLen_l, dLen_t2, dLen_s, dMax2_i, dMin2_i, dInt_i, dInt_b, dList_l, dList_t, dIsN, dNotN, dEq_i, dNe_i, dEq_b, dNe_b, dSum_l, dAll_l, dSorted_l, dIn_l, dNi_l, Bool.not_true, Bool.not_false,  Bool.false_eq_true, reduceIte, reduceCtorEq]
      rw [if_pos (by omega)]
    · obtain ⟨rfl, hi⟩ := rgD_get hd
      rw [Int.zero_add]
      have h3 := most_at (cellAt ns (start + i))
      have hl : ((worthsBy ns start i goods).map intsD).length ≤ LIM := by
        rw [List.length_map, worthsBy_len]
        have : i < people := by omega
        exact Nat.le_trans (Nat.le_of_lt (Nat.lt_of_lt_of_le this hp)) (by decide)
      have e3 : ((start : Int) + (i : Int)) = ((start + i : Nat) : Int) := by omega
      refine ⟨[(5, .int i)], rfl, rfl, ⟨[some (.scr ns), some (.int start), none, some (.int goods), none, some (.int i), some (.int (cellAt ns (start + i))), some (.int (mostOf (cellAt ns (start + i)))), none], some (4, ((worthsBy ns start i goods).map intsD) ++ [intsD (rowOf (cellAt ns (start + i)) goods)])⟩, ?_, ?_⟩
      · refine sSeq_eq (sSet_eq (d := .int (cellAt ns (start + i))) ?_) (sSeq_eq (sSet_eq (d := .int (mostOf (cellAt ns (start + i)))) ?_) (sSeq_nil (sApp_eq (g := [some (.scr ns), some (.int start), none, some (.int goods), none, some (.int i), some (.int (cellAt ns (start + i))), some (.int (mostOf (cellAt ns (start + i)))), none]) ?_ hl)))
        · show mCall _ _ [some (.scr ns), some (.int start), none, some (.int goods), none, some (.int i), none, none, none] = _
          simp only [runM, sSeq, sSet, sSet2, sPar, sIf, sRet, sNil, sExp, sFrz, sKill, sPut, sRaise, mV, mC, m1, m2, mA, mCons, mNil, mCall, mLst, mTup, mT, mAnd, mOr, mNot, mB, mIf, mAndV, mOrV, mSl, mS, mN, mCh, mItems, mRng1, mRng2, mEnum, mZip, mRevI, mYes, Sta.set_no, Sta.set_mu, Sta.set_at, Sta.frz_mu, Sta.frz_no, Nat.reduceBEq, Sta.kill, killG, Rs.bind_ok, Rs.bind_ex, Rs.bind_no, Rs.of_some, Rs.of_none, Rs.nx_ok, startG, List.length_cons, List.length_nil, List.replicate_succ, List.replicate_zero, List.cons_append, List.nil_append, List.map_cons, List.map_nil, List.getElem?_cons_succ, List.getElem?_cons_zero, List.set_cons_succ, List.set_cons_zero, dAdd_i, dSub_i, dIx_l, dIx_t, dIx_s, dSl_l, dRev_l, dLt_i, dLe_i, dGt_i, dGe_i, dNeg_i, dNot, dLen_l, dLen_t2, dLen_s, dMax2_i, dMin2_i, dInt_i, dInt_b, dList_l, dList_t, dIsN, dNotN, dEq_i, dNe_i, dEq_b, dNe_b, dSum_l, dAll_l, dSorted_l, dIn_l, dNi_l, Bool.not_true, Bool.not_false,  Bool.false_eq_true, reduceIte, reduceCtorEq, e3, sp_cell_at]
        · show m2 dIx _ _ [some (.scr ns), some (.int start), none, some (.int goods), none, some (.int i), some (.int (cellAt ns (start + i))), none, none] = _
          simp only [runM, sSeq, sSet, sSet2, sPar, sIf, sRet, sNil, sExp, sFrz, sKill, sPut, sRaise, mV, mC, m1, m2, mA, mCons, mNil, mCall, mLst, mTup, mT, mAnd, mOr, mNot, mB, mIf, mAndV, mOrV, mSl, mS, mN, mCh, mItems, mRng1, mRng2, mEnum, mZip, mRevI, mYes, Sta.set_no, Sta.set_mu, Sta.set_at, Sta.frz_mu, Sta.frz_no, Nat.reduceBEq, Sta.kill, killG, Rs.bind_ok, Rs.bind_ex, Rs.bind_no, Rs.of_some, Rs.of_none, Rs.nx_ok, startG, List.length_cons, List.length_nil, List.replicate_succ, List.replicate_zero, List.cons_append, List.nil_append, List.map_cons, List.map_nil, List.getElem?_cons_succ, List.getElem?_cons_zero, List.set_cons_succ, List.set_cons_zero, dAdd_i, dSub_i, dIx_l, dIx_t, dIx_s, dSl_l, dRev_l, dLt_i, dLe_i, dGt_i, dGe_i, dNeg_i, dNot, dLen_l, dLen_t2, dLen_s, dMax2_i, dMin2_i, dInt_i, dInt_b, dList_l, dList_t, dIsN, dNotN, dEq_i, dNe_i, dEq_b, dNe_b, dSum_l, dAll_l, dSorted_l, dIn_l, dNi_l, Bool.not_true, Bool.not_false,  Bool.false_eq_true, reduceIte, reduceCtorEq, sp_mix _ _ _ (show (0 : Int) < 3 by decide), h3.1]
        · show (mLc _ _ _ _ _ _).bind _ = _
          rw [mLc_eq (r := .ok ((rowOf (cellAt ns (start + i)) goods).map D.int)) (ds := (List.range goods).map fun (j : Nat) => D.int (j : Int)) ?_ (by rw [List.length_map, List.length_range]; exact Nat.le_trans hg (by decide)) ?_]
          · rfl
          · simp only [runM, sSeq, sSet, sSet2, sPar, sIf, sRet, sNil, sExp, sFrz, sKill, sPut, sRaise, mV, mC, m1, m2, mA, mCons, mNil, mCall, mLst, mTup, mT, mAnd, mOr, mNot, mB, mIf, mAndV, mOrV, mSl, mS, mN, mCh, mItems, mRng1, mRng2, mEnum, mZip, mRevI, mYes, Sta.set_no, Sta.set_mu, Sta.set_at, Sta.frz_mu, Sta.frz_no, Nat.reduceBEq, Sta.kill, killG, Rs.bind_ok, Rs.bind_ex, Rs.bind_no, Rs.of_some, Rs.of_none, Rs.nx_ok, startG, List.length_cons, List.length_nil, List.replicate_succ, List.replicate_zero, List.cons_append, List.nil_append, List.map_cons, List.map_nil, List.getElem?_cons_succ, List.getElem?_cons_zero, List.set_cons_succ, List.set_cons_zero, dAdd_i, dSub_i, dIx_l, dIx_t, dIx_s, dSl_l, dRev_l, dLt_i, dLe_i, dGt_i, dGe_i, dNeg_i, dNot, dLen_l, dLen_t2, dLen_s, dMax2_i, dMin2_i, dInt_i, dInt_b, dList_l, dList_t, dIsN, dNotN, dEq_i, dNe_i, dEq_b, dNe_b, dSum_l, dAll_l, dSorted_l, dIn_l, dNi_l, Bool.not_true, Bool.not_false,  Bool.false_eq_true, reduceIte, reduceCtorEq]
            rw [if_pos (by omega), rgD_0]
          · rw [lcGo_enc (fun (j : Nat) => D.int (j : Int)) (fun (j : Nat) => D.int (mix (cellAt ns (start + i)) j (mostOf (cellAt ns (start + i)))))]
            · unfold rowOf
              rw [List.map_map]
              rfl
            · intro j _
              refine ⟨[(8, .int j)], rfl, ?_⟩
              show mCall (fun ds => (P_law_mix ds).nx) (mCons (mV 6) (mCons (mV 8) (mCons (mV 7) mNil))) [some (.scr ns), some (.int start), none, some (.int goods), none, some (.int i), some (.int (cellAt ns (start + i))), some (.int (mostOf (cellAt ns (start + i)))), some (.int j)] = _
              simp only [runM, sSeq, sSet, sSet2, sPar, sIf, sRet, sNil, sExp, sFrz, sKill, sPut, sRaise, mV, mC, m1, m2, mA, mCons, mNil, mCall, mLst, mTup, mT, mAnd, mOr, mNot, mB, mIf, mAndV, mOrV, mSl, mS, mN, mCh, mItems, mRng1, mRng2, mEnum, mZip, mRevI, mYes, Sta.set_no, Sta.set_mu, Sta.set_at, Sta.frz_mu, Sta.frz_no, Nat.reduceBEq, Sta.kill, killG, Rs.bind_ok, Rs.bind_ex, Rs.bind_no, Rs.of_some, Rs.of_none, Rs.nx_ok, startG, List.length_cons, List.length_nil, List.replicate_succ, List.replicate_zero, List.cons_append, List.nil_append, List.map_cons, List.map_nil, List.getElem?_cons_succ, List.getElem?_cons_zero, List.set_cons_succ, List.set_cons_zero, dAdd_i, dSub_i, dIx_l, dIx_t, dIx_s, dSl_l, dRev_l, dLt_i, dLe_i, dGt_i, dGe_i, dNeg_i, dNot, dLen_l, dLen_t2, dLen_s, dMax2_i, dMin2_i, dInt_i, dInt_b, dList_l, dList_t, dIsN, dNotN, dEq_i, dNe_i, dEq_b, dNe_b, dSum_l, dAll_l, dSorted_l, dIn_l, dNi_l, Bool.not_true, Bool.not_false,  Bool.false_eq_true, reduceIte, reduceCtorEq, sp_mix _ _ _ h3.2.1]
      · show (⟨[some (.scr ns), some (.int start), none, some (.int goods), none, none, none, none, none], some (4, ((worthsBy ns start i goods).map intsD) ++ [intsD (rowOf (cellAt ns (start + i)) goods)])⟩ : Sta) = (⟨_, some (4, ((worthsBy ns start (i + 1) goods).map intsD))⟩ : Sta)
        unfold worthsBy
        rw [List.range_succ, List.map_append, List.map_append]
        rfl
  · refine sSeq_nil (sFrz_eq (sRet_eq ?_))
    rfl
end Z
set_option Elab.async false
set_option linter.all false
set_option maxRecDepth 100000
set_option maxHeartbeats 4000000
/-! S, part 3: the shelf: all dealings, their sums, the best; the program's own dealing. -/
namespace Z
set_option autoImplicit false
open PySem L2
/-! ### all dealings -/
def goodsL (goods : Nat) : List Int := (List.range (goods + 1)).map fun (i : Nat) => -1 + (i : Int)
def exts (goods : Nat) (row : List Int) : List (List Int) := ((goodsL goods).filter fun g => decide (g = -1) || !decide (g ∈ row)).map fun g => row ++ [g]
def deals : Nat → Nat → List (List Int)
  | 0, _ => [[]]
  | p + 1, goods => (deals p goods).flatMap (exts goods)
theorem deals_row {goods : Nat} : ∀ {p : Nat} {d : List Int}, d ∈ deals p goods → d.length = p ∧ ∀ g ∈ d, -1 ≤ g ∧ g < goods
  | 0, d, h => by
    simp only [deals, List.mem_singleton] at h
    subst h
    exact ⟨rfl, fun g hg => by cases hg⟩
  | p + 1, d, h => by
    obtain ⟨r, hr, hd⟩ := List.mem_flatMap.mp (show d ∈ (deals p goods).flatMap (exts goods) from h)
    obtain ⟨h1, h2⟩ := deals_row hr
    unfold exts at hd
    obtain ⟨g, hg, rfl⟩ := List.mem_map.mp hd
    have hg2 := (List.mem_filter.mp hg).1
    unfold goodsL at hg2
    obtain ⟨i, hi, rfl⟩ := List.mem_map.mp hg2
    have := List.mem_range.mp hi
    refine ⟨by rw [List.length_append, h1]; rfl, fun x hx => ?_⟩
    rcases List.mem_append.mp hx with e | e
    · exact h2 x e
    · rw [List.mem_singleton] at e
      subst e
      omega
/-! ### what a dealing is worth -/
def worthAt (row : List Int) (g : Int) : Int := if g > -1 then row.getD g.toNat 0 else 0
def lsum : List (List Int) → List Int → Int
  | row :: rs, g :: gs => worthAt row g + lsum rs gs
  | _, _ => 0
/-! ### the best one, found among all -/
/-! ### the program's dealing -/
def stepD (best : List Int → Int × List Int) (row : List Int) (tk : List Int) (found : Int × List Int) (i : Nat) : Int × List Int :=
  if (i : Int) ∈ tk then found else
    if row.getD i 0 + (best (tk ++ [(i : Int)])).1 > found.1 then (row.getD i 0 + (best (tk ++ [(i : Int)])).1, (i : Int) :: (best (tk ++ [(i : Int)])).2) else found
def dealtF : List (List Int) → List Int → Int × List Int
  | [], _ => (0, [])
  | row :: rs, tk => (List.range row.length).foldl (stepD (dealtF rs) row tk) ((dealtF rs tk).1, -1 :: (dealtF rs tk).2)
def pairD (p : Int × List Int) : D := .tup [.int p.1, .lst (p.2.map D.int)]
theorem dealtF_len : ∀ (rows : List (List Int)) (tk : List Int), (dealtF rows tk).2.length = rows.length
  | [], _ => rfl
  | row :: rs, tk => by
    have ih := fun t => dealtF_len rs t
    show ((List.range row.length).foldl (stepD (dealtF rs) row tk) ((dealtF rs tk).1, -1 :: (dealtF rs tk).2)).2.length = _
    generalize hx : ((dealtF rs tk).1, -1 :: (dealtF rs tk).2) = x
    have h0 : x.2.length = rs.length + 1 := by
      rw [← hx, ← ih tk]
      rfl
    clear hx
    generalize List.range row.length = l
    induction l generalizing x with
    | nil => exact h0
    | cons i r ihl =>
      refine ihl _ ?_
      unfold stepD
      split
      · exact h0
      · split
        · rw [List.length_cons, ih]
        · exact h0
theorem enumD_ints (row : List Int) : enumD (row.map D.int) = (List.range row.length).map fun i => D.tup [.int (i : Nat), .int (row.getD i 0)] := by
  unfold enumD
  rw [List.length_map]
  refine List.map_congr_left fun i hi => ?_
  have h := List.mem_range.mp hi
  rw [List.getD_eq_getElem?_getD, List.getElem?_map, List.getD_eq_getElem?_getD, List.getElem?_eq_getElem h]
  rfl
theorem P_dealt_s (n : Nat) (ds : List D) : P_dealt (n + 1) ds = (runM 8 (m_dealt (P_dealt n)) ds).nx := rfl
theorem sp_dealt : ∀ (n : Nat) (rows : List (List Int)) (tk : List Int), rows.length < n → rows.length ≤ 1000 → tk.length + rows.length ≤ 1000 → P_dealt n [.lst (rows.map intsD), .lst (tk.map D.int)] = .ok (pairD (dealtF rows tk))
  | 0, _, _, h, _, _ => absurd h (Nat.not_lt_zero _)
  | n + 1, [], tk, _, _, _ => by
    rw [P_dealt_s]
    refine runM_rt' (sSeq_rt (sIf_t ?_ (sSeq_rt (sRet_eq rfl))))
    rfl
  | n + 1, row :: rs, tk, hn, hr, ht => by
    have hl : rs.length < n := by rw [List.length_cons] at hn; omega
    have hr' : rs.length + 1 ≤ 1000 := by rw [List.length_cons] at hr; exact hr
    have ht' : tk.length + (rs.length + 1) ≤ 1000 := by rw [List.length_cons] at ht; exact ht
    have ih := fun t (h : t.length + rs.length ≤ 1000) => sp_dealt n rs t hl (by omega) h
    have e0 := ih tk (by omega)
    have ed : cutD ((row :: rs).map intsD) (some 1) none = rs.map intsD := by
      rw [cut_1]
      rfl
    rw [P_dealt_s]
    refine runM_rt' ?_
    refine sSeq_eq (s' := ⟨[some (.lst ((row :: rs).map intsD)), some (.lst (tk.map D.int)), none, none, none, none, none, none], none⟩) (sIf_f ?_ rfl) ?_
    · show mT (m2 dEq _ _) [some (.lst ((row :: rs).map intsD)), some (.lst (tk.map D.int)), none, none, none, none, none, none] = _
      simp only [runM, sSeq, sSet, sSet2, sPar, sIf, sRet, sNil, sExp, sFrz, sKill, sPut, sRaise, mV, mC, m1, m2, mA, mCons, mNil, mCall, mLst, mTup, mT, mAnd, mOr, mNot, mB, mIf, mAndV, mOrV, mSl, mS, mN, mCh, mItems, mRng1, mRng2, mEnum, mZip, mRevI, mYes, Sta.set_no, Sta.set_mu, Sta.set_at, Sta.frz_mu, Sta.frz_no, Nat.reduceBEq, Sta.kill, killG, Rs.bind_ok, Rs.bind_ex, Rs.bind_no, Rs.of_some, Rs.of_none, Rs.nx_ok, startG, List.length_cons, List.length_nil, List.replicate_succ, List.replicate_zero, List.cons_append, List.nil_append, List.map_cons, List.map_nil, List.getElem?_cons_succ, List.getElem?_cons_zero, List.set_cons_succ, List.set_cons_zero, dAdd_i, dSub_i, dIx_l, dIx_t, dIx_s, dSl_l, dRev_l, dLt_i, dLe_i, dGt_i, dGe_i, dNeg_i, dNot, dLen_l, dLen_t2, dLen_s, dMax2_i, dMin2_i, dInt_i, dInt_b, dList_l, dList_t, dIsN, dNotN, dEq_i, dNe_i, dEq_b, dNe_b, dSum_l, dAll_l, dSorted_l, dIn_l, dNi_l, Bool.not_true, Bool.not_false,  Bool.false_eq_true, reduceIte, reduceCtorEq]
      rw [decide_eq_false]
      rw [List.length_map]
      omega
    refine sSeq_eq (s' := ⟨[some (.lst ((row :: rs).map intsD)), some (.lst (tk.map D.int)), some (.int (dealtF rs tk).1), some (.lst ((dealtF rs tk).2.map D.int)), none, none, none, none], none⟩) (sSet2_eq (x := .int (dealtF rs tk).1) (y := .lst ((dealtF rs tk).2.map D.int)) ?_) ?_
    · show mCall _ _ [some (.lst ((row :: rs).map intsD)), some (.lst (tk.map D.int)), none, none, none, none, none, none] = _
      unfold mCall mCons mSl mV mS mN mC mNil
      simp only [List.getElem?_cons_succ, List.getElem?_cons_zero, Rs.bind_ok, dSl_l, Rs.of_some, ed, e0, Rs.nx_ok]
      rfl
    have hlim : ∀ t, (([D.int t] : List D).length + ((dealtF rs tk).2.map D.int).length ≤ LIM) := fun t => by
      rw [List.length_map, dealtF_len]
      exact Nat.le_trans (show 1 + rs.length ≤ 1000 by omega) (by decide)
    refine sSeq_eq (s' := ⟨[some (.lst ((row :: rs).map intsD)), some (.lst (tk.map D.int)), some (.int (dealtF rs tk).1), some (.lst ((dealtF rs tk).2.map D.int)), some (pairD ((dealtF rs tk).1, -1 :: (dealtF rs tk).2)), none, none, none], none⟩) (sSet_eq ?_) ?_
    · show mTup _ [some (.lst ((row :: rs).map intsD)), some (.lst (tk.map D.int)), some (.int (dealtF rs tk).1), some (.lst ((dealtF rs tk).2.map D.int)), none, none, none, none] = _
      simp only [runM, sSeq, sSet, sSet2, sPar, sIf, sRet, sNil, sExp, sFrz, sKill, sPut, sRaise, mV, mC, m1, m2, mA, mCons, mNil, mCall, mLst, mTup, mT, mAnd, mOr, mNot, mB, mIf, mAndV, mOrV, mSl, mS, mN, mCh, mItems, mRng1, mRng2, mEnum, mZip, mRevI, mYes, Sta.set_no, Sta.set_mu, Sta.set_at, Sta.frz_mu, Sta.frz_no, Nat.reduceBEq, Sta.kill, killG, Rs.bind_ok, Rs.bind_ex, Rs.bind_no, Rs.of_some, Rs.of_none, Rs.nx_ok, startG, List.length_cons, List.length_nil, List.replicate_succ, List.replicate_zero, List.cons_append, List.nil_append, List.map_cons, List.map_nil, List.getElem?_cons_succ, List.getElem?_cons_zero, List.set_cons_succ, List.set_cons_zero, dAdd_i, dSub_i, dIx_l, dIx_t, dIx_s, dSl_l, dRev_l, dLt_i, dLe_i, dGt_i, dGe_i, dNeg_i, dNot, dLen_l, dLen_t2, dLen_s, dMax2_i, dMin2_i, dInt_i, dInt_b, dList_l, dList_t, dIsN, dNotN, dEq_i, dNe_i, dEq_b, dNe_b, dSum_l, dAll_l, dSorted_l, dIn_l, dNi_l, Bool.not_true, Bool.not_false,  Bool.false_eq_true, reduceIte, reduceCtorEq, dAdd_l (hlim (-1))]
      rfl
    let st : Int × List Int → Sta := fun x => ⟨[some (.lst ((row :: rs).map intsD)), some (.lst (tk.map D.int)), none, none, some (pairD x), none, none, none], none⟩
    refine sSeq_eq (s' := st (dealtF (row :: rs) tk)) ?_ (sSeq_nil (sRet_eq rfl))
    refine sFor_eq (ds := (List.range row.length).map fun (i : Nat) => D.tup [.int (i : Nat), .int (row.getD i 0)]) ?_ ?_
    · show mEnum (mCons (m2 dIx (mV 0) (mC (.int 0))) mNil) [some (.lst (intsD row :: rs.map intsD)), some (.lst (tk.map D.int)), some (.int (dealtF rs tk).1), some (.lst ((dealtF rs tk).2.map D.int)), some (pairD ((dealtF rs tk).1, -1 :: (dealtF rs tk).2)), none, none, none] = _
      have e1 : ∀ (x : D) (l : List D), atI (x :: l) 0 = some x := fun x l => atI_nat (j := 0) rfl
      unfold intsD
      simp only [runM, sSeq, sSet, sSet2, sPar, sIf, sRet, sNil, sExp, sFrz, sKill, sPut, sRaise, mV, mC, m1, m2, mA, mCons, mNil, mCall, mLst, mTup, mT, mAnd, mOr, mNot, mB, mIf, mAndV, mOrV, mSl, mS, mN, mCh, mItems, mRng1, mRng2, mEnum, mZip, mRevI, mYes, Sta.set_no, Sta.set_mu, Sta.set_at, Sta.frz_mu, Sta.frz_no, Nat.reduceBEq, Sta.kill, killG, Rs.bind_ok, Rs.bind_ex, Rs.bind_no, Rs.of_some, Rs.of_none, Rs.nx_ok, startG, List.length_cons, List.length_nil, List.replicate_succ, List.replicate_zero, List.cons_append, List.nil_append, List.map_cons, List.map_nil, List.getElem?_cons_succ, List.getElem?_cons_zero, List.set_cons_succ, List.set_cons_zero, dAdd_i, dSub_i, dIx_l, dIx_t, dIx_s, dSl_l, dRev_l, dLt_i, dLe_i, dGt_i, dGe_i, dNeg_i, dNot, dLen_l, dLen_t2, dLen_s, dMax2_i, dMin2_i, dInt_i, dInt_b, dList_l, dList_t, dIsN, dNotN, dEq_i, dNe_i, dEq_b, dNe_b, dSum_l, dAll_l, dSorted_l, dIn_l, dNi_l, Bool.not_true, Bool.not_false,  Bool.false_eq_true, reduceIte, reduceCtorEq, e1, enumD_ints]
    · refine forGo_fold (fun (i : Nat) => D.tup [.int (i : Nat), .int (row.getD i 0)]) st (stepD (dealtF rs) row tk) (List.range row.length) ((dealtF rs tk).1, -1 :: (dealtF rs tk).2) fun i hi x => ?_
      have e1 := ih (tk ++ [(i : Int)]) (by rw [List.length_append]; show tk.length + 1 + rs.length ≤ 1000; omega)
      have hlim2 : ([D.int (i : Int)] : List D).length + ((dealtF rs (tk ++ [(i : Int)])).2.map D.int).length ≤ LIM := by
        rw [List.length_map, dealtF_len]
        exact Nat.le_trans (show 1 + rs.length ≤ 1000 by omega) (by decide)
      have hlim3 : (tk.map D.int).length + ([D.int (i : Int)] : List D).length ≤ LIM := by
        rw [List.length_map]
        exact Nat.le_trans (show tk.length + 1 ≤ 1000 by omega) (by decide)
      have a0 : ∀ (x y : D), atI [x, y] 0 = some x := fun _ _ => rfl
      refine ⟨[(5, .int i), (6, .int (row.getD i 0))], ?_⟩
      by_cases hin : (i : Int) ∈ tk
      · refine ⟨_, rfl, rfl, sSeq_nil (sIf_f ?_ rfl), ?_⟩
        · show mT (m2 dNi (mV 5) (mV 1)) [some (.lst ((row :: rs).map intsD)), some (.lst (tk.map D.int)), none, none, some (pairD x), some (.int i), some (.int (row.getD i 0)), none] = _
          simp only [runM, sSeq, sSet, sSet2, sPar, sIf, sRet, sNil, sExp, sFrz, sKill, sPut, sRaise, mV, mC, m1, m2, mA, mCons, mNil, mCall, mLst, mTup, mT, mAnd, mOr, mNot, mB, mIf, mAndV, mOrV, mSl, mS, mN, mCh, mItems, mRng1, mRng2, mEnum, mZip, mRevI, mYes, Sta.set_no, Sta.set_mu, Sta.set_at, Sta.frz_mu, Sta.frz_no, Nat.reduceBEq, Sta.kill, killG, Rs.bind_ok, Rs.bind_ex, Rs.bind_no, Rs.of_some, Rs.of_none, Rs.nx_ok, startG, List.length_cons, List.length_nil, List.replicate_succ, List.replicate_zero, List.cons_append, List.nil_append, List.map_cons, List.map_nil, List.getElem?_cons_succ, List.getElem?_cons_zero, List.set_cons_succ, List.set_cons_zero, dAdd_i, dSub_i, dIx_l, dIx_t, dIx_s, dSl_l, dRev_l, dLt_i, dLe_i, dGt_i, dGe_i, dNeg_i, dNot, dLen_l, dLen_t2, dLen_s, dMax2_i, dMin2_i, dInt_i, dInt_b, dList_l, dList_t, dIsN, dNotN, dEq_i, dNe_i, dEq_b, dNe_b, dSum_l, dAll_l, dSorted_l, dIn_l, dNi_l, Bool.not_true, Bool.not_false,  Bool.false_eq_true, reduceIte, reduceCtorEq, hin, decide_true]
        · show (⟨[some (.lst ((row :: rs).map intsD)), some (.lst (tk.map D.int)), none, none, some (pairD x), none, none, none], none⟩ : Sta) = st (stepD (dealtF rs) row tk x i)
          unfold stepD
          rw [if_pos hin]
      · have hc : mT (m2 dNi (mV 5) (mV 1)) [some (.lst ((row :: rs).map intsD)), some (.lst (tk.map D.int)), none, none, some (pairD x), some (.int i), some (.int (row.getD i 0)), none] = .ok true := by simp only [runM, sSeq, sSet, sSet2, sPar, sIf, sRet, sNil, sExp, sFrz, sKill, sPut, sRaise, mV, mC, m1, m2, mA, mCons, mNil, mCall, mLst, mTup, mT, mAnd, mOr, mNot, mB, mIf, mAndV, mOrV, mSl, mS, mN, mCh, mItems, mRng1, mRng2, mEnum, mZip, mRevI, mYes, Sta.set_no, Sta.set_mu, Sta.set_at, Sta.frz_mu, Sta.frz_no, Nat.reduceBEq, Sta.kill, killG, Rs.bind_ok, Rs.bind_ex, Rs.bind_no, Rs.of_some, Rs.of_none, Rs.nx_ok, startG, List.length_cons, List.length_nil, List.replicate_succ, List.replicate_zero, List.cons_append, List.nil_append, List.map_cons, List.map_nil, List.getElem?_cons_succ, List.getElem?_cons_zero, List.set_cons_succ, List.set_cons_zero, dAdd_i, dSub_i, dIx_l, dIx_t, dIx_s, dSl_l, dRev_l, dLt_i, dLe_i, dGt_i, dGe_i, dNeg_i, dNot, dLen_l, dLen_t2, dLen_s, dMax2_i, dMin2_i, dInt_i, dInt_b, dList_l, dList_t, dIsN, dNotN, dEq_i, dNe_i, dEq_b, dNe_b, dSum_l, dAll_l, dSorted_l, dIn_l, dNi_l, Bool.not_true, Bool.not_false,  Bool.false_eq_true, reduceIte, reduceCtorEq, hin, decide_false]
        have hset : (mCall (fun ds => (P_dealt n ds).nx) (mCons (mSl (mV 0) (mS (mC (.int 1))) mN) (mCons (m2 dAdd (mV 1) (mLst (mCons (mV 5) mNil))) mNil))) [some (.lst ((row :: rs).map intsD)), some (.lst (tk.map D.int)), none, none, some (pairD x), some (.int i), some (.int (row.getD i 0)), none] = .ok (pairD (dealtF rs (tk ++ [(i : Int)]))) := by
          unfold mCall mCons mSl mV mS mN mC mNil m2 mLst
          simp only [List.getElem?_cons_succ, List.getElem?_cons_zero, Rs.bind_ok, dSl_l, Rs.of_some, ed, dAdd_l hlim3]
          rw [show tk.map D.int ++ [D.int (i : Int)] = (tk ++ [(i : Int)]).map D.int by rw [List.map_append]; rfl, e1]
          rfl
        by_cases hgt : row.getD i 0 + (dealtF rs (tk ++ [(i : Int)])).1 > x.1
        · refine ⟨⟨[some (.lst ((row :: rs).map intsD)), some (.lst (tk.map D.int)), none, some (.lst ((dealtF rs (tk ++ [(i : Int)])).2.map D.int)), some (pairD (row.getD i 0 + (dealtF rs (tk ++ [(i : Int)])).1, (i : Int) :: (dealtF rs (tk ++ [(i : Int)])).2)), some (.int i), some (.int (row.getD i 0)), some (.int (dealtF rs (tk ++ [(i : Int)])).1)], none⟩, rfl, rfl, sSeq_nil (sIf_t hc (sSeq_eq (sSet2_eq hset) (sSeq_nil (sIf_t ?_ (sSeq_nil (sSet_eq ?_)))))), ?_⟩
          · show mT _ [some (.lst ((row :: rs).map intsD)), some (.lst (tk.map D.int)), none, some (.lst ((dealtF rs (tk ++ [(i : Int)])).2.map D.int)), some (pairD x), some (.int i), some (.int (row.getD i 0)), some (.int (dealtF rs (tk ++ [(i : Int)])).1)] = _
            unfold pairD
            simp only [runM, sSeq, sSet, sSet2, sPar, sIf, sRet, sNil, sExp, sFrz, sKill, sPut, sRaise, mV, mC, m1, m2, mA, mCons, mNil, mCall, mLst, mTup, mT, mAnd, mOr, mNot, mB, mIf, mAndV, mOrV, mSl, mS, mN, mCh, mItems, mRng1, mRng2, mEnum, mZip, mRevI, mYes, Sta.set_no, Sta.set_mu, Sta.set_at, Sta.frz_mu, Sta.frz_no, Nat.reduceBEq, Sta.kill, killG, Rs.bind_ok, Rs.bind_ex, Rs.bind_no, Rs.of_some, Rs.of_none, Rs.nx_ok, startG, List.length_cons, List.length_nil, List.replicate_succ, List.replicate_zero, List.cons_append, List.nil_append, List.map_cons, List.map_nil, List.getElem?_cons_succ, List.getElem?_cons_zero, List.set_cons_succ, List.set_cons_zero, dAdd_i, dSub_i, dIx_l, dIx_t, dIx_s, dSl_l, dRev_l, dLt_i, dLe_i, dGt_i, dGe_i, dNeg_i, dNot, dLen_l, dLen_t2, dLen_s, dMax2_i, dMin2_i, dInt_i, dInt_b, dList_l, dList_t, dIsN, dNotN, dEq_i, dNe_i, dEq_b, dNe_b, dSum_l, dAll_l, dSorted_l, dIn_l, dNi_l, Bool.not_true, Bool.not_false,  Bool.false_eq_true, reduceIte, reduceCtorEq, a0, decide_eq_true (show x.1 < row.getD i 0 + (dealtF rs (tk ++ [(i : Int)])).1 from hgt)]
          · show mTup _ [some (.lst ((row :: rs).map intsD)), some (.lst (tk.map D.int)), none, some (.lst ((dealtF rs (tk ++ [(i : Int)])).2.map D.int)), some (pairD x), some (.int i), some (.int (row.getD i 0)), some (.int (dealtF rs (tk ++ [(i : Int)])).1)] = _
            simp only [runM, sSeq, sSet, sSet2, sPar, sIf, sRet, sNil, sExp, sFrz, sKill, sPut, sRaise, mV, mC, m1, m2, mA, mCons, mNil, mCall, mLst, mTup, mT, mAnd, mOr, mNot, mB, mIf, mAndV, mOrV, mSl, mS, mN, mCh, mItems, mRng1, mRng2, mEnum, mZip, mRevI, mYes, Sta.set_no, Sta.set_mu, Sta.set_at, Sta.frz_mu, Sta.frz_no, Nat.reduceBEq, Sta.kill, killG, Rs.bind_ok, Rs.bind_ex, Rs.bind_no, Rs.of_some, Rs.of_none, Rs.nx_ok, startG, List.length_cons, List.length_nil, List.replicate_succ, List.replicate_zero, List.cons_append, List.nil_append, List.map_cons, List.map_nil, List.getElem?_cons_succ, List.getElem?_cons_zero, List.set_cons_succ, List.set_cons_zero, dAdd_i, dSub_i, dIx_l, dIx_t, dIx_s, dSl_l, dRev_l, dLt_i, dLe_i, dGt_i, dGe_i, dNeg_i, dNot, dLen_l, dLen_t2, dLen_s, dMax2_i, dMin2_i, dInt_i, dInt_b, dList_l, dList_t, dIsN, dNotN, dEq_i, dNe_i, dEq_b, dNe_b, dSum_l, dAll_l, dSorted_l, dIn_l, dNi_l, Bool.not_true, Bool.not_false,  Bool.false_eq_true, reduceIte, reduceCtorEq, dAdd_l hlim2]
            rfl
          · show (⟨[some (.lst ((row :: rs).map intsD)), some (.lst (tk.map D.int)), none, none, some (pairD (row.getD i 0 + (dealtF rs (tk ++ [(i : Int)])).1, (i : Int) :: (dealtF rs (tk ++ [(i : Int)])).2)), none, none, none], none⟩ : Sta) = st (stepD (dealtF rs) row tk x i)
            unfold stepD
            rw [if_neg hin, if_pos hgt]
        · refine ⟨⟨[some (.lst ((row :: rs).map intsD)), some (.lst (tk.map D.int)), none, some (.lst ((dealtF rs (tk ++ [(i : Int)])).2.map D.int)), some (pairD x), some (.int i), some (.int (row.getD i 0)), some (.int (dealtF rs (tk ++ [(i : Int)])).1)], none⟩, rfl, rfl, sSeq_nil (sIf_t hc (sSeq_eq (sSet2_eq hset) (sSeq_nil (sIf_f ?_ rfl)))), ?_⟩
          · show mT _ [some (.lst ((row :: rs).map intsD)), some (.lst (tk.map D.int)), none, some (.lst ((dealtF rs (tk ++ [(i : Int)])).2.map D.int)), some (pairD x), some (.int i), some (.int (row.getD i 0)), some (.int (dealtF rs (tk ++ [(i : Int)])).1)] = _
            unfold pairD
            simp only [runM, sSeq, sSet, sSet2, sPar, sIf, sRet, sNil, sExp, sFrz, sKill, sPut, sRaise, mV, mC, m1, m2, mA, mCons, mNil, mCall, mLst, mTup, mT, mAnd, mOr, mNot, mB, mIf, mAndV, mOrV, mSl, mS, mN, mCh, mItems, mRng1, mRng2, mEnum, mZip, mRevI, mYes, Sta.set_no, Sta.set_mu, Sta.set_at, Sta.frz_mu, Sta.frz_no, Nat.reduceBEq, Sta.kill, killG, Rs.bind_ok, Rs.bind_ex, Rs.bind_no, Rs.of_some, Rs.of_none, Rs.nx_ok, startG, List.length_cons, List.length_nil, List.replicate_succ, List.replicate_zero, List.cons_append, List.nil_append, List.map_cons, List.map_nil, List.getElem?_cons_succ, List.getElem?_cons_zero, List.set_cons_succ, List.set_cons_zero, dAdd_i, dSub_i, dIx_l, dIx_t, dIx_s, dSl_l, dRev_l, dLt_i, dLe_i, dGt_i, dGe_i, dNeg_i, dNot, dLen_l, dLen_t2, dLen_s, dMax2_i, dMin2_i, dInt_i, dInt_b, dList_l, dList_t, dIsN, dNotN, dEq_i, dNe_i, dEq_b, dNe_b, dSum_l, dAll_l, dSorted_l, dIn_l, dNi_l, Bool.not_true, Bool.not_false,  Bool.false_eq_true, reduceIte, reduceCtorEq, a0, decide_eq_false (show ¬ x.1 < row.getD i 0 + (dealtF rs (tk ++ [(i : Int)])).1 from hgt)]
          · show (⟨[some (.lst ((row :: rs).map intsD)), some (.lst (tk.map D.int)), none, none, some (pairD x), none, none, none], none⟩ : Sta) = st (stepD (dealtF rs) row tk x i)
            unfold stepD
            rw [if_neg hin, if_neg hgt]
end Z
set_option Elab.async false
set_option linter.all false
set_option maxRecDepth 100000
set_option maxHeartbeats 4000000
/-! S, part M: plain mathematics of first maxima and of the shelf. -/
namespace Z
set_option autoImplicit false
/-! ### the first of the greatest -/
section
variable {α β : Type}
def stepM (f : α → Int) (o : Option α) (a : α) : Option α := match o with
  | none => some a
  | some b => if f a > f b then some a else some b
def fmx (f : α → Int) (l : List α) : Option α := l.foldl (stepM f) none
def joinM (f : α → Int) (o o' : Option α) : Option α := match o' with
  | none => o
  | some a => stepM f o a
theorem joinM_step (f : α → Int) (o o' : Option α) (a : α) : joinM f o (stepM f o' a) = stepM f (joinM f o o') a := by
  cases o with
  | none =>
    cases o' with
    | none => rfl
    | some b =>
      show joinM f none (if f a > f b then some a else some b) = (if f a > f b then some a else some b)
      split <;> rfl
  | some c =>
    cases o' with
    | none => rfl
    | some b =>
      show joinM f (some c) (if f a > f b then some a else some b) = stepM f (if f b > f c then some b else some c) a
      by_cases h1 : f a > f b <;> by_cases h2 : f b > f c
      · rw [if_pos h1, if_pos h2]
        show (if f a > f c then some a else some c) = (if f a > f b then some a else some b)
        rw [if_pos (by omega), if_pos h1]
      · rw [if_pos h1, if_neg h2]
        rfl
      · rw [if_neg h1, if_pos h2]
        show (if f b > f c then some b else some c) = (if f a > f b then some a else some b)
        rw [if_pos h2, if_neg h1]
      · rw [if_neg h1, if_neg h2]
        show (if f b > f c then some b else some c) = (if f a > f c then some a else some c)
        rw [if_neg h2, if_neg (by omega)]
theorem fold_join (f : α → Int) : ∀ (l : List α) (o : Option α), l.foldl (stepM f) o = joinM f o (fmx f l) := by
  have key : ∀ (l : List α) (o o' : Option α), l.foldl (stepM f) (joinM f o o') = joinM f o (l.foldl (stepM f) o') := by
    intro l
    induction l with
    | nil => intro o o'; rfl
    | cons a r ih =>
      intro o o'
      rw [List.foldl_cons, List.foldl_cons, ← joinM_step, ih]
  intro l o
  exact key l o none
theorem fmx_append (f : α → Int) (a b : List α) : fmx f (a ++ b) = joinM f (fmx f a) (fmx f b) := by
  unfold fmx
  rw [List.foldl_append, fold_join f b]
  rfl
theorem fmx_map (f : α → Int) (g : β → α) (h : β → Int) (k : Int) (e : ∀ b, f (g b) = k + h b) : ∀ l : List β, fmx f (l.map g) = (fmx h l).map g := by
  have key : ∀ (l : List β) (o : Option β), (l.map g).foldl (stepM f) (o.map g) = (l.foldl (stepM h) o).map g := by
    intro l
    induction l with
    | nil => intro o; rfl
    | cons b r ih =>
      intro o
      rw [List.map_cons, List.foldl_cons, List.foldl_cons, ← ih]
      congr 1
      cases o with
      | none => rfl
      | some c =>
        show (if f (g b) > f (g c) then some (g b) else some (g c)) = Option.map g (if h b > h c then some b else some c)
        rw [e, e]
        by_cases q : h b > h c
        · rw [if_pos q, if_pos (by omega)]
          rfl
        · rw [if_neg q, if_neg (by omega)]
          rfl
  intro l
  exact key l none
theorem fmx_mem (f : α → Int) : ∀ {l : List α} {a : α}, fmx f l = some a → a ∈ l := by
  have key : ∀ (l : List α) (o : Option α) (a : α), l.foldl (stepM f) o = some a → o = some a ∨ a ∈ l := by
    intro l
    induction l with
    | nil => exact fun o a h => .inl h
    | cons c r ih =>
      intro o a h
      rw [List.foldl_cons] at h
      rcases ih _ _ h with e | e
      · cases o with
        | none =>
          have e' : some c = some a := e
          cases e'
          exact .inr List.mem_cons_self
        | some b =>
          have e' : (if f c > f b then some c else some b) = some a := e
          split at e'
          · cases e'
            exact .inr List.mem_cons_self
          · exact .inl e'
      · exact .inr (List.mem_cons_of_mem _ e)
  intro l a h
  rcases key l none a h with e | e
  · cases e
  · exact e
end
/-! ### the shelf -/
/-- all dealings of goods that aren't taken, in order -/
def dealsF (goods : Nat) : Nat → List Int → List (List Int)
  | 0, _ => [[]]
  | p + 1, tk => (goodsL goods).flatMap fun g => if g = -1 then (dealsF goods p tk).map (g :: ·) else if g ∈ tk then [] else (dealsF goods p (tk ++ [g])).map (g :: ·)
/-- -1 in the row of the taken changes nothing -/
theorem dealsF_tk {goods : Nat} : ∀ (p : Nat) (t u : List Int), (∀ g : Int, g ≠ -1 → (g ∈ t ↔ g ∈ u)) → dealsF goods p t = dealsF goods p u
  | 0, _, _, _ => rfl
  | p + 1, t, u, h => by
    unfold dealsF
    have e1 := dealsF_tk (goods := goods) p t u h
    congr 1
    funext g
    by_cases hg : g = -1
    · rw [if_pos hg, if_pos hg, e1]
    · rw [if_neg hg, if_neg hg]
      have e2 := dealsF_tk (goods := goods) p (t ++ [g]) (u ++ [g]) fun x hx => by
        rw [List.mem_append, List.mem_append, h x hx]
      by_cases hm : g ∈ t
      · rw [if_pos hm, if_pos ((h g hg).mp hm)]
      · rw [if_neg hm, if_neg (fun z => hm ((h g hg).mpr z)), e2]
/-- rows grown at their end, p times -/
def grow (goods : Nat) : Nat → List (List Int) → List (List Int)
  | 0, l => l
  | p + 1, l => grow goods p (l.flatMap (exts goods))
theorem grow_append (goods : Nat) : ∀ (p : Nat) (a b : List (List Int)), grow goods p (a ++ b) = grow goods p a ++ grow goods p b
  | 0, _, _ => rfl
  | p + 1, a, b => by
    unfold grow
    rw [List.flatMap_append, grow_append goods p]
theorem grow_flat (goods : Nat) (p : Nat) : ∀ l : List (List Int), grow goods p l = l.flatMap fun r => grow goods p [r]
  | [] => by
    have : ∀ q, grow goods q [] = [] := by
      intro q
      induction q with
      | zero => rfl
      | succ q ih => exact ih
    rw [this]
    rfl
  | r :: s => by
    rw [List.flatMap_cons, ← grow_flat goods p s, ← grow_append]
    rfl
theorem deals_grow (goods : Nat) : ∀ (p q : Nat), grow goods p (deals q goods) = deals (q + p) goods
  | 0, q => rfl
  | p + 1, q => by
    show grow goods p ((deals q goods).flatMap (exts goods)) = _
    have e : (deals q goods).flatMap (exts goods) = deals (q + 1) goods := rfl
    rw [e, deals_grow goods p (q + 1)]
    rw [show q + 1 + p = q + (p + 1) by omega]
theorem flatMap_filter_map {α β γ : Type} (c : α → Bool) (f : α → β) (g : β → List γ) : ∀ l : List α, ((l.filter c).map f).flatMap g = l.flatMap fun a => if c a = true then g (f a) else []
  | [] => rfl
  | a :: r => by
    rw [List.flatMap_cons]
    by_cases h : c a = true
    · rw [List.filter_cons_of_pos h, List.map_cons, List.flatMap_cons, flatMap_filter_map c f g r, if_pos h]
    · rw [List.filter_cons_of_neg h, flatMap_filter_map c f g r, if_neg h]
      rfl
theorem grow_one (goods : Nat) : ∀ (p : Nat) (row : List Int), grow goods p [row] = (dealsF goods p row).map (row ++ ·)
  | 0, row => by
    show [row] = [row ++ []]
    rw [List.append_nil]
  | p + 1, row => by
    show grow goods p ((exts goods row) ++ []) = _
    rw [List.append_nil, grow_flat]
    unfold exts
    rw [flatMap_filter_map]
    show _ = List.map (row ++ ·) (List.flatMap _ _)
    rw [List.map_flatMap]
    congr 1
    funext g
    rw [grow_one goods p (row ++ [g])]
    by_cases hg : g = -1
    · have e : dealsF goods p (row ++ [g]) = dealsF goods p row := dealsF_tk p _ _ fun x hx => by
        rw [List.mem_append, List.mem_singleton, hg]
        exact ⟨fun z => z.elim id fun z => absurd z hx, .inl⟩
      rw [if_pos (by simp [hg]), if_pos hg, e, List.map_map]
      congr 1
      funext d
      show row ++ [g] ++ d = row ++ g :: d
      rw [List.append_assoc]
      rfl
    · by_cases hm : g ∈ row
      · rw [if_neg (by simp [hg, hm]), if_neg hg, if_pos hm]
        rfl
      · rw [if_pos (by simp [hm]), if_neg hg, if_neg hm, List.map_map]
        congr 1
        funext d
        show row ++ [g] ++ d = row ++ g :: d
        rw [List.append_assoc]
        rfl
theorem deals_eq (goods p : Nat) : deals p goods = dealsF goods p [] := by
  have h := deals_grow goods p 0
  rw [Nat.zero_add] at h
  rw [← h]
  show grow goods p [[]] = _
  rw [grow_one]
  show List.map (fun d => [] ++ d) _ = _
  simp
theorem goodsL_eq (goods : Nat) : goodsL goods = -1 :: (List.range goods).map fun (i : Nat) => (i : Int) := by
  unfold goodsL
  rw [List.range_succ_eq_map, List.map_cons, List.map_map]
  congr 1
  refine List.map_congr_left fun i _ => ?_
  show -1 + ((i + 1 : Nat) : Int) = (i : Int)
  omega
theorem dealtF_fmx {goods : Nat} : ∀ (rows : List (List Int)) (tk : List Int), (∀ r ∈ rows, r.length = goods) → ∃ d, fmx (lsum rows) (dealsF goods rows.length tk) = some d ∧ dealtF rows tk = (lsum rows d, d)
  | [], tk, _ => ⟨[], rfl, rfl⟩
  | row :: rs, tk, h => by
    have hl : row.length = goods := h row List.mem_cons_self
    have ih := fun t => dealtF_fmx rs t fun r hr => h r (List.mem_cons_of_mem _ hr)
    have one : ∀ (g : Int) (t : List Int), fmx (lsum (row :: rs)) ((dealsF goods rs.length t).map (g :: ·)) = some (g :: (dealtF rs t).2) ∧ lsum (row :: rs) (g :: (dealtF rs t).2) = worthAt row g + (dealtF rs t).1 := fun g t => by
      obtain ⟨d, h1, h2⟩ := ih t
      rw [fmx_map (lsum (row :: rs)) (g :: ·) (lsum rs) (worthAt row g) (fun b => rfl), h1, h2]
      exact ⟨rfl, rfl⟩
    have w1 : worthAt row (-1) = 0 := rfl
    show ∃ d, fmx (lsum (row :: rs)) ((goodsL goods).flatMap fun g => if g = -1 then (dealsF goods rs.length tk).map (g :: ·) else if g ∈ tk then [] else (dealsF goods rs.length (tk ++ [g])).map (g :: ·)) = some d ∧ _
    rw [goodsL_eq, List.flatMap_cons, if_pos rfl, fmx_append, (one (-1) tk).1, ← fold_join]
    show ∃ d, _ ∧ (List.range row.length).foldl (stepD (dealtF rs) row tk) ((dealtF rs tk).1, -1 :: (dealtF rs tk).2) = (lsum (row :: rs) d, d)
    have e0 : ((dealtF rs tk).1, -1 :: (dealtF rs tk).2) = (lsum (row :: rs) (-1 :: (dealtF rs tk).2), -1 :: (dealtF rs tk).2) := by
      rw [(one (-1) tk).2, w1, Int.zero_add]
    rw [e0, hl]
    generalize -1 :: (dealtF rs tk).2 = d0
    have hb : ∀ i ∈ List.range goods, i < goods := fun i hi => List.mem_range.mp hi
    generalize List.range goods = is at hb
    induction is generalizing d0 with
    | nil => exact ⟨d0, rfl, rfl⟩
    | cons i r ihr =>
      rw [List.map_cons, List.flatMap_cons, List.foldl_append, List.foldl_cons]
      have hi : i < goods := hb i List.mem_cons_self
      have hm1 : (i : Int) ≠ -1 := by omega
      rw [if_neg hm1]
      by_cases hin : (i : Int) ∈ tk
      · rw [if_pos hin]
        have e1 : stepD (dealtF rs) row tk (lsum (row :: rs) d0, d0) i = (lsum (row :: rs) d0, d0) := if_pos hin
        rw [e1]
        exact ihr d0 fun j hj => hb j (List.mem_cons_of_mem _ hj)
      · rw [if_neg hin, fold_join _ (List.map ((i : Int) :: ·) _) (some d0), (one (i : Int) (tk ++ [(i : Int)])).1]
        obtain ⟨_, h2⟩ := one (i : Int) (tk ++ [(i : Int)])
        have w2 : worthAt row (i : Int) = row.getD i 0 := by
          unfold worthAt
          rw [if_pos (by omega), Int.toNat_natCast]
        rw [w2] at h2
        have e1 : stepD (dealtF rs) row tk (lsum (row :: rs) d0, d0) i = if lsum (row :: rs) ((i : Int) :: (dealtF rs (tk ++ [(i : Int)])).2) > lsum (row :: rs) d0 then (lsum (row :: rs) ((i : Int) :: (dealtF rs (tk ++ [(i : Int)])).2), (i : Int) :: (dealtF rs (tk ++ [(i : Int)])).2) else (lsum (row :: rs) d0, d0) := by
          unfold stepD
          rw [if_neg hin, h2]
        rw [e1]
        have hb' : ∀ j ∈ r, j < goods := fun j hj => hb j (List.mem_cons_of_mem _ hj)
        by_cases hgt : lsum (row :: rs) ((i : Int) :: (dealtF rs (tk ++ [(i : Int)])).2) > lsum (row :: rs) d0
        · rw [if_pos hgt]
          have e2 : joinM (lsum (row :: rs)) (some d0) (some ((i : Int) :: (dealtF rs (tk ++ [(i : Int)])).2)) = some ((i : Int) :: (dealtF rs (tk ++ [(i : Int)])).2) := if_pos hgt
          rw [e2]
          exact ihr _ hb'
        · rw [if_neg hgt]
          have e2 : joinM (lsum (row :: rs)) (some d0) (some ((i : Int) :: (dealtF rs (tk ++ [(i : Int)])).2)) = some d0 := if_neg hgt
          rw [e2]
          exact ihr _ hb'
end Z
set_option Elab.async false
set_option linter.all false
set_option maxRecDepth 100000
set_option maxHeartbeats 4000000
/-! S, part 4: the shelf: the program's own defs. -/
namespace Z
set_option autoImplicit false
open PySem L2
/-! ### what are worths -/
def numOk (ns : List Int) : Bool := ns.all fun x => decide (0 ≤ x) && decide (x ≤ 1000)
theorem sp_numbers_right (ns : List Int) (hl : ns.length ≤ LIM) : P_numbers_right [.lst (ns.map D.int)] = .ok (.bl (numOk ns)) := by
  refine runM_rt' (sSeq_nil (sRet_eq ?_))
  have e1 : mLc [1] (mItems (mV 0)) (.one 1) mYes (mCh dLe dLe (mC (.int 0)) (mV 1) (mC (.int 1000))) [some (.lst (ns.map D.int)), none] = .ok (ns.map fun x => D.bl (decide (0 ≤ x) && decide (x ≤ 1000))) := by
    refine mLc_enc D.int _ ns rfl hl fun x _ => ⟨[(1, .int x)], rfl, ?_⟩
    show mCh dLe dLe (mC (.int 0)) (mV 1) (mC (.int 1000)) [some (.lst (ns.map D.int)), some (.int x)] = _
    simp only [runM, sSeq, sSet, sSet2, sPar, sIf, sRet, sNil, sExp, sFrz, sKill, sPut, sRaise, mV, mC, m1, m2, mA, mCons, mNil, mCall, mLst, mTup, mT, mAnd, mOr, mNot, mB, mIf, mAndV, mOrV, mSl, mS, mN, mCh, mItems, mRng1, mRng2, mEnum, mZip, mRevI, mYes, Sta.set_no, Sta.set_mu, Sta.set_at, Sta.frz_mu, Sta.frz_no, Nat.reduceBEq, Sta.kill, killG, Rs.bind_ok, Rs.bind_ex, Rs.bind_no, Rs.of_some, Rs.of_none, Rs.nx_ok, startG, List.length_cons, List.length_nil, List.replicate_succ, List.replicate_zero, List.cons_append, List.nil_append, List.map_cons, List.map_nil, List.getElem?_cons_succ, List.getElem?_cons_zero, List.set_cons_succ, List.set_cons_zero, dAdd_i, dSub_i, dIx_l, dIx_t, dIx_s, dSl_l, dRev_l, dLt_i, dLe_i, dGt_i, dGe_i, dNeg_i, dNot, dLen_l, dLen_t2, dLen_s, dMax2_i, dMin2_i, dInt_i, dInt_b, dList_l, dList_t, dIsN, dNotN, dEq_i, dNe_i, dEq_b, dNe_b, dSum_l, dAll_l, dSorted_l, dIn_l, dNi_l, Bool.not_true, Bool.not_false,  Bool.false_eq_true, reduceIte, reduceCtorEq]
    cases decide (0 ≤ x) <;> simp only [runM, sSeq, sSet, sSet2, sPar, sIf, sRet, sNil, sExp, sFrz, sKill, sPut, sRaise, mV, mC, m1, m2, mA, mCons, mNil, mCall, mLst, mTup, mT, mAnd, mOr, mNot, mB, mIf, mAndV, mOrV, mSl, mS, mN, mCh, mItems, mRng1, mRng2, mEnum, mZip, mRevI, mYes, Sta.set_no, Sta.set_mu, Sta.set_at, Sta.frz_mu, Sta.frz_no, Nat.reduceBEq, Sta.kill, killG, Rs.bind_ok, Rs.bind_ex, Rs.bind_no, Rs.of_some, Rs.of_none, Rs.nx_ok, startG, List.length_cons, List.length_nil, List.replicate_succ, List.replicate_zero, List.cons_append, List.nil_append, List.map_cons, List.map_nil, List.getElem?_cons_succ, List.getElem?_cons_zero, List.set_cons_succ, List.set_cons_zero, dAdd_i, dSub_i, dIx_l, dIx_t, dIx_s, dSl_l, dRev_l, dLt_i, dLe_i, dGt_i, dGe_i, dNeg_i, dNot, dLen_l, dLen_t2, dLen_s, dMax2_i, dMin2_i, dInt_i, dInt_b, dList_l, dList_t, dIsN, dNotN, dEq_i, dNe_i, dEq_b, dNe_b, dSum_l, dAll_l, dSorted_l, dIn_l, dNi_l, Bool.not_true, Bool.not_false,  Bool.false_eq_true, reduceIte, reduceCtorEq] <;> rfl
  have e2 : (ns.map fun x => D.bl (decide (0 ≤ x) && decide (x ≤ 1000))) = (ns.map fun x => decide (0 ≤ x) && decide (x ≤ 1000)).map D.bl := by rw [List.map_map]; rfl
  have e3 : (ns.map fun x => decide (0 ≤ x) && decide (x ≤ 1000)).all id = numOk ns := by
    unfold numOk
    rw [List.all_map]
    rfl
  simp only [runM, sSeq, sSet, sSet2, sPar, sIf, sRet, sNil, sExp, sFrz, sKill, sPut, sRaise, mV, mC, m1, m2, mA, mCons, mNil, mCall, mLst, mTup, mT, mAnd, mOr, mNot, mB, mIf, mAndV, mOrV, mSl, mS, mN, mCh, mItems, mRng1, mRng2, mEnum, mZip, mRevI, mYes, Sta.set_no, Sta.set_mu, Sta.set_at, Sta.frz_mu, Sta.frz_no, Nat.reduceBEq, Sta.kill, killG, Rs.bind_ok, Rs.bind_ex, Rs.bind_no, Rs.of_some, Rs.of_none, Rs.nx_ok, startG, List.length_cons, List.length_nil, List.replicate_succ, List.replicate_zero, List.cons_append, List.nil_append, List.map_cons, List.map_nil, List.getElem?_cons_succ, List.getElem?_cons_zero, List.set_cons_succ, List.set_cons_zero, dAdd_i, dSub_i, dIx_l, dIx_t, dIx_s, dSl_l, dRev_l, dLt_i, dLe_i, dGt_i, dGe_i, dNeg_i, dNot, dLen_l, dLen_t2, dLen_s, dMax2_i, dMin2_i, dInt_i, dInt_b, dList_l, dList_t, dIsN, dNotN, dEq_i, dNe_i, dEq_b, dNe_b, dSum_l, dAll_l, dSorted_l, dIn_l, dNi_l, Bool.not_true, Bool.not_false,  Bool.false_eq_true, reduceIte, reduceCtorEq, e1, e2, e3]
def rowOk (n : Nat) (row : List Int) : Bool := (decide (1 ≤ row.length) && decide (row.length ≤ 4)) && (decide (row.length = n) && numOk row)
def shelfOk (rows : List (List Int)) : Bool := (decide (1 ≤ rows.length) && decide (rows.length ≤ 4)) && rows.all (rowOk (rows.headD []).length)
theorem sp_check_shelf (c : Addr) (rows : List (List Int)) (hl : ∀ r ∈ rows, r.length ≤ LIM) : P_check_shelf c [.lst (rows.map intsD)] = if shelfOk rows then .ok .non else .ex c none := by
  unfold P_check_shelf p_check_shelf
  have e1 : mCh dLe dLe (mC (.int 1)) (mA dLen (mCons (mV 0) mNil)) (mC (.int 4)) (startG 2 [.lst (rows.map intsD)]) = .ok (.bl (decide (1 ≤ rows.length) && decide (rows.length ≤ 4))) := by
    rw [chain_le (i := 1) (j := rows.length) (k := 4) rfl (mA_eq (mCons_eq rfl rfl) (by rw [dLen_l, List.length_map])) rfl]
    exact congrArg (fun b => Rs.ok (D.bl b)) (congr (congrArg and (decide_eq_decide.mpr (by omega))) (decide_eq_decide.mpr (by omega)))
  unfold shelfOk
  cases q : decide (1 ≤ rows.length) && decide (rows.length ≤ 4) with
  | false =>
    rw [Bool.false_and, if_neg Bool.false_ne_true]
    refine runM_ex (sSeq_ex (sIf_t ?_ ?_))
    · rw [mNot_eq (mT_eq e1), q]
      rfl
    · rfl
  | true =>
    rw [Bool.true_and]
    have hne : 1 ≤ rows.length ∧ rows.length ≤ 4 := by simpa using q
    have h0 : ∃ r rs, rows = r :: rs := by
      cases rows with
      | nil => simp at hne
      | cons r rs => exact ⟨r, rs, rfl⟩
    obtain ⟨r0, rs, hrs⟩ := h0
    have ef : forGo (.one 1) [1] (sSeq (sIf (mOr (mNot (mT (mCh dLe dLe (mC (.int 1)) (mA dLen (mCons (mV 1) mNil)) (mC (.int 4))))) (mOr (mT (m2 dNe (mA dLen (mCons (mV 1) mNil)) (mA dLen (mCons (m2 dIx (mV 0) (mC (.int 0))) mNil)))) (mNot (mT (mCall (fun ds => (P_numbers_right ds).nx) (mCons (mV 1) mNil)))))) (sSeq (sRaise c) sNil) sNil) sNil) (rows.map intsD) ⟨[some (.lst (rows.map intsD)), none], none⟩ =
        if rows.all (rowOk (rows.headD []).length) then .ok (.nx ⟨[some (.lst (rows.map intsD)), none], none⟩) else .ex c none := by
      refine forGo_look intsD (rowOk (rows.headD []).length) (.ex c none) (fun s => ⟨(fun z => nomatch z), (fun z => nomatch z), (fun z => nomatch z)⟩) rows fun row hrow => ?_
      have hd : atI (rows.map intsD) 0 = some (intsD r0) := by rw [hrs]; exact atI_0 _ _
      have hh : rows.headD [] = r0 := by rw [hrs]; rfl
      have l1 : ∀ r : List Int, dLen [intsD r] = some (.int r.length) := fun r => by
        unfold intsD
        rw [dLen_l, List.length_map]
      have c2 : mOr (mNot (mT (mCh dLe dLe (mC (.int 1)) (mA dLen (mCons (mV 1) mNil)) (mC (.int 4))))) (mOr (mT (m2 dNe (mA dLen (mCons (mV 1) mNil)) (mA dLen (mCons (m2 dIx (mV 0) (mC (.int 0))) mNil)))) (mNot (mT (mCall (fun ds => (P_numbers_right ds).nx) (mCons (mV 1) mNil))))) [some (.lst (rows.map intsD)), some (intsD row)] = .ok (!rowOk r0.length row) := by
        rw [mOr_eq (mNot_eq (mT_eq (chain_le (i := 1) (j := row.length) (k := 4) rfl (mA_eq (mCons_eq rfl rfl) (l1 row)) rfl))) fun _ => mOr_eq (mT_eq (m2_eq (mA_eq (mCons_eq rfl rfl) (l1 row)) (mA_eq (mCons_eq (m2_eq rfl rfl hd) rfl) (l1 r0)) (dNe_i _ _))) fun _ => mNot_eq (mT_eq (mCalln_eq (mCons_eq rfl rfl) (sp_numbers_right row (hl row hrow))))]
        unfold rowOk
        have d1 : decide ((1 : Int) ≤ (row.length : Int)) = decide (1 ≤ row.length) := decide_eq_decide.mpr (by omega)
        have d2 : decide ((row.length : Int) ≤ (4 : Int)) = decide (row.length ≤ 4) := decide_eq_decide.mpr (by omega)
        have d3 : decide ((row.length : Int) = (r0.length : Int)) = decide (row.length = r0.length) := decide_eq_decide.mpr (by omega)
        rw [d1, d2, d3]
        cases decide (1 ≤ row.length) <;> cases decide (row.length ≤ 4) <;> cases decide (row.length = r0.length) <;> cases numOk row <;> rfl
      rw [hh]
      refine ⟨[(1, intsD row)], rfl, rfl, fun hf => ⟨⟨[some (.lst (rows.map intsD)), some (intsD row)], none⟩, sSeq_nil (sIf_f (by rw [hf] at c2; exact c2) rfl), rfl⟩, fun hf => sSeq_ex (sIf_t (by rw [hf] at c2; exact c2) rfl)⟩
    have go : m_check_shelf c P_numbers_right ⟨startG 2 [.lst (rows.map intsD)], none⟩ = if rows.all (rowOk (rows.headD []).length) then .ok (.nx ⟨[some (.lst (rows.map intsD)), none], none⟩) else .ex c none := by
      refine sSeq_eq (sIf_f (by rw [mNot_eq (mT_eq e1), q]; rfl) rfl) ?_
      refine sSeq_nil (sFor_eq (ds := rows.map intsD) rfl ?_)
      exact ef
    unfold runM
    rw [go]
    cases rows.all (rowOk (rows.headD []).length) <;> rfl
/-- worths of the shelf -/
structure Shelf (rows : List (List Int)) (goods : Nat) : Prop where
  p1 : 1 ≤ rows.length
  p4 : rows.length ≤ 4
  g1 : 1 ≤ goods
  g4 : goods ≤ 4
  len : ∀ r ∈ rows, r.length = goods
  num : ∀ r ∈ rows, ∀ x ∈ r, 0 ≤ x ∧ x ≤ 1000
theorem numOk_of {ns : List Int} (h : ∀ x ∈ ns, 0 ≤ x ∧ x ≤ 1000) : numOk ns = true := by
  unfold numOk
  rw [List.all_eq_true]
  intro x hx
  have := h x hx
  simp [this]
theorem Shelf.ok {rows : List (List Int)} {goods : Nat} (h : Shelf rows goods) : shelfOk rows = true := by
  unfold shelfOk
  have h1 := h.p1
  have h2 := h.p4
  simp only [h1, h2, decide_true, Bool.true_and]
  rw [List.all_eq_true]
  intro r hr
  unfold rowOk
  have e : (rows.headD []).length = goods := by
    cases rows with
    | nil => simp at h1
    | cons a b => exact h.len a List.mem_cons_self
  have h3 := h.len r hr
  have h4 := h.g1
  have h5 := h.g4
  rw [e, h3, numOk_of (h.num r hr)]
  simp [h4, h5]
theorem Shelf.lim {rows : List (List Int)} {goods : Nat} (h : Shelf rows goods) : ∀ r ∈ rows, r.length ≤ LIM := fun r hr => by
  rw [h.len r hr]
  exact Nat.le_trans h.g4 (by decide)
theorem Shelf.check {rows : List (List Int)} {goods : Nat} (h : Shelf rows goods) (c : Addr) : P_check_shelf c [.lst (rows.map intsD)] = .ok .non := by
  rw [sp_check_shelf c rows h.lim, h.ok]
  rfl
theorem sp_dealt5 {rows : List (List Int)} (h : rows.length ≤ 4) : P_dealt 5 [.lst (rows.map intsD), .lst []] = .ok (pairD (dealtF rows [])) :=
  sp_dealt 5 rows [] (by omega) (by omega) (by show 0 + rows.length ≤ 1000; omega)
theorem sp_shelf_best {rows : List (List Int)} {goods : Nat} (h : Shelf rows goods) (c : Addr) : P_shelf_best c [.lst (rows.map intsD)] = .ok (pairD (dealtF rows [])) := by
  unfold P_shelf_best p_shelf_best m_shelf_best
  simp only [runM, sSeq, sSet, sSet2, sPar, sIf, sRet, sNil, sExp, sFrz, sKill, sPut, sRaise, mV, mC, m1, m2, mA, mCons, mNil, mCall, mLst, mTup, mT, mAnd, mOr, mNot, mB, mIf, mAndV, mOrV, mSl, mS, mN, mCh, mItems, mRng1, mRng2, mEnum, mZip, mRevI, mYes, Sta.set_no, Sta.set_mu, Sta.set_at, Sta.frz_mu, Sta.frz_no, Nat.reduceBEq, Sta.kill, killG, Rs.bind_ok, Rs.bind_ex, Rs.bind_no, Rs.of_some, Rs.of_none, Rs.nx_ok, startG, List.length_cons, List.length_nil, List.replicate_succ, List.replicate_zero, List.cons_append, List.nil_append, List.map_cons, List.map_nil, List.getElem?_cons_succ, List.getElem?_cons_zero, List.set_cons_succ, List.set_cons_zero, dAdd_i, dSub_i, dIx_l, dIx_t, dIx_s, dSl_l, dRev_l, dLt_i, dLe_i, dGt_i, dGe_i, dNeg_i, dNot, dLen_l, dLen_t2, dLen_s, dMax2_i, dMin2_i, dInt_i, dInt_b, dList_l, dList_t, dIsN, dNotN, dEq_i, dNe_i, dEq_b, dNe_b, dSum_l, dAll_l, dSorted_l, dIn_l, dNi_l, Bool.not_true, Bool.not_false,  Bool.false_eq_true, reduceIte, reduceCtorEq, h.check c, sp_dealt5 h.p4]
/-! ### what a good is worth; pays -/
theorem atI_row {row : List Int} {g : Int} (h0 : 0 ≤ g) (h1 : g < row.length) : atI (row.map D.int) g = some (.int (row.getD g.toNat 0)) := by
  refine atI_int h0 ?_
  have h4 : g.toNat < row.length := by omega
  rw [List.getElem?_map, List.getElem?_eq_getElem h4, List.getD_eq_getElem?_getD, List.getElem?_eq_getElem h4]
  rfl
theorem sp_worth_to (row : List Int) (g : Int) (h0 : -1 ≤ g) (h1 : g < row.length) : P_worth_to [.lst (row.map D.int), .int g] = .ok (.int (worthAt row g)) := by
  unfold P_worth_to p_worth_to m_worth_to
  unfold worthAt
  by_cases h : g = -1
  · simp only [runM, sSeq, sSet, sSet2, sPar, sIf, sRet, sNil, sExp, sFrz, sKill, sPut, sRaise, mV, mC, m1, m2, mA, mCons, mNil, mCall, mLst, mTup, mT, mAnd, mOr, mNot, mB, mIf, mAndV, mOrV, mSl, mS, mN, mCh, mItems, mRng1, mRng2, mEnum, mZip, mRevI, mYes, Sta.set_no, Sta.set_mu, Sta.set_at, Sta.frz_mu, Sta.frz_no, Nat.reduceBEq, Sta.kill, killG, Rs.bind_ok, Rs.bind_ex, Rs.bind_no, Rs.of_some, Rs.of_none, Rs.nx_ok, startG, List.length_cons, List.length_nil, List.replicate_succ, List.replicate_zero, List.cons_append, List.nil_append, List.map_cons, List.map_nil, List.getElem?_cons_succ, List.getElem?_cons_zero, List.set_cons_succ, List.set_cons_zero, dAdd_i, dSub_i, dIx_l, dIx_t, dIx_s, dSl_l, dRev_l, dLt_i, dLe_i, dGt_i, dGe_i, dNeg_i, dNot, dLen_l, dLen_t2, dLen_s, dMax2_i, dMin2_i, dInt_i, dInt_b, dList_l, dList_t, dIsN, dNotN, dEq_i, dNe_i, dEq_b, dNe_b, dSum_l, dAll_l, dSorted_l, dIn_l, dNi_l, Bool.not_true, Bool.not_false,  Bool.false_eq_true, reduceIte, reduceCtorEq, h, decide_true]
    rfl
  · have h2 : g > -1 := by omega
    simp only [runM, sSeq, sSet, sSet2, sPar, sIf, sRet, sNil, sExp, sFrz, sKill, sPut, sRaise, mV, mC, m1, m2, mA, mCons, mNil, mCall, mLst, mTup, mT, mAnd, mOr, mNot, mB, mIf, mAndV, mOrV, mSl, mS, mN, mCh, mItems, mRng1, mRng2, mEnum, mZip, mRevI, mYes, Sta.set_no, Sta.set_mu, Sta.set_at, Sta.frz_mu, Sta.frz_no, Nat.reduceBEq, Sta.kill, killG, Rs.bind_ok, Rs.bind_ex, Rs.bind_no, Rs.of_some, Rs.of_none, Rs.nx_ok, startG, List.length_cons, List.length_nil, List.replicate_succ, List.replicate_zero, List.cons_append, List.nil_append, List.map_cons, List.map_nil, List.getElem?_cons_succ, List.getElem?_cons_zero, List.set_cons_succ, List.set_cons_zero, dAdd_i, dSub_i, dIx_l, dIx_t, dIx_s, dSl_l, dRev_l, dLt_i, dLe_i, dGt_i, dGe_i, dNeg_i, dNot, dLen_l, dLen_t2, dLen_s, dMax2_i, dMin2_i, dInt_i, dInt_b, dList_l, dList_t, dIsN, dNotN, dEq_i, dNe_i, dEq_b, dNe_b, dSum_l, dAll_l, dSorted_l, dIn_l, dNi_l, Bool.not_true, Bool.not_false,  Bool.false_eq_true, reduceIte, reduceCtorEq, h, decide_false, atI_row (show 0 ≤ g by omega) h1, if_pos h2]
theorem dealtF_in {rows : List (List Int)} {goods : Nat} (h : ∀ r ∈ rows, r.length = goods) : ∀ g ∈ (dealtF rows []).2, -1 ≤ g ∧ g < goods := by
  obtain ⟨d, h1, h2⟩ := dealtF_fmx rows [] h
  rw [h2]
  have h3 := fmx_mem _ h1
  rw [← deals_eq] at h3
  exact (deals_row h3).2
theorem getD_mem {l : List Int} {i : Nat} (h : i < l.length) : l.getD i 0 ∈ l := by
  rw [List.getD_eq_getElem?_getD, List.getElem?_eq_getElem h]
  exact List.getElem_mem h
def payF (rows : List (List Int)) (p : Nat) : Int :=
  (dealtF (rows.take p ++ rows.drop (p + 1)) []).1 - ((dealtF rows []).1 - worthAt (rows.getD p []) ((dealtF rows []).2.getD p 0))
theorem atI_rows {rows : List (List Int)} {p : Nat} (h : p < rows.length) : atI (rows.map intsD) (p : Int) = some (.lst ((rows.getD p []).map D.int)) := by
  refine atI_nat ?_
  rw [List.getElem?_map, List.getElem?_eq_getElem h, List.getD_eq_getElem?_getD, List.getElem?_eq_getElem h]
  rfl
theorem rows_mem {rows : List (List Int)} {p : Nat} (h : p < rows.length) : rows.getD p [] ∈ rows := by
  rw [List.getD_eq_getElem?_getD, List.getElem?_eq_getElem h]
  exact List.getElem_mem h
theorem cut_to_rows (rows : List (List Int)) (p : Nat) : cutD (rows.map intsD) none (some (p : Int)) = (rows.take p).map intsD := by rw [cut_to, List.map_take]
theorem cut_from_rows (rows : List (List Int)) (p : Nat) : cutD (rows.map intsD) (some (p : Int)) none = (rows.drop p).map intsD := by rw [cut_from, List.map_drop]
theorem pair_at1 (p : Int × List Int) : dIx (pairD p) (.int 1) = some (.lst (p.2.map D.int)) := rfl
theorem pair_at0 (p : Int × List Int) : dIx (pairD p) (.int 0) = some (.int p.1) := rfl
theorem sSet2_pair {i j : Nat} {e : G → Rs D} {s : Sta} {p : Int × List Int} (h : e s.g = .ok (pairD p)) : sSet2 i j e s = .ok (.nx ((s.set i (.int p.1)).set j (.lst (p.2.map D.int)))) := sSet2_eq h
theorem dAdd_rows {a b : List (List Int)} (h : a.length + b.length ≤ LIM) : dAdd (.lst (a.map intsD)) (.lst (b.map intsD)) = some (.lst ((a ++ b).map intsD)) := by
  rw [dAdd_l (by rw [List.length_map, List.length_map]; exact h), List.map_append]
theorem others_len (rows : List (List Int)) (p : Nat) (h : p < rows.length) : (rows.take p ++ rows.drop (p + 1)).length + 1 = rows.length := by
  rw [List.length_append, List.length_take, List.length_drop]
  omega
theorem sp_pay_of {rows : List (List Int)} {goods : Nat} (h : Shelf rows goods) {p : Nat} (hp : p < rows.length) : P_pay_of [.lst (rows.map intsD), .int p] = .ok (.int (payF rows p)) := by
  have hd := dealtF_len rows []
  have hg := dealtF_in h.len _ (getD_mem (l := (dealtF rows []).2) (i := p) (by omega))
  have h4 := h.p4
  have hr := h.len _ (rows_mem hp)
  have e1 : atI ((dealtF rows []).2.map D.int) (p : Int) = some (.int ((dealtF rows []).2.getD p 0)) := by
    have := atI_row (row := (dealtF rows []).2) (g := (p : Int)) (by omega) (by omega)
    rw [Int.toNat_natCast] at this
    exact this
  have e2 : (p : Int) + 1 = ((p + 1 : Nat) : Int) := by omega
  have hol := others_len rows p hp
  have e3 : (rows.take p).length + (rows.drop (p + 1)).length ≤ LIM := by
    rw [← List.length_append]
    exact Nat.le_trans (show _ ≤ 4 by omega) (by decide)
  have e4 : P_dealt 5 [.lst ((rows.take p ++ rows.drop (p + 1)).map intsD), .lst []] = .ok (pairD (dealtF (rows.take p ++ rows.drop (p + 1)) [])) := sp_dealt5 (by omega)
  have e5 : P_worth_to [.lst ((rows.getD p []).map D.int), .int ((dealtF rows []).2.getD p 0)] = .ok (.int (worthAt (rows.getD p []) ((dealtF rows []).2.getD p 0))) := sp_worth_to _ _ hg.1 (by omega)
  unfold P_pay_of p_pay_of m_pay_of payF
  refine runM_rt' (sSeq_eq (sSet2_pair (p := dealtF rows []) ?_) (sSeq_eq (sSet_eq (d := .int (dealtF (rows.take p ++ rows.drop (p + 1)) []).1) ?_) (sSeq_nil (sRet_eq ?_))))
  · simp only [runM, sSeq, sSet, sSet2, sPar, sIf, sRet, sNil, sExp, sFrz, sKill, sPut, sRaise, mV, mC, m1, m2, mA, mCons, mNil, mCall, mLst, mTup, mT, mAnd, mOr, mNot, mB, mIf, mAndV, mOrV, mSl, mS, mN, mCh, mItems, mRng1, mRng2, mEnum, mZip, mRevI, mYes, Sta.set_no, Sta.set_mu, Sta.set_at, Sta.frz_mu, Sta.frz_no, Nat.reduceBEq, Sta.kill, killG, Rs.bind_ok, Rs.bind_ex, Rs.bind_no, Rs.of_some, Rs.of_none, Rs.nx_ok, startG, List.length_cons, List.length_nil, List.replicate_succ, List.replicate_zero, List.cons_append, List.nil_append, List.map_cons, List.map_nil, List.getElem?_cons_succ, List.getElem?_cons_zero, List.set_cons_succ, List.set_cons_zero, dAdd_i, dSub_i, dIx_l, dIx_t, dIx_s, dSl_l, dRev_l, dLt_i, dLe_i, dGt_i, dGe_i, dNeg_i, dNot, dLen_l, dLen_t2, dLen_s, dMax2_i, dMin2_i, dInt_i, dInt_b, dList_l, dList_t, dIsN, dNotN, dEq_i, dNe_i, dEq_b, dNe_b, dSum_l, dAll_l, dSorted_l, dIn_l, dNi_l, Bool.not_true, Bool.not_false,  Bool.false_eq_true, reduceIte, reduceCtorEq, sp_dealt5 h.p4]
  · simp only [runM, sSeq, sSet, sSet2, sPar, sIf, sRet, sNil, sExp, sFrz, sKill, sPut, sRaise, mV, mC, m1, m2, mA, mCons, mNil, mCall, mLst, mTup, mT, mAnd, mOr, mNot, mB, mIf, mAndV, mOrV, mSl, mS, mN, mCh, mItems, mRng1, mRng2, mEnum, mZip, mRevI, mYes, Sta.set_no, Sta.set_mu, Sta.set_at, Sta.frz_mu, Sta.frz_no, Nat.reduceBEq, Sta.kill, killG, Rs.bind_ok, Rs.bind_ex, Rs.bind_no, Rs.of_some, Rs.of_none, Rs.nx_ok, startG, List.length_cons, List.length_nil, List.replicate_succ, List.replicate_zero, List.cons_append, List.nil_append, List.map_cons, List.map_nil, List.getElem?_cons_succ, List.getElem?_cons_zero, List.set_cons_succ, List.set_cons_zero, dAdd_i, dSub_i, dIx_l, dIx_t, dIx_s, dSl_l, dRev_l, dLt_i, dLe_i, dGt_i, dGe_i, dNeg_i, dNot, dLen_l, dLen_t2, dLen_s, dMax2_i, dMin2_i, dInt_i, dInt_b, dList_l, dList_t, dIsN, dNotN, dEq_i, dNe_i, dEq_b, dNe_b, dSum_l, dAll_l, dSorted_l, dIn_l, dNi_l, Bool.not_true, Bool.not_false,  Bool.false_eq_true, reduceIte, reduceCtorEq, e2, cut_to_rows, cut_from_rows, dAdd_rows e3, e4, pair_at0]
  · simp only [runM, sSeq, sSet, sSet2, sPar, sIf, sRet, sNil, sExp, sFrz, sKill, sPut, sRaise, mV, mC, m1, m2, mA, mCons, mNil, mCall, mLst, mTup, mT, mAnd, mOr, mNot, mB, mIf, mAndV, mOrV, mSl, mS, mN, mCh, mItems, mRng1, mRng2, mEnum, mZip, mRevI, mYes, Sta.set_no, Sta.set_mu, Sta.set_at, Sta.frz_mu, Sta.frz_no, Nat.reduceBEq, Sta.kill, killG, Rs.bind_ok, Rs.bind_ex, Rs.bind_no, Rs.of_some, Rs.of_none, Rs.nx_ok, startG, List.length_cons, List.length_nil, List.replicate_succ, List.replicate_zero, List.cons_append, List.nil_append, List.map_cons, List.map_nil, List.getElem?_cons_succ, List.getElem?_cons_zero, List.set_cons_succ, List.set_cons_zero, dAdd_i, dSub_i, dIx_l, dIx_t, dIx_s, dSl_l, dRev_l, dLt_i, dLe_i, dGt_i, dGe_i, dNeg_i, dNot, dLen_l, dLen_t2, dLen_s, dMax2_i, dMin2_i, dInt_i, dInt_b, dList_l, dList_t, dIsN, dNotN, dEq_i, dNe_i, dEq_b, dNe_b, dSum_l, dAll_l, dSorted_l, dIn_l, dNi_l, Bool.not_true, Bool.not_false,  Bool.false_eq_true, reduceIte, reduceCtorEq, e1, atI_rows hp, e5]
def paysF (rows : List (List Int)) : List Int := (List.range rows.length).map (payF rows)
theorem sp_shelf_pays {rows : List (List Int)} {goods : Nat} (h : Shelf rows goods) (c : Addr) : P_shelf_pays c [.lst (rows.map intsD)] = .ok (.lst ((paysF rows).map D.int)) := by
  unfold P_shelf_pays p_shelf_pays m_shelf_pays
  refine runM_rt (sSeq_eq (sExp_eq (d := .non) ?_) (sSeq_nil (sRet_eq ?_)))
  · simp only [runM, sSeq, sSet, sSet2, sPar, sIf, sRet, sNil, sExp, sFrz, sKill, sPut, sRaise, mV, mC, m1, m2, mA, mCons, mNil, mCall, mLst, mTup, mT, mAnd, mOr, mNot, mB, mIf, mAndV, mOrV, mSl, mS, mN, mCh, mItems, mRng1, mRng2, mEnum, mZip, mRevI, mYes, Sta.set_no, Sta.set_mu, Sta.set_at, Sta.frz_mu, Sta.frz_no, Nat.reduceBEq, Sta.kill, killG, Rs.bind_ok, Rs.bind_ex, Rs.bind_no, Rs.of_some, Rs.of_none, Rs.nx_ok, startG, List.length_cons, List.length_nil, List.replicate_succ, List.replicate_zero, List.cons_append, List.nil_append, List.map_cons, List.map_nil, List.getElem?_cons_succ, List.getElem?_cons_zero, List.set_cons_succ, List.set_cons_zero, dAdd_i, dSub_i, dIx_l, dIx_t, dIx_s, dSl_l, dRev_l, dLt_i, dLe_i, dGt_i, dGe_i, dNeg_i, dNot, dLen_l, dLen_t2, dLen_s, dMax2_i, dMin2_i, dInt_i, dInt_b, dList_l, dList_t, dIsN, dNotN, dEq_i, dNe_i, dEq_b, dNe_b, dSum_l, dAll_l, dSorted_l, dIn_l, dNi_l, Bool.not_true, Bool.not_false,  Bool.false_eq_true, reduceIte, reduceCtorEq, h.check c]
  · show (mLc _ _ _ _ _ _).bind _ = _
    rw [mLc_enc (fun (i : Nat) => D.int (i : Int)) (fun p => D.int (payF rows p)) (List.range rows.length) ?_ ?_ ?_]
    · unfold paysF
      rw [List.map_map]
      rfl
    · refine rng1_nat (n := rows.length) (Nat.le_trans h.p4 (by decide)) ?_
      simp only [runM, sSeq, sSet, sSet2, sPar, sIf, sRet, sNil, sExp, sFrz, sKill, sPut, sRaise, mV, mC, m1, m2, mA, mCons, mNil, mCall, mLst, mTup, mT, mAnd, mOr, mNot, mB, mIf, mAndV, mOrV, mSl, mS, mN, mCh, mItems, mRng1, mRng2, mEnum, mZip, mRevI, mYes, Sta.set_no, Sta.set_mu, Sta.set_at, Sta.frz_mu, Sta.frz_no, Nat.reduceBEq, Sta.kill, killG, Rs.bind_ok, Rs.bind_ex, Rs.bind_no, Rs.of_some, Rs.of_none, Rs.nx_ok, startG, List.length_cons, List.length_nil, List.replicate_succ, List.replicate_zero, List.cons_append, List.nil_append, List.map_cons, List.map_nil, List.getElem?_cons_succ, List.getElem?_cons_zero, List.set_cons_succ, List.set_cons_zero, dAdd_i, dSub_i, dIx_l, dIx_t, dIx_s, dSl_l, dRev_l, dLt_i, dLe_i, dGt_i, dGe_i, dNeg_i, dNot, dLen_l, dLen_t2, dLen_s, dMax2_i, dMin2_i, dInt_i, dInt_b, dList_l, dList_t, dIsN, dNotN, dEq_i, dNe_i, dEq_b, dNe_b, dSum_l, dAll_l, dSorted_l, dIn_l, dNi_l, Bool.not_true, Bool.not_false,  Bool.false_eq_true, reduceIte, reduceCtorEq]
      rw [List.length_map]
    · rw [List.length_range]
      exact Nat.le_trans h.p4 (by decide)
    · intro p hp
      have hp' := List.mem_range.mp hp
      refine ⟨[(1, .int p)], rfl, ?_⟩
      show mCall _ _ [some (.lst (rows.map intsD)), some (.int p)] = _
      simp only [runM, sSeq, sSet, sSet2, sPar, sIf, sRet, sNil, sExp, sFrz, sKill, sPut, sRaise, mV, mC, m1, m2, mA, mCons, mNil, mCall, mLst, mTup, mT, mAnd, mOr, mNot, mB, mIf, mAndV, mOrV, mSl, mS, mN, mCh, mItems, mRng1, mRng2, mEnum, mZip, mRevI, mYes, Sta.set_no, Sta.set_mu, Sta.set_at, Sta.frz_mu, Sta.frz_no, Nat.reduceBEq, Sta.kill, killG, Rs.bind_ok, Rs.bind_ex, Rs.bind_no, Rs.of_some, Rs.of_none, Rs.nx_ok, startG, List.length_cons, List.length_nil, List.replicate_succ, List.replicate_zero, List.cons_append, List.nil_append, List.map_cons, List.map_nil, List.getElem?_cons_succ, List.getElem?_cons_zero, List.set_cons_succ, List.set_cons_zero, dAdd_i, dSub_i, dIx_l, dIx_t, dIx_s, dSl_l, dRev_l, dLt_i, dLe_i, dGt_i, dGe_i, dNeg_i, dNot, dLen_l, dLen_t2, dLen_s, dMax2_i, dMin2_i, dInt_i, dInt_b, dList_l, dList_t, dIsN, dNotN, dEq_i, dNe_i, dEq_b, dNe_b, dSum_l, dAll_l, dSorted_l, dIn_l, dNi_l, Bool.not_true, Bool.not_false,  Bool.false_eq_true, reduceIte, reduceCtorEq, sp_pay_of h hp']
def gainF (rows : List (List Int)) (p : Nat) (truth : List Int) : Int := worthAt truth ((dealtF rows []).2.getD p 0) - payF rows p
theorem sp_shelf_gain {rows : List (List Int)} {goods : Nat} (h : Shelf rows goods) {p : Nat} (hp : p < rows.length) {truth : List Int} (ht : truth.length = goods) (c : Addr) : P_shelf_gain c [.lst (rows.map intsD), .int p, .lst (truth.map D.int)] = .ok (.int (gainF rows p truth)) := by
  have hd := dealtF_len rows []
  have hg := dealtF_in h.len _ (getD_mem (l := (dealtF rows []).2) (i := p) (by omega))
  have e1 : atI ((dealtF rows []).2.map D.int) (p : Int) = some (.int ((dealtF rows []).2.getD p 0)) := by
    have := atI_row (row := (dealtF rows []).2) (g := (p : Int)) (by omega) (by omega)
    rw [Int.toNat_natCast] at this
    exact this
  have e5 : P_worth_to [.lst (truth.map D.int), .int ((dealtF rows []).2.getD p 0)] = .ok (.int (worthAt truth ((dealtF rows []).2.getD p 0))) := sp_worth_to _ _ hg.1 (by omega)
  unfold P_shelf_gain p_shelf_gain m_shelf_gain gainF
  refine runM_rt (sSeq_eq (sExp_eq (d := .non) ?_) (sSeq_eq (sSet_eq (d := .lst ((dealtF rows []).2.map D.int)) ?_) (sSeq_nil (sRet_eq ?_))))
  · simp only [runM, sSeq, sSet, sSet2, sPar, sIf, sRet, sNil, sExp, sFrz, sKill, sPut, sRaise, mV, mC, m1, m2, mA, mCons, mNil, mCall, mLst, mTup, mT, mAnd, mOr, mNot, mB, mIf, mAndV, mOrV, mSl, mS, mN, mCh, mItems, mRng1, mRng2, mEnum, mZip, mRevI, mYes, Sta.set_no, Sta.set_mu, Sta.set_at, Sta.frz_mu, Sta.frz_no, Nat.reduceBEq, Sta.kill, killG, Rs.bind_ok, Rs.bind_ex, Rs.bind_no, Rs.of_some, Rs.of_none, Rs.nx_ok, startG, List.length_cons, List.length_nil, List.replicate_succ, List.replicate_zero, List.cons_append, List.nil_append, List.map_cons, List.map_nil, List.getElem?_cons_succ, List.getElem?_cons_zero, List.set_cons_succ, List.set_cons_zero, dAdd_i, dSub_i, dIx_l, dIx_t, dIx_s, dSl_l, dRev_l, dLt_i, dLe_i, dGt_i, dGe_i, dNeg_i, dNot, dLen_l, dLen_t2, dLen_s, dMax2_i, dMin2_i, dInt_i, dInt_b, dList_l, dList_t, dIsN, dNotN, dEq_i, dNe_i, dEq_b, dNe_b, dSum_l, dAll_l, dSorted_l, dIn_l, dNi_l, Bool.not_true, Bool.not_false,  Bool.false_eq_true, reduceIte, reduceCtorEq, h.check c]
  · simp only [runM, sSeq, sSet, sSet2, sPar, sIf, sRet, sNil, sExp, sFrz, sKill, sPut, sRaise, mV, mC, m1, m2, mA, mCons, mNil, mCall, mLst, mTup, mT, mAnd, mOr, mNot, mB, mIf, mAndV, mOrV, mSl, mS, mN, mCh, mItems, mRng1, mRng2, mEnum, mZip, mRevI, mYes, Sta.set_no, Sta.set_mu, Sta.set_at, Sta.frz_mu, Sta.frz_no, Nat.reduceBEq, Sta.kill, killG, Rs.bind_ok, Rs.bind_ex, Rs.bind_no, Rs.of_some, Rs.of_none, Rs.nx_ok, startG, List.length_cons, List.length_nil, List.replicate_succ, List.replicate_zero, List.cons_append, List.nil_append, List.map_cons, List.map_nil, List.getElem?_cons_succ, List.getElem?_cons_zero, List.set_cons_succ, List.set_cons_zero, dAdd_i, dSub_i, dIx_l, dIx_t, dIx_s, dSl_l, dRev_l, dLt_i, dLe_i, dGt_i, dGe_i, dNeg_i, dNot, dLen_l, dLen_t2, dLen_s, dMax2_i, dMin2_i, dInt_i, dInt_b, dList_l, dList_t, dIsN, dNotN, dEq_i, dNe_i, dEq_b, dNe_b, dSum_l, dAll_l, dSorted_l, dIn_l, dNi_l, Bool.not_true, Bool.not_false,  Bool.false_eq_true, reduceIte, reduceCtorEq, sp_dealt5 h.p4, pair_at1]
  · simp only [runM, sSeq, sSet, sSet2, sPar, sIf, sRet, sNil, sExp, sFrz, sKill, sPut, sRaise, mV, mC, m1, m2, mA, mCons, mNil, mCall, mLst, mTup, mT, mAnd, mOr, mNot, mB, mIf, mAndV, mOrV, mSl, mS, mN, mCh, mItems, mRng1, mRng2, mEnum, mZip, mRevI, mYes, Sta.set_no, Sta.set_mu, Sta.set_at, Sta.frz_mu, Sta.frz_no, Nat.reduceBEq, Sta.kill, killG, Rs.bind_ok, Rs.bind_ex, Rs.bind_no, Rs.of_some, Rs.of_none, Rs.nx_ok, startG, List.length_cons, List.length_nil, List.replicate_succ, List.replicate_zero, List.cons_append, List.nil_append, List.map_cons, List.map_nil, List.getElem?_cons_succ, List.getElem?_cons_zero, List.set_cons_succ, List.set_cons_zero, dAdd_i, dSub_i, dIx_l, dIx_t, dIx_s, dSl_l, dRev_l, dLt_i, dLe_i, dGt_i, dGe_i, dNeg_i, dNot, dLen_l, dLen_t2, dLen_s, dMax2_i, dMin2_i, dInt_i, dInt_b, dList_l, dList_t, dIsN, dNotN, dEq_i, dNe_i, dEq_b, dNe_b, dSum_l, dAll_l, dSorted_l, dIn_l, dNi_l, Bool.not_true, Bool.not_false,  Bool.false_eq_true, reduceIte, reduceCtorEq, e1, e5, sp_pay_of h hp]
end Z
set_option Elab.async false
set_option linter.all false
set_option maxRecDepth 100000
set_option maxHeartbeats 4000000
/-! S, part V: plain mathematics: nobody gains on the shelf. -/
set_option Elab.async false
set_option linter.all false
set_option maxRecDepth 100000
set_option maxHeartbeats 4000000
/-! S, part 5: law k04. -/
namespace Z
set_option autoImplicit false
open PySem L2
theorem cut_map_to {α : Type} (f : α → D) (xs : List α) (k : Nat) : cutD (xs.map f) none (some (k : Int)) = (xs.take k).map f := by rw [cut_to, List.map_take]
theorem cut_map_from {α : Type} (f : α → D) (xs : List α) (k : Nat) : cutD (xs.map f) (some (k : Int)) none = (xs.drop k).map f := by rw [cut_from, List.map_drop]
/-- xs[:k] + [y] + xs[k + 1:] -/
theorem splice {α : Type} (f : α → D) (xs : List α) (y : α) (k : Nat) (hl : xs.length + 1 ≤ LIM) {g : G} {a b c : G → Rs D} {l h : G → Rs (Option Int)} (ha : a g = .ok (.lst (xs.map f))) (hh : h g = .ok (some (k : Int))) (hb : b g = .ok (f y))
    (hc : c g = .ok (.lst (xs.map f))) (hl2 : l g = .ok (some ((k : Int) + 1))) : m2 dAdd (m2 dAdd (mSl a mN h) (mLst (mCons b mNil))) (mSl c l mN) g = .ok (.lst ((xs.take k ++ y :: xs.drop (k + 1)).map f)) := by
  have e : (k : Int) + 1 = ((k + 1 : Nat) : Int) := by omega
  have h1 : (xs.take k).length ≤ xs.length := by rw [List.length_take]; exact Nat.min_le_right _ _
  have h2 : (xs.take k ++ [y]).length + (xs.drop (k + 1)).length ≤ LIM := by
    rw [List.length_append, List.length_take, List.length_drop]
    show min k xs.length + 1 + (xs.length - (k + 1)) ≤ LIM
    omega
  have e1 : m2 dAdd (mSl a mN h) (mLst (mCons b mNil)) g = .ok (.lst ((xs.take k ++ [y]).map f)) := by
    refine m2_eq (mSl_eq ha mN_eq hh) (mLst_eq (mCons_eq hb mNil_eq)) ?_
    rw [cut_map_to]
    exact dAdd_map (q := [y]) (by show (xs.take k).length + 1 ≤ LIM; omega)
  refine m2_eq e1 (mSl_eq hc hl2 mN_eq) ?_
  rw [e, cut_map_from, dAdd_map h2, List.append_assoc]
  rfl
theorem shelf_by (ns : List Int) : Shelf (worthsBy ns 2 (sizeP ns) (sizeG ns)) (sizeG ns) := by
  have h1 := sizeP_b ns
  have h2 := sizeG_b ns
  exact ⟨by rw [worthsBy_len]; omega, by rw [worthsBy_len]; omega, h2.1, h2.2.1, worthsBy_rows, worthsBy_in⟩
theorem sp_worths (ns : List Int) : P_law_worths_by [.scr ns, .int 2, .int (sizeP ns), .int (sizeG ns)] = .ok (.lst ((worthsBy ns 2 (sizeP ns) (sizeG ns)).map intsD)) := by
  have h1 := sizeP_b ns
  have h2 := sizeG_b ns
  exact sp_worths_by ns 2 (sizeP ns) (sizeG ns) (by omega) (by omega)
end Z
set_option Elab.async false
set_option linter.all false
set_option maxRecDepth 100000
set_option maxHeartbeats 4000000
/-! S, part P: plain mathematics of the pile. -/
set_option Elab.async false
set_option linter.all false
set_option maxRecDepth 100000
set_option maxHeartbeats 4000000
/-! S, part 6: the pile: the program's own defs, the drawn heaps. -/
namespace Z
set_option autoImplicit false
open PySem L2
theorem dAll_of {bs : List Bool} {b : Bool} (h : bs.all id = b) : dAll [.lst (bs.map D.bl)] = some (.bl b) := by rw [dAll_l, h]
theorem map_bl {α : Type} (xs : List α) (f : α → Bool) : (xs.map fun x => D.bl (f x)) = (xs.map f).map D.bl := by rw [List.map_map]; rfl
theorem all_map_id {α : Type} (xs : List α) (f : α → Bool) : (xs.map f).all id = xs.all f := by rw [List.all_map]; rfl
/-- all([f(x) for x in xs]) -/
theorem mAll_enc {α : Type} {vs : List Nat} {mi : G → Rs (List D)} {tg : Tg} {e : G → Rs D} {g : G} (en : α → D) (f : α → Bool) (xs : List α) (h1 : mi g = .ok (xs.map en)) (hl : xs.length ≤ LIM)
    (h : ∀ a ∈ xs, ∃ ps, tg.put' (en a) = .ok ps ∧ e (setsG (killG vs g) ps) = .ok (.bl (f a))) : mA dAll (mCons (mLst (mLc vs mi tg mYes e)) mNil) g = .ok (.bl (xs.all f)) := by
  refine mA_eq (mCons_eq (mLst_eq (mLc_enc en (fun x => D.bl (f x)) xs h1 hl h)) mNil_eq) ?_
  rw [map_bl]
  exact dAll_of (all_map_id xs f)
/-! ### what are worths of pieces -/
def fallOk (row : List Int) : Bool := (List.range (row.length - 1)).all fun i => decide (row.getD (i + 1) 0 ≤ row.getD i 0)
def rowP (row : List Int) : Bool := (decide (row.length ≤ 5) && numOk row) && fallOk row
theorem rgD_1 (n : Nat) : rgD 1 (n : Int) = (List.range (n - 1)).map fun (i : Nat) => D.int (1 + (i : Int)) := by
  unfold rgD
  rw [show ((n : Int) - 1).toNat = n - 1 by omega]
theorem atI_getD {row : List Int} {i : Nat} (h : i < row.length) : atI (row.map D.int) (i : Int) = some (.int (row.getD i 0)) := by
  have := atI_row (row := row) (g := (i : Int)) (by omega) (by omega)
  rw [Int.toNat_natCast] at this
  exact this
theorem sp_row_right (row : List Int) (hl : row.length ≤ 1000000) : P_row_right [intsD row] = .ok (.bl (rowP row)) := by
  have hl' : row.length ≤ LIM := hl
  have hc : mOr (mT (m2 dGt (mA dLen (mCons (mV 0) mNil)) (mC (.int 5)))) (mNot (mT (mCall (fun ds => (P_numbers_right ds).nx) (mCons (mV 0) mNil)))) (startG 2 [intsD row]) = .ok (!(decide (row.length ≤ 5) && numOk row)) := by
    refine tst (mOr_eq (mT_eq (m2_eq (mA_eq (mCons_eq rfl rfl) (dLen_map _ _)) rfl (dGt_i _ _))) fun _ => mNot_eq (mT_eq (mCalln_eq (mCons_eq rfl rfl) (sp_numbers_right row hl')))) ?_
    have d1 : decide ((5 : Int) < (row.length : Int)) = !decide (row.length ≤ 5) := by
      rw [← decide_not]
      exact decide_eq_decide.mpr (by omega)
    rw [d1]
    cases decide (row.length ≤ 5) <;> cases numOk row <;> rfl
  unfold rowP
  cases q : decide (row.length ≤ 5) && numOk row with
  | false =>
    rw [q] at hc
    exact runM_rt' (sSeq_rt (sIf_t hc (sSeq_rt (sRet_eq rfl))))
  | true =>
    rw [q] at hc
    refine runM_rt' (sSeq_eq (sIf_f hc rfl) (sSeq_rt (sRet_eq ?_)))
    rw [Bool.true_and]
    refine mAll_enc (fun (i : Nat) => D.int (1 + (i : Int))) (fun i => decide (row.getD (i + 1) 0 ≤ row.getD i 0)) (List.range (row.length - 1)) ?_ (by rw [List.length_range]; omega) fun i hi => ⟨_, rfl, ?_⟩
    · exact (rng2_eq (by omega) (mCons_eq rfl (mCons_eq (mA_eq (mCons_eq rfl rfl) (dLen_map _ _)) rfl))).trans (by rw [rgD_1])
    · have hi' := List.mem_range.mp hi
      refine m2_eq (m2_eq rfl (m2_eq rfl rfl (dSub_i _ _)) ?_) (m2_eq rfl rfl ?_) (dGe_i _ _)
      · rw [show (1 : Int) + (i : Int) - 1 = ((i : Nat) : Int) by omega]
        exact atI_getD (by omega)
      · rw [show (1 : Int) + (i : Int) = ((i + 1 : Nat) : Int) by omega]
        exact atI_getD (by omega)
def rowsP (rows : List (List Int)) : Bool := (decide (1 ≤ rows.length) && decide (rows.length ≤ 5)) && rows.all rowP
def pileOk (n : Int) (rows : List (List Int)) : Bool := rowsP rows && (decide (0 ≤ n) && decide (n ≤ 12))
theorem sp_check_pile (c : Addr) (n : Int) (rows : List (List Int)) (hl : ∀ r ∈ rows, r.length ≤ 1000000) (hr : rows.length ≤ LIM) : P_check_pile c [.int n, .lst (rows.map intsD)] = if pileOk n rows then .ok .non else .ex c none := by
  have d1 : (decide ((1 : Int) ≤ (rows.length : Int)) && decide ((rows.length : Int) ≤ (5 : Int))) = (decide (1 ≤ rows.length) && decide (rows.length ≤ 5)) := congr (congrArg and (decide_eq_decide.mpr (by omega))) (decide_eq_decide.mpr (by omega))
  have hc : mOr (mNot (mT (mCh dLe dLe (mC (.int 1)) (mA dLen (mCons (mV 1) mNil)) (mC (.int 5))))) (mNot (mT (mA dAll (mCons (mLst (mLc [2] (mItems (mV 1)) (.one 2) mYes (mCall (fun ds => (P_row_right ds).nx) (mCons (mV 2) mNil)))) mNil)))) (startG 3 [.int n, .lst (rows.map intsD)]) = .ok (!rowsP rows) := by
    refine tst (mOr_eq (mNot_eq (mT_eq (chain_le rfl (mA_eq (mCons_eq rfl rfl) (dLen_map _ _)) rfl))) fun _ => mNot_eq (mT_eq (mAll_enc intsD rowP rows rfl hr fun r hrr => ⟨_, rfl, mCalln_eq (mCons_eq rfl rfl) (sp_row_right r (hl r hrr))⟩))) ?_
    unfold rowsP
    rw [d1]
    cases (decide (1 ≤ rows.length) && decide (rows.length ≤ 5)) <;> cases rows.all rowP <;> rfl
  have hc2 : mNot (mT (mCh dLe dLe (mC (.int 0)) (mV 0) (mC (.int 12)))) (startG 3 [.int n, .lst (rows.map intsD)]) = .ok (!(decide (0 ≤ n) && decide (n ≤ 12))) := mNot_eq (mT_eq (chain_le rfl rfl rfl))
  unfold pileOk
  cases q : rowsP rows with
  | false =>
    rw [q] at hc
    rw [Bool.false_and, if_neg Bool.false_ne_true]
    exact runM_ex (sSeq_ex (sIf_t hc rfl))
  | true =>
    rw [q] at hc
    rw [Bool.true_and]
    cases q2 : decide (0 ≤ n) && decide (n ≤ 12) with
    | false =>
      rw [q2] at hc2
      rw [if_neg Bool.false_ne_true]
      exact runM_ex (sSeq_eq (sIf_f hc rfl) (sSeq_ex (sIf_t hc2 rfl)))
    | true =>
      rw [q2] at hc2
      rw [if_pos rfl]
      exact runM_nx (sSeq_eq (sIf_f hc rfl) (sSeq_nil (sIf_f hc2 rfl)))
structure Pile (rows : List (List Int)) : Prop where
  p1 : 1 ≤ rows.length
  p5 : rows.length ≤ 5
  len : ∀ r ∈ rows, r.length ≤ 5
  num : ∀ r ∈ rows, ∀ x ∈ r, 0 ≤ x ∧ x ≤ 1000
  fall : ∀ r ∈ rows, fallOk r = true
theorem Pile.ok {rows : List (List Int)} (h : Pile rows) : rowsP rows = true := by
  unfold rowsP
  have h1 := h.p1
  have h2 := h.p5
  simp only [h1, h2, decide_true, Bool.true_and]
  rw [List.all_eq_true]
  intro r hr
  unfold rowP
  have h3 := h.len r hr
  rw [numOk_of (h.num r hr), h.fall r hr]
  simp [h3]
theorem Pile.check {rows : List (List Int)} (h : Pile rows) {n : Nat} (hn : n ≤ 12) (c : Addr) : P_check_pile c [.int n, .lst (rows.map intsD)] = .ok .non := by
  rw [sp_check_pile c n rows (fun r hr => Nat.le_trans (h.len r hr) (by decide)) (Nat.le_trans h.p5 (by decide))]
  unfold pileOk
  rw [h.ok, if_pos]
  rw [Bool.true_and]
  have h1 : (0 : Int) ≤ n := by omega
  have h2 : (n : Int) ≤ 12 := by omega
  simp [h1, h2]
/-! ### the greatest worth -/
end Z
set_option Elab.async false
set_option linter.all false
set_option maxRecDepth 100000
set_option maxHeartbeats 4000000
/-! S, part 7: the pile: drawn heaps, pays, gains; law k08. -/
set_option Elab.async false
set_option linter.all false
set_option maxRecDepth 100000
set_option maxHeartbeats 4000000
/-! S, part 8: laws k01, k02. -/
namespace Z
set_option autoImplicit false
open PySem L2
theorem ne_rows (rows : List (List Int)) : dNe (.lst (rows.map intsD)) (.lst (rows.map intsD)) = some (.bl false) := dNe_of (deq_same (n := 2) (shp_rows 0 rows) (by decide))
/-! ### k02 -/
end Z
set_option Elab.async false
set_option linter.all false
set_option maxRecDepth 100000
set_option maxHeartbeats 4000000
/-! S, part 9: laws k05, k06. -/
set_option Elab.async false
set_option linter.all false
set_option maxRecDepth 100000
set_option maxHeartbeats 4000000
/-! S, part 10: law k03: what is refused on the shelf. -/
namespace Z
set_option autoImplicit false
open PySem L2
theorem sTry_ok {n : Nat} {m : Sta → Rs Ou} {hnd : Addr → Option Int → Rs D} {g : G} {o : Ou} (hn : g.length = n) (h : m ⟨g, none⟩ = .ok o) : sTry n m hnd ⟨g, none⟩ = .ok o := by
  unfold sTry
  dsimp only
  rw [if_pos hn, h]
theorem sTry_ex {n : Nat} {m : Sta → Rs Ou} {hnd : Addr → Option Int → Rs D} {g : G} {c : Addr} {r : Option Int} {d : D} (hn : g.length = n) (h : m ⟨g, none⟩ = .ex c r) (h2 : hnd c r = .ok d) : sTry n m hnd ⟨g, none⟩ = .ok (.rt d) := by
  unfold sTry
  dsimp only
  rw [if_pos hn, h]
  show (hnd c r).nx.bind _ = _
  rw [h2]
  rfl
theorem hIs_one (c : Addr) (b : Bool) (r : Option Int) : hIs [(c, b)] c r = .ok (.bl b) := by
  unfold hIs
  rw [List.lookup_cons_self]
/-- rows that are no worths, none of them long -/
structure BadS (rows : List (List Int)) : Prop where
  bad : shelfOk rows = false
  few : rows.length ≤ 10
  len : ∀ r ∈ rows, r.length ≤ 10
theorem BadS.lim {rows : List (List Int)} (h : BadS rows) : ∀ r ∈ rows, r.length ≤ LIM := fun r hr => Nat.le_trans (h.len r hr) (by decide)
theorem BadS.check {rows : List (List Int)} (h : BadS rows) (c : Addr) : P_check_shelf c [.lst (rows.map intsD)] = .ex c none := by
  rw [sp_check_shelf c rows h.lim, h.bad]
  rfl
theorem rep_flat {α : Type} (x : α) : ∀ n : Nat, (List.replicate n [x]).flatten = List.replicate n x
  | 0 => rfl
  | n + 1 => by rw [List.replicate_succ, List.flatten_cons, rep_flat x n]; rfl
theorem rep_map {α β : Type} (f : α → β) (x : α) (n : Nat) : (List.replicate n x).map f = List.replicate n (f x) := by simp
theorem mul_rep {g : G} {a b : G → Rs D} {x : D} {n : Nat} (hn : n ≤ 10) (hx : b g = .ok (.lst [x])) (h : a g = .ok (.int n)) : m2 dMul b a g = .ok (.lst (List.replicate n x)) := by
  refine m2_eq hx h ?_
  rw [dMul_l ⟨by omega, by omega, by show 1 * ((n : Int)).toNat ≤ LIM; rw [Int.toNat_natCast]; exact Nat.le_trans (show 1 * n ≤ 10 by omega) (by decide)⟩, Int.toNat_natCast, rep_flat]
theorem zeros_mul {g : G} {a : G → Rs D} {n : Nat} (hn : n ≤ 10) (h : a g = .ok (.int n)) : m2 dMul (mLst (mCons (mC (.int 0)) mNil)) a g = .ok (.lst ((List.replicate n (0 : Int)).map D.int)) := by
  rw [mul_rep hn (mLst_eq (mCons_eq rfl mNil_eq)) h, rep_map]
theorem row0_at {r : List Int} {rs : List (List Int)} : atI ((r :: rs).map intsD) 0 = some (intsD r) := atI_0 _ _
theorem len_arg (rows : List (List Int)) (g : G) (hg : g[0]? = some (some (.lst (rows.map intsD)))) (h10 : ∀ r ∈ rows, r.length ≤ 10) : ∃ n, n ≤ 10 ∧ (∀ r rs, rows = r :: rs → n = r.length) ∧
    mIf (mT (m2 dGt (mA dLen (mCons (mV 0) mNil)) (mC (.int 0)))) (mA dLen (mCons (m2 dIx (mV 0) (mC (.int 0))) mNil)) (mC (.int 1)) g = .ok (.int (n : Nat)) := by
  have h0 : mV 0 g = .ok (.lst (rows.map intsD)) := by unfold mV; rw [hg]
  cases rows with
  | nil => exact ⟨1, by decide, (fun r rs z => nomatch z), mIf_f (mT_eq (m2_eq (mA_eq (mCons_eq h0 mNil_eq) (dLen_map _ _)) rfl (dGt_f (by show ¬ (0 : Int) < ((0 : Nat) : Int); omega)))) rfl⟩
  | cons r rs =>
    refine ⟨r.length, h10 r List.mem_cons_self, fun r' rs' z => by cases z; rfl, mIf_t (mT_eq (m2_eq (mA_eq (mCons_eq h0 mNil_eq) (dLen_map _ _)) rfl (dGt_t (by show (0 : Int) < (((r :: rs).length : Nat) : Int); rw [List.length_cons]; omega)))) (mA_eq (mCons_eq (m2_eq h0 rfl row0_at) mNil_eq) (dLen_map _ _))⟩
theorem sp_met_k03_ok {rows : List (List Int)} {goods : Nat} (h : Shelf rows goods) (c : Addr) (k : Nat) : P_law_met_k03 c [.lst (rows.map intsD), .int k] = .ok (.bl false) := by
  refine runM_rt' (sSeq_eq (s' := ⟨[some (.lst (rows.map intsD)), some (.int k), none], none⟩) (sTry_ok rfl ?_) (sSeq_rt (sRet_eq rfl)))
  by_cases h0 : (k : Int) = 0
  · exact sSeq_nil (sIf_t (mT_eq (m2_eq rfl rfl (dEq_t h0))) (sSeq_nil (sExp_eq (mCall_eq (mCons_eq rfl rfl) (sp_shelf_best h c)))))
  · by_cases h1 : (k : Int) = 1
    · exact sSeq_nil (sIf_f (mT_eq (m2_eq rfl rfl (dEq_f h0))) (sSeq_nil (sIf_t (mT_eq (m2_eq rfl rfl (dEq_t h1))) (sSeq_nil (sExp_eq (mCall_eq (mCons_eq rfl rfl) (sp_shelf_pays h c)))))))
    · obtain ⟨n, hn, hr, hm⟩ := len_arg rows [some (.lst (rows.map intsD)), some (.int k), none] rfl fun r hr => by have := h.len r hr; have := h.g4; omega
      have hp : 0 < rows.length := h.p1
      have hng : n = goods := by
        cases rows with
        | nil => cases hp
        | cons r rs => rw [hr r rs rfl]; exact h.len r List.mem_cons_self
      exact sSeq_nil (sIf_f (mT_eq (m2_eq rfl rfl (dEq_f h0))) (sSeq_nil (sIf_f (mT_eq (m2_eq rfl rfl (dEq_f h1))) (sSeq_nil (sExp_eq (mCall_eq (mCons_eq rfl (mCons_eq rfl (mCons_eq (zeros_mul hn hm) rfl))) (sp_shelf_gain h (p := 0) hp (by rw [List.length_replicate]; exact hng) c)))))))
theorem sp_met_k03_bad {rows : List (List Int)} (h : BadS rows) (c : Addr) (k : Nat) : P_law_met_k03 c [.lst (rows.map intsD), .int k] = .ok (.bl true) := by
  refine runM_rt' (sSeq_rt (sTry_ex (c := c) (r := none) rfl ?_ (hIs_one c true none)))
  by_cases h0 : (k : Int) = 0
  · exact sSeq_ex (sIf_t (mT_eq (m2_eq rfl rfl (dEq_t h0))) (sSeq_ex (sExp_ex (mCall_ex (mCons_eq rfl rfl) (runM_ex (sSeq_ex (sExp_ex (mCall_ex (mCons_eq rfl rfl) (h.check c)))))))))
  · by_cases h1 : (k : Int) = 1
    · exact sSeq_ex (sIf_f (mT_eq (m2_eq rfl rfl (dEq_f h0))) (sSeq_ex (sIf_t (mT_eq (m2_eq rfl rfl (dEq_t h1))) (sSeq_ex (sExp_ex (mCall_ex (mCons_eq rfl rfl) (runM_ex (sSeq_ex (sExp_ex (mCall_ex (mCons_eq rfl rfl) (h.check c)))))))))))
    · obtain ⟨n, hn, hr, hm⟩ := len_arg rows [some (.lst (rows.map intsD)), some (.int k), none] rfl h.len
      exact sSeq_ex (sIf_f (mT_eq (m2_eq rfl rfl (dEq_f h0))) (sSeq_ex (sIf_f (mT_eq (m2_eq rfl rfl (dEq_f h1))) (sSeq_ex (sExp_ex (mCall_ex (mCons_eq rfl (mCons_eq rfl (mCons_eq (zeros_mul hn hm) rfl))) (runM_ex (sSeq_ex (sExp_ex (mCall_ex (mCons_eq rfl rfl) (h.check c)))))))))))
/-! ### what is spoilt -/
theorem bad_row {rows : List (List Int)} {r : List Int} (hr : r ∈ rows) (h : rowOk (rows.headD []).length r = false) : shelfOk rows = false := by
  unfold shelfOk
  have e : rows.all (rowOk (rows.headD []).length) = false := by
    rw [List.all_eq_false]
    exact ⟨r, hr, by rw [h]; exact Bool.false_ne_true⟩
  rw [e, Bool.and_false]
theorem bad_count {rows : List (List Int)} (h : rows.length = 0 ∨ 5 ≤ rows.length) : shelfOk rows = false := by
  unfold shelfOk
  have e : (decide (1 ≤ rows.length) && decide (rows.length ≤ 4)) = false := by
    rcases h with h | h
    · rw [decide_eq_false (show ¬ 1 ≤ rows.length by omega), Bool.false_and]
    · rw [decide_eq_false (show ¬ rows.length ≤ 4 by omega), Bool.and_false]
  rw [e, Bool.false_and]
theorem rowOk_len {n : Nat} {r : List Int} (h : r.length ≠ n ∨ r.length = 0 ∨ 5 ≤ r.length) : rowOk n r = false := by
  unfold rowOk
  rcases h with h | h | h
  · rw [decide_eq_false h, Bool.false_and, Bool.and_false]
  · rw [decide_eq_false (show ¬ 1 ≤ r.length by omega), Bool.false_and, Bool.false_and]
  · rw [decide_eq_false (show ¬ r.length ≤ 4 by omega), Bool.and_false, Bool.false_and]
theorem rowOk_num {n : Nat} {r : List Int} (h : numOk r = false) : rowOk n r = false := by
  unfold rowOk
  rw [h, Bool.and_false, Bool.and_false]
theorem bad_two {rows : List (List Int)} {r s : List Int} (hr : r ∈ rows) (hs : s ∈ rows) (h : r.length ≠ s.length) : shelfOk rows = false := by
  by_cases e : r.length = (rows.headD []).length
  · exact bad_row hs (rowOk_len (.inl fun z => h (e.trans z.symm)))
  · exact bad_row hr (rowOk_len (.inl e))
theorem numOk_bad {r : List Int} {x : Int} (h : x ∈ r) (hx : x < 0 ∨ 1000 < x) : numOk r = false := by
  unfold numOk
  rw [List.all_eq_false]
  refine ⟨x, h, ?_⟩
  rcases hx with q | q
  · rw [decide_eq_false (show ¬ 0 ≤ x by omega), Bool.false_and]
    exact Bool.false_ne_true
  · rw [decide_eq_false (show ¬ x ≤ 1000 by omega), Bool.and_false]
    exact Bool.false_ne_true
theorem sPutP_eq {i : Nat} {k e : G → Rs D} {g : G} {ds : List D} {d : Int} {n : Nat} (hi : i < g.length) (h1 : e (g.set i (some (.lst ds))) = .ok (.int d)) (h2 : k (g.set i (some (.lst ds))) = .ok (.int n)) (hn : n < ds.length) : sPutP i k e ⟨g, some (i, ds)⟩ = .ok (.nx ⟨g, some (i, ds.set n (.int d))⟩) := by
  unfold sPutP
  dsimp only
  rw [if_pos ⟨rfl, hi⟩, h1]
  show (k _).nx.bind _ = _
  rw [h2]
  show (match ixN ds.length (n : Int) with | some n => _ | none => _) = _
  have e : ixN ds.length (n : Int) = some n := by
    unfold ixN
    rw [if_pos (by omega), if_pos (by omega), Int.toNat_natCast]
  rw [e]
/-- what the spoiling tells -/
theorem sp_hurt_k03 {rows : List (List Int)} {goods : Nat} (h : Shelf rows goods) (cell : Int) : ∃ rows', P_law_hurt_k03 [.lst (rows.map intsD), .int cell] = .ok (.lst (rows'.map intsD)) ∧ BadS rows' := by
  have hp1 := h.p1
  have hp4 := h.p4
  have hg4 := h.g4
  have hg1 := h.g1
  have hlen : (0 : Int) < rows.length := by omega
  have a0 := Int.emod_nonneg (cell / 6) (show (rows.length : Int) ≠ 0 by omega)
  have a1 := Int.emod_lt_of_pos (cell / 6) hlen
  obtain ⟨at_, ea⟩ : ∃ k : Nat, cell / 6 % (rows.length : Int) = (k : Int) := ⟨_, (Int.toNat_of_nonneg a0).symm⟩
  have hat : at_ < rows.length := by omega
  obtain ⟨r0, rs, hrs⟩ : ∃ r0 rs, rows = r0 :: rs := by
    cases rows with
    | nil => cases hp1
    | cons a b => exact ⟨a, b, rfl⟩
  have hr0 : r0.length = goods := h.len r0 (by rw [hrs]; exact List.mem_cons_self)
  have hx0 : atI (rows.map intsD) 0 = some (intsD r0) := by rw [hrs]; exact row0_at
  have c6 : (0 : Int) < 6 ∧ (6 : Int) < 1073741824 := by decide
  have c60 : (0 : Int) < 60 ∧ (60 : Int) < 1073741824 := by decide
  have S2 : ∀ (m : Sta → Rs Ou) (r : Rs Ou), m ⟨[some (.lst (rows.map intsD)), some (.int cell), some (.int (cell % 6)), some (.int at_), none, none], none⟩ = r →
      sSeq (sSet 2 (m2 dMod (mV 1) (mC (.int 6)))) (sSeq (sSet 3 (m2 dMod (m2 dDiv (mV 1) (mC (.int 6))) (mA dLen (mCons (mV 0) mNil)))) m) ⟨startG 6 [.lst (rows.map intsD), .int cell], none⟩ = r := fun m r hh =>
    sSeq_eq (sSet_eq (m2_eq rfl rfl (dMod_i (by decide)))) (sSeq_eq (sSet_eq (m2_eq (m2_eq rfl rfl (dDiv_i c6)) (mA_eq (mCons_eq rfl rfl) (dLen_map _ _)) ((dMod_i hlen).trans (by rw [ea])))) hh)
  have hbit : ∀ g : G, g[1]? = some (some (.int cell)) → ∃ b : Nat, b < 2 ∧ m2 dMod (m2 dDiv (mV 1) (mC (.int 6))) (mC (.int 2)) g = .ok (.int (b : Nat)) := fun g hg => by
    have b0 := Int.emod_nonneg (cell / 6) (show (2 : Int) ≠ 0 by decide)
    have b1 := Int.emod_lt_of_pos (cell / 6) (show (0 : Int) < 2 by decide)
    refine ⟨(cell / 6 % 2).toNat, by omega, ?_⟩
    rw [Int.toNat_of_nonneg b0]
    exact m2_eq (m2_eq (by unfold mV; rw [hg]) rfl (dDiv_i c6)) rfl (dMod_i (by decide))
  have w0 := Int.emod_nonneg cell (show (6 : Int) ≠ 0 by decide)
  have w1 := Int.emod_lt_of_pos cell (show (0 : Int) < 6 by decide)
  have hlimg : ∀ r ∈ rows, r.length ≤ 10 := fun r hr => by have := h.len r hr; omega
  have hc : cell % 6 = 0 ∨ cell % 6 = 1 ∨ cell % 6 = 2 ∨ cell % 6 = 3 ∨ cell % 6 = 4 ∨ cell % 6 = 5 := by omega
  -- the rows with one more, where there are few
  have hW : ∃ W : List (List Int), 2 ≤ W.length ∧ W.length ≤ 4 ∧ (∀ r ∈ W, r.length = goods) ∧ at_ < W.length ∧ ∀ g : G, g[0]? = some (some (.lst (rows.map intsD))) →
      mIf (mT (m2 dLt (mA dLen (mCons (mV 0) mNil)) (mC (.int 4)))) (m2 dAdd (mV 0) (mLst (mCons (mA dList (mCons (m2 dIx (mV 0) (mC (.int 0))) mNil)) mNil))) (mV 0) g = .ok (.lst (W.map intsD)) := by
    by_cases hl4 : rows.length < 4
    · refine ⟨rows ++ [r0], by rw [List.length_append]; show 2 ≤ rows.length + 1; omega, by rw [List.length_append]; show rows.length + 1 ≤ 4; omega, fun r hr => ?_, by rw [List.length_append]; show at_ < rows.length + 1; omega, fun g hg => ?_⟩
      · rcases List.mem_append.mp hr with z | z
        · exact h.len r z
        · rw [List.mem_singleton] at z
          rw [z, hr0]
      · have h0 : mV 0 g = .ok (.lst (rows.map intsD)) := by unfold mV; rw [hg]
        exact mIf_t (mT_eq (m2_eq (mA_eq (mCons_eq h0 mNil_eq) (dLen_map _ _)) rfl (dLt_t (by omega)))) (m2_eq h0 (mLst_eq (mCons_eq (mA_eq (mCons_eq (m2_eq h0 rfl hx0) mNil_eq) (dList_l _)) mNil_eq)) (dAdd_map (p := rows) (q := [r0]) (Nat.le_trans (show rows.length + 1 ≤ 5 by omega) (by decide))))
    · refine ⟨rows, by omega, by omega, h.len, hat, fun g hg => ?_⟩
      have h0 : mV 0 g = .ok (.lst (rows.map intsD)) := by unfold mV; rw [hg]
      exact mIf_f (mT_eq (m2_eq (mA_eq (mCons_eq h0 mNil_eq) (dLen_map _ _)) rfl (dLt_f (by omega)))) h0
  have spl : ∀ (W : List (List Int)) (y : List Int) (b : G → Rs D) (g : G), W.length ≤ 4 → g[0]? = some (some (.lst (W.map intsD))) → g[3]? = some (some (.int at_)) → b g = .ok (intsD y) →
      m2 dAdd (m2 dAdd (mSl (mV 0) mN (mS (mV 3))) (mLst (mCons b mNil))) (mSl (mV 0) (mS (m2 dAdd (mV 3) (mC (.int 1)))) mN) g = .ok (.lst ((W.take at_ ++ y :: W.drop (at_ + 1)).map intsD)) := fun W y b g hW h0 h3 hb => by
    have m0 : mV 0 g = .ok (.lst (W.map intsD)) := by unfold mV; rw [h0]
    have m3 : mV 3 g = .ok (.int at_) := by unfold mV; rw [h3]
    exact splice intsD W y at_ (Nat.le_trans (show W.length + 1 ≤ 5 by omega) (by decide)) m0 (mS_eq m3) hb m0 (mS_eq (m2_eq m3 rfl (dAdd_i _ _)))
  have len_spl : ∀ (W : List (List Int)) (y : List Int), at_ < W.length → W.length ≤ 4 → (W.take at_ ++ y :: W.drop (at_ + 1)).length ≤ 10 := fun W y h1 h2 => by
    rw [List.length_append, List.length_cons, List.length_take, List.length_drop]
    omega
  have mem_spl : ∀ (W : List (List Int)) (y : List Int) (n : Nat), (∀ r ∈ W, r.length ≤ n) → y.length ≤ n → ∀ r ∈ W.take at_ ++ y :: W.drop (at_ + 1), r.length ≤ n := fun W y n h1 h2 r hr => by
    rcases List.mem_append.mp hr with z | z
    · exact h1 r (List.mem_of_mem_take z)
    · rcases List.mem_cons.mp z with z | z
      · rw [z]; exact h2
      · exact h1 r (List.mem_of_mem_drop z)
  have y_in : ∀ (W : List (List Int)) (y : List Int), y ∈ W.take at_ ++ y :: W.drop (at_ + 1) := fun W y => List.mem_append_right _ List.mem_cons_self
  have other : ∀ (W : List (List Int)) (y : List Int), 2 ≤ W.length → at_ < W.length → (∀ r ∈ W, r.length = goods) → ∃ s ∈ W.take at_ ++ y :: W.drop (at_ + 1), s.length = goods := fun W y h2 ha hg => by
    by_cases e : at_ = 0
    · have h1 : 1 < W.length := by omega
      refine ⟨W[1], List.mem_append_right _ (List.mem_cons_of_mem _ ?_), hg _ (List.getElem_mem _)⟩
      rw [e]
      exact List.mem_drop_iff_getElem.mpr ⟨0, by omega, rfl⟩
    · have h1 : 0 < W.length := by omega
      refine ⟨W[0], List.mem_append_left _ ?_, hg _ (List.getElem_mem _)⟩
      exact List.mem_take_iff_getElem.mpr ⟨0, by omega, rfl⟩
  have n0 : ∀ (m : Int), cell % 6 ≠ m → ∀ g : G, g[2]? = some (some (.int (cell % 6))) → mT (m2 dEq (mV 2) (mC (.int m))) g = .ok false := fun m hm g hg => mT_eq (m2_eq (by unfold mV; rw [hg]) rfl (dEq_f hm))
  have n1 : ∀ (m : Int), cell % 6 = m → ∀ g : G, g[2]? = some (some (.int (cell % 6))) → mT (m2 dEq (mV 2) (mC (.int m))) g = .ok true := fun m hm g hg => mT_eq (m2_eq (by unfold mV; rw [hg]) rfl (dEq_t hm))
  rcases hc with hc | hc | hc | hc | hc
  · -- nobody, or five
    obtain ⟨b, hb2, hb⟩ := hbit [some (.lst (rows.map intsD)), some (.int cell), some (.int (cell % 6)), some (.int at_), none, none] rfl
    have hfive : m2 dAdd (mV 0) (mLst (mLc [5] (mRng1 (mCons (m2 dSub (mC (.int 5)) (mA dLen (mCons (mV 0) mNil))) mNil)) (.one 5) mYes (mA dList (mCons (m2 dIx (mV 0) (mC (.int 0))) mNil)))) [some (.lst (rows.map intsD)), some (.int cell), some (.int (cell % 6)), some (.int at_), none, none] = .ok (.lst ((rows ++ (List.range (5 - rows.length)).map fun _ => r0).map intsD)) := by
      have e5 : (5 : Int) - (rows.length : Int) = ((5 - rows.length : Nat) : Int) := by omega
      refine m2_eq rfl (mLst_eq ((mLc_enc (fun (i : Nat) => D.int (i : Int)) (fun _ => intsD r0) (List.range (5 - rows.length)) (rng1_nat (Nat.le_trans (show 5 - rows.length ≤ 5 by omega) (by decide)) (mCons_eq (m2_eq rfl (mA_eq (mCons_eq rfl rfl) (dLen_map _ _)) ((dSub_i _ _).trans (by rw [e5]))) rfl)) (by rw [List.length_range]; exact Nat.le_trans (show 5 - rows.length ≤ 5 by omega) (by decide)) fun i _ => ⟨_, rfl, mA_eq (mCons_eq (m2_eq rfl rfl hx0) mNil_eq) (dList_l _)⟩).trans (by rw [show ((List.range (5 - rows.length)).map fun _ => intsD r0) = ((List.range (5 - rows.length)).map fun _ => r0).map intsD by rw [List.map_map]; rfl]))) ?_
      exact dAdd_map (by rw [List.length_map, List.length_range]; exact Nat.le_trans (show rows.length + (5 - rows.length) ≤ 10 by omega) (by decide))
    have hb01 : b = 0 ∨ b = 1 := by omega
    rcases hb01 with rfl | rfl
    · exact ⟨[], runM_rt' (S2 _ _ (sSeq_rt (sIf_t (n1 0 hc _ rfl) (sSeq_rt (sRet_eq (m2_eq (mLst_eq (mCons_eq rfl (mCons_eq hfive rfl))) hb rfl)))))), ⟨bad_count (.inl rfl), by decide, fun r hr => by cases hr⟩⟩
    · refine ⟨rows ++ (List.range (5 - rows.length)).map fun _ => r0, runM_rt' (S2 _ _ (sSeq_rt (sIf_t (n1 0 hc _ rfl) (sSeq_rt (sRet_eq (m2_eq (mLst_eq (mCons_eq rfl (mCons_eq hfive rfl))) hb rfl)))))), ⟨bad_count (.inr ?_), ?_, fun r hr => ?_⟩⟩
      · rw [List.length_append, List.length_map, List.length_range]; omega
      · rw [List.length_append, List.length_map, List.length_range]; omega
      · rcases List.mem_append.mp hr with z | z
        · exact hlimg r z
        · obtain ⟨_, _, rfl⟩ := List.mem_map.mp z
          omega
  · -- no goods, or five
    obtain ⟨b, hb2, _⟩ := hbit [some (.lst (rows.map intsD)), some (.int cell), some (.int (cell % 6)), some (.int at_), none, none] rfl
    obtain ⟨y, hy, hyl⟩ : ∃ y : List Int, (y.length = 0 ∨ y.length = 5) ∧ ∀ g : G, g[1]? = some (some (.int cell)) → m2 dIx (mLst (mCons (mLst mNil) (mCons (mLst (mCons (mC (.int 0)) (mCons (mC (.int 0)) (mCons (mC (.int 0)) (mCons (mC (.int 0)) (mCons (mC (.int 0)) mNil)))))) mNil))) (m2 dMod (m2 dDiv (mV 1) (mC (.int 6))) (mC (.int 2))) g = .ok (intsD y) := by
      have b0 := Int.emod_nonneg (cell / 6) (show (2 : Int) ≠ 0 by decide)
      have b1 := Int.emod_lt_of_pos (cell / 6) (show (0 : Int) < 2 by decide)
      have hb : cell / 6 % 2 = 0 ∨ cell / 6 % 2 = 1 := by omega
      rcases hb with hb | hb
      · exact ⟨[], .inl rfl, fun g hg => m2_eq (mLst_eq (mCons_eq rfl (mCons_eq rfl rfl))) (m2_eq (m2_eq (by unfold mV; rw [hg]) rfl (dDiv_i c6)) rfl ((dMod_i (by decide)).trans (by rw [hb]))) rfl⟩
      · exact ⟨[0, 0, 0, 0, 0], .inr rfl, fun g hg => m2_eq (mLst_eq (mCons_eq rfl (mCons_eq rfl rfl))) (m2_eq (m2_eq (by unfold mV; rw [hg]) rfl (dDiv_i c6)) rfl ((dMod_i (by decide)).trans (by rw [hb]))) rfl⟩
    refine ⟨rows.map fun _ => y, runM_rt' (S2 _ _ (sSeq_eq (sIf_f (n0 0 (by omega) _ rfl) rfl) (sSeq_rt (sIf_t (n1 1 hc _ rfl) (sSeq_rt (sRet_eq (mLst_eq ((mLc_enc intsD (fun _ => intsD y) rows rfl (Nat.le_trans hp4 (by decide)) fun r _ => ⟨_, rfl, hyl _ rfl⟩).trans (by rw [List.map_map]; rfl))))))))), ⟨?_, by rw [List.length_map]; omega, fun r hr => ?_⟩⟩
    · refine bad_row (r := y) (List.mem_map.mpr ⟨r0, by rw [hrs]; exact List.mem_cons_self, rfl⟩) (rowOk_len (.inr ?_))
      rcases hy with z | z
      · exact .inl z
      · exact .inr (by omega)
    · obtain ⟨_, _, rfl⟩ := List.mem_map.mp hr
      omega
  · -- one longer
    obtain ⟨W, w2, w4, wg, wa, wm⟩ := hW
    have hlw : (W.getD at_ []).length = goods := wg _ (rows_mem wa)
    obtain ⟨s, hs, hsl⟩ := other W (W.getD at_ [] ++ [1]) w2 wa wg
    refine ⟨W.take at_ ++ (W.getD at_ [] ++ [1]) :: W.drop (at_ + 1), runM_rt' (S2 _ _ (sSeq_eq (sIf_f (n0 0 (by omega) _ rfl) rfl) (sSeq_eq (sIf_f (n0 1 (by omega) _ rfl) rfl) (sSeq_rt (sIf_t (n1 2 hc _ rfl) (sSeq_eq (sSet_eq (wm _ rfl)) (sSeq_rt (sRet_eq (spl W (W.getD at_ [] ++ [1]) _ _ w4 rfl rfl (m2_eq (m2_eq rfl rfl (atI_rows wa)) (mLst_eq (mCons_eq rfl rfl)) ((dAdd_map (f := D.int) (p := W.getD at_ []) (q := [1]) (by rw [hlw]; exact Nat.le_trans (show goods + 1 ≤ 5 by omega) (by decide))).trans rfl))))))))))), ⟨bad_two (y_in W _) hs (by rw [List.length_append, hlw, hsl]; show goods + 1 ≠ goods; omega), len_spl W _ wa w4, mem_spl W _ 10 (fun r hr => by have := wg r hr; omega) (by rw [List.length_append, hlw]; show goods + 1 ≤ 10; omega)⟩⟩
  · -- one shorter
    obtain ⟨W, w2, w4, wg, wa, wm⟩ := hW
    have hlw : (W.getD at_ []).length = goods := wg _ (rows_mem wa)
    obtain ⟨s, hs, hsl⟩ := other W ((W.getD at_ []).drop 1) w2 wa wg
    refine ⟨W.take at_ ++ ((W.getD at_ []).drop 1) :: W.drop (at_ + 1), runM_rt' (S2 _ _ (sSeq_eq (sIf_f (n0 0 (by omega) _ rfl) rfl) (sSeq_eq (sIf_f (n0 1 (by omega) _ rfl) rfl) (sSeq_eq (sIf_f (n0 2 (by omega) _ rfl) rfl) (sSeq_rt (sIf_t (n1 3 hc _ rfl) (sSeq_eq (sSet_eq (wm _ rfl)) (sSeq_rt (sRet_eq (spl W ((W.getD at_ []).drop 1) _ _ w4 rfl rfl ((mSl_eq (m2_eq rfl rfl (atI_rows wa)) (mS_eq rfl) mN_eq).trans (by rw [cut_1, ← List.map_drop]; rfl)))))))))))), ⟨bad_two (y_in W _) hs (by rw [List.length_drop, hlw, hsl]; omega), len_spl W _ wa w4, mem_spl W _ 10 (fun r hr => by have := wg r hr; omega) (by rw [List.length_drop, hlw]; omega)⟩⟩
  · -- a number that is none
    have hlw : (rows.getD at_ []).length = goods := h.len _ (rows_mem hat)
    have k0 := Int.emod_nonneg (cell / 60) (show ((rows.getD at_ []).length : Int) ≠ 0 by omega)
    have k1 := Int.emod_lt_of_pos (cell / 60) (show (0 : Int) < ((rows.getD at_ []).length : Int) by omega)
    obtain ⟨n, en⟩ : ∃ k : Nat, cell / 60 % ((rows.getD at_ []).length : Int) = (k : Int) := ⟨_, (Int.toNat_of_nonneg k0).symm⟩
    obtain ⟨b, hb, hbv⟩ : ∃ b : Int, (b < 0 ∨ 1000 < b) ∧ atI [D.int (-1), D.int 1001] (cell % 6 - 4) = some (.int b) := by
      rcases hc with hc | hc
      · exact ⟨-1, .inl (by decide), by rw [hc]; rfl⟩
      · exact ⟨1001, .inr (by decide), by rw [hc]; rfl⟩
    have hn : n < (rows.getD at_ []).length := by omega
    have hset : ((rows.getD at_ []).map D.int).set n (.int b) = ((rows.getD at_ []).set n b).map D.int := by rw [List.map_set]
    refine ⟨rows.take at_ ++ ((rows.getD at_ []).set n b) :: rows.drop (at_ + 1), runM_rt' (S2 _ _ (sSeq_eq (sIf_f (n0 0 (by omega) _ rfl) rfl) (sSeq_eq (sIf_f (n0 1 (by omega) _ rfl) rfl) (sSeq_eq (sIf_f (n0 2 (by omega) _ rfl) rfl) (sSeq_eq (sIf_f (n0 3 (by omega) _ rfl) rfl) (sSeq_eq (sNew_eq (ds := (rows.getD at_ []).map D.int) ?_ (by show 4 < 6; decide)) (sSeq_eq (sPutP_eq (d := b) (n := n) (by show 4 < 6; decide) (m2_eq (mLst_eq (mCons_eq rfl (mCons_eq rfl rfl))) (m2_eq rfl rfl (dSub_i _ _)) hbv) (m2_eq (m2_eq rfl rfl (dDiv_i c60)) (mA_eq (mCons_eq rfl rfl) (dLen_map _ _)) ((dMod_i (by omega)).trans (by rw [en]))) (by rw [List.length_map]; exact hn)) (sSeq_rt (sFrz_eq (sRet_eq ?_)))))))))), ⟨?_, len_spl rows _ hat hp4, mem_spl rows _ 10 hlimg (by rw [List.length_set, hlw]; omega)⟩⟩
    · unfold mLs
      rw [mCons_eq (m2_eq rfl rfl (atI_rows hat)) mNil_eq]
      rfl
    · rw [hset]
      exact spl rows ((rows.getD at_ []).set n b) _ _ hp4 rfl rfl rfl
    · exact bad_row (y_in rows _) (rowOk_num (numOk_bad (List.mem_set hn b) hb))
theorem copy_all {vs : List Nat} {i j : Nat} {rows : List (List Int)} {g : G} (hl : rows.length ≤ LIM) (h1 : mV i g = .ok (.lst (rows.map intsD))) (h2 : ∀ r : List Int, mV j (setsG (killG vs g) [(j, intsD r)]) = .ok (intsD r)) : mLst (mLc vs (mItems (mV i)) (.one j) mYes (mA dList (mCons (mV j) mNil))) g = .ok (.lst (rows.map intsD)) :=
  mLst_eq (mLc_enc intsD intsD rows (mItems_l h1) hl fun r _ => ⟨_, rfl, mA_eq (mCons_eq (h2 r) mNil_eq) (dList_l _)⟩)
theorem bl_eq_f {a b : Bool} (h : a ≠ b) : dEq (.bl a) (.bl b) = some (.bl false) := by rw [dEq_b, decide_eq_false h]
theorem main_k03 (c : Addr) (ns : List Int) (hns : ns.length ≤ 63) : P_law_k03 c [.scr ns] = .ok (.bl true) := by
  have hS := shelf_by ns
  have e0 := sp_worths ns
  generalize worthsBy ns 2 (sizeP ns) (sizeG ns) = rows at hS e0
  -- what is handed in, and how it is met
  obtain ⟨good, R, hR, hg, hmet⟩ : ∃ (good : Bool) (R : List (List Int)), R.length ≤ 10 ∧ ((good = true ∧ cellAt ns 7 % 3 = 0 ∧ R = rows) ∨ (good = false ∧ cellAt ns 7 % 3 ≠ 0 ∧ P_law_hurt_k03 [.lst (rows.map intsD), .int (cellAt ns 7 / 3)] = .ok (.lst (R.map intsD)))) ∧ ∀ k : Nat, P_law_met_k03 c [.lst (R.map intsD), .int k] = .ok (.bl (!good)) := by
    by_cases h : cellAt ns 7 % 3 = 0
    · exact ⟨true, rows, by have := hS.p4; omega, .inl ⟨rfl, h, rfl⟩, fun k => sp_met_k03_ok hS c k⟩
    · obtain ⟨R, h1, h2⟩ := sp_hurt_k03 hS (cellAt ns 7 / 3)
      exact ⟨false, R, h2.few, .inr ⟨rfl, h, h1⟩, fun k => sp_met_k03_bad h2 c k⟩
  have hl : R.length ≤ LIM := Nat.le_trans hR (by decide)
  refine runM_rt' ?_
  refine sSeq_eq (sSet2_eq (mCalln_eq (mCons_eq rfl rfl) (sp_size_by ns))) ?_
  refine sSeq_eq (sSet_eq (mCalln_eq (mCons_eq rfl (mCons_eq rfl (mCons_eq rfl (mCons_eq rfl rfl)))) e0)) ?_
  refine sSeq_eq (sSet_eq (mCalln_eq (mCons_eq rfl (mCons_eq rfl rfl)) (sp_cell_at ns 7))) ?_
  refine sSeq_eq (sSet_eq (d := .bl good) (m2_eq (m2_eq rfl rfl (dMod_i (by decide))) rfl ?_)) ?_
  · rcases hg with ⟨h1, h2, _⟩ | ⟨h1, h2, _⟩
    · rw [h1, dEq_t h2]
    · rw [h1, dEq_f h2]
  refine sSeq_eq (s' := ⟨[some (.scr ns), some (.int (sizeP ns)), some (.int (sizeG ns)), some (.lst (R.map intsD)), some (.int (cellAt ns 7)), some (.bl good), none, none, none], none⟩) ?_ ?_
  · rcases hg with ⟨h1, h2, h3⟩ | ⟨h1, h2, h3⟩
    · subst h1
      subst h3
      exact sIf_f (tst (mNot_eq (mT_eq rfl)) rfl) rfl
    · subst h1
      exact sIf_t (tst (mNot_eq (mT_eq rfl)) rfl) (sSeq_nil (sSet_eq (mCalln_eq (mCons_eq rfl (mCons_eq (m2_eq rfl rfl (dDiv_i (by decide))) rfl)) h3)))
  refine sSeq_eq (sSet_eq (copy_all hl rfl fun _ => rfl)) ?_
  let st : Sta := ⟨[none, none, none, some (.lst (R.map intsD)), none, some (.bl good), some (.lst (R.map intsD)), none, none], none⟩
  refine sSeq_eq (s' := st) (sFor_eq (rng1_nat (n := 3) (by decide) (mCons_eq rfl rfl)) ?_) (sSeq_rt (sRet_eq rfl))
  refine forGo_pass (st := st) (fun (i : Nat) => D.int (i : Int)) (List.range 3) fun k hk => ⟨[(7, .int k)], rfl, rfl, ?_⟩
  exact ⟨_, sSeq_nil (sIf_f (tst (mOr_eq (mT_eq (m2_eq (mCalln_eq (mCons_eq rfl (mCons_eq rfl rfl)) (hmet k)) rfl (bl_eq_f (by cases good <;> decide)))) fun _ => mT_eq (m2_eq rfl rfl (ne_rows R))) rfl) rfl), rfl⟩
end Z
set_option Elab.async false
set_option linter.all false
set_option maxRecDepth 100000
set_option maxHeartbeats 8000000
namespace Z
set_option autoImplicit false
open PySem L2
def top (i : Nat) : Stmt := PySem.Challenge.pw_truthtoll_k03_shelf_refused.main.body.getD i (.Pass ⟨0, 0, 0, 0⟩)
structure Tx (K : PySem.W.Frag) (mg : Str → Option Value) (C : Addr) (c_BadWorths : Addr) (c_TollError : Addr) : Prop where
  b_ValueError : mg "ValueError" = none
  b_all : mg "all" = none
  b_enumerate : mg "enumerate" = none
  b_isinstance : mg "isinstance" = none
  b_len : mg "len" = none
  b_list : mg "list" = none
  b_range : mg "range" = none
  g_MOST : ∃ tk, mg "MOST" = some (.int 1000 tk)
  x_BadWorths : PySem.W.excIn K c_BadWorths He.veBase "ValueError.__new__" = true
  g_BadWorths : mg "BadWorths" = some (.ref c_BadWorths)
  k_BadWorths : PySem.W.keepIn K (.ref c_BadWorths) = true
  s_BadWorths : PySem.W.subIn K (.ref c_BadWorths) (.type "BaseException") = some true
  t_BadWorths : PySem.W.typeIn K (.ref c_BadWorths) = some (.type "type")
  f_BadWorths : ExF K c_BadWorths
  m_BadWorths_BadWorths : PySem.W.exmOne K (.ref c_BadWorths) (.ref c_BadWorths) = some true
  g_TollError : mg "TollError" = some (.ref c_TollError)
  i_BadWorths_TollError : PySem.W.kitOne K (.ref c_BadWorths) (.ref c_TollError) = some true
section
variable {P : Program} {w : World} {K : PySem.W.Frag} {mg : Str → Option Value} {base : Heap} {C : Addr} {c_BadWorths : Addr} {c_TollError : Addr}
abbrev s_numbers_right : Stmt := top 5
theorem sc_numbers_right : FnScope ["numbers", "number"] ["numbers"] (defScope s_numbers_right) := ⟨rfl, rfl, rfl, by decide +kernel, rfl, by decide +kernel, by decide +kernel⟩
set_option maxRecDepth 100000 in
theorem ok_numbers_right {k : Nat} (T : Tx K mg C c_BadWorths c_TollError) (hd : Dn K mg "numbers_right" s_numbers_right ["numbers"]) : Cal P w K mg base C CX0 (k + 1) "numbers_right" 1 (p_numbers_right) := by
  obtain ⟨f, fd, F, g, b⟩ := hd
  exact ⟨f, fd, _, def_ok F sc_numbers_right (fun cdv A outer s H E hr => ⟨_,
    (z_cons (z_ret (x_all rfl T.b_all (a_cons (x_l (l_lc (own := [("number", 1)]) (T := .one 1) rfl rfl sc_numbers_right.nd (i_list (x_v 0)) (blkOk_by (N := ["numbers", "number"]) (sc := defScope s_numbers_right) (by decide +kernel)) (fun _ _ _ _ _ => (g_one sc_numbers_right.nd rfl (Or.inl rfl))) (fun _ _ _ _ _ => by exact ts_nil) (fun _ _ _ _ _ => by exact (x_chLeLe x_int (x_v 1) (x_glob T.g_MOST))) (by decide))) a_nil)))
    z_nil)⟩), g, F.kp, b⟩
abbrev s_check_shelf : Stmt := top 6
theorem sc_check_shelf : FnScope ["worths", "row"] ["worths"] (defScope s_check_shelf) := ⟨rfl, rfl, rfl, by decide +kernel, rfl, by decide +kernel, by decide +kernel⟩
set_option maxRecDepth 100000 in
theorem ok_check_shelf {k : Nat} {φ_numbers_right : List D → Rs D} (T : Tx K mg C c_BadWorths c_TollError) (hd : Dn K mg "check_shelf" s_check_shelf ["worths"]) {l_numbers_right : Nat} (hl_numbers_right : l_numbers_right ≤ k) (h_numbers_right : Cal P w K mg base C CX0 l_numbers_right "numbers_right" 1 φ_numbers_right) : Cal P w K mg base C (L2.CX P w) (k + 1) "check_shelf" 1 (p_check_shelf c_BadWorths φ_numbers_right) := by
  obtain ⟨f, fd, F, g, b⟩ := hd
  obtain ⟨f_numbers_right, fd_numbers_right, ps_numbers_right, G_numbers_right, g_numbers_right, k_numbers_right, b_numbers_right⟩ := h_numbers_right
  exact ⟨f, fd, _, def_okX F sc_check_shelf (fun cdv A outer s H E hr => ⟨_,
    (z_cons (z_if (y_not (y_chLeLe x_int (x_len T.b_len (a_cons (x_v 0) a_nil)) x_int)) (z_cons (z_raise rfl (takes_of rfl rfl rfl rfl) T.x_BadWorths T.g_BadWorths T.k_BadWorths (raises_own T.s_BadWorths T.t_BadWorths) PySem.F.excBase_ValueError)
    z_nil)
    z_nil)
    (z_cons (z_for (T := .one 1) [1] (passes_of rfl) rfl (i_list (x_v 0)) (g_one sc_check_shelf.nd rfl (Or.inl rfl))
    (z_cons (z_if (y_w (w_or (y_not (y_chLeLe x_int (x_len T.b_len (a_cons (x_v 1) a_nil)) x_int)) (w_or (y_ne hr.units (x_len T.b_len (a_cons (x_v 1) a_nil)) (x_len T.b_len (a_cons (x_ix (x_v 0) x_int) a_nil))) (w_or1 (y_not (y_val (x_call (n := 1) (mCons_len mNil_len) G_numbers_right (hr.mono hl_numbers_right) g_numbers_right k_numbers_right b_numbers_right (a_cons (x_v 1) a_nil)))))))) (z_cons (z_raise rfl (takes_of rfl rfl rfl rfl) T.x_BadWorths T.g_BadWorths T.k_BadWorths (raises_own T.s_BadWorths T.t_BadWorths) PySem.F.excBase_ValueError)
    z_nil)
    z_nil)
    z_nil))
    z_nil))⟩), g, F.kp, b⟩
abbrev s_dealt : Stmt := top 7
theorem sc_dealt : FnScope ["worths", "taken", "best", "rest", "found", "good", "worth", "more"] ["worths", "taken"] (defScope s_dealt) := ⟨rfl, rfl, rfl, by decide +kernel, rfl, by decide +kernel, by decide +kernel⟩
set_option maxRecDepth 100000 in
theorem ok_dealt {k : Nat} {φ_dealt : List D → Rs D} (T : Tx K mg C c_BadWorths c_TollError) (hd : Dn K mg "dealt" s_dealt ["worths", "taken"]) {l_dealt : Nat} (hl_dealt : l_dealt ≤ k) (h_dealt : Cal P w K mg base C CX0 l_dealt "dealt" 2 φ_dealt) : Cal P w K mg base C CX0 (k + 1) "dealt" 2 (p_dealt φ_dealt) := by
  obtain ⟨f, fd, F, g, b⟩ := hd
  obtain ⟨f_dealt, fd_dealt, ps_dealt, G_dealt, g_dealt, k_dealt, b_dealt⟩ := h_dealt
  exact ⟨f, fd, _, def_ok F sc_dealt (fun cdv A outer s H E hr => ⟨_,
    (z_cons (z_if (y_eq hr.units (x_len T.b_len (a_cons (x_v 0) a_nil)) x_int) (z_cons (z_ret (x_tup (n := 2) (by decide) (a_cons x_int (a_cons (x_l (l_lst (n := 0) (by decide) a_nil mNil_len)) a_nil)) (mCons_len (mCons_len mNil_len))))
    z_nil)
    z_nil)
    (z_cons (z_set2 (i := 2) (j := 3) (x_call (n := 2) (mCons_len (mCons_len mNil_len)) G_dealt (hr.mono hl_dealt) g_dealt k_dealt b_dealt (a_cons (x_sl (x_v 0) (o_s x_int) o_n) (a_cons (x_v 1) a_nil))) (g_two sc_dealt.nd rfl rfl (Or.inl rfl) (Or.inl rfl) rfl))
    (z_cons (z_set (i := 4) sc_dealt.nd rfl (Or.inl rfl) (x_tup (n := 2) (by decide) (a_cons (x_v 2) (a_cons (x_add (x_l (l_lst (n := 1) (by decide) (a_cons (x_neg x_int) a_nil) (mCons_len mNil_len))) (x_v 3)) a_nil)) (mCons_len (mCons_len mNil_len))))
    (z_cons (z_for (T := .two 5 6) [2, 3, 5, 6, 7] PassesOwn.never rfl (i_enum T.b_enumerate (a_cons (x_ix (x_v 0) x_int) a_nil)) (g_two sc_dealt.nd rfl rfl (Or.inl rfl) (Or.inl rfl) rfl)
    (z_cons (z_if (y_ni (x_v 5) (x_v 1)) (z_cons (z_set2 (i := 7) (j := 3) (x_call (n := 2) (mCons_len (mCons_len mNil_len)) G_dealt (hr.mono hl_dealt) g_dealt k_dealt b_dealt (a_cons (x_sl (x_v 0) (o_s x_int) o_n) (a_cons (x_add (x_v 1) (x_l (l_lst (n := 1) (by decide) (a_cons (x_v 5) a_nil) (mCons_len mNil_len)))) a_nil))) (g_two sc_dealt.nd rfl rfl (Or.inl rfl) (Or.inl rfl) rfl))
    (z_cons (z_if (y_gt (x_add (x_v 6) (x_v 7)) (x_ix (x_v 4) x_int)) (z_cons (z_set (i := 4) sc_dealt.nd rfl (Or.inl rfl) (x_tup (n := 2) (by decide) (a_cons (x_add (x_v 6) (x_v 7)) (a_cons (x_add (x_l (l_lst (n := 1) (by decide) (a_cons (x_v 5) a_nil) (mCons_len mNil_len))) (x_v 3)) a_nil)) (mCons_len (mCons_len mNil_len))))
    z_nil)
    z_nil)
    z_nil))
    z_nil)
    z_nil))
    (z_cons (z_ret (x_v 4))
    z_nil)))))⟩), g, F.kp, b⟩
abbrev s_worth_to : Stmt := top 8
theorem sc_worth_to : FnScope ["row", "good"] ["row", "good"] (defScope s_worth_to) := ⟨rfl, rfl, rfl, by decide +kernel, rfl, by decide +kernel, by decide +kernel⟩
set_option maxRecDepth 100000 in
theorem ok_worth_to {k : Nat} (T : Tx K mg C c_BadWorths c_TollError) (hd : Dn K mg "worth_to" s_worth_to ["row", "good"]) : Cal P w K mg base C CX0 (k + 1) "worth_to" 2 (p_worth_to) := by
  obtain ⟨f, fd, F, g, b⟩ := hd
  exact ⟨f, fd, _, def_ok F sc_worth_to (fun cdv A outer s H E hr => ⟨_,
    (z_cons (z_if (y_eq hr.units (x_v 1) (x_neg x_int)) (z_cons (z_ret x_int)
    z_nil)
    z_nil)
    (z_cons (z_ret (x_ix (x_v 0) (x_v 1)))
    z_nil))⟩), g, F.kp, b⟩
abbrev s_shelf_best : Stmt := top 9
theorem sc_shelf_best : FnScope ["worths"] ["worths"] (defScope s_shelf_best) := ⟨rfl, rfl, rfl, by decide +kernel, rfl, by decide +kernel, by decide +kernel⟩
set_option maxRecDepth 100000 in
theorem ok_shelf_best {k : Nat} {φ_dealt φ_check_shelf : List D → Rs D} (T : Tx K mg C c_BadWorths c_TollError) (hd : Dn K mg "shelf_best" s_shelf_best ["worths"]) {l_dealt : Nat} (hl_dealt : l_dealt ≤ k) (h_dealt : Cal P w K mg base C CX0 l_dealt "dealt" 2 φ_dealt) {l_check_shelf : Nat} (hl_check_shelf : l_check_shelf ≤ k) (h_check_shelf : Cal P w K mg base C (L2.CX P w) l_check_shelf "check_shelf" 1 φ_check_shelf) : Cal P w K mg base C (L2.CX P w) (k + 1) "shelf_best" 1 (p_shelf_best φ_dealt φ_check_shelf) := by
  obtain ⟨f, fd, F, g, b⟩ := hd
  obtain ⟨f_dealt, fd_dealt, ps_dealt, G_dealt, g_dealt, k_dealt, b_dealt⟩ := h_dealt
  obtain ⟨f_check_shelf, fd_check_shelf, ps_check_shelf, G_check_shelf, g_check_shelf, k_check_shelf, b_check_shelf⟩ := h_check_shelf
  exact ⟨f, fd, _, def_okX F sc_shelf_best (fun cdv A outer s H E hr => ⟨_,
    (z_cons (z_exp (x_callX (n := 1) (mCons_len mNil_len) (passes_call (takes_of rfl rfl rfl rfl) (fun _ _ _ _ h => h)) G_check_shelf (hr.mono hl_check_shelf) g_check_shelf k_check_shelf b_check_shelf (a_cons (x_v 0) a_nil)))
    (z_cons (z_ret (x_call (n := 2) (mCons_len (mCons_len mNil_len)) G_dealt (hr.mono hl_dealt) g_dealt k_dealt b_dealt (a_cons (x_v 0) (a_cons (x_l (l_lst (n := 0) (by decide) a_nil mNil_len)) a_nil))))
    z_nil))⟩), g, F.kp, b⟩
abbrev s_pay_of : Stmt := top 10
theorem sc_pay_of : FnScope ["worths", "person", "total", "dealing", "without"] ["worths", "person"] (defScope s_pay_of) := ⟨rfl, rfl, rfl, by decide +kernel, rfl, by decide +kernel, by decide +kernel⟩
set_option maxRecDepth 100000 in
theorem ok_pay_of {k : Nat} {φ_worth_to φ_dealt : List D → Rs D} (T : Tx K mg C c_BadWorths c_TollError) (hd : Dn K mg "pay_of" s_pay_of ["worths", "person"]) {l_worth_to : Nat} (hl_worth_to : l_worth_to ≤ k) (h_worth_to : Cal P w K mg base C CX0 l_worth_to "worth_to" 2 φ_worth_to) {l_dealt : Nat} (hl_dealt : l_dealt ≤ k) (h_dealt : Cal P w K mg base C CX0 l_dealt "dealt" 2 φ_dealt) : Cal P w K mg base C CX0 (k + 1) "pay_of" 2 (p_pay_of φ_worth_to φ_dealt) := by
  obtain ⟨f, fd, F, g, b⟩ := hd
  obtain ⟨f_worth_to, fd_worth_to, ps_worth_to, G_worth_to, g_worth_to, k_worth_to, b_worth_to⟩ := h_worth_to
  obtain ⟨f_dealt, fd_dealt, ps_dealt, G_dealt, g_dealt, k_dealt, b_dealt⟩ := h_dealt
  exact ⟨f, fd, _, def_ok F sc_pay_of (fun cdv A outer s H E hr => ⟨_,
    (z_cons (z_set2 (i := 2) (j := 3) (x_call (n := 2) (mCons_len (mCons_len mNil_len)) G_dealt (hr.mono hl_dealt) g_dealt k_dealt b_dealt (a_cons (x_v 0) (a_cons (x_l (l_lst (n := 0) (by decide) a_nil mNil_len)) a_nil))) (g_two sc_pay_of.nd rfl rfl (Or.inl rfl) (Or.inl rfl) rfl))
    (z_cons (z_set (i := 4) sc_pay_of.nd rfl (Or.inl rfl) (x_ix (x_call (n := 2) (mCons_len (mCons_len mNil_len)) G_dealt (hr.mono hl_dealt) g_dealt k_dealt b_dealt (a_cons (x_add (x_sl (x_v 0) o_n (o_s (x_v 1))) (x_sl (x_v 0) (o_s (x_add (x_v 1) x_int)) o_n)) (a_cons (x_l (l_lst (n := 0) (by decide) a_nil mNil_len)) a_nil))) x_int))
    (z_cons (z_ret (x_sub (x_v 4) (x_sub (x_v 2) (x_call (n := 2) (mCons_len (mCons_len mNil_len)) G_worth_to (hr.mono hl_worth_to) g_worth_to k_worth_to b_worth_to (a_cons (x_ix (x_v 0) (x_v 1)) (a_cons (x_ix (x_v 3) (x_v 1)) a_nil))))))
    z_nil)))⟩), g, F.kp, b⟩
abbrev s_shelf_pays : Stmt := top 11
theorem sc_shelf_pays : FnScope ["worths", "person"] ["worths"] (defScope s_shelf_pays) := ⟨rfl, rfl, rfl, by decide +kernel, rfl, by decide +kernel, by decide +kernel⟩
set_option maxRecDepth 100000 in
theorem ok_shelf_pays {k : Nat} {φ_pay_of φ_check_shelf : List D → Rs D} (T : Tx K mg C c_BadWorths c_TollError) (hd : Dn K mg "shelf_pays" s_shelf_pays ["worths"]) {l_pay_of : Nat} (hl_pay_of : l_pay_of ≤ k) (h_pay_of : Cal P w K mg base C CX0 l_pay_of "pay_of" 2 φ_pay_of) {l_check_shelf : Nat} (hl_check_shelf : l_check_shelf ≤ k) (h_check_shelf : Cal P w K mg base C (L2.CX P w) l_check_shelf "check_shelf" 1 φ_check_shelf) : Cal P w K mg base C (L2.CX P w) (k + 1) "shelf_pays" 1 (p_shelf_pays φ_pay_of φ_check_shelf) := by
  obtain ⟨f, fd, F, g, b⟩ := hd
  obtain ⟨f_pay_of, fd_pay_of, ps_pay_of, G_pay_of, g_pay_of, k_pay_of, b_pay_of⟩ := h_pay_of
  obtain ⟨f_check_shelf, fd_check_shelf, ps_check_shelf, G_check_shelf, g_check_shelf, k_check_shelf, b_check_shelf⟩ := h_check_shelf
  exact ⟨f, fd, _, def_okX F sc_shelf_pays (fun cdv A outer s H E hr => ⟨_,
    (z_cons (z_exp (x_callX (n := 1) (mCons_len mNil_len) (passes_call (takes_of rfl rfl rfl rfl) (fun _ _ _ _ h => h)) G_check_shelf (hr.mono hl_check_shelf) g_check_shelf k_check_shelf b_check_shelf (a_cons (x_v 0) a_nil)))
    (z_cons (z_ret (x_l (l_lc (own := [("person", 1)]) (T := .one 1) rfl rfl sc_shelf_pays.nd (i_rng1 T.b_range (a_cons (x_len T.b_len (a_cons (x_v 0) a_nil)) a_nil)) (blkOk_by (N := ["worths", "person"]) (sc := defScope s_shelf_pays) (by decide +kernel)) (fun _ _ _ _ _ => (g_one sc_shelf_pays.nd rfl (Or.inl rfl))) (fun _ _ _ _ _ => by exact ts_nil) (fun _ _ _ _ _ => by exact (x_call (n := 2) (mCons_len (mCons_len mNil_len)) G_pay_of (hr.mono hl_pay_of) g_pay_of k_pay_of b_pay_of (a_cons (x_v 0) (a_cons (x_v 1) a_nil)))) (by decide))))
    z_nil))⟩), g, F.kp, b⟩
abbrev s_shelf_gain : Stmt := top 12
theorem sc_shelf_gain : FnScope ["worths", "person", "truth", "dealing"] ["worths", "person", "truth"] (defScope s_shelf_gain) := ⟨rfl, rfl, rfl, by decide +kernel, rfl, by decide +kernel, by decide +kernel⟩
set_option maxRecDepth 100000 in
theorem ok_shelf_gain {k : Nat} {φ_worth_to φ_pay_of φ_dealt φ_check_shelf : List D → Rs D} (T : Tx K mg C c_BadWorths c_TollError) (hd : Dn K mg "shelf_gain" s_shelf_gain ["worths", "person", "truth"]) {l_worth_to : Nat} (hl_worth_to : l_worth_to ≤ k) (h_worth_to : Cal P w K mg base C CX0 l_worth_to "worth_to" 2 φ_worth_to) {l_pay_of : Nat} (hl_pay_of : l_pay_of ≤ k) (h_pay_of : Cal P w K mg base C CX0 l_pay_of "pay_of" 2 φ_pay_of) {l_dealt : Nat} (hl_dealt : l_dealt ≤ k) (h_dealt : Cal P w K mg base C CX0 l_dealt "dealt" 2 φ_dealt) {l_check_shelf : Nat} (hl_check_shelf : l_check_shelf ≤ k) (h_check_shelf : Cal P w K mg base C (L2.CX P w) l_check_shelf "check_shelf" 1 φ_check_shelf) : Cal P w K mg base C (L2.CX P w) (k + 1) "shelf_gain" 3 (p_shelf_gain φ_worth_to φ_pay_of φ_dealt φ_check_shelf) := by
  obtain ⟨f, fd, F, g, b⟩ := hd
  obtain ⟨f_worth_to, fd_worth_to, ps_worth_to, G_worth_to, g_worth_to, k_worth_to, b_worth_to⟩ := h_worth_to
  obtain ⟨f_pay_of, fd_pay_of, ps_pay_of, G_pay_of, g_pay_of, k_pay_of, b_pay_of⟩ := h_pay_of
  obtain ⟨f_dealt, fd_dealt, ps_dealt, G_dealt, g_dealt, k_dealt, b_dealt⟩ := h_dealt
  obtain ⟨f_check_shelf, fd_check_shelf, ps_check_shelf, G_check_shelf, g_check_shelf, k_check_shelf, b_check_shelf⟩ := h_check_shelf
  exact ⟨f, fd, _, def_okX F sc_shelf_gain (fun cdv A outer s H E hr => ⟨_,
    (z_cons (z_exp (x_callX (n := 1) (mCons_len mNil_len) (passes_call (takes_of rfl rfl rfl rfl) (fun _ _ _ _ h => h)) G_check_shelf (hr.mono hl_check_shelf) g_check_shelf k_check_shelf b_check_shelf (a_cons (x_v 0) a_nil)))
    (z_cons (z_set (i := 3) sc_shelf_gain.nd rfl (Or.inl rfl) (x_ix (x_call (n := 2) (mCons_len (mCons_len mNil_len)) G_dealt (hr.mono hl_dealt) g_dealt k_dealt b_dealt (a_cons (x_v 0) (a_cons (x_l (l_lst (n := 0) (by decide) a_nil mNil_len)) a_nil))) x_int))
    (z_cons (z_ret (x_sub (x_call (n := 2) (mCons_len (mCons_len mNil_len)) G_worth_to (hr.mono hl_worth_to) g_worth_to k_worth_to b_worth_to (a_cons (x_v 2) (a_cons (x_ix (x_v 3) (x_v 1)) a_nil))) (x_call (n := 2) (mCons_len (mCons_len mNil_len)) G_pay_of (hr.mono hl_pay_of) g_pay_of k_pay_of b_pay_of (a_cons (x_v 0) (a_cons (x_v 1) a_nil)))))
    z_nil)))⟩), g, F.kp, b⟩
abbrev s_law_cell_at : Stmt := top 14
theorem sc_law_cell_at : FnScope ["script", "k"] ["script", "k"] (defScope s_law_cell_at) := ⟨rfl, rfl, rfl, by decide +kernel, rfl, by decide +kernel, by decide +kernel⟩
set_option maxRecDepth 100000 in
theorem ok_law_cell_at {k : Nat} (T : Tx K mg C c_BadWorths c_TollError) (hd : Dn K mg "_law_cell_at" s_law_cell_at ["script", "k"]) : Cal P w K mg base C CX0 (k + 1) "_law_cell_at" 2 (p_law_cell_at) := by
  obtain ⟨f, fd, F, g, b⟩ := hd
  exact ⟨f, fd, _, def_ok F sc_law_cell_at (fun cdv A outer s H E hr => ⟨_,
    (z_cons (z_if (y_lt (x_v 1) (x_len T.b_len (a_cons (x_v 0) a_nil))) (z_cons (z_ret (x_ix (x_v 0) (x_v 1)))
    z_nil)
    z_nil)
    (z_cons (z_ret x_int)
    z_nil))⟩), g, F.kp, b⟩
abbrev s_law_mix : Stmt := top 15
theorem sc_law_mix : FnScope ["cell", "k", "many", "some", "stir"] ["cell", "k", "many"] (defScope s_law_mix) := ⟨rfl, rfl, rfl, by decide +kernel, rfl, by decide +kernel, by decide +kernel⟩
set_option maxRecDepth 100000 in
theorem ok_law_mix {k : Nat} (T : Tx K mg C c_BadWorths c_TollError) (hd : Dn K mg "_law_mix" s_law_mix ["cell", "k", "many"]) : Cal P w K mg base C CX0 (k + 1) "_law_mix" 3 (p_law_mix) := by
  obtain ⟨f, fd, F, g, b⟩ := hd
  exact ⟨f, fd, _, def_ok F sc_law_mix (fun cdv A outer s H E hr => ⟨_,
    (z_cons (z_set (i := 3) sc_law_mix.nd rfl (Or.inl rfl) (x_l (l_lst (n := 13) (by decide) (a_cons x_int (a_cons x_int (a_cons x_int (a_cons x_int (a_cons x_int (a_cons x_int (a_cons x_int (a_cons x_int (a_cons x_int (a_cons x_int (a_cons x_int (a_cons x_int (a_cons x_int a_nil))))))))))))) (mCons_len (mCons_len (mCons_len (mCons_len (mCons_len (mCons_len (mCons_len (mCons_len (mCons_len (mCons_len (mCons_len (mCons_len (mCons_len mNil_len))))))))))))))))
    (z_cons (z_set (i := 4) sc_law_mix.nd rfl (Or.inl rfl) (x_add (x_add (x_mul (x_add (x_mod (x_v 0) x_int) x_int) (x_ix (x_v 3) (x_mod (x_v 1) x_int))) (x_mul x_int (x_v 1))) (x_mul x_int (x_div (x_v 1) x_int))))
    (z_cons (z_set (i := 4) sc_law_mix.nd rfl (Or.inl rfl) (x_mod (x_v 4) x_int))
    (z_cons (z_ret (x_mod (x_div (x_mod (x_add (x_mul (x_v 4) (x_v 4)) (x_mul x_int (x_v 1))) x_int) x_int) (x_v 2)))
    z_nil))))⟩), g, F.kp, b⟩
abbrev s_law_worths_by : Stmt := top 16
theorem sc_law_worths_by : FnScope ["script", "start", "people", "goods", "worths", "k", "cell", "most", "j"] ["script", "start", "people", "goods"] (defScope s_law_worths_by) := ⟨rfl, rfl, rfl, by decide +kernel, rfl, by decide +kernel, by decide +kernel⟩
set_option maxRecDepth 100000 in
theorem ok_law_worths_by {k : Nat} {φ_law_mix φ_law_cell_at : List D → Rs D} (T : Tx K mg C c_BadWorths c_TollError) (hd : Dn K mg "_law_worths_by" s_law_worths_by ["script", "start", "people", "goods"]) {l_law_mix : Nat} (hl_law_mix : l_law_mix ≤ k) (h_law_mix : Cal P w K mg base C CX0 l_law_mix "_law_mix" 3 φ_law_mix) {l_law_cell_at : Nat} (hl_law_cell_at : l_law_cell_at ≤ k) (h_law_cell_at : Cal P w K mg base C CX0 l_law_cell_at "_law_cell_at" 2 φ_law_cell_at) : Cal P w K mg base C CX0 (k + 1) "_law_worths_by" 4 (p_law_worths_by φ_law_mix φ_law_cell_at) := by
  obtain ⟨f, fd, F, g, b⟩ := hd
  obtain ⟨f_law_mix, fd_law_mix, ps_law_mix, G_law_mix, g_law_mix, k_law_mix, b_law_mix⟩ := h_law_mix
  obtain ⟨f_law_cell_at, fd_law_cell_at, ps_law_cell_at, G_law_cell_at, g_law_cell_at, k_law_cell_at, b_law_cell_at⟩ := h_law_cell_at
  exact ⟨f, fd, _, def_ok F sc_law_worths_by (fun cdv A outer s H E hr => ⟨_,
    (z_cons (z_new (i := 4) sc_law_worths_by.nd rfl (Or.inl rfl) (l_lst (n := 0) (by decide) a_nil mNil_len))
    (z_cons (z_for (T := .one 5) [2, 5, 6, 7, 8] PassesOwn.never rfl (i_rng1 T.b_range (a_cons (x_v 2) a_nil)) (g_one sc_law_worths_by.nd rfl (Or.inl rfl))
    (z_cons (z_set (i := 6) sc_law_worths_by.nd rfl (Or.inr rfl) (x_call (n := 2) (mCons_len (mCons_len mNil_len)) G_law_cell_at (hr.mono hl_law_cell_at) g_law_cell_at k_law_cell_at b_law_cell_at (a_cons (x_v 0) (a_cons (x_add (x_v 1) (x_v 5)) a_nil))))
    (z_cons (z_set (i := 7) sc_law_worths_by.nd rfl (Or.inr rfl) (x_ix (x_l (l_lst (n := 3) (by decide) (a_cons x_int (a_cons x_int (a_cons x_int a_nil))) (mCons_len (mCons_len (mCons_len mNil_len))))) (x_call (n := 3) (mCons_len (mCons_len (mCons_len mNil_len))) G_law_mix (hr.mono hl_law_mix) g_law_mix k_law_mix b_law_mix (a_cons (x_v 6) (a_cons x_int (a_cons x_int a_nil))))))
    (z_cons (z_app (i := 4) rfl (Or.inl rfl) (x_l (l_lc (own := [("j", 8)]) (T := .one 8) rfl rfl sc_law_worths_by.nd (i_rng1 T.b_range (a_cons (x_v 3) a_nil)) (blkOk_by (N := ["script", "start", "people", "goods", "worths", "k", "cell", "most", "j"]) (sc := defScope s_law_worths_by) (by decide +kernel)) (fun _ _ _ _ _ => (g_one sc_law_worths_by.nd rfl (Or.inl rfl))) (fun _ _ _ _ _ => by exact ts_nil) (fun _ _ _ _ _ => by exact (x_call (n := 3) (mCons_len (mCons_len (mCons_len mNil_len))) G_law_mix (hr.mono hl_law_mix) g_law_mix k_law_mix b_law_mix (a_cons (x_v 6) (a_cons (x_v 8) (a_cons (x_v 7) a_nil))))) (by decide))))
    z_nil))))
    (z_cons (z_frz (z_ret (x_v 4)))
    z_nil)))⟩), g, F.kp, b⟩
abbrev s_law_size_by : Stmt := top 17
theorem sc_law_size_by : FnScope ["script"] ["script"] (defScope s_law_size_by) := ⟨rfl, rfl, rfl, by decide +kernel, rfl, by decide +kernel, by decide +kernel⟩
set_option maxRecDepth 100000 in
theorem ok_law_size_by {k : Nat} {φ_law_cell_at : List D → Rs D} (T : Tx K mg C c_BadWorths c_TollError) (hd : Dn K mg "_law_size_by" s_law_size_by ["script"]) {l_law_cell_at : Nat} (hl_law_cell_at : l_law_cell_at ≤ k) (h_law_cell_at : Cal P w K mg base C CX0 l_law_cell_at "_law_cell_at" 2 φ_law_cell_at) : Cal P w K mg base C CX0 (k + 1) "_law_size_by" 1 (p_law_size_by φ_law_cell_at) := by
  obtain ⟨f, fd, F, g, b⟩ := hd
  obtain ⟨f_law_cell_at, fd_law_cell_at, ps_law_cell_at, G_law_cell_at, g_law_cell_at, k_law_cell_at, b_law_cell_at⟩ := h_law_cell_at
  exact ⟨f, fd, _, def_ok F sc_law_size_by (fun cdv A outer s H E hr => ⟨_,
    (z_cons (z_ret (x_tup (n := 2) (by decide) (a_cons (x_add x_int (x_mod (x_call (n := 2) (mCons_len (mCons_len mNil_len)) G_law_cell_at (hr.mono hl_law_cell_at) g_law_cell_at k_law_cell_at b_law_cell_at (a_cons (x_v 0) (a_cons x_int a_nil))) x_int)) (a_cons (x_add x_int (x_mod (x_call (n := 2) (mCons_len (mCons_len mNil_len)) G_law_cell_at (hr.mono hl_law_cell_at) g_law_cell_at k_law_cell_at b_law_cell_at (a_cons (x_v 0) (a_cons x_int a_nil))) x_int)) a_nil)) (mCons_len (mCons_len mNil_len))))
    z_nil)⟩), g, F.kp, b⟩
abbrev s_law_hurt_k03 : Stmt := top 18
theorem sc_law_hurt_k03 : FnScope ["worths", "cell", "way", "at", "row", "k"] ["worths", "cell"] (defScope s_law_hurt_k03) := ⟨rfl, rfl, rfl, by decide +kernel, rfl, by decide +kernel, by decide +kernel⟩
set_option maxRecDepth 100000 in
theorem ok_law_hurt_k03 {k : Nat} (T : Tx K mg C c_BadWorths c_TollError) (hd : Dn K mg "_law_hurt" s_law_hurt_k03 ["worths", "cell"]) : Cal P w K mg base C CX0 (k + 1) "_law_hurt" 2 (p_law_hurt_k03) := by
  obtain ⟨f, fd, F, g, b⟩ := hd
  exact ⟨f, fd, _, def_ok F sc_law_hurt_k03 (fun cdv A outer s H E hr => ⟨_,
    (z_cons (z_set (i := 2) sc_law_hurt_k03.nd rfl (Or.inl rfl) (x_mod (x_v 1) x_int))
    (z_cons (z_set (i := 3) sc_law_hurt_k03.nd rfl (Or.inl rfl) (x_mod (x_div (x_v 1) x_int) (x_len T.b_len (a_cons (x_v 0) a_nil))))
    (z_cons (z_if (y_eq hr.units (x_v 2) x_int) (z_cons (z_ret (x_ix (x_l (l_lst (n := 2) (by decide) (a_cons (x_l (l_lst (n := 0) (by decide) a_nil mNil_len)) (a_cons (x_add (x_v 0) (x_l (l_lc (own := [("k", 5)]) (T := .one 5) rfl rfl sc_law_hurt_k03.nd (i_rng1 T.b_range (a_cons (x_sub x_int (x_len T.b_len (a_cons (x_v 0) a_nil))) a_nil)) (blkOk_by (N := ["worths", "cell", "way", "at", "row", "k"]) (sc := defScope s_law_hurt_k03) (by decide +kernel)) (fun _ _ _ _ _ => (g_one sc_law_hurt_k03.nd rfl (Or.inl rfl))) (fun _ _ _ _ _ => by exact ts_nil) (fun _ _ _ _ _ => by exact (x_list T.b_list (a_cons (x_ix (x_v 0) x_int) a_nil))) (by decide)))) a_nil)) (mCons_len (mCons_len mNil_len)))) (x_mod (x_div (x_v 1) x_int) x_int)))
    z_nil)
    z_nil)
    (z_cons (z_if (y_eq hr.units (x_v 2) x_int) (z_cons (z_ret (x_l (l_lc (own := [("row", 4)]) (T := .one 4) rfl rfl sc_law_hurt_k03.nd (i_list (x_v 0)) (blkOk_by (N := ["worths", "cell", "way", "at", "row", "k"]) (sc := defScope s_law_hurt_k03) (by decide +kernel)) (fun _ _ _ _ _ => (g_one sc_law_hurt_k03.nd rfl (Or.inl rfl))) (fun _ _ _ _ _ => by exact ts_nil) (fun _ _ _ _ _ => by exact (x_ix (x_l (l_lst (n := 2) (by decide) (a_cons (x_l (l_lst (n := 0) (by decide) a_nil mNil_len)) (a_cons (x_l (l_lst (n := 5) (by decide) (a_cons x_int (a_cons x_int (a_cons x_int (a_cons x_int (a_cons x_int a_nil))))) (mCons_len (mCons_len (mCons_len (mCons_len (mCons_len mNil_len))))))) a_nil)) (mCons_len (mCons_len mNil_len)))) (x_mod (x_div (x_v 1) x_int) x_int))) (by decide))))
    z_nil)
    z_nil)
    (z_cons (z_if (y_eq hr.units (x_v 2) x_int) (z_cons (z_set (i := 0) sc_law_hurt_k03.nd rfl (Or.inr rfl) (x_if (y_lt (x_len T.b_len (a_cons (x_v 0) a_nil)) x_int) (x_add (x_v 0) (x_l (l_lst (n := 1) (by decide) (a_cons (x_list T.b_list (a_cons (x_ix (x_v 0) x_int) a_nil)) a_nil) (mCons_len mNil_len)))) (x_v 0)))
    (z_cons (z_ret (x_add (x_add (x_sl (x_v 0) o_n (o_s (x_v 3))) (x_l (l_lst (n := 1) (by decide) (a_cons (x_add (x_ix (x_v 0) (x_v 3)) (x_l (l_lst (n := 1) (by decide) (a_cons x_int a_nil) (mCons_len mNil_len)))) a_nil) (mCons_len mNil_len)))) (x_sl (x_v 0) (o_s (x_add (x_v 3) x_int)) o_n)))
    z_nil))
    z_nil)
    (z_cons (z_if (y_eq hr.units (x_v 2) x_int) (z_cons (z_set (i := 0) sc_law_hurt_k03.nd rfl (Or.inr rfl) (x_if (y_lt (x_len T.b_len (a_cons (x_v 0) a_nil)) x_int) (x_add (x_v 0) (x_l (l_lst (n := 1) (by decide) (a_cons (x_list T.b_list (a_cons (x_ix (x_v 0) x_int) a_nil)) a_nil) (mCons_len mNil_len)))) (x_v 0)))
    (z_cons (z_ret (x_add (x_add (x_sl (x_v 0) o_n (o_s (x_v 3))) (x_l (l_lst (n := 1) (by decide) (a_cons (x_sl (x_ix (x_v 0) (x_v 3)) (o_s x_int) o_n) a_nil) (mCons_len mNil_len)))) (x_sl (x_v 0) (o_s (x_add (x_v 3) x_int)) o_n)))
    z_nil))
    z_nil)
    (z_cons (z_new (i := 4) sc_law_hurt_k03.nd rfl (Or.inl rfl) (l_list T.b_list (a_cons (x_ix (x_v 0) (x_v 3)) a_nil)))
    (z_cons (z_putP (i := 4) rfl (Or.inl rfl) (x_ix (x_l (l_lst (n := 2) (by decide) (a_cons (x_neg x_int) (a_cons x_int a_nil)) (mCons_len (mCons_len mNil_len)))) (x_sub (x_v 2) x_int)) (x_mod (x_div (x_v 1) x_int) (x_len T.b_len (a_cons (x_v 4) a_nil))))
    (z_cons (z_frz (z_ret (x_add (x_add (x_sl (x_v 0) o_n (o_s (x_v 3))) (x_l (l_lst (n := 1) (by decide) (a_cons (x_v 4) a_nil) (mCons_len mNil_len)))) (x_sl (x_v 0) (o_s (x_add (x_v 3) x_int)) o_n))))
    z_nil)))))))))⟩), g, F.kp, b⟩
abbrev s_law_met_k03 : Stmt := top 19
theorem sc_law_met_k03 : FnScope ["worths", "way", "e"] ["worths", "way"] (defScope s_law_met_k03) := ⟨rfl, rfl, rfl, by decide +kernel, rfl, by decide +kernel, by decide +kernel⟩
set_option maxRecDepth 100000 in
theorem ok_law_met_k03 {k : Nat} {φ_shelf_best φ_shelf_pays φ_shelf_gain : List D → Rs D} (T : Tx K mg C c_BadWorths c_TollError) (hd : Dn K mg "_law_met" s_law_met_k03 ["worths", "way"]) {l_shelf_best : Nat} (hl_shelf_best : l_shelf_best ≤ k) (h_shelf_best : Cal P w K mg base C (L2.CX P w) l_shelf_best "shelf_best" 1 φ_shelf_best) {l_shelf_pays : Nat} (hl_shelf_pays : l_shelf_pays ≤ k) (h_shelf_pays : Cal P w K mg base C (L2.CX P w) l_shelf_pays "shelf_pays" 1 φ_shelf_pays) {l_shelf_gain : Nat} (hl_shelf_gain : l_shelf_gain ≤ k) (h_shelf_gain : Cal P w K mg base C (L2.CX P w) l_shelf_gain "shelf_gain" 3 φ_shelf_gain) : Cal P w K mg base C CX0 (k + 1) "_law_met" 2 (p_law_met_k03 c_BadWorths φ_shelf_best φ_shelf_pays φ_shelf_gain) := by
  obtain ⟨f, fd, F, g, b⟩ := hd
  obtain ⟨f_shelf_best, fd_shelf_best, ps_shelf_best, G_shelf_best, g_shelf_best, k_shelf_best, b_shelf_best⟩ := h_shelf_best
  obtain ⟨f_shelf_pays, fd_shelf_pays, ps_shelf_pays, G_shelf_pays, g_shelf_pays, k_shelf_pays, b_shelf_pays⟩ := h_shelf_pays
  obtain ⟨f_shelf_gain, fd_shelf_gain, ps_shelf_gain, G_shelf_gain, g_shelf_gain, k_shelf_gain, b_shelf_gain⟩ := h_shelf_gain
  exact ⟨f, fd, _, def_ok F sc_law_met_k03 (fun cdv A outer s H E hr => ⟨_,
    (z_cons (z_tryIs (i := 2) (n := 3) (l := [(c_BadWorths, true)]) rfl rfl sc_law_met_k03.nd rfl rfl rfl ⟨rfl, by decide, Or.inl T.g_BadWorths⟩ T.b_isinstance T.g_TollError (Or.inl rfl) (fun E pn xe hx =>
    (z_cons (z_if (y_eq hr.units (x_v 1) x_int) (z_cons (z_exp (x_callX (n := 1) (mCons_len mNil_len) hx G_shelf_best (hr.mono hl_shelf_best) g_shelf_best k_shelf_best b_shelf_best (a_cons (x_v 0) a_nil)))
    z_nil)
    (z_cons (z_if (y_eq hr.units (x_v 1) x_int) (z_cons (z_exp (x_callX (n := 1) (mCons_len mNil_len) hx G_shelf_pays (hr.mono hl_shelf_pays) g_shelf_pays k_shelf_pays b_shelf_pays (a_cons (x_v 0) a_nil)))
    z_nil)
    (z_cons (z_exp (x_callX (n := 3) (mCons_len (mCons_len (mCons_len mNil_len))) hx G_shelf_gain (hr.mono hl_shelf_gain) g_shelf_gain k_shelf_gain b_shelf_gain (a_cons (x_v 0) (a_cons x_int (a_cons (x_mul (x_l (l_lst (n := 1) (by decide) (a_cons x_int a_nil) (mCons_len mNil_len))) (x_if (y_gt (x_len T.b_len (a_cons (x_v 0) a_nil)) x_int) (x_len T.b_len (a_cons (x_ix (x_v 0) x_int) a_nil)) x_int)) a_nil)))))
    z_nil))
    z_nil))
    z_nil))
    (hl_of (P := fun c' b => PySem.W.exmOne K (.ref c') (.ref c_BadWorths) = some true ∧ ExF K c' ∧ PySem.W.kitOne K (.ref c') (.ref c_TollError) = some b) (hl_cons (P := fun c' b => PySem.W.exmOne K (.ref c') (.ref c_BadWorths) = some true ∧ ExF K c' ∧ PySem.W.kitOne K (.ref c') (.ref c_TollError) = some b) ⟨T.m_BadWorths_BadWorths, T.f_BadWorths, T.i_BadWorths_TollError⟩ (hl_nil (P := fun c' b => PySem.W.exmOne K (.ref c') (.ref c_BadWorths) = some true ∧ ExF K c' ∧ PySem.W.kitOne K (.ref c') (.ref c_TollError) = some b)))))
    (z_cons (z_ret x_bl)
    z_nil))⟩), g, F.kp, b⟩
abbrev s_law_k03 : Stmt := top 20
theorem sc_law_k03 : FnScope ["script", "people", "goods", "worths", "cell", "good", "handed", "way", "row"] ["script"] (defScope s_law_k03) := ⟨rfl, rfl, rfl, by decide +kernel, rfl, by decide +kernel, by decide +kernel⟩
set_option maxRecDepth 100000 in
theorem ok_law_k03 {k : Nat} {φ_law_met_k03 φ_law_hurt_k03 φ_law_cell_at φ_law_worths_by φ_law_size_by : List D → Rs D} (T : Tx K mg C c_BadWorths c_TollError) {f : Addr} {fd : FuncData} (F : Fun K "law" "law" s_law_k03 f fd) {l_law_met_k03 : Nat} (hl_law_met_k03 : l_law_met_k03 ≤ k) (h_law_met_k03 : Cal P w K mg base C CX0 l_law_met_k03 "_law_met" 2 φ_law_met_k03) {l_law_hurt_k03 : Nat} (hl_law_hurt_k03 : l_law_hurt_k03 ≤ k) (h_law_hurt_k03 : Cal P w K mg base C CX0 l_law_hurt_k03 "_law_hurt" 2 φ_law_hurt_k03) {l_law_cell_at : Nat} (hl_law_cell_at : l_law_cell_at ≤ k) (h_law_cell_at : Cal P w K mg base C CX0 l_law_cell_at "_law_cell_at" 2 φ_law_cell_at) {l_law_worths_by : Nat} (hl_law_worths_by : l_law_worths_by ≤ k) (h_law_worths_by : Cal P w K mg base C CX0 l_law_worths_by "_law_worths_by" 4 φ_law_worths_by) {l_law_size_by : Nat} (hl_law_size_by : l_law_size_by ≤ k) (h_law_size_by : Cal P w K mg base C CX0 l_law_size_by "_law_size_by" 1 φ_law_size_by) : FnOk P w K mg base CX0 (k + 1) f fd ["script"] (spM K C 1 (p_law_k03 φ_law_met_k03 φ_law_hurt_k03 φ_law_cell_at φ_law_worths_by φ_law_size_by)) := by
  obtain ⟨f_law_met_k03, fd_law_met_k03, ps_law_met_k03, G_law_met_k03, g_law_met_k03, k_law_met_k03, b_law_met_k03⟩ := h_law_met_k03
  obtain ⟨f_law_hurt_k03, fd_law_hurt_k03, ps_law_hurt_k03, G_law_hurt_k03, g_law_hurt_k03, k_law_hurt_k03, b_law_hurt_k03⟩ := h_law_hurt_k03
  obtain ⟨f_law_cell_at, fd_law_cell_at, ps_law_cell_at, G_law_cell_at, g_law_cell_at, k_law_cell_at, b_law_cell_at⟩ := h_law_cell_at
  obtain ⟨f_law_worths_by, fd_law_worths_by, ps_law_worths_by, G_law_worths_by, g_law_worths_by, k_law_worths_by, b_law_worths_by⟩ := h_law_worths_by
  obtain ⟨f_law_size_by, fd_law_size_by, ps_law_size_by, G_law_size_by, g_law_size_by, k_law_size_by, b_law_size_by⟩ := h_law_size_by
  exact def_ok F sc_law_k03 (fun cdv A outer s H E hr => ⟨_,
    (z_cons (z_set2 (i := 1) (j := 2) (x_call (n := 1) (mCons_len mNil_len) G_law_size_by (hr.mono hl_law_size_by) g_law_size_by k_law_size_by b_law_size_by (a_cons (x_v 0) a_nil)) (g_two sc_law_k03.nd rfl rfl (Or.inl rfl) (Or.inl rfl) rfl))
    (z_cons (z_set (i := 3) sc_law_k03.nd rfl (Or.inl rfl) (x_call (n := 4) (mCons_len (mCons_len (mCons_len (mCons_len mNil_len)))) G_law_worths_by (hr.mono hl_law_worths_by) g_law_worths_by k_law_worths_by b_law_worths_by (a_cons (x_v 0) (a_cons x_int (a_cons (x_v 1) (a_cons (x_v 2) a_nil))))))
    (z_cons (z_set (i := 4) sc_law_k03.nd rfl (Or.inl rfl) (x_call (n := 2) (mCons_len (mCons_len mNil_len)) G_law_cell_at (hr.mono hl_law_cell_at) g_law_cell_at k_law_cell_at b_law_cell_at (a_cons (x_v 0) (a_cons x_int a_nil))))
    (z_cons (z_set (i := 5) sc_law_k03.nd rfl (Or.inl rfl) (x_eq hr.units (x_mod (x_v 4) x_int) x_int))
    (z_cons (z_if (y_not (y_val (x_v 5))) (z_cons (z_set (i := 3) sc_law_k03.nd rfl (Or.inl rfl) (x_call (n := 2) (mCons_len (mCons_len mNil_len)) G_law_hurt_k03 (hr.mono hl_law_hurt_k03) g_law_hurt_k03 k_law_hurt_k03 b_law_hurt_k03 (a_cons (x_v 3) (a_cons (x_div (x_v 4) x_int) a_nil))))
    z_nil)
    z_nil)
    (z_cons (z_setLc (i := 6) (own := [("row", 8)]) (T := .one 8) rfl rfl sc_law_k03.nd rfl rfl (sw_true rfl rfl rfl (by decide +kernel)) (i_list (x_v 3)) (blkOk_by (N := ["script", "people", "goods", "worths", "cell", "good", "handed", "way", "row"]) (sc := defScope s_law_k03) (by decide +kernel)) (fun _ _ _ _ _ => (g_one sc_law_k03.nd rfl (Or.inl rfl))) (fun _ _ _ _ _ => by exact ts_nil) (fun _ _ _ _ _ => by exact (x_list T.b_list (a_cons (x_v 8) a_nil))) (by decide))
    (z_cons (z_for (T := .one 7) [0, 1, 2, 4, 7, 8] PassesOwn.never rfl (i_rng1 T.b_range (a_cons x_int a_nil)) (g_one sc_law_k03.nd rfl (Or.inl rfl))
    (z_cons (z_if (y_w (w_or (y_eq hr.units (x_call (n := 2) (mCons_len (mCons_len mNil_len)) G_law_met_k03 (hr.mono hl_law_met_k03) g_law_met_k03 k_law_met_k03 b_law_met_k03 (a_cons (x_v 6) (a_cons (x_v 7) a_nil))) (x_v 5)) (w_or1 (y_ne hr.units (x_v 6) (x_v 3))))) (z_cons (z_ret x_bl)
    z_nil)
    z_nil)
    z_nil))
    (z_cons (z_ret x_bl)
    z_nil))))))))⟩)
theorem cal_numbers_right (T : Tx K mg C c_BadWorths c_TollError) (D_numbers_right : Dn K mg "numbers_right" s_numbers_right ["numbers"]) : Cal P w K mg base C CX0 1 "numbers_right" 1 (P_numbers_right) :=
  ok_numbers_right (k := 0) T D_numbers_right
theorem cal_check_shelf (T : Tx K mg C c_BadWorths c_TollError) (D_numbers_right : Dn K mg "numbers_right" s_numbers_right ["numbers"]) (D_check_shelf : Dn K mg "check_shelf" s_check_shelf ["worths"]) : Cal P w K mg base C (L2.CX P w) 2 "check_shelf" 1 (P_check_shelf c_BadWorths) :=
  ok_check_shelf (k := 1) T D_check_shelf (by decide) (cal_numbers_right T D_numbers_right)
theorem cals_dealt (T : Tx K mg C c_BadWorths c_TollError) (D_dealt : Dn K mg "dealt" s_dealt ["worths", "taken"]) : ∀ n : Nat, Cal P w K mg base C CX0 (0 + n) "dealt" 2 (P_dealt n)
  | 0 => Cal.mono (Cal.zero D_dealt rfl) (Nat.zero_le _)
  | n + 1 => by
    have ih := cals_dealt T D_dealt n
    exact ok_dealt (k := 0 + n) T D_dealt (Nat.le_refl _) ih
theorem cal_dealt (T : Tx K mg C c_BadWorths c_TollError) (D_dealt : Dn K mg "dealt" s_dealt ["worths", "taken"]) : Cal P w K mg base C CX0 5 "dealt" 2 (P_dealt 5) := cals_dealt T D_dealt 5
theorem cal_worth_to (T : Tx K mg C c_BadWorths c_TollError) (D_worth_to : Dn K mg "worth_to" s_worth_to ["row", "good"]) : Cal P w K mg base C CX0 1 "worth_to" 2 (P_worth_to) :=
  ok_worth_to (k := 0) T D_worth_to
theorem cal_shelf_best (T : Tx K mg C c_BadWorths c_TollError) (D_dealt : Dn K mg "dealt" s_dealt ["worths", "taken"]) (D_numbers_right : Dn K mg "numbers_right" s_numbers_right ["numbers"]) (D_check_shelf : Dn K mg "check_shelf" s_check_shelf ["worths"]) (D_shelf_best : Dn K mg "shelf_best" s_shelf_best ["worths"]) : Cal P w K mg base C (L2.CX P w) 6 "shelf_best" 1 (P_shelf_best c_BadWorths) :=
  ok_shelf_best (k := 5) T D_shelf_best (by decide) (cal_dealt T D_dealt) (by decide) (cal_check_shelf T D_numbers_right D_check_shelf)
theorem cal_pay_of (T : Tx K mg C c_BadWorths c_TollError) (D_worth_to : Dn K mg "worth_to" s_worth_to ["row", "good"]) (D_dealt : Dn K mg "dealt" s_dealt ["worths", "taken"]) (D_pay_of : Dn K mg "pay_of" s_pay_of ["worths", "person"]) : Cal P w K mg base C CX0 6 "pay_of" 2 (P_pay_of) :=
  ok_pay_of (k := 5) T D_pay_of (by decide) (cal_worth_to T D_worth_to) (by decide) (cal_dealt T D_dealt)
theorem cal_shelf_pays (T : Tx K mg C c_BadWorths c_TollError) (D_worth_to : Dn K mg "worth_to" s_worth_to ["row", "good"]) (D_dealt : Dn K mg "dealt" s_dealt ["worths", "taken"]) (D_pay_of : Dn K mg "pay_of" s_pay_of ["worths", "person"]) (D_numbers_right : Dn K mg "numbers_right" s_numbers_right ["numbers"]) (D_check_shelf : Dn K mg "check_shelf" s_check_shelf ["worths"]) (D_shelf_pays : Dn K mg "shelf_pays" s_shelf_pays ["worths"]) : Cal P w K mg base C (L2.CX P w) 7 "shelf_pays" 1 (P_shelf_pays c_BadWorths) :=
  ok_shelf_pays (k := 6) T D_shelf_pays (by decide) (cal_pay_of T D_worth_to D_dealt D_pay_of) (by decide) (cal_check_shelf T D_numbers_right D_check_shelf)
theorem cal_shelf_gain (T : Tx K mg C c_BadWorths c_TollError) (D_worth_to : Dn K mg "worth_to" s_worth_to ["row", "good"]) (D_dealt : Dn K mg "dealt" s_dealt ["worths", "taken"]) (D_pay_of : Dn K mg "pay_of" s_pay_of ["worths", "person"]) (D_numbers_right : Dn K mg "numbers_right" s_numbers_right ["numbers"]) (D_check_shelf : Dn K mg "check_shelf" s_check_shelf ["worths"]) (D_shelf_gain : Dn K mg "shelf_gain" s_shelf_gain ["worths", "person", "truth"]) : Cal P w K mg base C (L2.CX P w) 7 "shelf_gain" 3 (P_shelf_gain c_BadWorths) :=
  ok_shelf_gain (k := 6) T D_shelf_gain (by decide) (cal_worth_to T D_worth_to) (by decide) (cal_pay_of T D_worth_to D_dealt D_pay_of) (by decide) (cal_dealt T D_dealt) (by decide) (cal_check_shelf T D_numbers_right D_check_shelf)
theorem cal_law_cell_at (T : Tx K mg C c_BadWorths c_TollError) (D_law_cell_at : Dn K mg "_law_cell_at" s_law_cell_at ["script", "k"]) : Cal P w K mg base C CX0 1 "_law_cell_at" 2 (P_law_cell_at) :=
  ok_law_cell_at (k := 0) T D_law_cell_at
theorem cal_law_mix (T : Tx K mg C c_BadWorths c_TollError) (D_law_mix : Dn K mg "_law_mix" s_law_mix ["cell", "k", "many"]) : Cal P w K mg base C CX0 1 "_law_mix" 3 (P_law_mix) :=
  ok_law_mix (k := 0) T D_law_mix
theorem cal_law_worths_by (T : Tx K mg C c_BadWorths c_TollError) (D_law_mix : Dn K mg "_law_mix" s_law_mix ["cell", "k", "many"]) (D_law_cell_at : Dn K mg "_law_cell_at" s_law_cell_at ["script", "k"]) (D_law_worths_by : Dn K mg "_law_worths_by" s_law_worths_by ["script", "start", "people", "goods"]) : Cal P w K mg base C CX0 2 "_law_worths_by" 4 (P_law_worths_by) :=
  ok_law_worths_by (k := 1) T D_law_worths_by (by decide) (cal_law_mix T D_law_mix) (by decide) (cal_law_cell_at T D_law_cell_at)
theorem cal_law_size_by (T : Tx K mg C c_BadWorths c_TollError) (D_law_cell_at : Dn K mg "_law_cell_at" s_law_cell_at ["script", "k"]) (D_law_size_by : Dn K mg "_law_size_by" s_law_size_by ["script"]) : Cal P w K mg base C CX0 2 "_law_size_by" 1 (P_law_size_by) :=
  ok_law_size_by (k := 1) T D_law_size_by (by decide) (cal_law_cell_at T D_law_cell_at)
theorem cal_law_hurt_k03 (T : Tx K mg C c_BadWorths c_TollError) (D_law_hurt_k03 : Dn K mg "_law_hurt" s_law_hurt_k03 ["worths", "cell"]) : Cal P w K mg base C CX0 1 "_law_hurt" 2 (P_law_hurt_k03) :=
  ok_law_hurt_k03 (k := 0) T D_law_hurt_k03
theorem cal_law_met_k03 (T : Tx K mg C c_BadWorths c_TollError) (D_dealt : Dn K mg "dealt" s_dealt ["worths", "taken"]) (D_numbers_right : Dn K mg "numbers_right" s_numbers_right ["numbers"]) (D_check_shelf : Dn K mg "check_shelf" s_check_shelf ["worths"]) (D_shelf_best : Dn K mg "shelf_best" s_shelf_best ["worths"]) (D_worth_to : Dn K mg "worth_to" s_worth_to ["row", "good"]) (D_pay_of : Dn K mg "pay_of" s_pay_of ["worths", "person"]) (D_shelf_pays : Dn K mg "shelf_pays" s_shelf_pays ["worths"]) (D_shelf_gain : Dn K mg "shelf_gain" s_shelf_gain ["worths", "person", "truth"]) (D_law_met_k03 : Dn K mg "_law_met" s_law_met_k03 ["worths", "way"]) : Cal P w K mg base C CX0 8 "_law_met" 2 (P_law_met_k03 c_BadWorths) :=
  ok_law_met_k03 (k := 7) T D_law_met_k03 (by decide) (cal_shelf_best T D_dealt D_numbers_right D_check_shelf D_shelf_best) (by decide) (cal_shelf_pays T D_worth_to D_dealt D_pay_of D_numbers_right D_check_shelf D_shelf_pays) (by decide) (cal_shelf_gain T D_worth_to D_dealt D_pay_of D_numbers_right D_check_shelf D_shelf_gain)
theorem cal_law (T : Tx K mg C c_BadWorths c_TollError) (D_dealt : Dn K mg "dealt" s_dealt ["worths", "taken"]) (D_numbers_right : Dn K mg "numbers_right" s_numbers_right ["numbers"]) (D_check_shelf : Dn K mg "check_shelf" s_check_shelf ["worths"]) (D_shelf_best : Dn K mg "shelf_best" s_shelf_best ["worths"]) (D_worth_to : Dn K mg "worth_to" s_worth_to ["row", "good"]) (D_pay_of : Dn K mg "pay_of" s_pay_of ["worths", "person"]) (D_shelf_pays : Dn K mg "shelf_pays" s_shelf_pays ["worths"]) (D_shelf_gain : Dn K mg "shelf_gain" s_shelf_gain ["worths", "person", "truth"]) (D_law_met_k03 : Dn K mg "_law_met" s_law_met_k03 ["worths", "way"]) (D_law_hurt_k03 : Dn K mg "_law_hurt" s_law_hurt_k03 ["worths", "cell"]) (D_law_cell_at : Dn K mg "_law_cell_at" s_law_cell_at ["script", "k"]) (D_law_mix : Dn K mg "_law_mix" s_law_mix ["cell", "k", "many"]) (D_law_worths_by : Dn K mg "_law_worths_by" s_law_worths_by ["script", "start", "people", "goods"]) (D_law_size_by : Dn K mg "_law_size_by" s_law_size_by ["script"]) {f : Addr} {fd : FuncData} (F : Fun K "law" "law" s_law_k03 f fd) : FnOk P w K mg base CX0 9 f fd ["script"] (spM K C 1 (P_law_k03 c_BadWorths)) :=
  ok_law_k03 (k := 8) T F (by decide) (cal_law_met_k03 T D_dealt D_numbers_right D_check_shelf D_shelf_best D_worth_to D_pay_of D_shelf_pays D_shelf_gain D_law_met_k03) (by decide) (cal_law_hurt_k03 T D_law_hurt_k03) (by decide) (cal_law_cell_at T D_law_cell_at) (by decide) (cal_law_worths_by T D_law_mix D_law_cell_at D_law_worths_by) (by decide) (cal_law_size_by T D_law_cell_at D_law_size_by)
end
def fnD : List He.DefD := [dat "numbers_right" s_numbers_right, dat "check_shelf" s_check_shelf, dat "dealt" s_dealt, dat "worth_to" s_worth_to, dat "shelf_best" s_shelf_best, dat "pay_of" s_pay_of, dat "shelf_pays" s_shelf_pays, dat "shelf_gain" s_shelf_gain, dat "_law_cell_at" s_law_cell_at, dat "_law_mix" s_law_mix, dat "_law_worths_by" s_law_worths_by, dat "_law_size_by" s_law_size_by, dat "_law_hurt" s_law_hurt_k03, dat "_law_met" s_law_met_k03, dat "law" s_law_k03]
def faD : List He.Fa := [.glo "numbers_right", .glo "check_shelf", .glo "dealt", .glo "worth_to", .glo "shelf_best", .glo "pay_of", .glo "shelf_pays", .glo "shelf_gain", .glo "_law_cell_at", .glo "_law_mix", .glo "_law_worths_by", .glo "_law_size_by", .glo "_law_hurt", .glo "_law_met", .glo "law", .free "ValueError", .free "all", .free "enumerate", .free "isinstance", .free "len", .free "list", .free "range", .int "MOST" 1000, .glo "BadWorths", .exc "BadWorths", .glo "TollError"]
abbrev RR : PySem.W.OpenRow := PySem.W.OpenLaw.row PySem.Challenge.rw_truthtoll_k03_shelf_refused
def exL (K : PySem.W.Frag) : List Bool := [exFB K (He.ga K "BadWorths"),
  decide (PySem.W.exmOne K (.ref (He.ga K "BadWorths")) (.ref (He.ga K "BadWorths")) = some true),
  decide (PySem.W.kitOne K (.ref (He.ga K "BadWorths")) (.ref (He.ga K "TollError")) = some true)]
def exD (K : PySem.W.Frag) : Bool := (exL K).all id
theorem exD_at {K : PySem.W.Frag} (h : exD K = true) {i : Nat} {b : Bool} (e : (exL K)[i]? = some b) : b = true := List.all_eq_true.mp h b (List.mem_of_getElem? e)
abbrev hkD : PySem.W.Hook := He.hookX 4 faD fnD [] [] exD
def obD (s : PySem.W.SharedT) : He.AlX := He.obsX 4 faD fnD [] [] exD (HandSHeadRun.getT s)
theorem obD_eq (s : PySem.W.SharedT) : obD s = hkD.obs s.abs := He.obsX_eq (HandSHeadRun.getT_eq s)
def nms0 : List PySem.Str := ["numbers_right", "check_shelf", "dealt", "worth_to", "shelf_best", "pay_of", "shelf_pays", "shelf_gain", "_law_cell_at", "_law_mix", "_law_worths_by", "_law_size_by", "_law_hurt", "_law_met", "TollError", "BadWorths", "MOST"]
def nms : List PySem.Str := nms0
set_option maxHeartbeats 0 in
theorem runD (w : World) : HandSHeadRun.RunEq RR (PySem.W.view RR.prog [20]) hkD obD 4000 nms w := by
  intro os
  kernel_rfl
section
variable {K : PySem.W.Frag} {h : Heap} {mg : Str → Option Value}
theorem tx_of (X : K.In h) (G : h.Ns mainGlobals mg) (c : He.SaysD faD fnD K) (cm : exD K = true) : Tx K mg 0 (He.ga K "BadWorths") (He.ga K "TollError") :=
  { b_ValueError := He.free_ok X G (c.fact 15 (f := .free "ValueError") rfl),
    b_all := He.free_ok X G (c.fact 16 (f := .free "all") rfl),
    b_enumerate := He.free_ok X G (c.fact 17 (f := .free "enumerate") rfl),
    b_isinstance := He.free_ok X G (c.fact 18 (f := .free "isinstance") rfl),
    b_len := He.free_ok X G (c.fact 19 (f := .free "len") rfl),
    b_list := He.free_ok X G (c.fact 20 (f := .free "list") rfl),
    b_range := He.free_ok X G (c.fact 21 (f := .free "range") rfl),
    g_MOST := He.int_ok X G (c.fact 22 (f := .int "MOST" 1000) rfl),
    x_BadWorths := (He.exc_ok (c.fact 24 (f := .exc "BadWorths") rfl)).1,
    g_BadWorths := He.glo_ok X G (c.fact 23 (f := .glo "BadWorths") rfl),
    k_BadWorths := (He.exc_ok (c.fact 24 (f := .exc "BadWorths") rfl)).2.1,
    s_BadWorths := (He.exc_ok (c.fact 24 (f := .exc "BadWorths") rfl)).2.2.1,
    t_BadWorths := (He.exc_ok (c.fact 24 (f := .exc "BadWorths") rfl)).2.2.2,
    g_TollError := He.glo_ok X G (c.fact 25 (f := .glo "TollError") rfl),
    f_BadWorths := exFB_ok (exD_at cm (i := 0) rfl),
    m_BadWorths_BadWorths := of_decide_eq_true (exD_at cm (i := 1) rfl),
    i_BadWorths_TollError := of_decide_eq_true (exD_at cm (i := 2) rfl) }
theorem dn_numbers_right (X : K.In h) (G : h.Ns mainGlobals mg) (c : He.SaysD faD fnD K) : Dn K mg "numbers_right" s_numbers_right ["numbers"] := dn_of X G c 0 0 rfl rfl fun _ _ _ _ _ _ us hl => match us, hl with | [_], _ => rfl
theorem dn_check_shelf (X : K.In h) (G : h.Ns mainGlobals mg) (c : He.SaysD faD fnD K) : Dn K mg "check_shelf" s_check_shelf ["worths"] := dn_of X G c 1 1 rfl rfl fun _ _ _ _ _ _ us hl => match us, hl with | [_], _ => rfl
theorem dn_dealt (X : K.In h) (G : h.Ns mainGlobals mg) (c : He.SaysD faD fnD K) : Dn K mg "dealt" s_dealt ["worths", "taken"] := dn_of X G c 2 2 rfl rfl fun _ _ _ _ _ _ us hl => match us, hl with | [_, _], _ => rfl
theorem dn_worth_to (X : K.In h) (G : h.Ns mainGlobals mg) (c : He.SaysD faD fnD K) : Dn K mg "worth_to" s_worth_to ["row", "good"] := dn_of X G c 3 3 rfl rfl fun _ _ _ _ _ _ us hl => match us, hl with | [_, _], _ => rfl
theorem dn_shelf_best (X : K.In h) (G : h.Ns mainGlobals mg) (c : He.SaysD faD fnD K) : Dn K mg "shelf_best" s_shelf_best ["worths"] := dn_of X G c 4 4 rfl rfl fun _ _ _ _ _ _ us hl => match us, hl with | [_], _ => rfl
theorem dn_pay_of (X : K.In h) (G : h.Ns mainGlobals mg) (c : He.SaysD faD fnD K) : Dn K mg "pay_of" s_pay_of ["worths", "person"] := dn_of X G c 5 5 rfl rfl fun _ _ _ _ _ _ us hl => match us, hl with | [_, _], _ => rfl
theorem dn_shelf_pays (X : K.In h) (G : h.Ns mainGlobals mg) (c : He.SaysD faD fnD K) : Dn K mg "shelf_pays" s_shelf_pays ["worths"] := dn_of X G c 6 6 rfl rfl fun _ _ _ _ _ _ us hl => match us, hl with | [_], _ => rfl
theorem dn_shelf_gain (X : K.In h) (G : h.Ns mainGlobals mg) (c : He.SaysD faD fnD K) : Dn K mg "shelf_gain" s_shelf_gain ["worths", "person", "truth"] := dn_of X G c 7 7 rfl rfl fun _ _ _ _ _ _ us hl => match us, hl with | [_, _, _], _ => rfl
theorem dn_law_cell_at (X : K.In h) (G : h.Ns mainGlobals mg) (c : He.SaysD faD fnD K) : Dn K mg "_law_cell_at" s_law_cell_at ["script", "k"] := dn_of X G c 8 8 rfl rfl fun _ _ _ _ _ _ us hl => match us, hl with | [_, _], _ => rfl
theorem dn_law_mix (X : K.In h) (G : h.Ns mainGlobals mg) (c : He.SaysD faD fnD K) : Dn K mg "_law_mix" s_law_mix ["cell", "k", "many"] := dn_of X G c 9 9 rfl rfl fun _ _ _ _ _ _ us hl => match us, hl with | [_, _, _], _ => rfl
theorem dn_law_worths_by (X : K.In h) (G : h.Ns mainGlobals mg) (c : He.SaysD faD fnD K) : Dn K mg "_law_worths_by" s_law_worths_by ["script", "start", "people", "goods"] := dn_of X G c 10 10 rfl rfl fun _ _ _ _ _ _ us hl => match us, hl with | [_, _, _, _], _ => rfl
theorem dn_law_size_by (X : K.In h) (G : h.Ns mainGlobals mg) (c : He.SaysD faD fnD K) : Dn K mg "_law_size_by" s_law_size_by ["script"] := dn_of X G c 11 11 rfl rfl fun _ _ _ _ _ _ us hl => match us, hl with | [_], _ => rfl
theorem dn_law_hurt_k03 (X : K.In h) (G : h.Ns mainGlobals mg) (c : He.SaysD faD fnD K) : Dn K mg "_law_hurt" s_law_hurt_k03 ["worths", "cell"] := dn_of X G c 12 12 rfl rfl fun _ _ _ _ _ _ us hl => match us, hl with | [_, _], _ => rfl
theorem dn_law_met_k03 (X : K.In h) (G : h.Ns mainGlobals mg) (c : He.SaysD faD fnD K) : Dn K mg "_law_met" s_law_met_k03 ["worths", "way"] := dn_of X G c 13 13 rfl rfl fun _ _ _ _ _ _ us hl => match us, hl with | [_, _], _ => rfl
end
end Z
open PySem PySem.W PySem.Calls PyProof.Rows
theorem PySem.Challenge.cw_truthtoll_k03_shelf_refused_holds : PySem.Challenge.rw_truthtoll_k03_shelf_refused.Holds := by
  w_on; o_law
  refine HandSHeadRun.head_any (r := OpenLaw.row PySem.Challenge.rw_truthtoll_k03_shelf_refused) (q := view (OpenLaw.row PySem.Challenge.rw_truthtoll_k03_shelf_refused).prog [20]) (H := Z.hkD) (ob := Z.obD) (M := 4000) (loose := Z.nms) (d := HandSHeadRun.topDef (OpenLaw.row PySem.Challenge.rw_truthtoll_k03_shelf_refused).prog 20) (kwd := []) Z.obD_eq
    (by kernel_rfl) (fun s => by kernel_rfl) Z.runD (by kernel_rfl) (by kernel_rfl) (by kernel_rfl) (by rfl) (by first | assumption | decide +kernel) (by decide +kernel) ⟨rfl, rfl, rfl, rfl, rfl, by decide +kernel⟩ ?hw ?hc
  case hw => w_witness2
  case hc =>
    refine L2.walk_ofE (l := PySem.Challenge.rw_truthtoll_k03_shelf_refused) (n := 63) (k := 9) (x := "script") (CX := L2.CX0) rfl (by decide) (by kernel_rfl) ⟨rfl, by decide, by decide⟩ ?F (fun _ _ _ _ z => z)
    intro w mg fa h Y G hmg0
    obtain ⟨K, KX, cX⟩ := Y
    have c := cX.t.d
    have cm := cX.more
    have hmg : mg ("law" : PySem.Str) = some (.ref fa) := by
      have e : (HandSHeadRun.topDef (OpenLaw.row PySem.Challenge.rw_truthtoll_k03_shelf_refused).prog 20).name = ("law" : PySem.Str) := by kernel_rfl
      rw [← e]
      exact hmg0
    have hq := hmg.symm.trans (He.glo_ok KX G (c.fact 14 (f := .glo "law") rfl))
    cases hq
    obtain ⟨fd, F⟩ := c.def_ 14 (d := Z.dat "law" Z.s_law_k03) rfl
    have F2 : L2.Fun K "law" "law" Z.s_law_k03 (He.fAd K ("law", none)) fd := Z.funD_fun F
    have b := L2.FunD.bindsA (ps := ["script"]) F fun _ _ _ _ _ _ us hl => match us, hl with | [_], _ => rfl
    exact ⟨K, fd, Z.spM K 0 1 (Z.P_law_k03 (He.ga K "BadWorths")), KX, fun s v => b s [v] rfl, fun H a ns hl _ hS => Z.spM_law hS (Z.main_k03 (He.ga K "BadWorths") ns hl), fun base _ _ => Z.cal_law (Z.tx_of KX G c cm) (Z.dn_dealt KX G c) (Z.dn_numbers_right KX G c) (Z.dn_check_shelf KX G c) (Z.dn_shelf_best KX G c) (Z.dn_worth_to KX G c) (Z.dn_pay_of KX G c) (Z.dn_shelf_pays KX G c) (Z.dn_shelf_gain KX G c) (Z.dn_law_met_k03 KX G c) (Z.dn_law_hurt_k03 KX G c) (Z.dn_law_cell_at KX G c) (Z.dn_law_mix KX G c) (Z.dn_law_worths_by KX G c) (Z.dn_law_size_by KX G c) F2⟩
