import PyProof.Rows.All
import Wide.All
import OpenK.AllK
import Wide.FinOn
import HandS.ForMost
import HandS.Style
import HandS.IsInst
import HandS.Exc
import HandS.ExcOwn
import HandS.TryOnly
import HandS.WordsExc
import HandS.SortInts
import HandS.Head0
import HandS.Head1
import HandS.Head2
import HandS.HeadEnd
import HandS.HeadHook1
import HandS.HeadHook2
import HandS.HeadHook4
import HandS.Defaults
import KE.KExcIs
import HandS.TryMany
import KE.LtData
import HandS.SortRule
import HandS.SetFor
import HandS.ExcInit
import HandS.ExcField
import HandS.Conv
import HandS.HotCalls
import PySem.Challenge.RW_truthtoll_k09_webs
set_option Elab.async false
set_option linter.all false
set_option maxRecDepth 100000
set_option maxHeartbeats 4000000
/-! Z, part A: plain data D, what it is to stand for data (Is), the state word SS, outcomes Rs, judgements of expressions. -/
namespace Z
open PySem L2
/-! ### data -/
inductive D where
  | non | bl (b : Bool) | int (i : Int) | str (x : Str)
  | lst (ds : List D) | tup (ds : List D)
  | web (n : Int) (ds : List D)
  | scr (ns : List Int)
  | adr (a : Addr)
def webF (n : Int) (r : Addr) : List (Str × V) := putF "roads" (.ref r) (putF "places" (.int n) [])
mutual
inductive Is (K : PySem.W.Frag) (C : Addr) (F : Hp) : V → D → Prop
  | non : Is K C F .non .non
  | bl (b : Bool) : Is K C F (.bl b) (.bl b)
  | int (i : Int) : Is K C F (.int i) (.int i)
  | str (x : Str) : Is K C F (.str x) (.str x)
  | lst {a : Addr} {vs : List V} {ds : List D} : F a = some (.lst vs) → IsA K C F vs ds → Is K C F (.ref a) (.lst ds)
  | tup {a : Addr} {vs : List V} {ds : List D} : F a = some (.tup vs) → IsA K C F vs ds → Is K C F (.ref a) (.tup ds)
  | web {a dx r : Addr} {vs : List V} {ds : List D} {n : Int} : F a = some (.ins C dx (webF n r)) → F dx = some (.own a) → F r = some (.lst vs) → IsA K C F vs ds → Is K C F (.ref a) (.web n ds)
  | scr {a : Addr} {ns : List Int} : SqL K F a (ns.map V.int) → Is K C F (.ref a) (.scr ns)
  | adr (a : Addr) : Is K C F (.ref a) (.adr a)
inductive IsA (K : PySem.W.Frag) (C : Addr) (F : Hp) : List V → List D → Prop
  | nil : IsA K C F [] []
  | cons {v : V} {vs : List V} {d : D} {ds : List D} : Is K C F v d → IsA K C F vs ds → IsA K C F (v :: vs) (d :: ds)
end
section
variable {K : PySem.W.Frag} {C : Addr} {F F' : Hp}
mutual
theorem Is.mono (e : Same F F') : ∀ (d : D) (v : V), Is K C F v d → Is K C F' v d
  | .non, _, h => by cases h; exact .non
  | .bl b, _, h => by cases h; exact .bl b
  | .int i, _, h => by cases h; exact .int i
  | .str x, _, h => by cases h; exact .str x
  | .lst ds, _, h => by
    cases h with
    | lst h1 h2 => exact .lst (e _ _ h1) (IsA.mono e ds _ h2)
  | .tup ds, _, h => by
    cases h with
    | tup h1 h2 => exact .tup (e _ _ h1) (IsA.mono e ds _ h2)
  | .web n ds, _, h => by
    cases h with
    | web h1 h2 h3 h4 => exact .web (e _ _ h1) (e _ _ h2) (e _ _ h3) (IsA.mono e ds _ h4)
  | .scr ns, _, h => by
    cases h with
    | scr h1 => exact .scr (e.seq h1)
  | .adr a, _, h => by cases h; exact .adr a
theorem IsA.mono (e : Same F F') : ∀ (ds : List D) (vs : List V), IsA K C F vs ds → IsA K C F' vs ds
  | [], _, h => by cases h; exact .nil
  | d :: ds, _, h => by
    cases h with
    | cons h1 h2 => exact .cons (Is.mono e d _ h1) (IsA.mono e ds _ h2)
end
theorem IsA.len : ∀ {vs : List V} {ds : List D}, IsA K C F vs ds → vs.length = ds.length
  | _, _, .nil => rfl
  | _, _, .cons _ t => congrArg Nat.succ (IsA.len t)
theorem IsA.get : ∀ {vs : List V} {ds : List D} {i : Nat} {d : D}, IsA K C F vs ds → ds[i]? = some d → ∃ v, vs[i]? = some v ∧ Is K C F v d
  | _, _, _, _, .nil, e => by simp at e
  | _, _, 0, d, .cons h _, e => by
    have e' := Option.some.inj e
    subst e'
    exact ⟨_, rfl, h⟩
  | _, _, i + 1, d, .cons _ t, e => by
    obtain ⟨v, h1, h2⟩ := IsA.get (i := i) (d := d) t (by simpa using e)
    exact ⟨v, by simpa using h1, h2⟩
theorem IsA.at : ∀ {vs : List V} {ds : List D} {i : Nat} {v : V}, IsA K C F vs ds → vs[i]? = some v → ∃ d, ds[i]? = some d ∧ Is K C F v d
  | _, _, _, _, .nil, e => by simp at e
  | _, _, 0, v, .cons h _, e => by
    have e' := Option.some.inj e
    subst e'
    exact ⟨_, rfl, h⟩
  | _, _, i + 1, v, .cons _ t, e => by
    obtain ⟨d, h1, h2⟩ := IsA.at (i := i) (v := v) t (by simpa using e)
    exact ⟨d, by simpa using h1, h2⟩
theorem IsA.append : ∀ {vs ws : List V} {ds es : List D}, IsA K C F vs ds → IsA K C F ws es → IsA K C F (vs ++ ws) (ds ++ es)
  | _, _, _, _, .nil, s => s
  | _, _, _, _, .cons r t, s => .cons r (IsA.append t s)
theorem IsA.take : ∀ {vs : List V} {ds : List D} (n : Nat), IsA K C F vs ds → IsA K C F (vs.take n) (ds.take n)
  | _, _, 0, _ => .nil
  | _, _, _ + 1, .nil => .nil
  | _, _, n + 1, .cons r t => .cons r (IsA.take n t)
theorem IsA.drop : ∀ {vs : List V} {ds : List D} (n : Nat), IsA K C F vs ds → IsA K C F (vs.drop n) (ds.drop n)
  | _, _, 0, r => r
  | _, _, _ + 1, .nil => .nil
  | _, _, n + 1, .cons _ t => IsA.drop n t
theorem IsA.reverse : ∀ {vs : List V} {ds : List D}, IsA K C F vs ds → IsA K C F vs.reverse ds.reverse
  | _, _, .nil => .nil
  | _, _, .cons r t => by
    rw [List.reverse_cons, List.reverse_cons]
    exact (IsA.reverse t).append (.cons r .nil)
theorem IsA.set {v : V} {d : D} (r : Is K C F v d) : ∀ {vs : List V} {ds : List D} (n : Nat), IsA K C F vs ds → IsA K C F (vs.set n v) (ds.set n d)
  | _, _, _, .nil => .nil
  | _, _, 0, .cons _ t => .cons r t
  | _, _, n + 1, .cons q t => .cons q (IsA.set r n t)
theorem IsA.rep {vs : List V} {ds : List D} (h : IsA K C F vs ds) : ∀ n : Nat, IsA K C F (List.replicate n vs).flatten (List.replicate n ds).flatten
  | 0 => .nil
  | n + 1 => by
    rw [List.replicate_succ, List.replicate_succ, List.flatten_cons, List.flatten_cons]
    exact h.append (IsA.rep h n)
end
/-! ### outcomes -/
inductive Rs (α : Type) where
  | ok (a : α)
  | ex (c : Addr) (r : Option Int)
  | no
def Rs.bind {α β : Type} (o : Rs α) (f : α → Rs β) : Rs β := match o with
  | .ok a => f a
  | .ex c r => .ex c r
  | .no => .no
def Rs.of {α : Type} : Option α → Rs α
  | some a => .ok a
  | none => .no
@[simp] theorem Rs.bind_ok {α β : Type} (a : α) (f : α → Rs β) : (Rs.ok a).bind f = f a := rfl
@[simp] theorem Rs.bind_ex {α β : Type} (c : Addr) (r : Option Int) (f : α → Rs β) : (Rs.ex c r).bind f = .ex c r := rfl
@[simp] theorem Rs.bind_no {α β : Type} (f : α → Rs β) : (Rs.no).bind f = .no := rfl
@[simp] theorem Rs.of_some {α : Type} (a : α) : Rs.of (some a) = .ok a := rfl
@[simp] theorem Rs.of_none {α : Type} : Rs.of (none : Option α) = .no := rfl
/-! ### the state: F is the frozen part of the heap H; P the cells that may still change; T what is held besides the names -/
structure Bs where
  K : PySem.W.Frag
  C : Addr
  F : Hp
  H : Hp
abbrev G := List (Option D)
structure Fz (B : Bs) (g : G) (P : List (Addr × List V)) (T : List (V × D)) (σ : L2.St) (H F : Hp) : Prop where
  eF : Same B.F F
  eH : Same F H
  e0 : Same B.H H
  nw : ∀ p, B.H p ≠ none → B.F p = none → F p = none
  sl : ∀ (i : Nat) (d : D), g[i]? = some (some d) → ∃ v, σ[i]? = some (some v) ∧ Is B.K B.C F v d
  ln : σ.length = g.length
  ts : ∀ x ∈ T, Is B.K B.C F x.1 x.2
  pr : ∀ x ∈ P, F x.1 = none ∧ B.H x.1 = none ∧ H x.1 = some (.lst x.2)
def SS (B : Bs) (g : G) (P : List (Addr × List V)) (T : List (V × D)) (σ : L2.St) (H : Hp) : Prop := ∃ F, Fz B g P T σ H F
section
variable {B : Bs} {g g' : G} {P P' : List (Addr × List V)} {T T' : List (V × D)} {σ σ' : L2.St} {H H2 F F2 : Hp} {v : V} {d : D}
theorem Fz.grow (h : Fz B g P T σ H F) (a : Same F F2) (b : Same F2 H2) (c : Same H H2) (n : ∀ p, H p ≠ none → F p = none → F2 p = none) : Fz B g P T σ H2 F2 where
  eF := h.eF.trans a
  eH := b
  e0 := h.e0.trans c
  nw := fun p hp hf => by
    refine n p (fun z => ?_) (h.nw p hp hf)
    cases q : B.H p with
    | none => exact hp q
    | some o =>
      rw [h.e0 p o q] at z
      cases z
  sl := fun i d e => by
    obtain ⟨v, h1, h2⟩ := h.sl i d e
    exact ⟨v, h1, Is.mono a d v h2⟩
  ln := h.ln
  ts := fun x hx => Is.mono a _ _ (h.ts x hx)
  pr := fun x hx => by
    obtain ⟨h1, h2, h3⟩ := h.pr x hx
    exact ⟨n x.1 (by rw [h3]; exact fun z => nomatch z) h1, h2, c _ _ h3⟩
theorem Fz.addT (h : Fz B g P T σ H F) (i : Is B.K B.C F v d) : Fz B g P ((v, d) :: T) σ H F := by
  have z : ∀ x ∈ (v, d) :: T, Is B.K B.C F x.1 x.2 := fun x hx => by
    rcases List.mem_cons.mp hx with e | e
    · rw [e]
      exact i
    · exact h.ts x e
  exact { h with ts := z }
theorem Fz.sub (h : Fz B g P T σ H F) (t : ∀ x ∈ T', x ∈ T) : Fz B g P T' σ H F := { h with ts := fun x hx => h.ts x (t x hx) }
theorem Fz.subP (h : Fz B g P T σ H F) (t : ∀ x ∈ P', x ∈ P) : Fz B g P' T σ H F := { h with pr := fun x hx => h.pr x (t x hx) }
theorem SS.sub (h : SS B g P T σ H) (t : ∀ x ∈ T', x ∈ T) : SS B g P T' σ H := let ⟨F, f⟩ := h; ⟨F, f.sub t⟩
theorem SS.subP (h : SS B g P T σ H) (t : ∀ x ∈ P', x ∈ P) : SS B g P' T σ H := let ⟨F, f⟩ := h; ⟨F, f.subP t⟩
theorem SS.tail {x : V × D} (h : SS B g P (x :: T) σ H) : SS B g P T σ H := h.sub fun _ m => List.mem_cons_of_mem _ m
theorem Fz.free (h : Fz B g P T σ H F) {p : Addr} (n : H p = none) : F p = none := h.eH.free n
/-- a new thing at p -/
theorem Fz.new (h : Fz B g P T σ H F) {p : Addr} (n : H p = none) (o : HO) : Fz B g P T σ (upd H p o) (upd F p o) := by
  have nf := h.free n
  refine h.grow (fun b u e => ?_) (fun b u e => ?_) (fun b u e => ?_) (fun q hq hf => ?_)
  · rw [upd_ne (ne_of_none e nf)]; exact e
  · by_cases z : b = p
    · subst z
      rw [upd_same] at e ⊢
      exact e
    · rw [upd_ne z] at e ⊢
      exact h.eH b u e
  · rw [upd_ne (ne_of_none e n)]; exact e
  · have z : q ≠ p := fun z => hq (by rw [z]; exact n)
    rw [upd_ne z]
    exact hf
/-- the heap gets a thing that nobody holds yet -/
theorem Fz.mut (h : Fz B g P T σ H F) {p : Addr} (n : H p = none) (o : HO) : Fz B g P T σ (upd H p o) F := by
  refine h.grow (Same.refl F) (fun b u e => ?_) (fun b u e => ?_) (fun q _ hf => hf)
  · have z := h.eH b u e
    rw [upd_ne (ne_of_none z n)]
    exact z
  · rw [upd_ne (ne_of_none e n)]; exact e
abbrev Al (T : List (V × D)) : List V → List D → Prop := Paired fun v d => (v, d) ∈ T
theorem Fz.all (h : Fz B g P T σ H F) : ∀ {vs : List V} {ds : List D}, Al T vs ds → IsA B.K B.C F vs ds
  | _, _, .nil => .nil
  | _, _, .cons r t => .cons (h.ts _ r) (Fz.all h t)
theorem Al.mono (t : ∀ x ∈ T, x ∈ T') : ∀ {vs : List V} {ds : List D}, Al T vs ds → Al T' vs ds
  | _, _, .nil => .nil
  | _, _, .cons r q => .cons (t _ r) (Al.mono t q)
theorem Al.len : ∀ {vs : List V} {ds : List D}, Al T vs ds → vs.length = ds.length
  | _, _, .nil => rfl
  | _, _, .cons _ q => congrArg Nat.succ (Al.len q)
theorem SS.newT (h : SS B g P T σ H) {p : Addr} {vs : List V} {ds : List D} (n : H p = none) (a : Al T vs ds) : SS B g P ((.ref p, .tup ds) :: T) σ (upd H p (.tup vs)) := by
  obtain ⟨F, f⟩ := h
  have f2 := f.new n (.tup vs)
  exact ⟨_, f2.addT (.tup upd_same (f2.all a))⟩
theorem SS.newL (h : SS B g P T σ H) {p : Addr} {vs : List V} {ds : List D} (n : H p = none) (a : Al T vs ds) : SS B g P ((.ref p, .lst ds) :: T) σ (upd H p (.lst vs)) := by
  obtain ⟨F, f⟩ := h
  have f2 := f.new n (.lst vs)
  exact ⟨_, f2.addT (.lst upd_same (f2.all a))⟩
/-- a thing held holds its things -/
theorem SS.addT (h : SS B g P T σ H) (i : ∀ F, Fz B g P T σ H F → Is B.K B.C F v d) : SS B g P ((v, d) :: T) σ H := let ⟨F, f⟩ := h; ⟨F, f.addT (i F f)⟩
end
/-! ### wishes -/
def XOk (H0 : Hp) (E : XK) (c : Addr) : Option Int → Prop
  | none => ∀ H', Same H0 H' → E (.ref c) none H'
  | some r => ∀ d H', Same H0 H' → H0 d = none → H' d = some (.xd [(("road" : Str), .int r)]) → E (.ref c) (some d) H'
def Wish {α : Type} (H0 : Hp) (E : XK) : Rs α → (α → Prop) → Prop
  | .ok a, Q => Q a
  | .ex c r, _ => XOk H0 E c r
  | .no, _ => False
section
variable {α β : Type} {H0 : Hp} {E : XK}
theorem Wish.mono {o : Rs α} {Q Q' : α → Prop} (h : Wish H0 E o Q) (q : ∀ a, Q a → Q' a) : Wish H0 E o Q' := by
  cases o with
  | ok a => exact q a h
  | ex c r => exact h
  | no => exact h
theorem Wish.bind {o : Rs α} {f : α → Rs β} {Q : β → Prop} (h : Wish H0 E (o.bind f) Q) : Wish H0 E o fun a => Wish H0 E (f a) Q := by
  cases o with
  | ok a => exact h
  | ex c r => exact h
  | no => exact h
theorem Wish.of {o : Option α} {Q : α → Prop} (h : Wish H0 E (Rs.of o) Q) : ∃ a, o = some a ∧ Q a := by
  cases o with
  | some a => exact ⟨a, rfl, h⟩
  | none => exact h.elim
end
/-! ### judgements of readings -/
structure EM (K : PySem.W.Frag) (C : Addr) (E : XK) (te : TE) (m : G → Rs D) : Prop where
  run : ∀ F0 H0 g P T σ H Q, SS ⟨K, C, F0, H0⟩ g P T σ H → Wish H0 E (m g) (fun d => ∀ v H', SS ⟨K, C, F0, H0⟩ g P ((v, d) :: T) σ H' → Q v H') → te σ H Q
structure TM (K : PySem.W.Frag) (C : Addr) (E : XK) (tt : TT) (m : G → Rs Bool) : Prop where
  run : ∀ F0 H0 g P T σ H Q, SS ⟨K, C, F0, H0⟩ g P T σ H → Wish H0 E (m g) (fun b => ∀ H', SS ⟨K, C, F0, H0⟩ g P T σ H' → Q b H') → tt σ H Q
structure AM (K : PySem.W.Frag) (C : Addr) (E : XK) (ta : TA) (m : G → Rs (List D)) : Prop where
  run : ∀ F0 H0 g P T σ H Q, SS ⟨K, C, F0, H0⟩ g P T σ H → Wish H0 E (m g) (fun ds => ∀ vs T' H', (∀ x ∈ T, x ∈ T') → Al T' vs ds → SS ⟨K, C, F0, H0⟩ g P T' σ H' → Q vs H') → ta σ H Q
/-- a new list, not frozen yet -/
structure LM (K : PySem.W.Frag) (C : Addr) (E : XK) (te : TE) (m : G → Rs (List D)) : Prop where
  run : ∀ F0 H0 g P T σ H Q, SS ⟨K, C, F0, H0⟩ g P T σ H → Wish H0 E (m g) (fun ds => ∀ p vs T' H', (∀ x ∈ T, x ∈ T') → Al T' vs ds → (∀ x ∈ P, x.1 ≠ p) → SS ⟨K, C, F0, H0⟩ g ((p, vs) :: P) T' σ H' → Q (.ref p) H') → te σ H Q
structure PEM (X : Cx) (K : PySem.W.Frag) (C : Addr) (E : XK) (e : Expr) (te : TE) (m : G → Rs D) : Prop where
  p : PE X e te
  q : EM K C E te m
structure PTM (X : Cx) (K : PySem.W.Frag) (C : Addr) (E : XK) (e : Expr) (tt : TT) (m : G → Rs Bool) : Prop where
  p : PT X e tt
  q : TM K C E tt m
structure PWM (X : Cx) (K : PySem.W.Frag) (C : Addr) (E : XK) (e : Expr) (tt : TT) (m : G → Rs Bool) : Prop where
  p : PW X e tt
  q : TM K C E tt m
structure PAM (X : Cx) (K : PySem.W.Frag) (C : Addr) (E : XK) (es : List Expr) (ta : TA) (m : G → Rs (List D)) : Prop where
  p : PA X es ta
  q : AM K C E ta m
structure PLM (X : Cx) (K : PySem.W.Frag) (C : Addr) (E : XK) (e : Expr) (te : TE) (m : G → Rs (List D)) : Prop where
  p : PE X e te
  q : LM K C E te m
/-! ### mirrors of expressions -/
def mV (i : Nat) : G → Rs D := fun g => match g[i]? with
  | some (some d) => .ok d
  | _ => .no
def mC (d : D) : G → Rs D := fun _ => .ok d
def m1 (f : D → Option D) (a : G → Rs D) : G → Rs D := fun g => (a g).bind fun x => .of (f x)
def m2 (f : D → D → Option D) (a b : G → Rs D) : G → Rs D := fun g => (a g).bind fun x => (b g).bind fun y => .of (f x y)
def mNil : G → Rs (List D) := fun _ => .ok []
def mCons (a : G → Rs D) (r : G → Rs (List D)) : G → Rs (List D) := fun g => (a g).bind fun x => (r g).bind fun xs => .ok (x :: xs)
def mA (f : List D → Option D) (a : G → Rs (List D)) : G → Rs D := fun g => (a g).bind fun xs => .of (f xs)
def mCall (f : List D → Rs D) (a : G → Rs (List D)) : G → Rs D := fun g => (a g).bind f
def mTup (a : G → Rs (List D)) : G → Rs D := fun g => (a g).bind fun xs => .ok (.tup xs)
def mLst (a : G → Rs (List D)) : G → Rs D := fun g => (a g).bind fun xs => .ok (.lst xs)
def mT (a : G → Rs D) : G → Rs Bool := fun g => (a g).bind fun x => match x with
  | .bl b => .ok b
  | _ => .no
def mAnd (a b : G → Rs Bool) : G → Rs Bool := fun g => (a g).bind fun x => if x = true then b g else .ok false
def mOr (a b : G → Rs Bool) : G → Rs Bool := fun g => (a g).bind fun x => if x = true then .ok true else b g
def mNot (a : G → Rs Bool) : G → Rs Bool := fun g => (a g).bind fun x => .ok (!x)
def mB (a : G → Rs Bool) : G → Rs D := fun g => (a g).bind fun b => .ok (.bl b)
def mIf (c : G → Rs Bool) (a b : G → Rs D) : G → Rs D := fun g => (c g).bind fun x => if x = true then a g else b g
section
variable {K : PySem.W.Frag} {C : Addr} {E : XK} {te ta tb : TE} {m ma mb : G → Rs D}
theorem em_v (i : Nat) : EM K C E (tVar i) (mV i) := ⟨fun F0 H0 g P T σ H Q S h => by
  unfold mV at h
  split at h
  · rename_i d e
    obtain ⟨F, f⟩ := S
    obtain ⟨v, h1, h2⟩ := f.sl i d e
    exact ⟨v, h1, h v H ⟨F, f.addT h2⟩⟩
  · exact h.elim⟩
theorem em_c {v : V} {d : D} (hi : ∀ F, Is K C F v d) : EM K C E (tC v) (mC d) := ⟨fun F0 H0 g P T σ H Q S h => h v H (S.addT fun F _ => hi F)⟩
def R1M (K : PySem.W.Frag) (C : Addr) (r : V → Hp → VK → Prop) (f : D → Option D) : Prop := ∀ F0 H0 g P T σ H (Q : VK) x dx d, SS ⟨K, C, F0, H0⟩ g P T σ H → (x, dx) ∈ T → f dx = some d → (∀ v H', SS ⟨K, C, F0, H0⟩ g P ((v, d) :: T) σ H' → Q v H') → r x H Q
def R2M (K : PySem.W.Frag) (C : Addr) (r : R2) (f : D → D → Option D) : Prop := ∀ F0 H0 g P T σ H (Q : VK) x y dx dy d, SS ⟨K, C, F0, H0⟩ g P T σ H → (x, dx) ∈ T → (y, dy) ∈ T → f dx dy = some d → (∀ v H', SS ⟨K, C, F0, H0⟩ g P ((v, d) :: T) σ H' → Q v H') → r x y H Q
def RAM (K : PySem.W.Frag) (C : Addr) (r : List V → Hp → VK → Prop) (f : List D → Option D) : Prop := ∀ F0 H0 g P T σ H (Q : VK) xs ds d, SS ⟨K, C, F0, H0⟩ g P T σ H → Al T xs ds → f ds = some d → (∀ v H', SS ⟨K, C, F0, H0⟩ g P ((v, d) :: T) σ H' → Q v H') → r xs H Q
theorem em_1 {r : V → Hp → VK → Prop} {f : D → Option D} (hr : R1M K C r f) (a : EM K C E ta ma) : EM K C E (tUn r ta) (m1 f ma) := ⟨fun F0 H0 g P T σ H Q S h =>
  a.run F0 H0 g P T σ H _ S (h.bind.mono fun x hx v H' S1 => by
    obtain ⟨d, e, q⟩ := hx.of
    exact hr F0 H0 g P _ σ H' Q v x d S1 List.mem_cons_self e fun v2 H2 S2 => q v2 H2 (S2.sub fun z hz => by
      rcases List.mem_cons.mp hz with e | e
      · exact List.mem_cons.mpr (.inl e)
      · exact List.mem_cons_of_mem _ (List.mem_cons_of_mem _ e)))⟩
theorem em_2 {r : R2} {f : D → D → Option D} (hr : R2M K C r f) (a : EM K C E ta ma) (b : EM K C E tb mb) : EM K C E (tOp r ta tb) (m2 f ma mb) := ⟨fun F0 H0 g P T σ H Q S h =>
  a.run F0 H0 g P T σ H _ S (h.bind.mono fun x hx v H' S1 => b.run F0 H0 g P _ σ H' _ S1 (hx.bind.mono fun y hy v' H'' S2 => by
    obtain ⟨d, e, q⟩ := hy.of
    exact hr F0 H0 g P _ σ H'' Q v v' x y d S2 (List.mem_cons_of_mem _ List.mem_cons_self) List.mem_cons_self e fun v2 H2 S3 => q v2 H2 (S3.sub fun z hz => by
      rcases List.mem_cons.mp hz with e | e
      · exact List.mem_cons.mpr (.inl e)
      · exact List.mem_cons_of_mem _ (List.mem_cons_of_mem _ (List.mem_cons_of_mem _ e)))))⟩
theorem am_nil : AM K C E tNil mNil := ⟨fun F0 H0 g P T σ H Q S h => h [] T H (fun _ z => z) .nil S⟩
theorem am_cons {tr : TA} {mr : G → Rs (List D)} (a : EM K C E ta ma) (r : AM K C E tr mr) : AM K C E (tCons ta tr) (mCons ma mr) := ⟨fun F0 H0 g P T σ H Q S h =>
  a.run F0 H0 g P T σ H _ S (h.bind.mono fun x hx v H' S1 => r.run F0 H0 g P _ σ H' _ S1 (hx.bind.mono fun xs hxs vs T' H'' ht al S2 =>
    hxs (v :: vs) T' H'' (fun z hz => ht z (List.mem_cons_of_mem _ hz)) (.cons (ht _ List.mem_cons_self) al) S2))⟩
theorem em_cb {r : List V → Hp → VK → Prop} {f : List D → Option D} {t : TA} {ms : G → Rs (List D)} (hr : RAM K C r f) (a : AM K C E t ms) : EM K C E (tCB r t) (mA f ms) := ⟨fun F0 H0 g P T σ H Q S h =>
  a.run F0 H0 g P T σ H _ S (h.bind.mono fun xs hx vs T' H' ht al S1 => by
    obtain ⟨d, e, q⟩ := hx.of
    exact hr F0 H0 g P _ σ H' Q vs xs d S1 al e fun v2 H2 S2 => q v2 H2 (S2.sub fun z hz => by
      rcases List.mem_cons.mp hz with e | e
      · exact List.mem_cons.mpr (.inl e)
      · exact List.mem_cons_of_mem _ (ht z e)))⟩
theorem em_tup {t : TA} {ms : G → Rs (List D)} (a : AM K C E t ms) (hl : ∀ g ds, ms g = .ok ds → ds.length ≤ 1000) : EM K C E (tTup t) (mTup ms) := ⟨fun F0 H0 g P T σ H Q S h =>
  a.run F0 H0 g P T σ H _ S (by
    unfold mTup at h
    cases e : ms g with
    | ok ds =>
      rw [e] at h
      show ∀ vs T' H', _ → _ → _ → _
      intro vs T' H' ht al S1
      refine ⟨by rw [al.len]; exact Nat.le_of_lt (small1000 (hl g ds e)), fun p hp => ?_⟩
      exact h _ _ ((S1.newT hp al).sub fun z hz => by
        rcases List.mem_cons.mp hz with e | e
        · exact List.mem_cons.mpr (.inl e)
        · exact List.mem_cons_of_mem _ (ht z e))
    | ex c r =>
      rw [e] at h
      exact h
    | no =>
      rw [e] at h
      exact h)⟩
/-- a new list that one holds -/
theorem em_l {ms : G → Rs (List D)} (a : LM K C E te ms) : EM K C E te (mLst ms) := ⟨fun F0 H0 g P T σ H Q S h =>
  a.run F0 H0 g P T σ H _ S (h.bind.mono fun ds hd p vs T' H' ht al hp S1 => by
    obtain ⟨F, f⟩ := S1
    obtain ⟨p1, p2, p3⟩ := f.pr (p, vs) List.mem_cons_self
    have f' : Fz ⟨K, C, F0, H0⟩ g P T' σ H' F := f.subP fun z hz => List.mem_cons_of_mem _ hz
    have f2 : Fz ⟨K, C, F0, H0⟩ g P T' σ H' (upd F p (.lst vs)) :=
      { eF := fun b u e => by
          have z := f'.eF b u e
          rw [upd_ne (ne_of_none z p1)]
          exact z
        eH := fun b u e => by
          by_cases z : b = p
          · subst z
            rw [upd_same] at e
            rw [← e]
            exact p3
          · rw [upd_ne z] at e
            exact f'.eH b u e
        e0 := f'.e0
        nw := fun q hq hf => by
          have z : q ≠ p := fun z => hq (by rw [z]; exact p2)
          rw [upd_ne z]
          exact f'.nw q hq hf
        sl := fun i d e => by
          obtain ⟨v, h1, h2⟩ := f'.sl i d e
          exact ⟨v, h1, Is.mono (fun b u e => by rw [upd_ne (ne_of_none e p1)]; exact e) d v h2⟩
        ln := f'.ln
        ts := fun x hx => Is.mono (fun b u e => by rw [upd_ne (ne_of_none e p1)]; exact e) _ _ (f'.ts x hx)
        pr := fun x hx => by
          obtain ⟨q1, q2, q3⟩ := f'.pr x hx
          exact ⟨by rw [upd_ne (hp x hx)]; exact q1, q2, q3⟩ }
    exact hd _ _ ⟨_, (f2.addT (.lst upd_same (f2.all al))).sub fun z hz => by
      rcases List.mem_cons.mp hz with e | e
      · exact List.mem_cons.mpr (.inl e)
      · exact List.mem_cons_of_mem _ (ht z e)⟩)⟩
theorem lm_new {P : List (Addr × List V)} {g : G} {T : List (V × D)} {σ : L2.St} {H : Hp} {B : Bs} {p : Addr} (S : SS B g P T σ H) (n : H p = none) (vs : List V) : (∀ x ∈ P, x.1 ≠ p) ∧ SS B g ((p, vs) :: P) T σ (upd H p (.lst vs)) := by
  obtain ⟨F, f⟩ := S
  refine ⟨fun x hx z => ?_, F, ?_⟩
  · obtain ⟨_, _, q3⟩ := f.pr x hx
    rw [z, n] at q3
    cases q3
  · have f2 := f.mut n (.lst vs)
    have z : ∀ x ∈ (p, vs) :: P, F x.1 = none ∧ B.H x.1 = none ∧ (upd H p (.lst vs)) x.1 = some (.lst x.2) := fun x hx => by
      rcases List.mem_cons.mp hx with e | e
      · subst e
        exact ⟨f.free n, f.e0.free n, upd_same⟩
      · exact f2.pr x e
    exact { f2 with pr := z }
theorem lm_lst {t : TA} {ms : G → Rs (List D)} (a : AM K C E t ms) (hl : ∀ g ds, ms g = .ok ds → ds.length ≤ 1000) : LM K C E (tLst t) ms := ⟨fun F0 H0 g P T σ H Q S h =>
  a.run F0 H0 g P T σ H _ S (by
    cases e : ms g with
    | ok ds =>
      rw [e] at h
      show ∀ vs T' H', _ → _ → _ → _
      intro vs T' H' ht al S1
      refine ⟨by rw [al.len]; exact Nat.le_of_lt (small1000 (hl g ds e)), fun p hp => ?_⟩
      obtain ⟨h1, h2⟩ := lm_new S1 hp vs
      exact h p vs T' _ ht al h1 h2
    | ex c r =>
      rw [e] at h
      exact h
    | no =>
      rw [e] at h
      exact h)⟩
theorem tm_t (a : EM K C E ta ma) : TM K C E (tTest ta) (mT ma) := ⟨fun F0 H0 g P T σ H Q S h =>
  a.run F0 H0 g P T σ H _ S (h.bind.mono fun d hd v H' S1 => by
    cases d with
    | bl b =>
      have hv : v = .bl b := by
        obtain ⟨F, f⟩ := S1
        have i := f.ts (v, .bl b) List.mem_cons_self
        cases i
        rfl
      exact ⟨b, hv, hd H' S1.tail⟩
    | non => exact hd.elim
    | int i => exact hd.elim
    | str x => exact hd.elim
    | lst x => exact hd.elim
    | tup x => exact hd.elim
    | web n x => exact hd.elim
    | scr x => exact hd.elim
    | adr x => exact hd.elim)⟩
theorem tm_and {t u : TT} {a b : G → Rs Bool} (h1 : TM K C E t a) (h2 : TM K C E u b) : TM K C E (tAnd t u) (mAnd a b) := ⟨fun F0 H0 g P T σ H Q S h =>
  h1.run F0 H0 g P T σ H _ S (h.bind.mono fun c hc H' S1 => by
    cases c with
    | true => exact h2.run F0 H0 g P T σ H' _ S1 hc
    | false => exact hc H' S1)⟩
theorem tm_or {t u : TT} {a b : G → Rs Bool} (h1 : TM K C E t a) (h2 : TM K C E u b) : TM K C E (tOr t u) (mOr a b) := ⟨fun F0 H0 g P T σ H Q S h =>
  h1.run F0 H0 g P T σ H _ S (h.bind.mono fun c hc H' S1 => by
    cases c with
    | true => exact hc H' S1
    | false => exact h2.run F0 H0 g P T σ H' _ S1 hc)⟩
theorem tm_not {t : TT} {a : G → Rs Bool} (h1 : TM K C E t a) : TM K C E (tNot t) (mNot a) := ⟨fun F0 H0 g P T σ H Q S h =>
  h1.run F0 H0 g P T σ H _ S (h.bind.mono fun c hc H' S1 => hc H' S1)⟩
end
end Z
set_option Elab.async false
set_option linter.all false
set_option maxRecDepth 100000
set_option maxHeartbeats 4000000
/-! Z, part B: the operations upon data, each with its rule of the hand layer. -/
namespace Z
open PySem L2
def LIM : Nat := 1000000
theorem lim_ok {n : Nat} (h : n ≤ LIM) : n ≤ sizeLine := Nat.le_trans h (by decide)
theorem lim_lt {n : Nat} (h : n ≤ LIM) : n < sizeLine := Nat.lt_of_le_of_lt h (by decide)
/-! ### reading data -/
def asInts : List D → Option (List Int)
  | [] => some []
  | .int i :: r => (asInts r).map (i :: ·)
  | _ :: _ => none
def asBls : List D → Option (List Bool)
  | [] => some []
  | .bl i :: r => (asBls r).map (i :: ·)
  | _ :: _ => none
@[simp] theorem asInts_map : ∀ ns : List Int, asInts (ns.map D.int) = some ns
  | [] => rfl
  | n :: r => by
    show (asInts (r.map D.int)).map (n :: ·) = some (n :: r)
    rw [asInts_map r]
    rfl
@[simp] theorem asBls_map : ∀ ns : List Bool, asBls (ns.map D.bl) = some ns
  | [] => rfl
  | n :: r => by
    show (asBls (r.map D.bl)).map (n :: ·) = some (n :: r)
    rw [asBls_map r]
    rfl
section
variable {K : PySem.W.Frag} {C : Addr} {B : Bs} {g : G} {P : List (Addr × List V)} {T : List (V × D)} {σ : L2.St} {H F : Hp}
theorem Fz.newL (f : Fz B g P T σ H F) {p : Addr} {vs : List V} {ds : List D} (n : H p = none) (a : IsA B.K B.C F vs ds) : SS B g P ((.ref p, .lst ds) :: T) σ (upd H p (.lst vs)) := by
  have f2 := f.new n (.lst vs)
  refine ⟨_, f2.addT (.lst upd_same (IsA.mono (fun b u e => ?_) ds vs a))⟩
  rw [upd_ne (ne_of_none e (f.free n))]
  exact e
theorem Fz.newT (f : Fz B g P T σ H F) {p : Addr} {vs : List V} {ds : List D} (n : H p = none) (a : IsA B.K B.C F vs ds) : SS B g P ((.ref p, .tup ds) :: T) σ (upd H p (.tup vs)) := by
  have f2 := f.new n (.tup vs)
  refine ⟨_, f2.addT (.tup upd_same (IsA.mono (fun b u e => ?_) ds vs a))⟩
  rw [upd_ne (ne_of_none e (f.free n))]
  exact e
theorem Fz.sqL (f : Fz B g P T σ H F) {a : Addr} {vs : List V} (h : F a = some (.lst vs)) : SqL B.K H a vs := .inl (.inl (f.eH _ _ h))
theorem Fz.sqT (f : Fz B g P T σ H F) {a : Addr} {vs : List V} (h : F a = some (.tup vs)) : SqT B.K H a vs := .inl (.inl (f.eH _ _ h))
theorem IsA.atI {vs : List V} {ds : List D} {i : Int} {d : D} (h : IsA K C F vs ds) (e : atI ds i = some d) : ∃ v, atI vs i = some v ∧ Is K C F v d := by
  unfold L2.atI at e ⊢
  rw [h.len]
  cases q : ixN ds.length i with
  | none => rw [q] at e; cases e
  | some j =>
    rw [q] at e
    exact h.get e
end
/-! ### + - * // % ** -/
def dAdd : D → D → Option D
  | .int i, .int j => some (.int (i + j))
  | .lst a, .lst b => if a.length + b.length ≤ LIM then some (.lst (a ++ b)) else none
  | _, _ => none
def dSub : D → D → Option D
  | .int i, .int j => some (.int (i - j))
  | _, _ => none
def dMul : D → D → Option D
  | .int i, .int j => if (-(2 ^ 64) < i ∧ i < 2 ^ 64) ∨ (-(2 ^ 64) < j ∧ j < 2 ^ 64) then some (.int (i * j)) else none
  | .lst a, .int k => if -1000000 ≤ k ∧ k ≤ 1000000 ∧ a.length * k.toNat ≤ LIM then some (.lst (List.replicate k.toNat a).flatten) else none
  | _, _ => none
def dMod : D → D → Option D
  | .int i, .int j => if 0 < j then some (.int (i % j)) else none
  | _, _ => none
def dDiv : D → D → Option D
  | .int i, .int j => if 0 < j ∧ j < 1073741824 then some (.int (i / j)) else none
  | _, _ => none
def dPow : D → D → Option D
  | .int i, .int j => if 0 ≤ j ∧ j ≤ 1000000 ∧ i.natAbs < 2 ^ 64 then some (.int (i ^ j.toNat)) else none
  | _, _ => none
def dNeg : D → Option D
  | .int i => some (.int (-i))
  | _ => none
abbrev rAdd2 : R2 := fun x y H Q => rI0 (fun i j => .int (i + j)) x y H Q ∨ rCat x y H Q
abbrev rMul2 : R2 := fun x y H Q => rI CMul (fun i j => .int (i * j)) x y H Q ∨ rRep x y H Q
section
variable {K : PySem.W.Frag} {C : Addr}
theorem r_add : R2M K C rAdd2 dAdd := by
  intro F0 H0 g P T σ H Q x y dx dy d S hx hy e q
  obtain ⟨F, f⟩ := S
  have ix := f.ts _ hx
  have iy := f.ts _ hy
  unfold dAdd at e
  split at e
  · cases ix
    cases iy
    cases e
    exact .inl ⟨_, _, rfl, rfl, q _ H ⟨F, f.addT (.int _)⟩⟩
  · split at e
    · rename_i hl
      cases e
      cases ix with
      | lst ha hb =>
        cases iy with
        | lst hc hd =>
          refine .inr ⟨_, _, _, _, rfl, rfl, f.eH _ _ ha, f.eH _ _ hc, ?_, fun p hp => q _ _ (f.newL hp (hb.append hd))⟩
          rw [hb.len, hd.len]
          exact lim_ok hl
    · cases e
  · cases e
theorem r_sub : R2M K C (rI0 fun i j => .int (i - j)) dSub := by
  intro F0 H0 g P T σ H Q x y dx dy d S hx hy e q
  obtain ⟨F, f⟩ := S
  have ix := f.ts _ hx
  have iy := f.ts _ hy
  unfold dSub at e
  split at e
  · cases ix
    cases iy
    cases e
    exact ⟨_, _, rfl, rfl, q _ H ⟨F, f.addT (.int _)⟩⟩
  · cases e
theorem r_mul : R2M K C rMul2 dMul := by
  intro F0 H0 g P T σ H Q x y dx dy d S hx hy e q
  obtain ⟨F, f⟩ := S
  have ix := f.ts _ hx
  have iy := f.ts _ hy
  unfold dMul at e
  split at e
  · split at e
    · rename_i hc
      cases ix
      cases iy
      cases e
      exact .inl ⟨_, _, rfl, rfl, hc, q _ H ⟨F, f.addT (.int _)⟩⟩
    · cases e
  · split at e
    · rename_i hc
      cases e
      cases iy
      cases ix with
      | lst ha hb =>
        refine .inr ⟨_, _, _, rfl, rfl, f.eH _ _ ha, by omega, by omega, ?_, fun p hp => q _ _ (f.newL hp (hb.rep _))⟩
        rw [hb.len]
        exact lim_ok hc.2.2
    · cases e
  · cases e
theorem r_mod : R2M K C (rI (fun _ j => 0 < j) fun i j => .int (i % j)) dMod := by
  intro F0 H0 g P T σ H Q x y dx dy d S hx hy e q
  obtain ⟨F, f⟩ := S
  have ix := f.ts _ hx
  have iy := f.ts _ hy
  unfold dMod at e
  split at e
  · split at e
    · rename_i hc
      cases ix
      cases iy
      cases e
      exact ⟨_, _, rfl, rfl, hc, q _ H ⟨F, f.addT (.int _)⟩⟩
    · cases e
  · cases e
theorem r_div : R2M K C (rI CDiv fun i j => .int (i / j)) dDiv := by
  intro F0 H0 g P T σ H Q x y dx dy d S hx hy e q
  obtain ⟨F, f⟩ := S
  have ix := f.ts _ hx
  have iy := f.ts _ hy
  unfold dDiv at e
  split at e
  · split at e
    · rename_i hc
      cases ix
      cases iy
      cases e
      exact ⟨_, _, rfl, rfl, hc, q _ H ⟨F, f.addT (.int _)⟩⟩
    · cases e
  · cases e
theorem r_pow : R2M K C (rI CPow fun i j => .int (i ^ j.toNat)) dPow := by
  intro F0 H0 g P T σ H Q x y dx dy d S hx hy e q
  obtain ⟨F, f⟩ := S
  have ix := f.ts _ hx
  have iy := f.ts _ hy
  unfold dPow at e
  split at e
  · split at e
    · rename_i hc
      cases ix
      cases iy
      cases e
      exact ⟨_, _, rfl, rfl, hc, q _ H ⟨F, f.addT (.int _)⟩⟩
    · cases e
  · cases e
theorem r_neg : R1M K C (rU fun i => .int (-i)) dNeg := by
  intro F0 H0 g P T σ H Q x dx d S hx e q
  obtain ⟨F, f⟩ := S
  have ix := f.ts _ hx
  unfold dNeg at e
  split at e
  · cases ix
    cases e
    exact ⟨_, rfl, q _ H ⟨F, f.addT (.int _)⟩⟩
  · cases e
/-! ### subscripts, slices -/
def dIx : D → D → Option D
  | .lst ds, .int i => atI ds i
  | .tup ds, .int i => atI ds i
  | .scr ns, .int i => (atI ns i).map D.int
  | _, _ => none
abbrev rIx2 (K : PySem.W.Frag) : R2 := fun x y H Q => rIxL K x y H Q ∨ rIxT K x y H Q
theorem r_ix : R2M K C (rIx2 K) dIx := by
  intro F0 H0 g P T σ H Q x y dx dy d S hx hy e q
  obtain ⟨F, f⟩ := S
  have ix := f.ts _ hx
  have iy := f.ts _ hy
  unfold dIx at e
  split at e
  · cases iy
    cases ix with
    | lst ha hb =>
      obtain ⟨v, h1, h2⟩ := hb.atI e
      exact .inl ⟨_, _, _, _, rfl, rfl, f.sqL ha, h1, q _ H ⟨F, f.addT h2⟩⟩
  · cases iy
    cases ix with
    | tup ha hb =>
      obtain ⟨v, h1, h2⟩ := hb.atI e
      exact .inr ⟨_, _, _, _, rfl, rfl, f.sqT ha, h1, q _ H ⟨F, f.addT h2⟩⟩
  · rename_i ns i
    cases iy
    cases ix with
    | scr ha =>
      cases e2 : atI ns i with
      | none => rw [e2] at e; cases e
      | some n =>
        rw [e2] at e
        cases e
        have e3 : atI (ns.map V.int) i = some (.int n) := by
          unfold L2.atI at e2 ⊢
          rw [List.length_map]
          cases q2 : ixN ns.length i with
          | none => rw [q2] at e2; cases e2
          | some j =>
            rw [q2] at e2
            show (ns.map V.int)[j]? = some (.int n)
            rw [List.getElem?_map, show ns[j]? = some n from e2]
            rfl
        exact .inl ⟨_, _, _, _, rfl, rfl, (f.eH.seq ha), e3, q _ H ⟨F, f.addT (.int _)⟩⟩
  · cases e
def cutD {α : Type} (xs : List α) (lo hi : Option Int) : List α := (xs.drop (HT.sIx xs.length 0 lo)).take (HT.sIx xs.length xs.length hi - HT.sIx xs.length 0 lo)
theorem IsA.cut {vs : List V} {ds : List D} {F : Hp} (h : IsA K C F vs ds) (lo hi : Option Int) : IsA K C F (cutV vs lo hi) (cutD ds lo hi) := by
  unfold cutV cutD
  rw [h.len]
  exact (h.drop _).take _
def dSl : D → Option Int → Option Int → Option D
  | .lst ds, lo, hi => some (.lst (cutD ds lo hi))
  | _, _, _ => none
/-- the parts of a slice -/
structure OM (K : PySem.W.Frag) (C : Addr) (E : XK) (to : TO) (m : G → Rs (Option Int)) : Prop where
  run : ∀ F0 H0 g P T σ H Q, SS ⟨K, C, F0, H0⟩ g P T σ H → Wish H0 E (m g) (fun o => ∀ H', SS ⟨K, C, F0, H0⟩ g P T σ H' → Q o H') → to σ H Q
structure POM (X : Cx) (K : PySem.W.Frag) (C : Addr) (E : XK) (e : Option Expr) (to : TO) (m : G → Rs (Option Int)) : Prop where
  p : PO X e to
  q : OM K C E to m
def mN : G → Rs (Option Int) := fun _ => .ok none
def mS (a : G → Rs D) : G → Rs (Option Int) := fun g => (a g).bind fun x => match x with
  | .int i => .ok (some i)
  | _ => .no
def mSl (a : G → Rs D) (lo hi : G → Rs (Option Int)) : G → Rs D := fun g => (a g).bind fun x => (lo g).bind fun l => (hi g).bind fun h => .of (dSl x l h)
variable {E : XK} {te ta tb tc : TE} {m ma mb mc : G → Rs D}
theorem om_n : OM K C E tNoPart mN := ⟨fun F0 H0 g P T σ H Q S h => h H S⟩
theorem om_s (a : EM K C E ta ma) : OM K C E (tPart ta) (mS ma) := ⟨fun F0 H0 g P T σ H Q S h =>
  a.run F0 H0 g P T σ H _ S (h.bind.mono fun d hd v H' S1 => by
    cases d with
    | int i =>
      have hv : v = .int i := by
        obtain ⟨F, f⟩ := S1
        have z := f.ts (v, .int i) List.mem_cons_self
        cases z
        rfl
      exact ⟨i, hv, hd H' S1.tail⟩
    | bl b => exact hd.elim
    | non => exact hd.elim
    | str x => exact hd.elim
    | lst x => exact hd.elim
    | tup x => exact hd.elim
    | web n x => exact hd.elim
    | scr x => exact hd.elim
    | adr x => exact hd.elim)⟩
theorem em_sl {tl th : TO} {ml mh : G → Rs (Option Int)} (a : EM K C E ta ma) (l : OM K C E tl ml) (h : OM K C E th mh) : EM K C E (tSl (rSlL K) ta tl th) (mSl ma ml mh) := ⟨fun F0 H0 g P T σ H Q S w =>
  a.run F0 H0 g P T σ H _ S (w.bind.mono fun x hx v H' S1 => l.run F0 H0 g P _ σ H' _ S1 (hx.bind.mono fun lo hlo H2 S2 => h.run F0 H0 g P _ σ H2 _ S2 (hlo.bind.mono fun hi hhi H3 S3 => by
    obtain ⟨d, e, q⟩ := hhi.of
    obtain ⟨F, f⟩ := S3
    have ix := f.ts _ List.mem_cons_self
    unfold dSl at e
    split at e
    · cases e
      cases ix with
      | lst ha hb => exact ⟨_, _, rfl, f.sqL ha, fun p hp => q _ _ ((f.newL hp (hb.cut lo hi)).sub fun z hz => by
          rcases List.mem_cons.mp hz with e | e
          · exact List.mem_cons.mpr (.inl e)
          · exact List.mem_cons_of_mem _ (List.mem_cons_of_mem _ e))⟩
    · cases e)))⟩
/-- xs[::-1] -/
def dRev : D → Option D
  | .lst ds => some (.lst ds.reverse)
  | _ => none
/-! ### comparisons -/
def dLt : D → D → Option D
  | .int i, .int j => some (.bl (decide (i < j)))
  | _, _ => none
def dLe : D → D → Option D
  | .int i, .int j => some (.bl (decide (i ≤ j)))
  | _, _ => none
def dGt : D → D → Option D
  | .int i, .int j => some (.bl (decide (j < i)))
  | _, _ => none
def dGe : D → D → Option D
  | .int i, .int j => some (.bl (decide (j ≤ i)))
  | _, _ => none
theorem r_lt : R2M K C (rI0 fun i j => .bl (decide (i < j))) dLt := by
  intro F0 H0 g P T σ H Q x y dx dy d S hx hy e q
  obtain ⟨F, f⟩ := S
  have ix := f.ts _ hx
  have iy := f.ts _ hy
  unfold dLt at e
  split at e
  · cases ix
    cases iy
    cases e
    exact ⟨_, _, rfl, rfl, q _ H ⟨F, f.addT (.bl _)⟩⟩
  · cases e
theorem r_le : R2M K C (rI0 fun i j => .bl (decide (i ≤ j))) dLe := by
  intro F0 H0 g P T σ H Q x y dx dy d S hx hy e q
  obtain ⟨F, f⟩ := S
  have ix := f.ts _ hx
  have iy := f.ts _ hy
  unfold dLe at e
  split at e
  · cases ix
    cases iy
    cases e
    exact ⟨_, _, rfl, rfl, q _ H ⟨F, f.addT (.bl _)⟩⟩
  · cases e
theorem r_gt : R2M K C (rI0 fun i j => .bl (decide (j < i))) dGt := by
  intro F0 H0 g P T σ H Q x y dx dy d S hx hy e q
  obtain ⟨F, f⟩ := S
  have ix := f.ts _ hx
  have iy := f.ts _ hy
  unfold dGt at e
  split at e
  · cases ix
    cases iy
    cases e
    exact ⟨_, _, rfl, rfl, q _ H ⟨F, f.addT (.bl _)⟩⟩
  · cases e
mutual
def toP : D → Option PyData
  | .non => some .none
  | .bl b => some (.bool b)
  | .int i => some (.int i)
  | .str x => some (.str x)
  | .lst ds => (toPs ds).map PyData.list
  | .tup ds => (toPs ds).map PyData.tuple
  | .web _ _ => none
  | .scr _ => none
  | .adr _ => none
def toPs : List D → Option (List PyData)
  | [] => some []
  | d :: ds => (toP d).bind fun p => (toPs ds).map (p :: ·)
end
mutual
theorem Is.dp {F H : Hp} (e : Same F H) : ∀ (d : D) (v : V) (p : PyData), Is K C F v d → toP d = some p → Dp K H v p
  | .non, _, _, h, q => by cases h; cases q; exact .non
  | .bl b, _, _, h, q => by cases h; cases q; exact .bl b
  | .int i, _, _, h, q => by cases h; cases q; exact .int i
  | .str x, _, _, h, q => by cases h; cases q; exact .str x
  | .lst ds, _, p, h, q => by
    cases h with
    | lst h1 h2 =>
      unfold toP at q
      cases e2 : toPs ds with
      | none => rw [e2] at q; cases q
      | some ps =>
        rw [e2] at q
        cases q
        exact .lst (.inl (.inl (e _ _ h1))) (IsA.dp e ds _ ps h2 e2)
  | .tup ds, _, p, h, q => by
    cases h with
    | tup h1 h2 =>
      unfold toP at q
      cases e2 : toPs ds with
      | none => rw [e2] at q; cases q
      | some ps =>
        rw [e2] at q
        cases q
        exact .tup (.inl (.inl (e _ _ h1))) (IsA.dp e ds _ ps h2 e2)
  | .web n ds, _, _, h, q => by cases q
  | .scr ns, _, _, h, q => by cases q
  | .adr a, _, _, h, q => by cases q
theorem IsA.dp {F H : Hp} (e : Same F H) : ∀ (ds : List D) (vs : List V) (ps : List PyData), IsA K C F vs ds → toPs ds = some ps → DpAll K H vs ps
  | [], _, _, h, q => by cases h; cases q; exact .nil
  | d :: ds, _, ps, h, q => by
    cases h with
    | cons h1 h2 =>
      unfold toPs at q
      cases e1 : toP d with
      | none => rw [e1] at q; cases q
      | some p =>
        rw [e1] at q
        cases e2 : toPs ds with
        | none => rw [e2] at q; cases q
        | some qs =>
          rw [e2] at q
          cases q
          exact .cons (Is.dp e d _ p h1 e1) (IsA.dp e ds _ qs h2 e2)
end
def deq (x y : D) : Option Bool := match toP x, toP y with
  | some p, some q => if SeqAt.shaped p = true ∧ SeqAt.shaped q = true then some (PyData.eqv p q) else none
  | _, _ => none
def dEq (x y : D) : Option D := (deq x y).map D.bl
def dNe (x y : D) : Option D := (deq x y).map fun b => D.bl (!b)
theorem deq_some {x y : D} {b : Bool} (h : deq x y = some b) : ∃ p q, toP x = some p ∧ toP y = some q ∧ SeqAt.shaped p = true ∧ SeqAt.shaped q = true ∧ b = PyData.eqv p q := by
  unfold deq at h
  split at h
  · rename_i p q e1 e2
    split at h
    · rename_i hc
      cases h
      exact ⟨p, q, e1, e2, hc.1, hc.2, rfl⟩
    · cases h
  · cases h
theorem r_eq : R2M K C (rEqD K) dEq := by
  intro F0 H0 g P T σ H Q x y dx dy d S hx hy e q
  obtain ⟨F, f⟩ := S
  have ix := f.ts _ hx
  have iy := f.ts _ hy
  unfold dEq at e
  cases e2 : deq dx dy with
  | none => rw [e2] at e; cases e
  | some b =>
    rw [e2] at e
    cases e
    obtain ⟨p1, p2, h1, h2, h3, h4, rfl⟩ := deq_some e2
    exact ⟨p1, p2, Is.dp f.eH _ _ _ ix h1, Is.dp f.eH _ _ _ iy h2, h3, h4, q _ H ⟨F, f.addT (.bl _)⟩⟩
theorem r_ne : R2M K C (rNeD K) dNe := by
  intro F0 H0 g P T σ H Q x y dx dy d S hx hy e q
  obtain ⟨F, f⟩ := S
  have ix := f.ts _ hx
  have iy := f.ts _ hy
  unfold dNe at e
  cases e2 : deq dx dy with
  | none => rw [e2] at e; cases e
  | some b =>
    rw [e2] at e
    cases e
    obtain ⟨p1, p2, h1, h2, h3, h4, rfl⟩ := deq_some e2
    exact ⟨p1, p2, Is.dp f.eH _ _ _ ix h1, Is.dp f.eH _ _ _ iy h2, h3, h4, q _ H ⟨F, f.addT (.bl _)⟩⟩
/-- in, not in: ints in a list or tuple of ints -/
def dInB : D → D → Option Bool
  | .int i, .lst ds => (asInts ds).map fun ns => decide (i ∈ ns)
  | .int i, .tup ds => (asInts ds).map fun ns => decide (i ∈ ns)
  | _, _ => none
def dIn (x y : D) : Option D := (dInB x y).map D.bl
def dNi (x y : D) : Option D := (dInB x y).map fun b => D.bl (!b)
/-- x is None, x is not None -/
def dIsN : D → D → Option D
  | .non, .non => some (.bl true)
  | .web _ _, .non => none
  | .scr _, .non => none
  | _, .non => some (.bl false)
  | _, _ => none
def dNotN : D → D → Option D
  | .non, .non => some (.bl false)
  | .web _ _, .non => none
  | .scr _, .non => none
  | _, .non => some (.bl true)
  | _, _ => none
/-- a chain of two comparisons -/
def mCh (f f' : D → D → Option D) (ma mb mc : G → Rs D) : G → Rs D := fun g => (ma g).bind fun x => (mb g).bind fun y => (Rs.of (f x y)).bind fun z => match z with
  | .bl true => (mc g).bind fun w => .of (f' y w)
  | .bl false => .ok (.bl false)
  | _ => .no
theorem em_ch {r r' : R2} {f f' : D → D → Option D} (hr : R2M K C r f) (hr' : R2M K C r' f') (a : EM K C E ta ma) (b : EM K C E tb mb) (c : EM K C E tc mc) : EM K C E (tChain r r' ta tb tc) (mCh f f' ma mb mc) := ⟨fun F0 H0 g P T σ H Q S h =>
  a.run F0 H0 g P T σ H _ S (h.bind.mono fun x hx v H1 S1 => b.run F0 H0 g P _ σ H1 _ S1 (hx.bind.mono fun y hy v' H2 S2 => by
    obtain ⟨d, e, hd⟩ := hy.bind.of
    refine hr F0 H0 g P _ σ H2 _ v v' x y d S2 (List.mem_cons_of_mem _ List.mem_cons_self) List.mem_cons_self e fun u H3 S3 => ?_
    have iu : Is K C (Classical.choose S3) u d := (Classical.choose_spec S3).ts (u, d) List.mem_cons_self
    split at hd
    · cases iu
      refine ⟨true, rfl, ?_⟩
      rw [if_pos rfl]
      refine c.run F0 H0 g P _ σ H3 _ S3 (hd.bind.mono fun w hw t H4 S4 => ?_)
      obtain ⟨d2, e2, q2⟩ := hw.of
      refine hr' F0 H0 g P _ σ H4 _ v' t y w d2 S4 (List.mem_cons_of_mem _ (List.mem_cons_of_mem _ List.mem_cons_self)) List.mem_cons_self e2 fun u2 H5 S5 => q2 u2 H5 (S5.sub fun z hz => ?_)
      rcases List.mem_cons.mp hz with e | e
      · exact List.mem_cons.mpr (.inl e)
      · exact List.mem_cons_of_mem _ (List.mem_cons_of_mem _ (List.mem_cons_of_mem _ (List.mem_cons_of_mem _ (List.mem_cons_of_mem _ e))))
    · cases iu
      refine ⟨false, rfl, ?_⟩
      rw [if_neg Bool.false_ne_true]
      refine hd _ H3 ((S3.sub fun z hz => ?_).addT fun F f => .bl _)
      exact List.mem_cons_of_mem _ (List.mem_cons_of_mem _ (List.mem_cons_of_mem _ hz))
    · exact hd.elim))⟩
/-! ### and, or, not as values; a value as a test -/
def mAndV (a b : G → Rs D) : G → Rs D := fun g => (a g).bind fun x => match x with
  | .bl true => b g
  | .bl false => .ok (.bl false)
  | _ => .no
def mOrV (a b : G → Rs D) : G → Rs D := fun g => (a g).bind fun x => match x with
  | .bl true => .ok (.bl true)
  | .bl false => b g
  | _ => .no
def dNot : D → Option D
  | .bl b => some (.bl (!b))
  | _ => none
theorem em_andV (a : EM K C E ta ma) (b : EM K C E tb mb) : EM K C E (tAndV ta tb) (mAndV ma mb) := ⟨fun F0 H0 g P T σ H Q S h =>
  a.run F0 H0 g P T σ H _ S (h.bind.mono fun x hx v H1 S1 => by
    have iu : Is K C (Classical.choose S1) v x := (Classical.choose_spec S1).ts (v, x) List.mem_cons_self
    split at hx
    · cases iu
      refine ⟨true, rfl, ?_⟩
      rw [if_pos rfl]
      exact b.run F0 H0 g P _ σ H1 _ S1.tail hx
    · cases iu
      refine ⟨false, rfl, ?_⟩
      rw [if_neg Bool.false_ne_true]
      exact hx _ H1 (S1.tail.addT fun F f => .bl _)
    · exact hx.elim)⟩
theorem em_notV (a : EM K C E ta ma) : EM K C E (tNotV ta) (m1 dNot ma) := ⟨fun F0 H0 g P T σ H Q S h =>
  a.run F0 H0 g P T σ H _ S (h.bind.mono fun x hx v H1 S1 => by
    obtain ⟨d, e, q⟩ := hx.of
    have iu : Is K C (Classical.choose S1) v x := (Classical.choose_spec S1).ts (v, x) List.mem_cons_self
    unfold dNot at e
    split at e
    · cases iu
      cases e
      exact ⟨_, rfl, q _ H1 (S1.tail.addT fun F f => .bl _)⟩
    · cases e)⟩
theorem tm_b (a : EM K C E ta ma) : TM K C E (tB ta) (mT ma) := ⟨fun F0 H0 g P T σ H Q S h => (tm_t a).run F0 H0 g P T σ H Q S h⟩
/-! ### built-ins by name -/
def dLen : List D → Option D
  | [.lst ds] => some (.int ds.length)
  | [.tup ds] => some (.int ds.length)
  | [.scr ns] => some (.int ns.length)
  | _ => none
abbrev rLenS (K : PySem.W.Frag) : List V → Hp → VK → Prop := fun xs H Q => ∃ p ys, xs = [.ref p] ∧ (SqL K H p ys ∨ SqT K H p ys) ∧ Q (.int ys.length) H
theorem al1 {T : List (V × D)} {xs : List V} {d : D} (h : Al T xs [d]) : ∃ x, xs = [x] ∧ (x, d) ∈ T := by
  cases h with
  | cons r t =>
    cases t
    exact ⟨_, rfl, r⟩
theorem r_len : RAM K C (rLenS K) dLen := by
  intro F0 H0 g P T σ H Q xs ds d S al e q
  obtain ⟨F, f⟩ := S
  unfold dLen at e
  split at e
  · cases e
    obtain ⟨x, rfl, hx⟩ := al1 al
    have ix := f.ts _ hx
    cases ix with
    | lst ha hb => exact ⟨_, _, rfl, .inl (f.sqL ha), q _ H ⟨F, f.addT (by rw [hb.len]; exact .int _)⟩⟩
  · cases e
    obtain ⟨x, rfl, hx⟩ := al1 al
    have ix := f.ts _ hx
    cases ix with
    | tup ha hb => exact ⟨_, _, rfl, .inr (f.sqT ha), q _ H ⟨F, f.addT (by rw [hb.len]; exact .int _)⟩⟩
  · cases e
    obtain ⟨x, rfl, hx⟩ := al1 al
    have ix := f.ts _ hx
    cases ix with
    | scr ha => exact ⟨_, _, rfl, .inl (f.eH.seq ha), q _ H ⟨F, f.addT (by rw [List.length_map]; exact .int _)⟩⟩
  · cases e
def dSum : List D → Option D
  | [.lst ds] => (asInts ds).map fun ns => D.int ns.sum
  | _ => none
def dMax2 : List D → Option D
  | [.int i, .int j] => some (.int (if j > i then j else i))
  | _ => none
def dMin2 : List D → Option D
  | [.int i, .int j] => some (.int (if j < i then j else i))
  | _ => none
def dAll : List D → Option D
  | [.lst ds] => (asBls ds).map fun bs => D.bl (bs.all id)
  | _ => none
/-- int(x) -/
def dInt : List D → Option D
  | [.int i] => some (.int i)
  | [.bl b] => some (.int (if b then 1 else 0))
  | _ => none
/-- list(xs) -/
def dList : List D → Option D
  | [.lst ds] => some (.lst ds)
  | [.tup ds] => some (.lst ds)
  | _ => none
abbrev rListS (K : PySem.W.Frag) : List V → Hp → VK → Prop := fun xs H Q => ∃ p ys, xs = [.ref p] ∧ (SqL K H p ys ∨ SqT K H p ys) ∧ ∀ l, H l = none → Q (.ref l) (upd H l (.lst ys))
/-- isinstance(x, T), T a built-in class -/
def tyD : D → Option String
  | .non => some "NoneType"
  | .bl _ => some "bool"
  | .int _ => some "int"
  | .str _ => some "str"
  | .lst _ => some "list"
  | .tup _ => some "tuple"
  | _ => none
def dIsi (n : String) (d : D) : Option D := (tyD d).bind fun t => (kitB t n).map D.bl
theorem em_isi {n : String} (a : EM K C E ta ma) : EM K C E (tCB (rIsi K) (tCons ta (tCons (tC (.ty n)) tNil))) (m1 (dIsi n) ma) := ⟨fun F0 H0 g P T σ H Q S h =>
  a.run F0 H0 g P T σ H _ S (h.bind.mono fun x hx v H1 S1 => by
    obtain ⟨d, e, q⟩ := hx.of
    obtain ⟨F, f⟩ := S1
    have ix := f.ts _ List.mem_cons_self
    unfold dIsi at e
    cases et : tyD x with
    | none => rw [et] at e; cases e
    | some t =>
      rw [et] at e
      cases ek : kitB t n with
      | none =>
        rw [show ((some t).bind fun t => (kitB t n).map D.bl) = (kitB t n).map D.bl from rfl, ek] at e
        cases e
      | some b =>
        rw [show ((some t).bind fun t => (kitB t n).map D.bl) = (kitB t n).map D.bl from rfl, ek] at e
        cases e
        have hq : Q (.bl b) H1 := q _ H1 ((SS.tail ⟨F, f⟩).addT fun _ _ => .bl _)
        have ty : TyX K H1 v (.type t) := by
          cases ix with
          | non => cases et; exact .base .non
          | bl b => cases et; exact .base (.bl b)
          | int b => cases et; exact .base (.int b)
          | str b => cases et; exact .base (.str b)
          | lst ha hb => cases et; exact .base (.lst (f.eH _ _ ha))
          | tup ha hb => cases et; exact .base (.tup (f.eH _ _ ha))
          | web _ _ _ _ => cases et
          | scr _ => cases et
          | adr _ => cases et
        exact ⟨v, .ty n, .type t, .type n, b, rfl, .ty n, ty, kit_ty ek, hq⟩)⟩
/-- o.places, o.roads -/
def dFld (n : Str) : D → Option D
  | .web k ds => if n = "places" then some (.int k) else if n = "roads" then some (.lst ds) else none
  | _ => none
theorem places_ne : ¬ ("places" : Str) = "roads" := by decide +kernel
theorem webF_places (n : Int) (r : Addr) : (webF n r).lookup ("places" : Str) = some (.int n) := by
  unfold webF
  rw [lookup_putF, if_neg places_ne, lookup_putF, if_pos rfl]
theorem webF_roads (n : Int) (r : Addr) : (webF n r).lookup ("roads" : Str) = some (.ref r) := by
  unfold webF
  rw [lookup_putF, if_pos rfl]
theorem em_fld {n : Str} (hc : Cls K C) (ha : NoAttr K C n) (a : EM K C E ta ma) : EM K C E (tFld K ta n) (m1 (dFld n) ma) := ⟨fun F0 H0 g P T σ H Q S h =>
  a.run F0 H0 g P T σ H _ S (h.bind.mono fun x hx v H1 S1 => by
    obtain ⟨d, e, q⟩ := hx.of
    obtain ⟨F, f⟩ := S1
    have ix := f.ts _ List.mem_cons_self
    unfold dFld at e
    split at e
    · cases ix with
      | web h1 h2 h3 h4 =>
        split at e
        · rename_i hn
          subst hn
          cases e
          exact ⟨_, C, _, _, _, rfl, f.eH _ _ h1, hc, ha, webF_places _ _, q _ H1 ((SS.tail ⟨F, f⟩).addT fun _ _ => .int _)⟩
        · split at e
          · rename_i hn
            subst hn
            cases e
            exact ⟨_, C, _, _, _, rfl, f.eH _ _ h1, hc, ha, webF_roads _ _, q _ H1 ⟨F, (f.sub fun z hz => List.mem_cons_of_mem _ hz).addT (.lst h3 h4)⟩⟩
          · cases e
    · cases e)⟩
end
end Z
set_option Elab.async false
set_option linter.all false
set_option maxRecDepth 100000
set_option maxHeartbeats 4000000
/-! Z, part C: what is walked, comprehensions, calls, statements, defs. -/
namespace Z
set_option autoImplicit false
open PySem L2
/-! ### slots -/
def Sl (T : List (V × D)) (g : G) (σ : L2.St) : Prop := σ.length = g.length ∧ ∀ (i : Nat) (d : D), g[i]? = some (some d) → ∃ v, σ[i]? = some (some v) ∧ (v, d) ∈ T
def killG (ks : List Nat) (g : G) : G := match ks with
  | [] => g
  | k :: r => (killG r g).set k none
section
variable {B : Bs} {g g' : G} {P P' : List (Addr × List V)} {T T' : List (V × D)} {σ σ' : L2.St} {H H2 F F2 : Hp} {v : V} {d : D}
theorem Sl.mono (h : Sl T g σ) (t : ∀ x ∈ T, x ∈ T') : Sl T' g σ := ⟨h.1, fun i d e => let ⟨v, h1, h2⟩ := h.2 i d e; ⟨v, h1, t _ h2⟩⟩
theorem get_set {α : Type} {l : List α} {i j : Nat} {a b : α} (h : (l.set i a)[j]? = some b) : (i = j ∧ b = a ∧ i < l.length) ∨ (i ≠ j ∧ l[j]? = some b) := by
  by_cases e : i = j
  · subst e
    rw [List.getElem?_set_self'] at h
    cases q : l[i]? with
    | none => rw [q] at h; cases h
    | some z =>
      rw [q] at h
      have z2 : b = a := (Option.some.inj h).symm
      exact .inl ⟨rfl, z2, (List.getElem?_eq_some_iff.mp q).1⟩
  · rw [List.getElem?_set_ne e] at h
    exact .inr ⟨e, h⟩
theorem Sl.set (h : Sl T g σ) {i : Nat} (m : (v, d) ∈ T) : Sl T (g.set i (some d)) (σ.set i (some v)) := by
  refine ⟨by rw [List.length_set, List.length_set]; exact h.1, fun j e he => ?_⟩
  rcases get_set he with ⟨z, z2, z3⟩ | ⟨z, z2⟩
  · subst z
    cases z2
    refine ⟨v, ?_, m⟩
    rw [List.getElem?_set_self (by rw [h.1]; exact z3)]
  · obtain ⟨w, h1, h2⟩ := h.2 j e z2
    exact ⟨w, by rw [List.getElem?_set_ne z]; exact h1, h2⟩
theorem Sl.set0 (h : Sl T g σ) {i : Nat} {o : Option V} : Sl T (g.set i none) (σ.set i o) := by
  refine ⟨by rw [List.length_set, List.length_set]; exact h.1, fun j e he => ?_⟩
  rcases get_set he with ⟨z, z2, z3⟩ | ⟨z, z2⟩
  · cases z2
  · obtain ⟨w, h1, h2⟩ := h.2 j e z2
    exact ⟨w, by rw [List.getElem?_set_ne z]; exact h1, h2⟩
theorem Sl.kill1 (h : Sl T g σ) {i : Nat} : Sl T (g.set i none) σ := by
  refine ⟨by rw [List.length_set]; exact h.1, fun j e he => ?_⟩
  rcases get_set he with ⟨z, z2, z3⟩ | ⟨z, z2⟩
  · cases z2
  · exact h.2 j e z2
theorem Sl.kill (h : Sl T g σ) : ∀ ks : List Nat, Sl T (killG ks g) σ
  | [] => h
  | k :: r => (h.kill r).kill1
theorem SS.reslot (h : SS B g' P T σ' H) (s : Sl T g σ) : SS B g P T σ H := by
  obtain ⟨F, f⟩ := h
  refine ⟨F, ⟨f.eF, f.eH, f.e0, f.nw, fun i d e => ?_, s.1, f.ts, f.pr⟩⟩
  obtain ⟨v, h1, h2⟩ := s.2 i d e
  exact ⟨v, h1, f.ts _ h2⟩
theorem slots_at (f : Fz B g P T σ H F) : ∀ n : Nat, ∃ Ts : List (V × D), (∀ x ∈ Ts, Is B.K B.C F x.1 x.2) ∧ ∀ i d, i < n → g[i]? = some (some d) → ∃ v, σ[i]? = some (some v) ∧ (v, d) ∈ Ts
  | 0 => ⟨[], fun _ h => (by cases h), fun i d h => absurd h (Nat.not_lt_zero i)⟩
  | n + 1 => by
    obtain ⟨Ts, h1, h2⟩ := slots_at f n
    cases q : g[n]? with
    | none =>
      refine ⟨Ts, h1, fun i d hi e => ?_⟩
      rcases Nat.lt_succ_iff_lt_or_eq.mp hi with z | z
      · exact h2 i d z e
      · subst z
        rw [q] at e
        cases e
    | some o =>
      cases o with
      | none =>
        refine ⟨Ts, h1, fun i d hi e => ?_⟩
        rcases Nat.lt_succ_iff_lt_or_eq.mp hi with z | z
        · exact h2 i d z e
        · subst z
          rw [q] at e
          cases e
      | some d0 =>
        obtain ⟨v, e1, e2⟩ := f.sl n d0 q
        refine ⟨(v, d0) :: Ts, fun x hx => ?_, fun i d hi e => ?_⟩
        · rcases List.mem_cons.mp hx with z | z
          · rw [z]; exact e2
          · exact h1 x z
        · rcases Nat.lt_succ_iff_lt_or_eq.mp hi with z | z
          · obtain ⟨w, w1, w2⟩ := h2 i d z e
            exact ⟨w, w1, List.mem_cons_of_mem _ w2⟩
          · subst z
            rw [q] at e
            cases e
            exact ⟨v, e1, List.mem_cons_self⟩
/-- the slots' things are held -/
theorem SS.slots (h : SS B g P T σ H) : ∃ T', (∀ x ∈ T, x ∈ T') ∧ Sl T' g σ ∧ SS B g P T' σ H := by
  obtain ⟨F, f⟩ := h
  obtain ⟨Ts, h1, h2⟩ := slots_at f g.length
  refine ⟨Ts ++ T, fun x hx => List.mem_append_right _ hx, ⟨f.ln, fun i d e => ?_⟩, F, { f with ts := fun x hx => ?_ }⟩
  · obtain ⟨v, e1, e2⟩ := h2 i d (List.getElem?_eq_some_iff.mp e).1 e
    exact ⟨v, e1, List.mem_append_left _ e2⟩
  · rcases List.mem_append.mp hx with z | z
    · exact h1 x z
    · exact f.ts x z
theorem SS.set (h : SS B g P T σ H) {i : Nat} (m : (v, d) ∈ T) : SS B (g.set i (some d)) P T (σ.set i (some v)) H := by
  obtain ⟨T', t, s, h'⟩ := h.slots
  exact (h'.reslot (s.set (t _ m))).sub t
theorem SS.set0 (h : SS B g P T σ H) {i : Nat} {o : Option V} : SS B (g.set i none) P T (σ.set i o) H := by
  obtain ⟨T', t, s, h'⟩ := h.slots
  exact (h'.reslot s.set0).sub t
theorem SS.kill (h : SS B g P T σ H) (ks : List Nat) : SS B (killG ks g) P T σ H := by
  obtain ⟨T', t, s, h'⟩ := h.slots
  exact (h'.reslot (s.kill ks)).sub t
/-- a cell that may change is frozen -/
theorem SS.frz {p : Addr} {vs : List V} {ds : List D} (h : SS B g ((p, vs) :: P) T σ H) (hp : ∀ x ∈ P, x.1 ≠ p) (al : Al T vs ds) : SS B g P ((.ref p, .lst ds) :: T) σ H := by
  obtain ⟨F, f⟩ := h
  obtain ⟨p1, p2, p3⟩ := f.pr (p, vs) List.mem_cons_self
  have f' : Fz B g P T σ H F := f.subP fun z hz => List.mem_cons_of_mem _ hz
  have up : Same F (upd F p (.lst vs)) := fun b u e => by rw [upd_ne (ne_of_none e p1)]; exact e
  have f2 : Fz B g P T σ H (upd F p (.lst vs)) :=
    { eF := f'.eF.trans up
      eH := fun b u e => by
        by_cases z : b = p
        · subst z
          rw [upd_same] at e
          rw [← e]
          exact p3
        · rw [upd_ne z] at e
          exact f'.eH b u e
      e0 := f'.e0
      nw := fun q hq hf => by
        have z : q ≠ p := fun z => hq (by rw [z]; exact p2)
        rw [upd_ne z]
        exact f'.nw q hq hf
      sl := fun i d e => by
        obtain ⟨v, h1, h2⟩ := f'.sl i d e
        exact ⟨v, h1, Is.mono up d v h2⟩
      ln := f'.ln
      ts := fun x hx => Is.mono up _ _ (f'.ts x hx)
      pr := fun x hx => by
        obtain ⟨q1, q2, q3⟩ := f'.pr x hx
        exact ⟨by rw [upd_ne (hp x hx)]; exact q1, q2, q3⟩ }
  exact ⟨_, f2.addT (.lst upd_same (f2.all al))⟩
/-- such a cell is written -/
theorem SS.write {p : Addr} {vs ws : List V} (h : SS B g ((p, vs) :: P) T σ H) (hp : ∀ x ∈ P, x.1 ≠ p) : SS B g ((p, ws) :: P) T σ (upd H p (.lst ws)) := by
  obtain ⟨F, f⟩ := h
  obtain ⟨p1, p2, p3⟩ := f.pr (p, vs) List.mem_cons_self
  refine ⟨F, ⟨f.eF, fun b u e => ?_, fun b u e => ?_, f.nw, f.sl, f.ln, f.ts, fun x hx => ?_⟩⟩
  · rw [upd_ne (ne_of_none e p1)]
    exact f.eH b u e
  · rw [upd_ne (ne_of_none e p2)]
    exact f.e0 b u e
  · rcases List.mem_cons.mp hx with e | e
    · subst e
      exact ⟨p1, p2, upd_same⟩
    · obtain ⟨q1, q2, q3⟩ := f.pr x (List.mem_cons_of_mem _ e)
      exact ⟨q1, q2, by show upd H p (.lst ws) x.1 = _; rw [upd_ne (hp x e)]; exact q3⟩
theorem SS.cell {p : Addr} {vs : List V} (h : SS B g ((p, vs) :: P) T σ H) : H p = some (.lst vs) := let ⟨F, f⟩ := h; (f.pr (p, vs) List.mem_cons_self).2.2
theorem isA_zip {K : PySem.W.Frag} {C : Addr} {F : Hp} : ∀ {vs : List V} {ds : List D}, IsA K C F vs ds → ∀ x ∈ vs.zip ds, Is K C F x.1 x.2
  | _, _, .nil, _, h => by simp at h
  | _, _, .cons h t, x, hx => by
    rw [List.zip_cons_cons] at hx
    rcases List.mem_cons.mp hx with e | e
    · rw [e]
      exact h
    · exact isA_zip t x e
theorem al_zip {T : List (V × D)} {K : PySem.W.Frag} {C : Addr} {F : Hp} : ∀ {vs : List V} {ds : List D}, IsA K C F vs ds → (∀ x ∈ vs.zip ds, x ∈ T) → Al T vs ds
  | _, _, .nil, _ => .nil
  | _, _, .cons h t, hT => .cons (hT _ (by rw [List.zip_cons_cons]; exact List.mem_cons_self)) (al_zip t fun x hx => hT x (by rw [List.zip_cons_cons]; exact List.mem_cons_of_mem _ hx))
theorem SS.openT {ds : List D} (h : SS B g P T σ H) (m : (v, .tup ds) ∈ T) : ∃ a vs, v = .ref a ∧ H a = some (.tup vs) ∧ Al (vs.zip ds ++ T) vs ds ∧ SS B g P (vs.zip ds ++ T) σ H := by
  obtain ⟨F, f⟩ := h
  have i := f.ts _ m
  cases i with
  | tup ha hb =>
    refine ⟨_, _, rfl, f.eH _ _ ha, al_zip hb fun x hx => List.mem_append_left _ hx, F, { f with ts := fun x hx => ?_ }⟩
    rcases List.mem_append.mp hx with z | z
    · exact isA_zip hb x z
    · exact f.ts x z
end
/-! ### what is walked -/
def Walks (K : PySem.W.Frag) (C : Addr) (F0 H0 : Hp) (J : It) (ds : List D) (T0 : List (V × D)) : Prop := ∀ (i : Nat) g P T σ H, (∀ x ∈ T0, x ∈ T) → SS ⟨K, C, F0, H0⟩ g P T σ H →
  (∀ d, ds[i]? = some d → J.go i H ∧ ∀ x H', J.yld i H x H' → SS ⟨K, C, F0, H0⟩ g P ((x, d) :: T) σ H') ∧ (i = ds.length → J.stop i H)
structure IM (K : PySem.W.Frag) (C : Addr) (E : XK) (wi : TI) (m : G → Rs (List D)) : Prop where
  run : ∀ F0 H0 g P T σ H R, SS ⟨K, C, F0, H0⟩ g P T σ H → Wish H0 E (m g) (fun ds => ∀ J T' H1, (∀ x ∈ T, x ∈ T') → SS ⟨K, C, F0, H0⟩ g P T' σ H1 → Walks K C F0 H0 J ds T' → R J H1) → wi σ H R
structure PIM (X : Cx) (K : PySem.W.Frag) (C : Addr) (E : XK) (tg iter : Expr) (wi : TI) (m : G → Rs (List D)) : Prop where
  p : PI X tg iter wi
  q : IM K C E wi m
def mItems (a : G → Rs D) : G → Rs (List D) := fun g => (a g).bind fun x => match x with
  | .lst ds => .ok ds
  | _ => .no
def rgD (lo hi : Int) : List D := (List.range (hi - lo).toNat).map fun (i : Nat) => D.int (lo + (i : Int))
def mRng1 (a : G → Rs (List D)) : G → Rs (List D) := fun g => (a g).bind fun xs => match xs with
  | [.int n] => if -1000000 ≤ n ∧ n ≤ 1000000 then .ok (rgD 0 n) else .no
  | _ => .no
def mRng2 (a : G → Rs (List D)) : G → Rs (List D) := fun g => (a g).bind fun xs => match xs with
  | [.int m, .int n] => if -1000000 ≤ n ∧ n ≤ 1000000 ∧ -1000000 ≤ m ∧ m ≤ 1000000 then .ok (rgD m n) else .no
  | _ => .no
def enumD (ds : List D) : List D := (List.range ds.length).map fun i => D.tup [.int (i : Nat), ds.getD i .non]
def mEnum (a : G → Rs (List D)) : G → Rs (List D) := fun g => (a g).bind fun xs => match xs with
  | [.lst ds] => .ok (enumD ds)
  | _ => .no
def zipD (ds es : List D) : List D := List.zipWith (fun x y => D.tup [x, y]) ds es
def mZip (a : G → Rs (List D)) : G → Rs (List D) := fun g => (a g).bind fun xs => match xs with
  | [.lst ds, .lst es] => .ok (zipD ds es)
  | _ => .no
def mRevI (a : G → Rs (List D)) : G → Rs (List D) := fun g => (a g).bind fun xs => match xs with
  | [.lst ds] => .ok ds.reverse
  | _ => .no
section
variable {K : PySem.W.Frag} {C : Addr} {E : XK} {te ta tb tc : TE} {m ma mb mc : G → Rs D} {t : TA} {ms : G → Rs (List D)}
theorem walks_list {F0 H0 : Hp} {a : Addr} {ds : List D} {T0 : List (V × D)} (h0 : (V.ref a, D.lst ds) ∈ T0) : Walks K C F0 H0 (Itl K a) ds T0 := fun i g P T σ H ht S => by
  obtain ⟨F, f⟩ := S
  have z := f.ts _ (ht _ h0)
  cases z with
  | lst ha hb =>
    refine ⟨fun d e => ?_, fun e => ⟨_, f.sqL ha, by rw [hb.len, e]; exact Nat.le_refl _⟩⟩
    obtain ⟨v, h1, h2⟩ := hb.get e
    refine ⟨⟨_, v, f.sqL ha, h1⟩, fun x H' y => ?_⟩
    obtain ⟨rfl, y⟩ := y
    have e2 : some v = some x := h1.symm.trans (y _ (f.sqL ha))
    cases e2
    exact ⟨F, f.addT h2⟩
theorem walks_range {F0 H0 : Hp} {lo hi : Int} {T0 : List (V × D)} : Walks K C F0 H0 (Itr lo (hi - lo).toNat) (rgD lo hi) T0 := fun i g P T σ H ht S => by
  have hl : (rgD lo hi).length = (hi - lo).toNat := by unfold rgD; rw [List.length_map, List.length_range]
  refine ⟨fun d e => ?_, fun e => by show (hi - lo).toNat ≤ i; rw [e, hl]; exact Nat.le_refl _⟩
  have hi2 := (List.getElem?_eq_some_iff.mp e).1
  rw [hl] at hi2
  unfold rgD at e
  rw [List.getElem?_map, List.getElem?_range hi2] at e
  cases e
  refine ⟨hi2, fun x H' y => ?_⟩
  obtain ⟨rfl, rfl⟩ := y
  exact S.addT fun _ _ => .int _
theorem im_list (a : EM K C E ta ma) : IM K C E (iList K ta) (mItems ma) := ⟨fun F0 H0 g P T σ H R S h =>
  a.run F0 H0 g P T σ H _ S (h.bind.mono fun x hx v H' S1 => by
    split at hx
    · rename_i ds
      obtain ⟨F, f⟩ := S1
      have z := f.ts _ List.mem_cons_self
      cases z with
      | lst ha hb => exact ⟨_, rfl, ⟨_, f.sqL ha⟩, hx _ _ H' (fun z hz => List.mem_cons_of_mem _ hz) ⟨F, f⟩ (walks_list List.mem_cons_self)⟩
    · exact hx.elim)⟩
theorem im_rng1 (a : AM K C E t ms) : IM K C E (iRng1 t) (mRng1 ms) := ⟨fun F0 H0 g P T σ H R S h =>
  a.run F0 H0 g P T σ H _ S (h.bind.mono fun xs hx vs T' H' ht al S1 => by
    split at hx
    · rename_i n
      split at hx
      · rename_i hn
        obtain ⟨v, rfl, hv⟩ := al1 al
        obtain ⟨F, f⟩ := S1
        have z := f.ts _ hv
        cases z
        refine ⟨n, rfl, by omega, by omega, hx _ T' H' ht ⟨F, f⟩ ?_⟩
        have w : Walks K C F0 H0 (Itr 0 (n - 0).toNat) (rgD 0 n) T' := walks_range
        rw [Int.sub_zero] at w
        exact w
      · exact hx.elim
    · exact hx.elim)⟩
end
/-! ### targets: one name, or a pair of names -/
inductive Tg where
  | one (i : Nat)
  | two (i j : Nat)
def Tg.g (K : PySem.W.Frag) : Tg → TG
  | .one i => gName i
  | .two i j => gTup K 2 (gCons (gName i) (gCons (gName j) gNil))
def Tg.put' : Tg → D → Rs (List (Nat × D))
  | .one i, d => .ok [(i, d)]
  | .two i j, .tup [a, b] => .ok [(i, a), (j, b)]
  | .two _ _, _ => .no
def setsG (g : G) (ps : List (Nat × D)) : G := ps.foldl (fun g p => g.set p.1 (some p.2)) g
def setsS (σ : L2.St) (ps : List (Nat × V)) : L2.St := ps.foldl (fun g p => g.set p.1 (some p.2)) σ
theorem Tg.run {K : PySem.W.Frag} {C : Addr} {F0 H0 : Hp} {g0 : G} {P : List (Addr × List V)} {T : List (V × D)} {σ0 σ : L2.St} {H : Hp} {E : XK} {x : V} {d : D} {Q : L2.St → Hp → Prop} (tg : Tg) (S : SS ⟨K, C, F0, H0⟩ g0 P T σ0 H) (hx : (x, d) ∈ T)
    (h : Wish H0 E (tg.put' d) fun ps => ∀ qs T', (∀ z ∈ T, z ∈ T') → Paired (fun (p : Nat × D) (q : Nat × V) => p.1 = q.1 ∧ (q.2, p.2) ∈ T') ps qs → SS ⟨K, C, F0, H0⟩ g0 P T' σ0 H → Q (setsS σ qs) H) : tg.g K x σ H Q := by
  cases tg with
  | one i => exact h [(i, x)] T (fun _ z => z) (.cons ⟨rfl, hx⟩ .nil) S
  | two i j =>
    unfold Tg.put' at h
    split at h
    · rename_i z
      cases z
    · rename_i i' j' a b z
      cases z
      obtain ⟨p, vs, rfl, hp, al, S2⟩ := S.openT hx
      cases al with
      | cons r1 t1 =>
        cases t1 with
        | cons r2 t2 =>
          cases t2
          exact ⟨p, _, rfl, .inl (.inl hp), rfl, _, _, rfl, _, _, rfl, rfl, h [(i, _), (j, _)] _ (fun z hz => List.mem_append_right _ hz) (.cons ⟨rfl, r1⟩ (.cons ⟨rfl, r2⟩ .nil)) S2⟩
    · exact h.elim
theorem Sl.sets {T : List (V × D)} {ps : List (Nat × D)} {qs : List (Nat × V)} (r : Paired (fun (p : Nat × D) (q : Nat × V) => p.1 = q.1 ∧ (q.2, p.2) ∈ T) ps qs) : ∀ {g : G} {σ : L2.St}, Sl T g σ → Sl T (setsG g ps) (setsS σ qs) := by
  induction r with
  | nil => exact fun h => h
  | cons h1 t ih =>
    intro g σ h
    obtain ⟨e, m⟩ := h1
    rename_i p q _ _
    obtain ⟨i, d⟩ := p
    obtain ⟨j, v⟩ := q
    cases e
    exact ih (h.set m)
/-! ### comprehensions -/
theorem al_snoc {T : List (V × D)} {v : V} {d : D} (hv : (v, d) ∈ T) : ∀ {vs : List V} {ds : List D}, Al T vs ds → Al T (vs ++ [v]) (ds ++ [d])
  | _, _, .nil => .cons hv .nil
  | _, _, .cons r t => .cons r (al_snoc hv t)
def Rs.nx {α : Type} : Rs α → Rs α
  | .ok a => .ok a
  | _ => .no
@[simp] theorem Rs.nx_ok {α : Type} (a : α) : (Rs.ok a).nx = .ok a := rfl
theorem Wish.nx {α : Type} {H0 : Hp} {E E' : XK} {o : Rs α} {Q : α → Prop} (h : Wish H0 E o.nx Q) : Wish H0 E' o Q := by
  cases o with
  | ok a => exact h
  | ex c r => exact h.elim
  | no => exact h.elim
def mYes : G → Rs Bool := fun _ => .ok true
def Tg.slots : Tg → List Nat
  | .one i => [i]
  | .two i j => [i, j]
theorem Tg.put_slots {tg : Tg} {d : D} {ps : List (Nat × D)} (h : tg.put' d = .ok ps) : ∀ p ∈ ps, p.1 ∈ tg.slots := by
  unfold Tg.put' at h
  split at h
  · cases h
    intro p hp
    rw [List.mem_singleton] at hp
    subst hp
    simp [Tg.slots]
  · cases h
    intro p hp
    simp only [List.mem_cons, List.not_mem_nil, or_false] at hp
    rcases hp with e | e <;> subst e <;> simp [Tg.slots]
  · cases h
/-! ### calls -/
def spM (K : PySem.W.Frag) (C : Addr) (n : Nat) (φ : List D → Rs D) : Sp := fun vs H Q E => ∃ F ds, Same F H ∧ IsA K C F vs ds ∧ vs.length = n ∧
  Wish H E (φ ds) (fun d => ∀ v H' g P T σ, SS ⟨K, C, F, H⟩ g P ((v, d) :: T) σ H' → Q v H')
theorem XOk.mono {H0 H1 : Hp} {E : XK} {c : Addr} {r : Option Int} (h : XOk H0 E c r) (e : Same H0 H1) : XOk H1 E c r := by
  cases r with
  | none => exact fun H' s => h H' (e.trans s)
  | some r => exact fun d H' s n => h d H' (e.trans s) (e.free n)
section
variable {K : PySem.W.Frag} {C : Addr} {E E' : XK} {t : TA} {ms : G → Rs (List D)} {φ : List D → Rs D} {n : Nat}
/-- a call of a def that nothing leaves -/
theorem em_call0 (hn : ∀ g ds, ms g = .ok ds → ds.length = n) (a : AM K C E t ms) : EM K C E (tCall (spM K C n φ) [] E' t) (mCall (fun ds => (φ ds).nx) ms) := ⟨fun F0 H0 g P T σ H Q S h =>
  a.run F0 H0 g P T σ H _ S (by
    cases e : ms g with
    | ex c r =>
      unfold mCall at h
      rw [e] at h
      exact h
    | no =>
      unfold mCall at h
      rw [e] at h
      exact h
    | ok ds =>
      unfold mCall at h
      rw [e] at h
      show ∀ vs T' H', _ → _ → _ → _
      intro vs T' H' ht al S1
      obtain ⟨F, f⟩ := S1
      rw [List.append_nil]
      refine ⟨F, ds, f.eH, f.all al, by rw [al.len]; exact hn g ds e, ?_⟩
      have h' : Wish H0 E (φ ds).nx _ := h
      cases eo : φ ds with
      | no =>
        rw [eo] at h'
        exact h'.elim
      | ex c r =>
        rw [eo] at h'
        exact h'.elim
      | ok d =>
        rw [eo] at h'
        intro v H2 g2 P2 T2 σ2 S2
        obtain ⟨F2, f2⟩ := S2
        refine h' v H2 ?_
        have f3 : Fz ⟨K, C, F0, H0⟩ g P T' σ H2 F2 := f.grow f2.eF f2.eH f2.e0 fun p hp hf => f2.nw p hp hf
        exact ⟨F2, (f3.sub ht).addT (f2.ts _ List.mem_cons_self)⟩)⟩
end
/-! ### statements -/
structure Sta where
  g : G
  mu : Option (Nat × List D)
inductive Ou where
  | nx (s : Sta)
  | rt (d : D)
  | bk (s : Sta)
  | ct (s : Sta)
def MuOk (mu : Option (Nat × List D)) (g : G) (P : List (Addr × List V)) (T : List (V × D)) (σ : L2.St) : Prop := match mu with
  | none => P = []
  | some (i, ds) => ∃ p vs, P = [(p, vs)] ∧ σ[i]? = some (some (.ref p)) ∧ Al T vs ds ∧ g[i]? = some none
def SSm (B : Bs) (s : Sta) (T : List (V × D)) (σ : L2.St) (H : Hp) : Prop := ∃ P T', (∀ x ∈ T, x ∈ T') ∧ MuOk s.mu s.g P T' σ ∧ SS B s.g P T' σ H
def Post (K : PySem.W.Frag) (C : Addr) (F0 H0 : Hp) (T : List (V × D)) (D' : Ends) : Ou → Prop
  | .nx s => ∀ σ H, SSm ⟨K, C, F0, H0⟩ s T σ H → D'.nx σ H
  | .rt d => ∀ v H g P T' σ, SS ⟨K, C, F0, H0⟩ g P ((v, d) :: T') σ H → D'.rt v H
  | .bk s => ∀ σ H, SSm ⟨K, C, F0, H0⟩ s T σ H → D'.bk σ H
  | .ct s => ∀ σ H, SSm ⟨K, C, F0, H0⟩ s T σ H → D'.ct σ H
structure SM (K : PySem.W.Frag) (C : Addr) (E : XK) (t : TS) (m : Sta → Rs Ou) : Prop where
  run : ∀ F0 H0 s T σ H D', SSm ⟨K, C, F0, H0⟩ s T σ H → Wish H0 E (m s) (Post K C F0 H0 T D') → t D' σ H
structure PSM (X : Cx) (K : PySem.W.Frag) (C : Addr) (E : XK) (st : Stmt) (t : TS) (m : Sta → Rs Ou) : Prop where
  p : PS X st t
  q : SM K C E t m
structure PSSM (X : Cx) (K : PySem.W.Frag) (C : Addr) (E : XK) (st : List Stmt) (t : TS) (m : Sta → Rs Ou) : Prop where
  p : PSs X st t
  q : SM K C E t m
def Sta.set (s : Sta) (i : Nat) (d : D) : Sta := ⟨s.g.set i (some d), match s.mu with
  | none => none
  | some (j, ds) => if j = i then none else some (j, ds)⟩
def Sta.frz (s : Sta) : Sta := match s.mu with
  | none => s
  | some (i, ds) => ⟨s.g.set i (some (.lst ds)), none⟩
def Sta.kill (ks : List Nat) (s : Sta) : Sta := ⟨killG ks s.g, s.mu⟩
def sNil : Sta → Rs Ou := fun s => .ok (.nx s)
def sSeq (a b : Sta → Rs Ou) : Sta → Rs Ou := fun s => (a s).bind fun o => match o with
  | .nx s' => b s'
  | o => .ok o
def sSet (i : Nat) (e : G → Rs D) : Sta → Rs Ou := fun s => (e s.g).bind fun d => .ok (.nx (s.set i d))
def sSet2 (i j : Nat) (e : G → Rs D) : Sta → Rs Ou := fun s => (e s.g).bind fun d => match d with
  | .tup [a, b] => .ok (.nx ((s.set i a).set j b))
  | _ => .no
def sPar (i j : Nat) (e : G → Rs (List D)) : Sta → Rs Ou := fun s => (e s.g).bind fun d => match d with
  | [a, b] => .ok (.nx ((s.set i a).set j b))
  | _ => .no
def sNew (i : Nat) (e : G → Rs (List D)) : Sta → Rs Ou := fun s => (e s.g).bind fun ds => if i < s.g.length then .ok (.nx ⟨s.g.set i none, some (i, ds)⟩) else .no
def sFrz (m : Sta → Rs Ou) : Sta → Rs Ou := fun s => m s.frz
def sKill (ks : List Nat) (m : Sta → Rs Ou) : Sta → Rs Ou := fun s => m (s.kill ks)
def sApp (i : Nat) (e : G → Rs D) : Sta → Rs Ou := fun s => match s.mu with
  | some (j, ds) => if j = i ∧ ds.length ≤ LIM then (e s.g).bind fun d => .ok (.nx ⟨s.g, some (j, ds ++ [d])⟩) else .no
  | none => .no
def sPut (i : Nat) (k e : G → Rs D) : Sta → Rs Ou := fun s => match s.mu with
  | some (j, ds) => if j = i then (e s.g).bind fun d => (k s.g).bind fun z => (match z with
      | .int z => (match ixN ds.length z with
        | some n => .ok (.nx ⟨s.g, some (j, ds.set n d)⟩)
        | none => .no)
      | _ => .no) else .no
  | none => .no
def sIf (c : G → Rs Bool) (a b : Sta → Rs Ou) : Sta → Rs Ou := fun s => (c s.g).bind fun x => if x = true then a s else b s
def sRet (e : G → Rs D) : Sta → Rs Ou := fun s => (e s.g).bind fun d => .ok (.rt d)
def sExp (e : G → Rs D) : Sta → Rs Ou := fun s => (e s.g).bind fun _ => .ok (.nx s)
def sRaise (c : Addr) : Sta → Rs Ou := fun _ => .ex c none
def Sta.sets (s : Sta) (ps : List (Nat × D)) : Sta := ⟨setsG s.g ps, s.mu⟩
def muFree (mu : Option (Nat × List D)) (ks : List Nat) : Bool := match mu with
  | none => true
  | some (j, _) => !ks.contains j
def forGo (tg : Tg) (ks : List Nat) (b : Sta → Rs Ou) : List D → Sta → Rs Ou
  | [], s => .ok (.nx s)
  | d :: r, s => (tg.put' d).bind fun ps => if muFree s.mu tg.slots = true then (b (s.sets ps)).bind fun o => match o with
      | .nx s' => forGo tg ks b r (s'.kill ks)
      | .ct s' => forGo tg ks b r (s'.kill ks)
      | .bk s' => .ok (.nx s')
      | .rt d => .ok (.rt d) else .no
def sFor (mi : G → Rs (List D)) (tg : Tg) (ks : List Nat) (b : Sta → Rs Ou) : Sta → Rs Ou := fun s => (mi s.g).bind fun ds => forGo tg ks b ds (s.kill ks)
section
variable {B : Bs} {s s' : Sta} {T T' : List (V × D)} {σ σ' : L2.St} {H H' : Hp} {P : List (Addr × List V)} {v : V} {d : D} {mu : Option (Nat × List D)} {g : G}
theorem MuOk.mono (h : MuOk mu g P T σ) (t : ∀ x ∈ T, x ∈ T') : MuOk mu g P T' σ := by
  unfold MuOk at h ⊢
  split at h
  · exact h
  · obtain ⟨p, vs, h1, h2, h3, h4⟩ := h
    exact ⟨p, vs, h1, h2, h3.mono t, h4⟩
theorem SSm.sub (h : SSm B s T σ H) (t : ∀ x ∈ T', x ∈ T) : SSm B s T' σ H := by
  obtain ⟨P, T1, t1, mu, S⟩ := h
  exact ⟨P, T1, fun x hx => t1 x (t x hx), mu, S⟩
theorem SSm.of (S : SS B s.g P T' σ H) (m : MuOk s.mu s.g P T' σ) (t : ∀ x ∈ T, x ∈ T') : SSm B s T σ H := ⟨P, T', t, m, S⟩
theorem MuOk.set (h : MuOk s.mu s.g P T σ) {i : Nat} : ∃ P', (∀ x ∈ P', x ∈ P) ∧ MuOk (s.set i d).mu (s.set i d).g P' T (σ.set i (some v)) := by
  unfold Sta.set
  cases e : s.mu with
  | none =>
    rw [e] at h
    exact ⟨P, fun _ z => z, h⟩
  | some q =>
    obtain ⟨j, ds⟩ := q
    rw [e] at h
    obtain ⟨p, vs, h1, h2, h3, h4⟩ := h
    dsimp only
    by_cases z : j = i
    · rw [if_pos z]
      exact ⟨[], fun _ z => (by cases z), rfl⟩
    · rw [if_neg z]
      refine ⟨P, fun _ z => z, p, vs, h1, ?_, h3, ?_⟩
      · rw [List.getElem?_set_ne (Ne.symm z)]
        exact h2
      · rw [List.getElem?_set_ne (Ne.symm z)]
        exact h4
theorem SSm.set (S : SS B s.g P T σ H) (m : MuOk s.mu s.g P T σ) {i : Nat} (hv : (v, d) ∈ T) : ∃ P', MuOk (s.set i d).mu (s.set i d).g P' T (σ.set i (some v)) ∧ SS B (s.set i d).g P' T (σ.set i (some v)) H := by
  obtain ⟨P', p1, p2⟩ := m.set (i := i) (d := d) (v := v)
  exact ⟨P', p2, (S.set hv).subP p1⟩
theorem SSm.frz (h : SSm B s T σ H) : SSm B s.frz T σ H := by
  obtain ⟨P, T1, t1, mu, S⟩ := h
  unfold Sta.frz
  cases e : s.mu with
  | none => exact ⟨P, T1, t1, mu, S⟩
  | some q =>
    obtain ⟨i, ds⟩ := q
    rw [e] at mu
    obtain ⟨p, vs, h1, h2, h3, h4⟩ := mu
    subst h1
    have S2 := S.frz (fun x hx => by cases hx) h3
    have S3 := S2.set (i := i) List.mem_cons_self
    have e2 : σ.set i (some (.ref p)) = σ := by
      obtain ⟨h1, h2⟩ := List.getElem?_eq_some_iff.mp h2
      rw [← h2]
      exact List.set_getElem_self h1
    rw [e2] at S3
    exact ⟨[], _, fun x hx => List.mem_cons_of_mem _ (t1 x hx), rfl, S3⟩
theorem killG_none {g : G} {i : Nat} (h : g[i]? = some none) : ∀ ks : List Nat, (killG ks g)[i]? = some none
  | [] => h
  | k :: r => by
    have ih := killG_none h r
    show ((killG r g).set k none)[i]? = some none
    by_cases e : k = i
    · subst e
      rw [List.getElem?_set_self (List.getElem?_eq_some_iff.mp ih).1]
    · rw [List.getElem?_set_ne e]
      exact ih
theorem SSm.kill (h : SSm B s T σ H) (ks : List Nat) : SSm B (s.kill ks) T σ H := by
  obtain ⟨P, T1, t1, mu, S⟩ := h
  refine ⟨P, T1, t1, ?_, S.kill ks⟩
  unfold Sta.kill
  unfold MuOk at mu ⊢
  split at mu
  · rename_i e
    rw [e]
    exact mu
  · rename_i i ds e
    rw [e]
    obtain ⟨p, vs, h1, h2, h3, h4⟩ := mu
    exact ⟨p, vs, h1, h2, h3, killG_none h4 ks⟩
theorem setsG_get {i : Nat} {o : Option D} : ∀ {ps : List (Nat × D)} {g : G}, (∀ p ∈ ps, p.1 ≠ i) → g[i]? = some o → (setsG g ps)[i]? = some o
  | [], g, _, h => h
  | p :: r, g, hn, h => setsG_get (ps := r) (g := g.set p.1 (some p.2)) (fun q hq => hn q (List.mem_cons_of_mem _ hq)) (by rw [List.getElem?_set_ne (hn p List.mem_cons_self)]; exact h)
theorem setsS_get {i : Nat} {o : Option V} : ∀ {ps : List (Nat × V)} {g : L2.St}, (∀ p ∈ ps, p.1 ≠ i) → g[i]? = some o → (setsS g ps)[i]? = some o
  | [], g, _, h => h
  | p :: r, g, hn, h => setsS_get (ps := r) (g := g.set p.1 (some p.2)) (fun q hq => hn q (List.mem_cons_of_mem _ hq)) (by rw [List.getElem?_set_ne (hn p List.mem_cons_self)]; exact h)
theorem muFree_ne {mu : Option (Nat × List D)} {ks : List Nat} {j : Nat} {ds : List D} (h : muFree mu ks = true) (e : mu = some (j, ds)) : ∀ k ∈ ks, k ≠ j := by
  subst e
  intro k hk z
  subst z
  have h2 : (!ks.contains k) = true := h
  rw [Bool.not_eq_true', List.contains_eq_mem, decide_eq_false_iff_not] at h2
  exact h2 hk
end
section
variable {K : PySem.W.Frag} {C : Addr} {E E' : XK} {te ta ti : TE} {me mi' : G → Rs D} {t u : TS} {m m' a b : Sta → Rs Ou} {tt : TT} {mc : G → Rs Bool} {wi : TI} {mi : G → Rs (List D)}
theorem sm_nil : SM K C E tNext sNil := ⟨fun F0 H0 s T σ H D' S h => h σ H S⟩
theorem sm_seq (h1 : SM K C E t a) (h2 : SM K C E u b) : SM K C E (tSeq t u) (sSeq a b) := ⟨fun F0 H0 s T σ H D' S h =>
  h1.run F0 H0 s T σ H _ S (h.bind.mono fun o ho => by
    cases o with
    | nx s' => exact fun σ' H' S' => h2.run F0 H0 s' T σ' H' D' S' ho
    | rt d => exact ho
    | bk s' => exact ho
    | ct s' => exact ho)⟩
theorem sm_frz (h : SM K C E t m) : SM K C E t (sFrz m) := ⟨fun F0 H0 s T σ H D' S w => h.run F0 H0 s.frz T σ H D' S.frz w⟩
theorem sm_set {i : Nat} (h : EM K C E te me) : SM K C E (tAsg te (gName i)) (sSet i me) := ⟨fun F0 H0 s T σ H D' S w => by
  obtain ⟨P, T1, t1, mu, S1⟩ := S
  refine h.run F0 H0 s.g P T1 σ H _ S1 (w.bind.mono fun d hd v H' S2 => ?_)
  obtain ⟨P', p1, p2⟩ := SSm.set S2 (mu.mono fun z hz => List.mem_cons_of_mem _ hz) (i := i) List.mem_cons_self
  exact hd _ _ ⟨P', _, fun x hx => List.mem_cons_of_mem _ (t1 x hx), p1, p2⟩⟩
theorem two_set {i j : Nat} {F0 H0 : Hp} {s : Sta} {P : List (Addr × List V)} {T1 : List (V × D)} {σ : L2.St} {H : Hp} {v w : V} {a b : D} (S : SS ⟨K, C, F0, H0⟩ s.g P T1 σ H) (mu : MuOk s.mu s.g P T1 σ) (h1 : (v, a) ∈ T1) (h2 : (w, b) ∈ T1) {T : List (V × D)} (t : ∀ x ∈ T, x ∈ T1) :
    SSm ⟨K, C, F0, H0⟩ ((s.set i a).set j b) T ((σ.set i (some v)).set j (some w)) H := by
  obtain ⟨P1, p1, p2⟩ := SSm.set S mu (i := i) h1
  obtain ⟨P2, p3, p4⟩ := SSm.set (s := s.set i a) p2 p1 (i := j) h2
  exact ⟨P2, T1, t, p3, p4⟩
theorem sm_set2 {i j : Nat} (h : EM K C E te me) : SM K C E (tAsg te ((Tg.two i j).g K)) (sSet2 i j me) := ⟨fun F0 H0 s T σ H D' S w => by
  obtain ⟨P, T1, t1, mu, S1⟩ := S
  refine h.run F0 H0 s.g P T1 σ H _ S1 (w.bind.mono fun d hd v H' S2 => ?_)
  split at hd
  · rename_i a b
    obtain ⟨p, vs, rfl, hp, al, S3⟩ := S2.openT List.mem_cons_self
    cases al with
    | cons r1 q1 =>
      cases q1 with
      | cons r2 q2 =>
        cases q2
        exact ⟨p, _, rfl, .inl (.inl hp), rfl, _, _, rfl, _, _, rfl, rfl, hd _ _ (two_set S3 (mu.mono fun z hz => List.mem_append_right _ (List.mem_cons_of_mem _ hz)) r1 r2 fun x hx => List.mem_append_right _ (List.mem_cons_of_mem _ (t1 x hx)))⟩
  · exact hd.elim⟩
theorem sm_new {i : Nat} {ms : G → Rs (List D)} (h : LM K C E te ms) : SM K C E (tAsg te (gName i)) (sNew i ms) := ⟨fun F0 H0 s T σ H D' S w => by
  obtain ⟨P, T1, t1, mu, S1⟩ := S
  refine h.run F0 H0 s.g P T1 σ H _ S1 (w.bind.mono fun ds hd p vs T' H' ht al hp S2 => ?_)
  split at hd
  · rename_i hi
    have S3 := (S2.set0 (i := i) (o := some (.ref p))).subP (P' := [(p, vs)]) fun x hx => by
      rw [List.mem_singleton] at hx
      rw [hx]
      exact List.mem_cons_self
    have hl : σ.length = s.g.length := by
      obtain ⟨F, f⟩ := S2
      exact f.ln
    refine hd _ _ ⟨_, T', fun x hx => ht x (t1 x hx), ⟨p, vs, rfl, ?_, al, ?_⟩, S3⟩
    · rw [List.getElem?_set_self (by rw [hl]; exact hi)]
    · rw [List.getElem?_set_self hi]
  · exact hd.elim⟩
theorem al_set {T : List (V × D)} {v : V} {d : D} (hv : (v, d) ∈ T) : ∀ {vs : List V} {ds : List D} (n : Nat), Al T vs ds → Al T (vs.set n v) (ds.set n d)
  | _, _, _, .nil => .nil
  | _, _, 0, .cons _ t => .cons hv t
  | _, _, n + 1, .cons r t => .cons r (al_set hv n t)
theorem sm_app {i : Nat} (h : EM K C E te me) : SM K C E (tDrop (tBM K "list" rAppend (tVar i) (tCons te tNil))) (sApp i me) := ⟨fun F0 H0 s T σ H D' S w => by
  obtain ⟨P, T1, t1, mu, S1⟩ := S
  unfold sApp at w
  cases e : s.mu with
  | none =>
    rw [e] at w
    exact w.elim
  | some q =>
    obtain ⟨j, ds⟩ := q
    rw [e] at w mu
    dsimp only at w
    split at w
    · rename_i hc
      obtain ⟨rfl, hl⟩ := hc
      obtain ⟨p, vs, h1, h2, h3, h4⟩ := mu
      subst h1
      refine ⟨.ref p, h2, .inl ⟨rfl, vs, .inl (.inl S1.cell)⟩, ?_⟩
      refine h.run F0 H0 s.g _ T1 σ H _ S1 (w.bind.mono fun d hd v H' S2 => ?_)
      refine ⟨p, vs, v, rfl, rfl, S2.cell, by rw [h3.len]; exact lim_lt hl, ?_⟩
      refine hd _ _ ⟨[(p, vs ++ [v])], _, fun x hx => List.mem_cons_of_mem _ (t1 x hx), ⟨p, _, rfl, h2, al_snoc List.mem_cons_self (h3.mono fun z hz => List.mem_cons_of_mem _ hz), h4⟩, S2.write fun x hx => by cases hx⟩
    · exact w.elim⟩
theorem sm_put {i : Nat} {k : G → Rs D} {tk : TE} (h : EM K C E te me) (hk : EM K C E tk k) : SM K C E (tAsg te (gSub (tVar i) tk rSetL)) (sPut i k me) := ⟨fun F0 H0 s T σ H D' S w => by
  obtain ⟨P, T1, t1, mu, S1⟩ := S
  unfold sPut at w
  cases e : s.mu with
  | none =>
    rw [e] at w
    exact w.elim
  | some q =>
    obtain ⟨j, ds⟩ := q
    rw [e] at w mu
    dsimp only at w
    split at w
    · rename_i hc
      subst hc
      obtain ⟨p, vs, h1, h2, h3, h4⟩ := mu
      subst h1
      refine h.run F0 H0 s.g _ T1 σ H _ S1 (w.bind.mono fun d hd v H' S2 => ?_)
      refine ⟨.ref p, h2, ?_⟩
      refine hk.run F0 H0 s.g _ _ σ H' _ S2 (hd.bind.mono fun z hz kv H2 S3 => ?_)
      split at hz
      · rename_i zi
        split at hz
        · rename_i n en
          have ek : kv = .int zi := by
            obtain ⟨F, f⟩ := S3
            have q := f.ts (kv, .int zi) List.mem_cons_self
            cases q
            rfl
          refine ⟨p, vs, zi, n, rfl, ek, S3.cell, by rw [h3.len]; exact en, ?_⟩
          refine hz _ _ ⟨[(p, vs.set n v)], _, fun x hx => List.mem_cons_of_mem _ (List.mem_cons_of_mem _ (t1 x hx)), ⟨p, _, rfl, h2, al_set (List.mem_cons_of_mem _ List.mem_cons_self) n (h3.mono fun z hz => List.mem_cons_of_mem _ (List.mem_cons_of_mem _ hz)), h4⟩, S3.write fun x hx => by cases hx⟩
        · exact hz.elim
      · exact hz.elim
    · exact w.elim⟩
theorem sm_if (hc : TM K C E tt mc) (h1 : SM K C E t a) (h2 : SM K C E u b) : SM K C E (tIfS tt t u) (sIf mc a b) := ⟨fun F0 H0 s T σ H D' S w => by
  obtain ⟨P, T1, t1, mu, S1⟩ := S
  refine hc.run F0 H0 s.g P T1 σ H _ S1 (w.bind.mono fun x hx H' S2 => ?_)
  cases x with
  | true => exact h1.run F0 H0 s T σ H' D' ⟨P, T1, t1, mu, S2⟩ hx
  | false => exact h2.run F0 H0 s T σ H' D' ⟨P, T1, t1, mu, S2⟩ hx⟩
theorem sm_ret (h : EM K C E te me) : SM K C E (tRet te) (sRet me) := ⟨fun F0 H0 s T σ H D' S w => by
  obtain ⟨P, T1, t1, mu, S1⟩ := S
  exact h.run F0 H0 s.g P T1 σ H _ S1 (w.bind.mono fun d hd v H' S2 => hd v H' _ _ _ _ S2)⟩
theorem sm_raise {c : Addr} : SM K C E (fun _ _ H => E (.ref c) none H) (sRaise c) := ⟨fun F0 H0 s T σ H D' S w => by
  obtain ⟨P, T1, t1, mu, F, f⟩ := S
  exact w H f.e0⟩
theorem paired_in {T1 : List (V × D)} {ps : List (Nat × D)} {qs : List (Nat × V)} (r : Paired (fun (p : Nat × D) (q : Nat × V) => p.1 = q.1 ∧ (q.2, p.2) ∈ T1) ps qs) : ∀ q ∈ qs, ∃ p ∈ ps, p.1 = q.1 := by
  induction r with
  | nil =>
    intro q hq
    cases hq
  | cons h1 t ih =>
    intro q hq
    rcases List.mem_cons.mp hq with e | e
    · subst e
      exact ⟨_, List.mem_cons_self, h1.1⟩
    · obtain ⟨p, hp, e2⟩ := ih q e
      exact ⟨p, List.mem_cons_of_mem _ hp, e2⟩
theorem SSm.sets {F0 H0 : Hp} {s : Sta} {P : List (Addr × List V)} {T1 T : List (V × D)} {σ : L2.St} {H : Hp} {ps : List (Nat × D)} {qs : List (Nat × V)} (S : SS ⟨K, C, F0, H0⟩ s.g P T1 σ H) (mu : MuOk s.mu s.g P T1 σ) (hf : ∀ j ds, s.mu = some (j, ds) → ∀ p ∈ ps, p.1 ≠ j)
    (r : Paired (fun (p : Nat × D) (q : Nat × V) => p.1 = q.1 ∧ (q.2, p.2) ∈ T1) ps qs) (t : ∀ x ∈ T, x ∈ T1) : SSm ⟨K, C, F0, H0⟩ (s.sets ps) T (setsS σ qs) H := by
  obtain ⟨T2, t2, sl, S2⟩ := S.slots
  have r2 : Paired (fun (p : Nat × D) (q : Nat × V) => p.1 = q.1 ∧ (q.2, p.2) ∈ T2) ps qs := Paired.mapP r fun a b h => ⟨h.1, t2 _ h.2⟩
  refine ⟨P, T2, fun x hx => t2 x (t x hx), ?_, S2.reslot (sl.sets r2)⟩
  have mu2 := mu.mono t2
  unfold MuOk at mu2 ⊢
  show match s.mu with | none => _ | some (i, ds) => _
  split
  · rename_i e
    rw [e] at mu2
    exact mu2
  · rename_i j ds e
    rw [e] at mu2
    obtain ⟨p, vs, h1, h2, h3, h4⟩ := mu2
    have hn := hf j ds e
    refine ⟨p, vs, h1, setsS_get (fun q hq z => ?_) h2, h3, setsG_get hn h4⟩
    obtain ⟨p, hp, e2⟩ := paired_in r q hq
    exact hn p hp (e2.trans z)
theorem sm_for {tg : Tg} {ks : List Nat} (hi : IM K C E wi mi) (hb : SM K C E t b) : SM K C E (tFor wi (tg.g K) t) (sFor mi tg ks b) := ⟨fun F0 H0 s T σ H D' S w => by
  obtain ⟨P, T1, t1, mu, S1⟩ := S
  refine hi.run F0 H0 s.g P T1 σ H _ S1 (w.bind.mono fun ds hd J T2 H1 ht2 S2 wk => ?_)
  have S3 : SSm ⟨K, C, F0, H0⟩ s T2 σ H1 := ⟨P, T2, fun _ z => z, mu.mono ht2, S2⟩
  refine ⟨fun i n σ' H' => ∃ s', i ≤ ds.length ∧ n = ds.length - i ∧ SSm ⟨K, C, F0, H0⟩ s' T2 σ' H' ∧ Wish H0 E (forGo tg ks b (ds.drop i) s') (Post K C F0 H0 T D'), ⟨ds.length, s.kill ks, Nat.zero_le _, rfl, S3.kill ks, by rw [List.drop_zero]; exact hd⟩, ?_⟩
  rintro i n σ' H' ⟨s', hil, rfl, S4, w4⟩
  obtain ⟨P4, T4, t4, mu4, S5⟩ := S4
  obtain ⟨wk1, wk2⟩ := wk i s'.g P4 T4 σ' H' t4 S5
  by_cases hlt : i < ds.length
  · obtain ⟨go, yl⟩ := wk1 ds[i] (List.getElem?_eq_getElem hlt)
    rw [List.drop_eq_getElem_cons hlt] at w4
    refine .inr ⟨go, fun σ'' H'' => ∃ s'', SSm ⟨K, C, F0, H0⟩ s'' T2 σ'' H'' ∧ Wish H0 E (forGo tg ks b (ds.drop (i + 1)) s'') (Post K C F0 H0 T D'), ?_, ?_⟩
    · rintro σ'' H'' ⟨s'', a1, a2⟩
      exact ⟨ds.length - (i + 1), by omega, s'', hlt, rfl, a1, a2⟩
    · intro x H5 y
      have S6 := yl x H5 y
      refine Tg.run (E := E) (g0 := s'.g) (σ0 := σ') tg S6 List.mem_cons_self ?_
      have w0 := w4.bind
      cases ep : tg.put' ds[i] with
      | ex c r =>
        rw [ep] at w0
        exact w0
      | no =>
        rw [ep] at w0
        exact w0
      | ok ps =>
        rw [ep] at w0
        intro qs T6 t6 pr S7
        have w1 : Wish H0 E (if muFree s'.mu tg.slots = true then _ else _) _ := w0
        split at w1
        · rename_i hf
          have S8 : SSm ⟨K, C, F0, H0⟩ (s'.sets ps) T2 (setsS σ' qs) H5 := SSm.sets S7 (mu4.mono fun z hz => t6 z (List.mem_cons_of_mem _ hz)) (fun j es e p hp => muFree_ne hf e _ (Tg.put_slots ep p hp)) pr fun x hx => t6 x (List.mem_cons_of_mem _ (t4 x hx))
          refine hb.run F0 H0 _ T2 _ H5 _ S8 (w1.bind.mono fun o ho => ?_)
          cases o with
          | nx s2 => exact fun σ7 H7 S9 => ⟨s2.kill ks, S9.kill ks, ho⟩
          | ct s2 => exact fun σ7 H7 S9 => ⟨s2.kill ks, S9.kill ks, ho⟩
          | bk s2 => exact fun σ7 H7 S9 => (show ∀ σ H, SSm ⟨K, C, F0, H0⟩ s2 T σ H → D'.nx σ H from ho) σ7 H7 (S9.sub fun x hx => ht2 x (t1 x hx))
          | rt d => exact ho
        · exact w1.elim
  · have e : i = ds.length := by omega
    refine .inl ⟨wk2 e, ?_⟩
    rw [List.drop_of_length_le (by omega)] at w4
    exact (show ∀ σ H, SSm ⟨K, C, F0, H0⟩ s' T σ H → D'.nx σ H from w4) σ' H' ⟨P4, T4, fun x hx => t4 x (ht2 x (t1 x hx)), mu4, S5⟩⟩
end
/-! ### defs -/
def startG (n : Nat) (ds : List D) : G := ds.map some ++ List.replicate (n - ds.length) none
def runM (n : Nat) (m : Sta → Rs Ou) (ds : List D) : Rs D := (m ⟨startG n ds, none⟩).bind fun o => match o with
  | .rt d => .ok d
  | .nx _ => .ok .non
  | _ => .no
theorem start_SS {K : PySem.W.Frag} {C : Addr} {F H : Hp} {N : List Str} {vs : List V} {ds : List D} (e : Same F H) (a : IsA K C F vs ds) : SS ⟨K, C, F, H⟩ (startG N.length ds) [] [] (L2.start N vs) H := by
  refine ⟨F, ⟨Same.refl F, e, Same.refl H, fun _ _ h => h, fun i d h => ?_, ?_, fun x hx => (by cases hx), fun x hx => (by cases hx)⟩⟩
  · unfold startG at h
    by_cases hi : i < ds.length
    · rw [List.getElem?_append_left (by rw [List.length_map]; exact hi), List.getElem?_map] at h
      cases q : ds[i]? with
      | none => rw [q] at h; cases h
      | some d0 =>
        rw [q] at h
        cases h
        obtain ⟨v, h1, h2⟩ := a.get q
        refine ⟨v, ?_, h2⟩
        unfold L2.start
        rw [List.getElem?_append_left (by rw [List.length_map, a.len]; exact hi), List.getElem?_map, h1]
        rfl
    · rw [List.getElem?_append_right (by rw [List.length_map]; omega), List.getElem?_replicate] at h
      split at h
      · cases h
      · cases h
  · unfold L2.start startG
    rw [List.length_append, List.length_append, List.length_map, List.length_map, List.length_replicate, List.length_replicate, a.len]
section
variable {P : Program} {w : World} {K : PySem.W.Frag} {mg : Str → Option Value} {base : Heap} {C : Addr}
/-- a def that nothing leaves -/
theorem def_ok {x qual : Str} {st : Stmt} {f : Addr} {fd : FuncData} {N ps : List Str} {k : Nat} {m : Sta → Rs Ou} (F : Fun K x qual st f fd) (S : FnScope N ps (defScope st))
    (hb : ∀ (cdv : Value) (A : Around) (outer : List Env) (s : Shared) (H : Hp) (E : XK), Room k (A.deeper (PyProof.Rows.envOfC qual (defScope st) s.heap.objs.size f cdv)) →
      ∃ t, PSSM (cxOf CX0 P w K mg base N qual (defScope st) f cdv A outer s H E).nox K C E0 (defBody st) t m) : FnOk P w K mg base CX0 (k + 1) f fd ps (spM K C ps.length fun ds => (runM N.length m ds).nx) := by
  refine F.ok S (fun vs H Q E h => ?_) (fun cdv A outer s H vs Q E hr h => ?_)
  · obtain ⟨_, _, _, _, h, _⟩ := h
    exact h
  · obtain ⟨F, ds, e, a, hl, h⟩ := h
    obtain ⟨t, pt⟩ := hb cdv A outer s H E hr
    refine ⟨t, pt.p, pt.q.run F H ⟨startG N.length ds, none⟩ [] _ H _ ⟨[], [], fun _ z => z, rfl, start_SS e a⟩ ?_⟩
    have h2 := (h.nx (E' := E0)).bind
    exact h2.mono fun o ho => by
      cases o with
      | rt d => exact fun v H' g P T' σ S => ho v H' g P T' σ S
      | nx s =>
        intro σ H' S
        obtain ⟨P, T', t, mu, S⟩ := S
        exact ho .non H' _ _ _ _ (S.addT fun _ _ => .non)
      | bk s => exact ho.elim
      | ct s => exact ho.elim
end
end Z
set_option Elab.async false
set_option linter.all false
set_option maxRecDepth 100000
set_option maxHeartbeats 4000000
/-! Z, part D: for each construct the rule that gives the reading and the mirror at once. -/
namespace Z
set_option autoImplicit false
open PySem L2
abbrev qSub : R2 := rI0 fun i j => .int (i - j)
abbrev qMod : R2 := rI (fun _ j => 0 < j) fun i j => .int (i % j)
abbrev qDiv : R2 := rI CDiv fun i j => .int (i / j)
abbrev qPow : R2 := rI CPow fun i j => .int (i ^ j.toNat)
abbrev qNeg : V → Hp → VK → Prop := rU fun i => .int (-i)
abbrev qLt : R2 := rI0 fun i j => .bl (decide (i < j))
abbrev qLe : R2 := rI0 fun i j => .bl (decide (i ≤ j))
abbrev qGt : R2 := rI0 fun i j => .bl (decide (j < i))
section
variable {X : Cx} {K : PySem.W.Frag} {C : Addr} {E : XK} {e a b c : Expr} {es ifs : List Expr} {te ta tb tc : TE} {m ma mb mc : G → Rs D} {t : TA} {ms : G → Rs (List D)} {pos p p2 : Pos} {tt tA tB' : TT} {mt mA' mB' : G → Rs Bool}
/-! ### expressions -/
theorem x_v (i : Nat) {x : Str} (hN : X.N[i]? = some x := by rfl) (hv : Vis X.env.scope x := by first | exact Or.inl rfl | exact Or.inr (Or.inl rfl) | exact Or.inr (Or.inr rfl)) (hd : (x == ("__debug__" : Str)) = false := by decide)
    (hcd : (x == ("__classdict__" : Str)) = false := by decide) : PEM X K C E (.Name x pos) (tVar i) (mV i) := ⟨pe_var hN hv hd hcd, em_v i⟩
theorem x_int {i : Int} {j : Nat} : PEM X K C E (.Constant (.int i) j pos) (tC (.int i)) (mC (.int i)) := ⟨pe_int, em_c fun _ => .int i⟩
theorem x_bl {i : Bool} {j : Nat} : PEM X K C E (.Constant (.bool i) j pos) (tC (.bl i)) (mC (.bl i)) := ⟨pe_bl, em_c fun _ => .bl i⟩
theorem x_bin {op : Operator} {r : R2} {f : D → D → Option D} (ho : OpR X (binaryOp op) r) (hf : R2M K C r f) (ha : PEM X K C E a ta ma) (hb : PEM X K C E b tb mb) : PEM X K C E (.BinOp a op b pos) (tOp r ta tb) (m2 f ma mb) := ⟨pe_op ho ha.p hb.p, em_2 hf ha.q hb.q⟩
theorem x_add (ha : PEM X K C E a ta ma) (hb : PEM X K C E b tb mb) : PEM X K C E (.BinOp a .Add b pos) (tOp rAdd2 ta tb) (m2 dAdd ma mb) := x_bin (op_add.or op_cat) r_add ha hb
theorem x_sub (ha : PEM X K C E a ta ma) (hb : PEM X K C E b tb mb) : PEM X K C E (.BinOp a .Sub b pos) (tOp qSub ta tb) (m2 dSub ma mb) := x_bin op_sub r_sub ha hb
theorem x_mul (ha : PEM X K C E a ta ma) (hb : PEM X K C E b tb mb) : PEM X K C E (.BinOp a .Mult b pos) (tOp rMul2 ta tb) (m2 dMul ma mb) := x_bin (op_mul.or op_rep) r_mul ha hb
theorem x_mod (ha : PEM X K C E a ta ma) (hb : PEM X K C E b tb mb) : PEM X K C E (.BinOp a .Mod b pos) (tOp qMod ta tb) (m2 dMod ma mb) := x_bin op_mod r_mod ha hb
theorem x_div (ha : PEM X K C E a ta ma) (hb : PEM X K C E b tb mb) : PEM X K C E (.BinOp a .FloorDiv b pos) (tOp qDiv ta tb) (m2 dDiv ma mb) := x_bin op_fdiv r_div ha hb
theorem x_pow (ha : PEM X K C E a ta ma) (hb : PEM X K C E b tb mb) : PEM X K C E (.BinOp a .Pow b pos) (tOp qPow ta tb) (m2 dPow ma mb) := x_bin op_pow r_pow ha hb
theorem x_neg (ha : PEM X K C E a ta ma) : PEM X K C E (.UnaryOp .USub a pos) (tUn qNeg ta) (m1 dNeg ma) := ⟨pe_un un_neg ha.p, em_1 r_neg ha.q⟩
theorem x_cmp {op : CmpOp} {r : R2} {f : D → D → Option D} (ho : OpR X (compareOp op) r) (hf : R2M K C r f) (hm : behindInMarks op b = false) (ha : PEM X K C E a ta ma) (hb : PEM X K C E b tb mb) : PEM X K C E (.Compare a [op] [b] pos) (tOp r ta tb) (m2 f ma mb) := ⟨pe_cmpR ho ha.p hb.p hm, em_2 hf ha.q hb.q⟩
theorem x_eq (hu : X.A.units + 64 < cLine) (ha : PEM X K C E a ta ma) (hb : PEM X K C E b tb mb) (hK : X.K = K := by rfl) : PEM X K C E (.Compare a [.Eq] [b] pos) (tOp (rEqD K) ta tb) (m2 dEq ma mb) := by
  subst hK
  exact x_cmp (op_eqD hu) r_eq (nomark _) ha hb
theorem x_ix (ha : PEM X K C E a ta ma) (hb : PEM X K C E b tb mb) (hs : PlainIx b := by exact fun _ _ => rfl) (hK : X.K = K := by rfl) : PEM X K C E (.Subscript a b pos) (tOp (rIx2 K) ta tb) (m2 dIx ma mb) := by
  subst hK
  exact ⟨pe_ix (ix_list.or ix_tup) ha.p hb.p hs, em_2 r_ix ha.q hb.q⟩
theorem o_n : POM X K C E none tNoPart mN := ⟨po_none, om_n⟩
theorem o_s (ha : PEM X K C E a ta ma) : POM X K C E (some a) (tPart ta) (mS ma) := ⟨po_some ha.p, om_s ha.q⟩
theorem x_sl {lo hi : Option Expr} {tl th : TO} {ml mh : G → Rs (Option Int)} (ha : PEM X K C E a ta ma) (hl : POM X K C E lo tl ml) (hh : POM X K C E hi th mh) (hK : X.K = K := by rfl) : PEM X K C E (.Subscript a (.Slice lo hi none p2) pos) (tSl (rSlL K) ta tl th) (mSl ma ml mh) := by
  subst hK
  exact ⟨pe_slice sl_list ha.p hl.p hh.p, em_sl ha.q hl.q hh.q⟩
theorem x_fld {n : Str} (hc : Cls K C) (hn : NoAttr K C n) (ha : PEM X K C E a ta ma) (hb : attributeBase a n X.env (eval a X.env) = eval a X.env := by rfl) (hK : X.K = K := by rfl) : PEM X K C E (.Attribute a n pos) (tFld K ta n) (m1 (dFld n) ma) := by
  subst hK
  exact ⟨pe_fld ha.p hb, em_fld hc hn ha.q⟩
/-! ### arguments, displays -/
theorem a_nil : PAM X K C E [] tNil mNil := ⟨pa_nil, am_nil⟩
theorem a_cons (ha : PEM X K C E e te m) (hr : PAM X K C E es t ms) (hs : starEach (e :: es) X.env = (false, eval e X.env) :: starEach es X.env := by rfl) : PAM X K C E (e :: es) (tCons te t) (mCons m ms) := ⟨pa_cons ha.p hr.p hs, am_cons ha.q hr.q⟩
theorem mNil_len : ∀ (g : G) ds, mNil g = .ok ds → ds.length = 0 := fun g ds h => by cases h; rfl
theorem mCons_len {n : Nat} (h : ∀ (g : G) ds, ms g = .ok ds → ds.length = n) : ∀ (g : G) ds, mCons m ms g = .ok ds → ds.length = n + 1 := fun g ds q => by
  unfold mCons at q
  cases e1 : m g with
  | ok x =>
    rw [e1] at q
    cases e2 : ms g with
    | ok xs =>
      rw [Rs.bind_ok, e2, Rs.bind_ok] at q
      cases q
      exact congrArg Nat.succ (h g xs e2)
    | ex c r => rw [Rs.bind_ok, e2] at q; cases q
    | no => rw [Rs.bind_ok, e2] at q; cases q
  | ex c r => rw [e1] at q; cases q
  | no => rw [e1] at q; cases q
theorem len_le {n : Nat} (h : ∀ (g : G) ds, ms g = .ok ds → ds.length = n) (hn : n ≤ 1000) : ∀ (g : G) ds, ms g = .ok ds → ds.length ≤ 1000 := fun g ds q => by rw [h g ds q]; exact hn
theorem x_tup {n : Nat} {k : Nat} (hn : n ≤ 1000) (ha : PAM X K C E es t ms) (hl : ∀ (g : G) ds, ms g = .ok ds → ds.length = n) : PEM X K C E (.Tuple es k pos) (tTup t) (mTup ms) := ⟨pe_tup ha.p, em_tup ha.q (len_le hl hn)⟩
/-- a display of a list, not frozen yet; frozen -/
theorem l_lst {n : Nat} (hn : n ≤ 1000) (ha : PAM X K C E es t ms) (hl : ∀ (g : G) ds, ms g = .ok ds → ds.length = n) : PLM X K C E (.List es pos) (tLst t) ms := ⟨pe_lst ha.p, lm_lst ha.q (len_le hl hn)⟩
theorem x_l (h : PLM X K C E e te ms) : PEM X K C E e te (mLst ms) := ⟨h.p, em_l h.q⟩
/-! ### built-ins -/
theorem x_cb {x : Str} {id : String} {r : List V → Hp → VK → Prop} {f : List D → Option D} (hc : CallR X (.builtin id) r) (hf : RAM K C r f) (hm : X.mg x = none) (hv : bootBuiltins x = some (.builtin id)) (ha : PAM X K C E (e :: es) t ms) (hg : Gl X x := by rfl) (hn : x ≠ "__name__" := by decide) (hdb : (x == ("__debug__" : Str)) = false := by decide)
    (he : starEach (e :: es) X.env = (false, eval e X.env) :: starEach es X.env := by rfl) (hpl : (backTo pos (starEach es X.env)).any (·.1) = false := by rfl) : PEM X K C E (.Call (.Name x p) (e :: es) [] pos) (tCB r t) (mA f ms) := ⟨pe_callB hc hg hm hv ha.p hn hdb he hpl, em_cb hf ha.q⟩
/-! the built-ins by name -/
section
variable {x1 : Expr}
theorem x_len (hm : X.mg "len" = none) (ha : PAM X K C E (e :: es) t ms) (hg : Gl X "len" := by rfl) (he : starEach (e :: es) X.env = (false, eval e X.env) :: starEach es X.env := by rfl) (hpl : (backTo pos (starEach es X.env)).any (·.1) = false := by rfl) (hK : X.K = K := by rfl) : PEM X K C E (.Call (.Name "len" p) (e :: es) [] pos) (tCB (rLenS K) t) (mA dLen ms) := by
  subst hK
  exact x_cb call_len_seq r_len hm PySem.boot_len ha hg (by decide) (by decide) he hpl
end
/-- isinstance(e, T) -/
theorem x_isi {T : Str} {Tn : String} {pt : Pos} (hmi : X.mg "isinstance" = none) (hmt : X.mg T = none) (hvt : bootBuiltins T = some (.type Tn)) (ha : PEM X K C E a ta ma) (hv : bootBuiltins "isinstance" = some (.builtin "isinstance") := by decide +kernel) (hgi : Gl X "isinstance" := by rfl) (hgt : Gl X T := by rfl) (hn : T ≠ "__name__" := by decide) (hdb : (T == ("__debug__" : Str)) = false := by decide)
    (hs1 : starEach (a :: [.Name T pt]) X.env = (false, eval a X.env) :: starEach [.Name T pt] X.env := by rfl) (hs2 : starEach [.Name T pt] X.env = (false, eval (.Name T pt) X.env) :: starEach [] X.env := by rfl) (hpl : (backTo pos (starEach [.Name T pt] X.env)).any (·.1) = false := by rfl) (hK : X.K = K := by rfl) :
    PEM X K C E (.Call (.Name "isinstance" p) [a, .Name T pt] [] pos) (tCB (rIsi K) (tCons ta (tCons (tC (.ty Tn)) tNil))) (m1 (dIsi Tn) ma) := by
  subst hK
  exact ⟨pe_callB call_isi hgi hmi hv (pa_cons ha.p (pa_cons (pe_bltn (v := .ty Tn) hgt hmt hvt rfl hn hdb) pa_nil hs2) hs1) (by decide) (by decide) hs1 hpl, em_isi ha.q⟩
/-! ### tests -/
theorem y_cmp {op : CmpOp} {r : R2} {f : D → D → Option D} (ho : OpR X (compareOp op) r) (hf : R2M K C r f) (hm : behindInMarks op b = false) (ha : PEM X K C E a ta ma) (hb : PEM X K C E b tb mb) : PTM X K C E (.Compare a [op] [b] pos) (tTest (tOp r ta tb)) (mT (m2 f ma mb)) := ⟨pt_cmpR ho ha.p hb.p hm, tm_t (em_2 hf ha.q hb.q)⟩
theorem y_lt (ha : PEM X K C E a ta ma) (hb : PEM X K C E b tb mb) : PTM X K C E (.Compare a [.Lt] [b] pos) (tTest (tOp qLt ta tb)) (mT (m2 dLt ma mb)) := y_cmp op_lt r_lt (nomark _) ha hb
theorem y_gt (ha : PEM X K C E a ta ma) (hb : PEM X K C E b tb mb) : PTM X K C E (.Compare a [.Gt] [b] pos) (tTest (tOp qGt ta tb)) (mT (m2 dGt ma mb)) := y_cmp op_gt r_gt (nomark _) ha hb
theorem y_eq (hu : X.A.units + 64 < cLine) (ha : PEM X K C E a ta ma) (hb : PEM X K C E b tb mb) (hK : X.K = K := by rfl) : PTM X K C E (.Compare a [.Eq] [b] pos) (tTest (tOp (rEqD K) ta tb)) (mT (m2 dEq ma mb)) := by
  subst hK
  exact y_cmp (op_eqD hu) r_eq (nomark _) ha hb
theorem y_ne (hu : X.A.units + 64 < cLine) (ha : PEM X K C E a ta ma) (hb : PEM X K C E b tb mb) (hK : X.K = K := by rfl) : PTM X K C E (.Compare a [.NotEq] [b] pos) (tTest (tOp (rNeD K) ta tb)) (mT (m2 dNe ma mb)) := by
  subst hK
  exact y_cmp (op_neD hu) r_ne (nomark _) ha hb
theorem y_chLeLe (ha : PEM X K C E a ta ma) (hb : PEM X K C E b tb mb) (hc : PEM X K C E c tc mc) (hm : lastMarks [.LtE, .LtE] [b, c] = false := by with_unfolding_all rfl) : PTM X K C E (.Compare a [.LtE, .LtE] [b, c] pos) (tTest (tChain qLe qLe ta tb tc)) (mT (mCh dLe dLe ma mb mc)) := ⟨pt_chain op_le op_le ha.p hb.p hc.p hm, tm_t (em_ch r_le r_le ha.q hb.q hc.q)⟩
theorem y_chLeLt (ha : PEM X K C E a ta ma) (hb : PEM X K C E b tb mb) (hc : PEM X K C E c tc mc) (hm : lastMarks [.LtE, .Lt] [b, c] = false := by with_unfolding_all rfl) : PTM X K C E (.Compare a [.LtE, .Lt] [b, c] pos) (tTest (tChain qLe qLt ta tb tc)) (mT (mCh dLe dLt ma mb mc)) := ⟨pt_chain op_le op_lt ha.p hb.p hc.p hm, tm_t (em_ch r_le r_lt ha.q hb.q hc.q)⟩
theorem y_val (h : PEM X K C E e te m) (he : ∀ whole, isTrue e X.env whole = (do let v ← whole; standAt e.pos; holding [v] (truthy v)) := by intro _; rfl) : PTM X K C E e (tB te) (mT m) := ⟨pt_val h.p he, tm_b h.q⟩
theorem y_not (h : PTM X K C E a tt mt) : PTM X K C E (.UnaryOp .Not a pos) (tNot tt) (mNot mt) := ⟨pt_not h.p, tm_not h.q⟩
theorem w_and1 (h : PTM X K C E a tt mt) : PWM X K C E (.BoolOp .And [a] pos) tt mt := ⟨pw_and1 h.p, h.q⟩
theorem w_or1 (h : PTM X K C E a tt mt) : PWM X K C E (.BoolOp .Or [a] pos) tt mt := ⟨pw_or1 h.p, h.q⟩
theorem w_and (h : PTM X K C E a tA mA') (h2 : PWM X K C E (.BoolOp .And (b :: es) pos) tB' mB') : PWM X K C E (.BoolOp .And (a :: b :: es) pos) (tAnd tA tB') (mAnd mA' mB') := ⟨pw_and h.p h2.p, tm_and h.q h2.q⟩
theorem w_or (h : PTM X K C E a tA mA') (h2 : PWM X K C E (.BoolOp .Or (b :: es) pos) tB' mB') : PWM X K C E (.BoolOp .Or (a :: b :: es) pos) (tOr tA tB') (mOr mA' mB') := ⟨pw_or h.p h2.p, tm_or h.q h2.q⟩
theorem y_w (h : PWM X K C E e tt mt) : PTM X K C E e tt mt := ⟨h.p.pt, h.q⟩
/-! ### and, or, not as values; conditional -/
theorem x_one {op : BoolOp} (h : PEM X K C E a ta ma) : PEM X K C E (.BoolOp op [a] pos) ta ma := ⟨pe_one h.p, h.q⟩
theorem x_and (h : PEM X K C E a ta ma) (h2 : PEM X K C E (.BoolOp .And (b :: es) pos) tb mb) : PEM X K C E (.BoolOp .And (a :: b :: es) pos) (tAndV ta tb) (mAndV ma mb) := ⟨pe_and h.p h2.p, em_andV h.q h2.q⟩
theorem x_not (h : PEM X K C E a ta ma) : PEM X K C E (.UnaryOp .Not a pos) (tNotV ta) (m1 dNot ma) := ⟨pe_not h.p, em_notV h.q⟩
/-! ### calls of the program's defs -/
theorem x_call {x : Str} {k n : Nat} {f : Addr} {fd : FuncData} {ps : List Str} {φ : List D → Rs D} (hn : ∀ (g : G) ds, ms g = .ok ds → ds.length = n) (F : FnOk X.prog X.w K X.mg X.base CX0 k f fd ps (spM K C n φ)) (hr : Room k X.A) (hm : X.mg x = some (.ref f)) (hk : PySem.W.keepIn K (.ref f) = true) (hb : Binds K fd ps [])
    (ha : PAM X K C E (e :: es) t ms) (hg : Gl X x := by rfl) (hdb : (x == ("__debug__" : Str)) = false := by decide) (he : starEach (e :: es) X.env = (false, eval e X.env) :: starEach es X.env := by rfl) (hpl : (backTo pos (starEach es X.env)).any (·.1) = false := by rfl) (hK : X.K = K := by rfl) :
    PEM X K C E (.Call (.Name x p) (e :: es) [] pos) (tCall (spM K C n φ) [] E0 t) (mCall (fun ds => (φ ds).nx) ms) := by
  subst hK
  exact ⟨pe_call F hr hg hm hk hb .nil pass0 ha.p hdb he hpl, em_call0 hn ha.q⟩
/-! ### what is walked -/
variable {tg iter : Expr} {wi : TI} {mi : G → Rs (List D)}
theorem i_list (ha : PEM X K C E a ta ma) (hK : X.K = K := by rfl) : PIM X K C E tg a (iList K ta) (mItems ma) := by
  subst hK
  exact ⟨pi_list ha.p, im_list ha.q⟩
theorem i_rng1 (hm : X.mg "range" = none) (ha : PAM X K C E [a] t ms) (hg : Gl X "range" := by rfl) (hs : starEach [a] X.env = [(false, eval a X.env)] := by rfl) : PIM X K C E tg (.Call (.Name "range" p) [a] [] pos) (iRng1 t) (mRng1 ms) := ⟨pi_range1 hg hm ha.p hs, im_rng1 ha.q⟩
/-! ### targets -/
theorem g_one {i : Nat} {x : Str} (hN : X.N.Nodup) (hi : X.N[i]? = some x) (hx : Loc X.env.scope x) (hf : X.fn x = true ∨ X.env.scope.names.lookup x = some .local := by first | exact .inl rfl | exact .inr rfl | assumption) (hK : X.K = K := by rfl) : PG X (.Name x pos) ((Tg.one i).g K) := by
  subst hK
  exact pg_name hN hi hx hf
theorem g_two {i j k : Nat} {x y : Str} {px py : Pos} (hN : X.N.Nodup) (hi : X.N[i]? = some x) (hj : X.N[j]? = some y) (hx : Loc X.env.scope x) (hy : Loc X.env.scope y) (hc : X.calm = true) (hf : X.fn x = true ∨ X.env.scope.names.lookup x = some .local := by first | exact .inl rfl | exact .inr rfl | assumption) (hf2 : X.fn y = true ∨ X.env.scope.names.lookup y = some .local := by first | exact .inl rfl | exact .inr rfl | assumption)
    (hs : (assignEach [.Name x px, .Name y py] X.env).map (·.2) = assign (.Name x px) X.env :: (assignEach [.Name y py] X.env).map (·.2) := by rfl) (hs2 : (assignEach [.Name y py] X.env).map (·.2) = assign (.Name y py) X.env :: (assignEach [] X.env).map (·.2) := by rfl)
    (hn : (assignEach [.Name x px, .Name y py] X.env).length = 2 := by rfl) (hst : (assignEach [.Name x px, .Name y py] X.env).findIdx? (·.1) = none := by rfl) (hK : X.K = K := by rfl) : PG X (.Tuple [.Name x px, .Name y py] k pos) ((Tg.two i j).g K) := by
  subst hK
  exact pg_tup hc (pgs_cons (pg_name hN hi hx hf) (pgs_cons (pg_name hN hj hy hf2) pgs_nil hs2) hs) hn hst
/-! ### comprehensions -/
/-! ### statements -/
variable {st st2 : Stmt} {sts sts2 : List Stmt} {tS uS : TS} {sS sU : Sta → Rs Ou}
theorem z_nil : PSSM X K C E [] tNext sNil := ⟨pss_nil, sm_nil⟩
theorem z_cons (h : PSM X K C E st tS sS) (h2 : PSSM X K C E sts uS sU) : PSSM X K C E (st :: sts) (tSeq tS uS) (sSeq sS sU) := ⟨pss_cons h.p h2.p, sm_seq h.q h2.q⟩
theorem z_frz (h : PSM X K C E st tS sS) : PSM X K C E st tS (sFrz sS) := ⟨h.p, sm_frz h.q⟩
theorem z_set {i : Nat} {x : Str} {pos' : Pos} (hN : X.N.Nodup) (hi : X.N[i]? = some x) (hx : Loc X.env.scope x) (he : PEM X K C E e te m) (hs : swapsWith e (some (.Name x pos')) pos.line X.env = pure false := by rfl) (hf : X.fn x = true ∨ X.env.scope.names.lookup x = some .local := by first | exact .inl rfl | exact .inr rfl | assumption) :
    PSM X K C E (.Assign [.Name x pos'] e pos) (tAsg te (gName i)) (sSet i m) := ⟨ps_set hN hi hx he.p hs hf, sm_set he.q⟩
theorem z_new {i : Nat} {x : Str} {pos' : Pos} (hN : X.N.Nodup) (hi : X.N[i]? = some x) (hx : Loc X.env.scope x) (he : PLM X K C E e te ms) (hs : swapsWith e (some (.Name x pos')) pos.line X.env = pure false := by rfl) (hf : X.fn x = true ∨ X.env.scope.names.lookup x = some .local := by first | exact .inl rfl | exact .inr rfl | assumption) :
    PSM X K C E (.Assign [.Name x pos'] e pos) (tAsg te (gName i)) (sNew i ms) := ⟨ps_set hN hi hx he.p hs hf, sm_new he.q⟩
theorem z_set2 {i j : Nat} (he : PEM X K C E e te m) (hg : PG X tg ((Tg.two i j).g K)) (hs : swapsWithSole [tg] e pos.line X.env = pure false := by rfl) (hw : swappedStores [tg] e X.env = pure none := by rfl)
    (h1 : (assignEach [tg] X.env).map (·.2) = [assign tg X.env] := by rfl) (hK : X.K = K := by rfl) : PSM X K C E (.Assign [tg] e pos) (tAsg te ((Tg.two i j).g K)) (sSet2 i j m) := by
  subst hK
  exact ⟨ps_asg he.p hg hs hw h1, sm_set2 he.q⟩
theorem z_app {i : Nat} {x : Str} {px apos cpos : Pos} (hN : X.N[i]? = some x) (hv : Vis X.env.scope x) (he : PEM X K C E e te m) (hd : (x == ("__debug__" : Str)) = false := by decide) (hcd : (x == ("__classdict__" : Str)) = false := by decide)
    (hbase : attributeBase (.Name x px) "append" X.env (eval (.Name x px) X.env) = eval (.Name x px) X.env := by rfl)
    (hfew : ((backTo cpos (starEach [e] X.env)).all (fun x => !x.1) && (backToKw cpos (keywordEach [] X.env)).all (fun x => x.1.isSome) && decide ([e].length + ([] : List Keyword).length + (if ([] : List Keyword).isEmpty then 0 else 1) < 30)) = true := by rfl)
    (hline : (apos.endLine == cpos.line) = true := by rfl) (hs : starEach [e] X.env = (false, eval e X.env) :: starEach [] X.env := by rfl) (hplain : (backTo cpos (starEach [] X.env)).any (·.1) = false := by rfl)
    (hsw : swapsWith (.Call (.Attribute (.Name x px) "append" apos) [e] [] cpos) none pos.line X.env = pure false := by rfl) (hK : X.K = K := by rfl) :
    PSM X K C E (.Expr (.Call (.Attribute (.Name x px) "append" apos) [e] [] cpos) pos) (tDrop (tBM K "list" rAppend (tVar i) (tCons te tNil))) (sApp i m) := by
  subst hK
  exact ⟨ps_expr (pe_bm PySem.F.plainAttrs_list PySem.F.slot_list_append PySem.F.type_list_append mt_append (pe_var hN hv hd hcd) (pa_cons he.p pa_nil hs) hbase hfew hline hs hplain) hsw, sm_app he.q⟩
theorem z_if (h : PTM X K C E c tt mt) (ha : PSSM X K C E sts tS sS) (hb : PSSM X K C E sts2 uS sU) : PSM X K C E (.If c sts sts2 pos) (tIfS tt tS uS) (sIf mt sS sU) := ⟨ps_if h.p ha.p hb.p, sm_if h.q ha.q hb.q⟩
theorem z_ret (he : PEM X K C E e te m) : PSM X K C E (.Return (some e) pos) (tRet te) (sRet m) := ⟨ps_ret he.p, sm_ret he.q⟩
theorem z_for {T : Tg} (ks : List Nat) (hp : PassesOwn (model X.prog X.w) X.A X.env X.xe) (hc : X.calm = true) (hi : PIM X K C E tg iter wi mi) (hg : PG X tg (T.g K)) (hb : PSSM X K C E sts tS sS) (hs : ∀ x, foldedSetIterable iter X.env x = pure x := by intro _; rfl) (hK : X.K = K := by rfl) :
    PSM X K C E (.For tg iter sts [] pos) (tFor wi (T.g K) tS) (sFor mi T ks sS) := by
  subst hK
  exact ⟨ps_for hp hc hi.p hg hb.p hs, sm_for hi.q hb.q⟩
/-- raise C('..'), C an own class over ValueError without __init__ -/
theorem z_raise {x msg : Str} {Cx : Addr} {j : Nat} {pe p1 p3 : Pos} {bm : List Value} (hc : X.calm = true) (tk : Takes X (fun cls d _ H => E cls d H)) (q : PySem.W.excIn K Cx bm "ValueError.__new__" = true) (gC : X.mg x = some (.ref Cx)) (kC : PySem.W.keepIn K (.ref Cx) = true) (r : Raises X (.ref Cx))
    (hbm : ExcBaseFacts "ValueError" "ValueError.__new__" "ValueError.__init__" bm) (hg : Gl X x := by rfl) (hdb : (x == ("__debug__" : Str)) = false := by decide) (hK : X.K = K := by rfl) : PSM X K C E (.Raise (some (.Call (.Name x pe) [.Constant (.str msg) j p1] [] p3)) none pos) (fun _ _ H => E (.ref Cx) none H) (sRaise Cx) := by
  subst hK
  exact ⟨ps_raise hc tk (pmk_own hbm q gC kC r hg hdb), sm_raise⟩
end
end Z
namespace Z
set_option autoImplicit false
open PySem L2
/-! ### defs and callees in one word each -/
section
variable (P : Program) (w : World) (K : PySem.W.Frag) (mg : Str → Option Value) (base : Heap) (C : Addr)
/-- the def nm stands as st says -/
def Dn (nm : Str) (st : Stmt) (ps : List Str) : Prop := ∃ f fd, Fun K nm nm st f fd ∧ mg nm = some (.ref f) ∧ Binds K fd ps []
/-- the def nm, called with n arguments, does what φ says -/
def Cal (CX : CXT) (k : Nat) (nm : Str) (n : Nat) (φ : List D → Rs D) : Prop := ∃ f fd ps, FnOk P w K mg base CX k f fd ps (spM K C n φ) ∧ mg nm = some (.ref f) ∧ PySem.W.keepIn K (.ref f) = true ∧ Binds K fd ps []
end
section
variable {P : Program} {w : World} {K : PySem.W.Frag} {mg : Str → Option Value} {base : Heap} {C : Addr} {CX : CXT} {k n : Nat} {nm : Str} {φ φ' : List D → Rs D}
theorem Cal.mono {j : Nat} (h : Cal P w K mg base C CX k nm n φ) (hj : k ≤ j) : Cal P w K mg base C CX j nm n φ := by
  obtain ⟨f, fd, ps, F, r⟩ := h
  exact ⟨f, fd, ps, F.mono hj, r⟩
/-- a weaker word: where φ' tells an outcome, φ tells it too -/
theorem Cal.impX (h : Cal P w K mg base C CX k nm n φ) (hl : ∀ ds, φ' ds ≠ .no → φ ds = φ' ds) : Cal P w K mg base C CX k nm n φ' := by
  obtain ⟨f, fd, ps, F, r⟩ := h
  refine ⟨f, fd, ps, ⟨fun vs H Q E q => ?_, fun A outer s H args us vs Q E hr he hb hv q => ?_⟩, r⟩
  all_goals
    have q' : spM K C n φ vs H Q E := by
      obtain ⟨F0, ds, e, a, hl2, z⟩ := q
      refine ⟨F0, ds, e, a, hl2, ?_⟩
      have ne : φ' ds ≠ .no := fun z2 => by
        rw [z2] at z
        exact z
      rw [hl ds ne]
      exact z
  · exact F.len vs H Q E q'
  · exact F.run A outer s H args us vs Q E hr he hb hv q'
theorem Cal.imp (h : Cal P w K mg base C CX k nm n φ) (hl : ∀ ds d, φ' ds = .ok d → φ ds = .ok d) (hx : ∀ ds c r, φ' ds ≠ .ex c r) : Cal P w K mg base C CX k nm n φ' :=
  h.impX fun ds ne => by
    cases e : φ' ds with
    | ok d => exact hl ds d e
    | ex c r => exact absurd e (hx ds c r)
    | no => exact absurd e ne
end
end Z
set_option Elab.async false
set_option linter.all false
set_option maxRecDepth 100000
set_option maxHeartbeats 4000000
/-! Z, part E: sorted, new lists that change (list(), repetition, +). -/
namespace Z
set_option autoImplicit false
open PySem L2
/-! ### sorted(ints) -/
def insI (x : Int) : List Int → List Int
  | [] => [x]
  | y :: r => if x ≤ y then x :: y :: r else y :: insI x r
def isort : List Int → List Int
  | [] => []
  | x :: r => insI x (isort r)
def dSorted : List D → Option D
  | [.lst ds] => (asInts ds).map fun ns => D.lst ((isort ns).map D.int)
  | _ => none
section
variable {K : PySem.W.Frag} {C : Addr}
/-! ### new lists that may change -/
def mLs (f : List D → Option (List D)) (a : G → Rs (List D)) : G → Rs (List D) := fun g => (a g).bind fun xs => .of (f xs)
def dListL : List D → Option (List D)
  | [.lst ds] => some ds
  | [.tup ds] => some ds
  | _ => none
variable {E : XK} {ta tb : TE} {ma mb : G → Rs D} {t : TA} {ms : G → Rs (List D)}
theorem Fz.newM {B : Bs} {g : G} {P : List (Addr × List V)} {T : List (V × D)} {σ : L2.St} {H F : Hp} (f : Fz B g P T σ H F) {p : Addr} {vs : List V} {ds : List D} (n : H p = none) (a : IsA B.K B.C F vs ds) :
    (∀ x ∈ P, x.1 ≠ p) ∧ SS B g ((p, vs) :: P) (vs.zip ds ++ T) σ (upd H p (.lst vs)) ∧ Al (vs.zip ds ++ T) vs ds := by
  have S : SS B g P (vs.zip ds ++ T) σ H := ⟨F, { f with ts := fun x hx => (List.mem_append.mp hx).elim (fun z => isA_zip a x z) fun z => f.ts x z }⟩
  obtain ⟨h1, h2⟩ := lm_new S n vs
  exact ⟨h1, h2, al_zip a fun x hx => List.mem_append_left _ hx⟩
theorem lm_list (a : AM K C E t ms) : LM K C E (tCB (rListS K) t) (mLs dListL ms) := ⟨fun F0 H0 g P T σ H Q S h =>
  a.run F0 H0 g P T σ H _ S (h.bind.mono fun xs hx vs T' H' ht al S1 => by
    obtain ⟨ds, e, q⟩ := hx.of
    obtain ⟨F, f⟩ := S1
    unfold dListL at e
    split at e
    · cases e
      obtain ⟨x, rfl, hx⟩ := al1 al
      have ix := f.ts _ hx
      cases ix with
      | lst ha hb =>
        refine ⟨_, _, rfl, .inl (f.sqL ha), fun l hl => ?_⟩
        obtain ⟨h1, h2, h3⟩ := f.newM hl hb
        exact q l _ _ _ (fun x hx => List.mem_append_right _ (ht x hx)) h3 h1 h2
    · cases e
      obtain ⟨x, rfl, hx⟩ := al1 al
      have ix := f.ts _ hx
      cases ix with
      | tup ha hb =>
        refine ⟨_, _, rfl, .inr (f.sqT ha), fun l hl => ?_⟩
        obtain ⟨h1, h2, h3⟩ := f.newM hl hb
        exact q l _ _ _ (fun x hx => List.mem_append_right _ (ht x hx)) h3 h1 h2
    · cases e)⟩
end
section
variable {X : Cx} {K : PySem.W.Frag} {C : Addr} {E : XK} {e a b c : Expr} {es ifs : List Expr} {te ta tb tc : TE} {m ma mb mc : G → Rs D} {t : TA} {ms : G → Rs (List D)} {pos p p2 : Pos}
theorem l_list (hm : X.mg "list" = none) (ha : PAM X K C E (e :: es) t ms) (hg : Gl X "list" := by rfl) (he : starEach (e :: es) X.env = (false, eval e X.env) :: starEach es X.env := by rfl) (hpl : (backTo pos (starEach es X.env)).any (·.1) = false := by rfl) (hK : X.K = K := by rfl) : PLM X K C E (.Call (.Name "list" p) (e :: es) [] pos) (tCB (rListS K) t) (mLs dListL ms) := by
  subst hK
  exact ⟨pe_callTy call_list_of hg hm (by decide +kernel) ha.p (by decide) (by decide) he hpl, lm_list ha.q⟩
end
end Z
set_option Elab.async false
set_option linter.all false
set_option maxRecDepth 100000
set_option maxHeartbeats 4000000
/-! Z, part F: how mirrors are evaluated. -/
namespace Z
set_option autoImplicit false
open PySem L2
theorem dAdd_i (i j : Int) : dAdd (.int i) (.int j) = some (.int (i + j)) := rfl
theorem dAdd_l {a b : List D} (h : a.length + b.length ≤ LIM) : dAdd (.lst a) (.lst b) = some (.lst (a ++ b)) := if_pos h
theorem dSub_i (i j : Int) : dSub (.int i) (.int j) = some (.int (i - j)) := rfl
theorem dMul_a {i j : Int} (h : -(2 ^ 64) < i ∧ i < 2 ^ 64) : dMul (.int i) (.int j) = some (.int (i * j)) := if_pos (.inl h)
theorem dMul_l {a : List D} {k : Int} (h : -1000000 ≤ k ∧ k ≤ 1000000 ∧ a.length * k.toNat ≤ LIM) : dMul (.lst a) (.int k) = some (.lst (List.replicate k.toNat a).flatten) := if_pos h
theorem dMod_i {i j : Int} (h : 0 < j) : dMod (.int i) (.int j) = some (.int (i % j)) := if_pos h
theorem dDiv_i {i j : Int} (h : 0 < j ∧ j < 1073741824) : dDiv (.int i) (.int j) = some (.int (i / j)) := if_pos h
theorem dPow_i {i j : Int} (h : 0 ≤ j ∧ j ≤ 1000000 ∧ i.natAbs < 2 ^ 64) : dPow (.int i) (.int j) = some (.int (i ^ j.toNat)) := if_pos h
theorem dNeg_i (i : Int) : dNeg (.int i) = some (.int (-i)) := rfl
theorem dIx_l (ds : List D) (i : Int) : dIx (.lst ds) (.int i) = atI ds i := rfl
theorem dIx_t (ds : List D) (i : Int) : dIx (.tup ds) (.int i) = atI ds i := rfl
theorem dIx_s (ns : List Int) (i : Int) : dIx (.scr ns) (.int i) = (atI ns i).map D.int := rfl
theorem dSl_l (ds : List D) (lo hi : Option Int) : dSl (.lst ds) lo hi = some (.lst (cutD ds lo hi)) := rfl
theorem dRev_l (ds : List D) : dRev (.lst ds) = some (.lst ds.reverse) := rfl
theorem dLt_i (i j : Int) : dLt (.int i) (.int j) = some (.bl (decide (i < j))) := rfl
theorem dLe_i (i j : Int) : dLe (.int i) (.int j) = some (.bl (decide (i ≤ j))) := rfl
theorem dGt_i (i j : Int) : dGt (.int i) (.int j) = some (.bl (decide (j < i))) := rfl
theorem dGe_i (i j : Int) : dGe (.int i) (.int j) = some (.bl (decide (j ≤ i))) := rfl
theorem shaped_int (i : Int) : SeqAt.shaped (.int i) = true := by
  show ((PyData.int i).canLay0 && decide ((PyData.int i).depth ≤ 64)) = true
  simp [PyData.canLay0, PyData.depth]
theorem shaped_bool (i : Bool) : SeqAt.shaped (.bool i) = true := by
  show ((PyData.bool i).canLay0 && decide ((PyData.bool i).depth ≤ 64)) = true
  simp [PyData.canLay0, PyData.depth]
theorem deq_i (i j : Int) : deq (.int i) (.int j) = some (decide (i = j)) := by
  unfold deq
  show (if SeqAt.shaped (.int i) = true ∧ SeqAt.shaped (.int j) = true then some (PyData.eqv (.int i) (.int j)) else none) = _
  rw [if_pos ⟨shaped_int i, shaped_int j⟩]
  simp only [PyData.eqv]
  rw [Bool.beq_eq_decide_eq]
theorem deq_b (i j : Bool) : deq (.bl i) (.bl j) = some (decide (i = j)) := by
  unfold deq
  show (if SeqAt.shaped (.bool i) = true ∧ SeqAt.shaped (.bool j) = true then some (PyData.eqv (.bool i) (.bool j)) else none) = _
  rw [if_pos ⟨shaped_bool i, shaped_bool j⟩]
  simp only [PyData.eqv]
  rw [Bool.beq_eq_decide_eq]
theorem dEq_of {x y : D} {b : Bool} (h : deq x y = some b) : dEq x y = some (.bl b) := by
  unfold dEq
  rw [h]
  rfl
theorem dNe_of {x y : D} {b : Bool} (h : deq x y = some b) : dNe x y = some (.bl (!b)) := by
  unfold dNe
  rw [h]
  rfl
theorem dEq_i (i j : Int) : dEq (.int i) (.int j) = some (.bl (decide (i = j))) := dEq_of (deq_i i j)
theorem dNe_i (i j : Int) : dNe (.int i) (.int j) = some (.bl (!decide (i = j))) := dNe_of (deq_i i j)
theorem dEq_b (i j : Bool) : dEq (.bl i) (.bl j) = some (.bl (decide (i = j))) := dEq_of (deq_b i j)
theorem dNe_b (i j : Bool) : dNe (.bl i) (.bl j) = some (.bl (!decide (i = j))) := dNe_of (deq_b i j)
/-! deep equality: data of lists and tuples of ints -/
mutual
/-- ints in lists and tuples, no deeper than n -/
def shp : Nat → D → Bool
  | _, .int _ => true
  | n + 1, .lst ds => shps n ds
  | n + 1, .tup ds => shps n ds
  | _, _ => false
def shps : Nat → List D → Bool
  | _, [] => true
  | n, d :: ds => shp n d && shps n ds
end
mutual
def deqB : D → D → Bool
  | .int i, .int j => i == j
  | .lst a, .lst b => deqBs a b
  | .tup a, .tup b => deqBs a b
  | _, _ => false
def deqBs : List D → List D → Bool
  | [], [] => true
  | x :: xs, y :: ys => deqB x y && deqBs xs ys
  | _, _ => false
end
mutual
theorem shp_toP : ∀ (n : Nat) (d : D), shp n d = true → ∃ p, toP d = some p ∧ p.canLay0 = true ∧ p.depth ≤ n
  | n, .int i, _ => ⟨_, rfl, by simp [PyData.canLay0], by simp [PyData.depth]⟩
  | n + 1, .lst ds, h => by
    obtain ⟨ps, h1, h2, h3⟩ := shps_toP n ds (by simpa [shp] using h)
    exact ⟨.list ps, by simp [toP, h1], by simp [PyData.canLay0, h2], by simp only [PyData.depth]; omega⟩
  | n + 1, .tup ds, h => by
    obtain ⟨ps, h1, h2, h3⟩ := shps_toP n ds (by simpa [shp] using h)
    exact ⟨.tuple ps, by simp [toP, h1], by simp [PyData.canLay0, h2], by simp only [PyData.depth]; omega⟩
  | 0, .lst _, h => by simp [shp] at h
  | 0, .tup _, h => by simp [shp] at h
  | 0, .non, h => by simp [shp] at h
  | 0, .bl _, h => by simp [shp] at h
  | 0, .str _, h => by simp [shp] at h
  | 0, .web _ _, h => by simp [shp] at h
  | 0, .scr _, h => by simp [shp] at h
  | _ + 1, .non, h => by simp [shp] at h
  | _ + 1, .bl _, h => by simp [shp] at h
  | _ + 1, .str _, h => by simp [shp] at h
  | _ + 1, .web _ _, h => by simp [shp] at h
  | _ + 1, .scr _, h => by simp [shp] at h
theorem shps_toP : ∀ (n : Nat) (ds : List D), shps n ds = true → ∃ ps, toPs ds = some ps ∧ PyData.canLayAll0 ps = true ∧ PyData.depthAll ps ≤ n
  | n, [], _ => ⟨[], rfl, by simp [PyData.canLayAll0], by simp [PyData.depthAll]⟩
  | n, d :: ds, h => by
    unfold shps at h
    rw [Bool.and_eq_true] at h
    obtain ⟨p, h1, h2, h3⟩ := shp_toP n d h.1
    obtain ⟨ps, h4, h5, h6⟩ := shps_toP n ds h.2
    exact ⟨p :: ps, by simp [toPs, h1, h4], by simp [PyData.canLayAll0, h2, h5], by simp only [PyData.depthAll]; omega⟩
end
mutual
theorem eqv_deqB : ∀ (n m : Nat) (x y : D) (p q : PyData), shp n x = true → shp m y = true → toP x = some p → toP y = some q → PyData.eqv p q = deqB x y
  | n, m, .int i, .int j, p, q, _, _, h1, h2 => by
    cases h1; cases h2
    simp [PyData.eqv, deqB]
  | n + 1, m + 1, .lst a, .lst b, p, q, hx, hy, h1, h2 => by
    simp only [toP] at h1 h2
    cases e1 : toPs a with
    | none => rw [e1] at h1; cases h1
    | some ps =>
      cases e2 : toPs b with
      | none => rw [e2] at h2; cases h2
      | some qs =>
        rw [e1] at h1; rw [e2] at h2
        cases h1; cases h2
        simp only [PyData.eqv, deqB]
        exact eqvs_deqBs n m a b ps qs (by simpa [shp] using hx) (by simpa [shp] using hy) e1 e2
  | n + 1, m + 1, .tup a, .tup b, p, q, hx, hy, h1, h2 => by
    simp only [toP] at h1 h2
    cases e1 : toPs a with
    | none => rw [e1] at h1; cases h1
    | some ps =>
      cases e2 : toPs b with
      | none => rw [e2] at h2; cases h2
      | some qs =>
        rw [e1] at h1; rw [e2] at h2
        cases h1; cases h2
        simp only [PyData.eqv, deqB]
        exact eqvs_deqBs n m a b ps qs (by simpa [shp] using hx) (by simpa [shp] using hy) e1 e2
  | n + 1, m, .lst a, .int j, p, q, _, _, h1, h2 => by
    simp only [toP] at h1
    cases e1 : toPs a with
    | none => rw [e1] at h1; cases h1
    | some ps => rw [e1] at h1; cases h1; cases h2; simp [PyData.eqv, deqB]
  | n + 1, m, .tup a, .int j, p, q, _, _, h1, h2 => by
    simp only [toP] at h1
    cases e1 : toPs a with
    | none => rw [e1] at h1; cases h1
    | some ps => rw [e1] at h1; cases h1; cases h2; simp [PyData.eqv, deqB]
  | n, m + 1, .int i, .lst a, p, q, _, _, h1, h2 => by
    simp only [toP] at h2
    cases e1 : toPs a with
    | none => rw [e1] at h2; cases h2
    | some ps => rw [e1] at h2; cases h2; cases h1; simp [PyData.eqv, deqB]
  | n, m + 1, .int i, .tup a, p, q, _, _, h1, h2 => by
    simp only [toP] at h2
    cases e1 : toPs a with
    | none => rw [e1] at h2; cases h2
    | some ps => rw [e1] at h2; cases h2; cases h1; simp [PyData.eqv, deqB]
  | n + 1, m + 1, .lst a, .tup b, p, q, _, _, h1, h2 => by
    simp only [toP] at h1 h2
    cases e1 : toPs a with
    | none => rw [e1] at h1; cases h1
    | some ps =>
      cases e2 : toPs b with
      | none => rw [e2] at h2; cases h2
      | some qs => rw [e1] at h1; rw [e2] at h2; cases h1; cases h2; simp [PyData.eqv, deqB]
  | n + 1, m + 1, .tup a, .lst b, p, q, _, _, h1, h2 => by
    simp only [toP] at h1 h2
    cases e1 : toPs a with
    | none => rw [e1] at h1; cases h1
    | some ps =>
      cases e2 : toPs b with
      | none => rw [e2] at h2; cases h2
      | some qs => rw [e1] at h1; rw [e2] at h2; cases h1; cases h2; simp [PyData.eqv, deqB]
  | 0, _, .lst _, _, _, _, h, _, _, _ => by simp [shp] at h
  | 0, _, .tup _, _, _, _, h, _, _, _ => by simp [shp] at h
  | _, 0, .int _, .lst _, _, _, _, h, _, _ => by simp [shp] at h
  | _, 0, .int _, .tup _, _, _, _, h, _, _ => by simp [shp] at h
  | _ + 1, 0, .lst _, .lst _, _, _, _, h, _, _ => by simp [shp] at h
  | _ + 1, 0, .lst _, .tup _, _, _, _, h, _, _ => by simp [shp] at h
  | _ + 1, 0, .tup _, .lst _, _, _, _, h, _, _ => by simp [shp] at h
  | _ + 1, 0, .tup _, .tup _, _, _, _, h, _, _ => by simp [shp] at h
  | n, _, .non, _, _, _, h, _, _, _ => by cases n <;> simp [shp] at h
  | n, _, .bl _, _, _, _, h, _, _, _ => by cases n <;> simp [shp] at h
  | n, _, .str _, _, _, _, h, _, _, _ => by cases n <;> simp [shp] at h
  | n, _, .web _ _, _, _, _, h, _, _, _ => by cases n <;> simp [shp] at h
  | n, _, .scr _, _, _, _, h, _, _, _ => by cases n <;> simp [shp] at h
  | _, n, _, .non, _, _, _, h, _, _ => by cases n <;> simp [shp] at h
  | _, n, _, .bl _, _, _, _, h, _, _ => by cases n <;> simp [shp] at h
  | _, n, _, .str _, _, _, _, h, _, _ => by cases n <;> simp [shp] at h
  | _, n, _, .web _ _, _, _, _, h, _, _ => by cases n <;> simp [shp] at h
  | _, n, _, .scr _, _, _, _, h, _, _ => by cases n <;> simp [shp] at h
theorem eqvs_deqBs : ∀ (n m : Nat) (x y : List D) (p q : List PyData), shps n x = true → shps m y = true → toPs x = some p → toPs y = some q → PyData.eqvAll p q = deqBs x y
  | n, m, [], [], p, q, _, _, h1, h2 => by cases h1; cases h2; simp [PyData.eqvAll, deqBs]
  | n, m, [], y :: ys, p, q, _, _, h1, h2 => by
    cases h1
    simp only [toPs] at h2
    cases e1 : toP y with
    | none => rw [e1] at h2; cases h2
    | some a =>
      rw [e1] at h2
      cases e2 : toPs ys with
      | none => rw [e2] at h2; cases h2
      | some as => rw [e2] at h2; cases h2; simp [PyData.eqvAll, deqBs]
  | n, m, x :: xs, [], p, q, _, _, h1, h2 => by
    cases h2
    simp only [toPs] at h1
    cases e1 : toP x with
    | none => rw [e1] at h1; cases h1
    | some a =>
      rw [e1] at h1
      cases e2 : toPs xs with
      | none => rw [e2] at h1; cases h1
      | some as => rw [e2] at h1; cases h1; simp [PyData.eqvAll, deqBs]
  | n, m, x :: xs, y :: ys, p, q, hx, hy, h1, h2 => by
    simp only [toPs] at h1 h2
    unfold shps at hx hy
    rw [Bool.and_eq_true] at hx hy
    cases e1 : toP x with
    | none => rw [e1] at h1; cases h1
    | some a =>
      rw [e1] at h1
      cases e2 : toPs xs with
      | none => rw [e2] at h1; cases h1
      | some as =>
        rw [e2] at h1
        cases e3 : toP y with
        | none => rw [e3] at h2; cases h2
        | some b =>
          rw [e3] at h2
          cases e4 : toPs ys with
          | none => rw [e4] at h2; cases h2
          | some bs =>
            rw [e4] at h2
            cases h1; cases h2
            simp only [PyData.eqvAll, deqBs]
            rw [eqv_deqB n m x y a b hx.1 hy.1 e1 e3, eqvs_deqBs n m xs ys as bs hx.2 hy.2 e2 e4]
end
theorem deq_shp {n m : Nat} {x y : D} (hx : shp n x = true) (hy : shp m y = true) (hn : n ≤ 64) (hm : m ≤ 64) : deq x y = some (deqB x y) := by
  obtain ⟨p, p1, p2, p3⟩ := shp_toP n x hx
  obtain ⟨q, q1, q2, q3⟩ := shp_toP m y hy
  unfold deq
  rw [p1, q1]
  show (if SeqAt.shaped p = true ∧ SeqAt.shaped q = true then some (PyData.eqv p q) else none) = _
  have a1 : SeqAt.shaped p = true := by
    show (p.canLay0 && decide (p.depth ≤ 64)) = true
    rw [p2, decide_eq_true (Nat.le_trans p3 hn)]
    rfl
  have a2 : SeqAt.shaped q = true := by
    show (q.canLay0 && decide (q.depth ≤ 64)) = true
    rw [q2, decide_eq_true (Nat.le_trans q3 hm)]
    rfl
  rw [if_pos ⟨a1, a2⟩, eqv_deqB n m x y p q hx hy p1 q1]
mutual
theorem deqB_self : ∀ (n : Nat) (x : D), shp n x = true → deqB x x = true
  | n, .int i, _ => by simp [deqB]
  | n + 1, .lst ds, h => by simp only [deqB]; exact deqBs_self n ds (by simpa [shp] using h)
  | n + 1, .tup ds, h => by simp only [deqB]; exact deqBs_self n ds (by simpa [shp] using h)
  | 0, .lst _, h => by simp [shp] at h
  | 0, .tup _, h => by simp [shp] at h
  | n, .non, h => by cases n <;> simp [shp] at h
  | n, .bl _, h => by cases n <;> simp [shp] at h
  | n, .str _, h => by cases n <;> simp [shp] at h
  | n, .web _ _, h => by cases n <;> simp [shp] at h
  | n, .scr _, h => by cases n <;> simp [shp] at h
theorem deqBs_self : ∀ (n : Nat) (x : List D), shps n x = true → deqBs x x = true
  | n, [], _ => by simp [deqBs]
  | n, d :: ds, h => by
    unfold shps at h
    rw [Bool.and_eq_true] at h
    simp only [deqBs]
    rw [deqB_self n d h.1, deqBs_self n ds h.2]
    rfl
end
theorem deq_same {n : Nat} {x : D} (hx : shp n x = true) (hn : n ≤ 64) : deq x x = some true := by rw [deq_shp hx hx hn hn, deqB_self n x hx]
theorem dLen_l (ds : List D) : dLen [.lst ds] = some (.int ds.length) := rfl
theorem dLen_t2 (a b : D) : dLen [.tup [a, b]] = some (.int 2) := rfl
theorem dLen_s (ds : List Int) : dLen [.scr ds] = some (.int ds.length) := rfl
theorem dSum_l (ns : List Int) : dSum [.lst (ns.map D.int)] = some (.int ns.sum) := by
  show (asInts (ns.map D.int)).map _ = _
  rw [asInts_map]
  rfl
theorem dAll_l (ns : List Bool) : dAll [.lst (ns.map D.bl)] = some (.bl (ns.all id)) := by
  show (asBls (ns.map D.bl)).map _ = _
  rw [asBls_map]
  rfl
theorem dSorted_l (ns : List Int) : dSorted [.lst (ns.map D.int)] = some (.lst ((isort ns).map D.int)) := by
  show (asInts (ns.map D.int)).map _ = _
  rw [asInts_map]
  rfl
theorem dInB_l (i : Int) (ns : List Int) : dInB (.int i) (.lst (ns.map D.int)) = some (decide (i ∈ ns)) := by
  show (asInts (ns.map D.int)).map _ = _
  rw [asInts_map]
  rfl
theorem dIn_l (i : Int) (ns : List Int) : dIn (.int i) (.lst (ns.map D.int)) = some (.bl (decide (i ∈ ns))) := by
  unfold dIn
  rw [dInB_l]
  rfl
theorem dNi_l (i : Int) (ns : List Int) : dNi (.int i) (.lst (ns.map D.int)) = some (.bl (!decide (i ∈ ns))) := by
  unfold dNi
  rw [dInB_l]
  rfl
theorem dMax2_i (i j : Int) : dMax2 [.int i, .int j] = some (.int (if j > i then j else i)) := rfl
theorem dMin2_i (i j : Int) : dMin2 [.int i, .int j] = some (.int (if j < i then j else i)) := rfl
theorem dInt_i (i : Int) : dInt [.int i] = some (.int i) := rfl
theorem dInt_b (i : Bool) : dInt [.bl i] = some (.int (if i then 1 else 0)) := rfl
theorem dList_l (ds : List D) : dList [.lst ds] = some (.lst ds) := rfl
theorem dList_t (ds : List D) : dList [.tup ds] = some (.lst ds) := rfl
theorem atI_some {α : Type} {xs : List α} {k : Nat} (h : k < xs.length) : atI xs (k : Int) = some xs[k] := atI_nat (List.getElem?_eq_getElem h)
theorem Sta.set_no (g : G) (i : Nat) (d : D) : (⟨g, none⟩ : Sta).set i d = ⟨g.set i (some d), none⟩ := rfl
theorem Sta.set_mu {g : G} {i j : Nat} {d : D} {ds : List D} (h : (j == i) = false) : (⟨g, some (j, ds)⟩ : Sta).set i d = ⟨g.set i (some d), some (j, ds)⟩ := by
  show (⟨g.set i (some d), if j = i then none else some (j, ds)⟩ : Sta) = _
  rw [if_neg (by simpa using h)]
theorem Sta.set_at {g : G} {j : Nat} {d : D} {ds : List D} : (⟨g, some (j, ds)⟩ : Sta).set j d = ⟨g.set j (some d), none⟩ := by
  show (⟨g.set j (some d), if j = j then none else some (j, ds)⟩ : Sta) = _
  rw [if_pos rfl]
theorem sApp_eq {i : Nat} {e : G → Rs D} {g : G} {ds : List D} {d : D} (h : e g = .ok d) (hl : ds.length ≤ LIM) : sApp i e ⟨g, some (i, ds)⟩ = .ok (.nx ⟨g, some (i, ds ++ [d])⟩) := by
  show (if i = i ∧ ds.length ≤ LIM then _ else _) = _
  rw [if_pos ⟨rfl, hl⟩]
  show (e g).bind _ = _
  rw [h, Rs.bind_ok]
theorem sNew_eq {i : Nat} {e : G → Rs (List D)} {g : G} {mu : Option (Nat × List D)} {ds : List D} (h : e g = .ok ds) (hi : i < g.length) : sNew i e ⟨g, mu⟩ = .ok (.nx ⟨g.set i none, some (i, ds)⟩) := by
  show (e g).bind _ = _
  rw [h, Rs.bind_ok]
  show (if i < g.length then _ else _) = _
  rw [if_pos hi]
theorem Sta.frz_mu (g : G) (i : Nat) (ds : List D) : (⟨g, some (i, ds)⟩ : Sta).frz = ⟨g.set i (some (.lst ds)), none⟩ := rfl
theorem Sta.frz_no (g : G) : (⟨g, none⟩ : Sta).frz = ⟨g, none⟩ := rfl
/-! one statement at a time -/
section
variable {a b : Sta → Rs Ou} {s s' : Sta} {r : Rs Ou} {d x y : D} {e : G → Rs D} {c : G → Rs Bool} {i j n : Nat} {m : Sta → Rs Ou} {ds : List D}
theorem sSeq_eq (h1 : a s = .ok (.nx s')) (h2 : b s' = r) : sSeq a b s = r := by
  unfold sSeq
  rw [h1, Rs.bind_ok]
  exact h2
theorem sSeq_rt (h1 : a s = .ok (.rt d)) : sSeq a b s = .ok (.rt d) := by
  unfold sSeq
  rw [h1, Rs.bind_ok]
theorem sSeq_ex {c : Addr} {z : Option Int} (h1 : a s = .ex c z) : sSeq a b s = .ex c z := by
  unfold sSeq
  rw [h1, Rs.bind_ex]
theorem sSeq_nil (h1 : a s = r) : sSeq a sNil s = r := by
  unfold sSeq
  rw [h1]
  cases r with
  | ok o => cases o <;> rfl
  | ex c z => rfl
  | no => rfl
theorem sSet_eq (h : e s.g = .ok d) : sSet i e s = .ok (.nx (s.set i d)) := by
  unfold sSet
  rw [h, Rs.bind_ok]
theorem sSet2_eq (h : e s.g = .ok (.tup [x, y])) : sSet2 i j e s = .ok (.nx ((s.set i x).set j y)) := by
  unfold sSet2
  rw [h, Rs.bind_ok]
theorem sRet_eq (h : e s.g = .ok d) : sRet e s = .ok (.rt d) := by
  unfold sRet
  rw [h, Rs.bind_ok]
theorem sIf_t (h : c s.g = .ok true) (h2 : a s = r) : sIf c a b s = r := by
  unfold sIf
  rw [h, Rs.bind_ok, if_pos rfl, h2]
theorem sIf_f (h : c s.g = .ok false) (h2 : b s = r) : sIf c a b s = r := by
  unfold sIf
  rw [h, Rs.bind_ok, if_neg Bool.false_ne_true, h2]
theorem sFrz_eq (h : m s.frz = r) : sFrz m s = r := h
theorem runM_rt (h : m ⟨startG n ds, none⟩ = .ok (.rt d)) : runM n m ds = .ok d := by
  unfold runM
  rw [h, Rs.bind_ok]
theorem runM_rt' (h : m ⟨startG n ds, none⟩ = .ok (.rt d)) : (runM n m ds).nx = .ok d := by
  rw [runM_rt h]
  rfl
end
/-! loops and comprehensions as plain recursions -/
theorem sFor_eq {mi : G → Rs (List D)} {tg : Tg} {ks : List Nat} {b : Sta → Rs Ou} {s : Sta} {ds : List D} {r : Rs Ou} (h1 : mi s.g = .ok ds) (h2 : forGo tg ks b ds (s.kill ks) = r) : sFor mi tg ks b s = r := by
  unfold sFor
  rw [h1, Rs.bind_ok, h2]
end Z
set_option Elab.async false
set_option linter.all false
set_option maxRecDepth 100000
set_option maxHeartbeats 4000000
/-! Z, part G: mirrors evaluated piece by piece. -/
namespace Z
set_option autoImplicit false
open PySem L2
section
variable {a b c : G → Rs D} {ar r : G → Rs (List D)} {t u : G → Rs Bool} {g : G} {x y z d : D} {xs : List D} {i j : Int}
theorem m1_eq {f : D → Option D} (h : a g = .ok x) (e : f x = some d) : m1 f a g = .ok d := by
  unfold m1; rw [h, Rs.bind_ok, e]; rfl
theorem m2_eq {f : D → D → Option D} (h : a g = .ok x) (h2 : b g = .ok y) (e : f x y = some d) : m2 f a b g = .ok d := by
  unfold m2; rw [h, Rs.bind_ok, h2, Rs.bind_ok, e]; rfl
theorem mNil_eq : mNil g = .ok [] := rfl
theorem mCons_eq (h : a g = .ok x) (h2 : r g = .ok xs) : mCons a r g = .ok (x :: xs) := by
  unfold mCons; rw [h, Rs.bind_ok, h2]; rfl
theorem mA_eq {f : List D → Option D} (h : ar g = .ok xs) (e : f xs = some d) : mA f ar g = .ok d := by
  unfold mA; rw [h, Rs.bind_ok, e]; rfl
theorem mCalln_eq {φ : List D → Rs D} (h : ar g = .ok xs) (e : φ xs = .ok d) : mCall (fun ds => (φ ds).nx) ar g = .ok d := by
  unfold mCall; rw [h, Rs.bind_ok, e]; rfl
theorem mTup_eq (h : ar g = .ok xs) : mTup ar g = .ok (.tup xs) := by
  unfold mTup; rw [h]; rfl
theorem mLst_eq (h : ar g = .ok xs) : mLst ar g = .ok (.lst xs) := by
  unfold mLst; rw [h]; rfl
theorem mT_eq {k : Bool} (h : a g = .ok (.bl k)) : mT a g = .ok k := by
  unfold mT; rw [h]; rfl
theorem mNot_eq {k : Bool} (h : t g = .ok k) : mNot t g = .ok (!k) := by
  unfold mNot; rw [h]; rfl
theorem mAnd_eq {k l : Bool} (h : t g = .ok k) (h2 : k = true → u g = .ok l) : mAnd t u g = .ok (k && l) := by
  unfold mAnd; rw [h, Rs.bind_ok]
  cases k with
  | true => rw [if_pos rfl, h2 rfl, Bool.true_and]
  | false => rw [if_neg Bool.false_ne_true, Bool.false_and]
theorem mOr_eq {k l : Bool} (h : t g = .ok k) (h2 : k = false → u g = .ok l) : mOr t u g = .ok (k || l) := by
  unfold mOr; rw [h, Rs.bind_ok]
  cases k with
  | true => rw [if_pos rfl, Bool.true_or]
  | false => rw [if_neg Bool.false_ne_true, h2 rfl, Bool.false_or]
theorem mAndV_eq {k l : Bool} (h : a g = .ok (.bl k)) (h2 : k = true → b g = .ok (.bl l)) : mAndV a b g = .ok (.bl (k && l)) := by
  unfold mAndV; rw [h, Rs.bind_ok]
  cases k with
  | true => rw [Bool.true_and]; exact h2 rfl
  | false => rfl
theorem mN_eq : mN g = .ok none := rfl
theorem mSl_eq {l h : G → Rs (Option Int)} {lo hi : Option Int} (ha : a g = .ok (.lst xs)) (hl : l g = .ok lo) (hh : h g = .ok hi) : mSl a l h g = .ok (.lst (cutD xs lo hi)) := by
  unfold mSl; rw [ha, Rs.bind_ok, hl, Rs.bind_ok, hh, Rs.bind_ok]; rfl
theorem chain_le {k : Int} (ha : a g = .ok (.int i)) (hb : b g = .ok (.int j)) (hc : c g = .ok (.int k)) : mCh dLe dLe a b c g = .ok (.bl (decide (i ≤ j) && decide (j ≤ k))) := by
  unfold mCh
  rw [ha, Rs.bind_ok, hb, Rs.bind_ok, dLe_i, Rs.of_some, Rs.bind_ok]
  cases decide (i ≤ j) with
  | false => rfl
  | true =>
    show (c g).bind _ = _
    rw [hc, Rs.bind_ok, dLe_i]
    rfl
theorem chain_lt {k : Int} (ha : a g = .ok (.int i)) (hb : b g = .ok (.int j)) (hc : c g = .ok (.int k)) : mCh dLe dLt a b c g = .ok (.bl (decide (i ≤ j) && decide (j < k))) := by
  unfold mCh
  rw [ha, Rs.bind_ok, hb, Rs.bind_ok, dLe_i, Rs.of_some, Rs.bind_ok]
  cases decide (i ≤ j) with
  | false => rfl
  | true =>
    show (c g).bind _ = _
    rw [hc, Rs.bind_ok, dLt_i]
    rfl
theorem mItems_l (h : a g = .ok (.lst xs)) : mItems a g = .ok xs := by
  unfold mItems; rw [h]; rfl
theorem rgD_0 (n : Nat) : rgD 0 (n : Int) = (List.range n).map fun (i : Nat) => D.int (i : Int) := by
  unfold rgD
  rw [show ((n : Int) - 0).toNat = n by omega]
  refine List.map_congr_left fun i _ => ?_
  rw [Int.zero_add]
theorem rng1_nat {n : Nat} (hn : n ≤ LIM) (h : ar g = .ok [.int n]) : mRng1 ar g = .ok ((List.range n).map fun (i : Nat) => D.int (i : Int)) := by
  unfold mRng1
  rw [h]
  show (if _ then _ else _) = _
  rw [if_pos (by unfold LIM at hn; omega), rgD_0]
theorem dLen_map {α : Type} (f : α → D) (l : List α) : dLen [.lst (l.map f)] = some (.int l.length) := by rw [dLen_l, List.length_map]
theorem tst {k l : Bool} (h : t g = .ok k) (e : k = l) : t g = .ok l := e ▸ h
theorem dEq_t (h : i = j) : dEq (.int i) (.int j) = some (.bl true) := by rw [dEq_i, decide_eq_true h]
theorem dEq_f (h : i ≠ j) : dEq (.int i) (.int j) = some (.bl false) := by rw [dEq_i, decide_eq_false h]
theorem dAdd_map {α : Type} {f : α → D} {p q : List α} (h : p.length + q.length ≤ LIM) : dAdd (.lst (p.map f)) (.lst (q.map f)) = some (.lst ((p ++ q).map f)) := by
  rw [dAdd_l (by rw [List.length_map, List.length_map]; exact h), List.map_append]
theorem atI_0 {α : Type} (x : α) (l : List α) : atI (x :: l) 0 = some x := atI_nat (j := 0) rfl
theorem atI_1 {α : Type} (x y : α) (l : List α) : atI (x :: y :: l) 1 = some y := atI_nat (j := 1) rfl
end
/-! ### comprehensions and loops in one word -/
/-- a loop that only looks: it goes on while f says so, else it ends with r -/
theorem forGo_look {α : Type} {tg : Tg} {ks : List Nat} {b : Sta → Rs Ou} {st : Sta} (en : α → D) (f : α → Bool) (r : Rs Ou) (hr : ∀ s, r ≠ .ok (.nx s) ∧ r ≠ .ok (.ct s) ∧ r ≠ .ok (.bk s)) : ∀ xs : List α, (∀ a ∈ xs, ∃ ps, tg.put' (en a) = .ok ps ∧ muFree st.mu tg.slots = true ∧
      (f a = true → ∃ s', b (st.sets ps) = .ok (.nx s') ∧ s'.kill ks = st) ∧ (f a = false → b (st.sets ps) = r)) → forGo tg ks b (xs.map en) st = if xs.all f then .ok (.nx st) else r
  | [], _ => rfl
  | a :: xs, h => by
    obtain ⟨ps, h1, h2, h3, h4⟩ := h a List.mem_cons_self
    have ih := forGo_look en f r hr xs fun x hx => h x (List.mem_cons_of_mem _ hx)
    rw [List.map_cons, List.all_cons]
    unfold forGo
    rw [h1, Rs.bind_ok, if_pos h2]
    cases q : f a with
    | true =>
      obtain ⟨s', h5, h6⟩ := h3 q
      rw [h5, Rs.bind_ok]
      show forGo tg ks b (xs.map en) (s'.kill ks) = _
      rw [h6, ih, Bool.true_and]
    | false =>
      rw [h4 q, Bool.false_and]
      cases e : r with
      | ok o =>
        cases o with
        | nx s => exact absurd e (hr s).1
        | ct s => exact absurd e (hr s).2.1
        | bk s => exact absurd e (hr s).2.2
        | rt d => rfl
      | ex c z => rfl
      | no => rfl
end Z
set_option Elab.async false
set_option linter.all false
set_option maxRecDepth 100000
set_option maxHeartbeats 4000000
/-! Z, part H: from the top's facts to the defs; the law's end. -/
namespace Z
set_option autoImplicit false
open PySem L2
section
variable {P : Program} {w : World} {K : PySem.W.Frag} {mg : Str → Option Value} {base : Heap} {C : Addr} {h : Heap} {fa : List He.Fa} {fn : List He.DefD}
theorem funD_fun {x qual : Str} {st : Stmt} {f : Addr} {fd : FuncData} (F : FunD K x qual (defArgs st) (defBody st) (defScope st) [] [] f fd) : Fun K x qual st f fd := by
  obtain ⟨⟨oc, od, dV, kV, doc, pm, an, cdv, ct, osl, e, lk, hcd, hD, _⟩, kp⟩ := F
  rcases hD with ⟨_, rfl⟩ | ⟨z, _⟩
  · exact ⟨⟨oc, od, kV, doc, pm, an, cdv, ct, osl, e, lk, hcd⟩, kp⟩
  · exact absurd rfl z
/-- the datum of a def -/
def dat (x : Str) (st : Stmt) : He.DefD := ⟨(x, none), x, x, defArgs st, defBody st, defScope st, [], []⟩
theorem dn_of (X : K.In h) (G : h.Ns mainGlobals mg) (c : He.SaysD fa fn K) (i j : Nat) {x : Str} {st : Stmt} {ps : List Str} (hi : fn[i]? = some (dat x st)) (hj : fa[j]? = some (.glo x))
    (hb : ∀ (kV doc pm : Value) (an : Option Addr) (cdv ct : Value) (us : List Value), us.length = ps.length → bindArgs (PySem.W.fnOf x x (defArgs st) (defBody st) (defScope st) .none kV doc pm an cdv ct) ⟨us, []⟩ = pure (ps.zip us)) : Dn K mg x st ps := by
  obtain ⟨fd, F⟩ := c.def_ i hi
  have F2 : Fun K x x st (He.fAd K (x, none)) fd := funD_fun F
  exact ⟨_, fd, F2, He.glo_ok X G (c.fact j hj), F2.binds hb⟩
end
/-! the law's end: what its mirror tells is True -/
theorem spM_law {K : PySem.W.Frag} {C : Addr} {φ : List D → Rs D} {H : Hp} {a : Addr} {ns : List Int} (hS : SqL K H a (ns.map V.int)) (hq : φ [.scr ns] = .ok (.bl true)) : spM K C 1 φ [.ref a] H (fun v _ => v = .bl true) fun _ _ _ => False := by
  refine ⟨H, [.scr ns], Same.refl H, .cons (.scr hS) .nil, rfl, ?_⟩
  rw [hq]
  intro v H' g P T σ S
  obtain ⟨F, f⟩ := S
  have z := f.ts _ List.mem_cons_self
  cases z
  rfl
end Z
set_option Elab.async false
set_option linter.all false
set_option maxRecDepth 100000
set_option maxHeartbeats 4000000
/-! Z, part M: a list that was told is changed. -/
namespace Z
set_option autoImplicit false
open PySem L2
section
variable {K : PySem.W.Frag} {C : Addr}
/-- where the list that is changed lies in what was told -/
inductive Pth where
  | here
  | snd
def Pth.get : Pth → D → Option (List D)
  | .here, .lst ds => some ds
  | .snd, .tup [_, .lst ds] => some ds
  | _, _ => none
def Pth.te (K : PySem.W.Frag) (f : Nat) : Pth → TE
  | .here => tVar f
  | .snd => tOp (rIx2 K) (tVar f) (tC (.int 1))
theorem Pth.run {pth : Pth} {f : Nat} {σ : L2.St} {H F : Hp} {v : V} {d : D} {ds : List D} {Q : VK} (hf : σ[f]? = some (some v)) (e : Same F H) (iv : Is K C F v d) (h : pth.get d = some ds) (q : ∀ p vs, F p = some (.lst vs) → IsA K C F vs ds → Q (.ref p) H) : pth.te K f σ H Q := by
  cases pth with
  | here =>
    cases iv <;> try cases h
    rename_i h1 h2
    exact ⟨_, hf, q _ _ h1 h2⟩
  | snd =>
    cases iv with
    | @tup a vs dd h1 h2 =>
      unfold Pth.get at h
      split at h
      · rename_i ez; cases ez
      · rename_i x ds' ez
        cases ez
        cases h
        cases h2 with
        | cons i1 i2 =>
          cases i2 with
          | cons i3 i4 =>
            cases i4
            cases i3 with
            | lst h5 h6 =>
              exact ⟨_, hf, .inr ⟨_, _, 1, _, rfl, rfl, .inl (.inl (e _ _ h1)), atI_nat (j := 1) rfl, q _ _ h5 h6⟩⟩
      · cases h
    | _ => cases h
variable {E : XK}
end
end Z
set_option Elab.async false
set_option linter.all false
set_option maxRecDepth 100000
set_option maxHeartbeats 4000000
/-! Z, part T: try .. except. -/
namespace Z
set_option autoImplicit false
open PySem L2
/-! ### a wish that every state of the frame grants -/
/-- the error's own dict -/
def Xd (H : Hp) (dd : Option Addr) : Option Int → Prop
  | none => dd = none
  | some m => ∃ p, dd = some p ∧ H p = some (.xd [(("road" : Str), .int m)])
/-! ### isinstance of a caught error -/
structure ExF (K : PySem.W.Frag) (c : Addr) : Prop where
  hcl : (PySem.W.clsIn K c).isSome = true
  hga : PySem.W.findIn K (.ref c) "__getattribute__" = some (some (.builtin "BaseException.__getattribute__"))
  hgt : PySem.W.findIn K (.ref c) "__getattr__" = some none
  hsub : PySem.W.subIn K (.ref c) (.type "BaseException") = some true
  ha : PySem.W.findIn K (.ref c) "__class__" = some (some (.builtin "object.__class__"))
  hn : PySem.W.specialIn K (.builtin "object.__class__") "__get__" = some (some (.builtin "getset_descriptor.__get__"))
  ht : PySem.W.takesIn K (.builtin "object.__class__") = some true
  hm : PySem.W.mroIn K c (.type "object") = some true
def exFB (K : PySem.W.Frag) (c : Addr) : Bool := (PySem.W.clsIn K c).isSome && (decide (PySem.W.findIn K (.ref c) "__getattribute__" = some (some (.builtin "BaseException.__getattribute__"))) && (decide (PySem.W.findIn K (.ref c) "__getattr__" = some none) && (decide (PySem.W.subIn K (.ref c) (.type "BaseException") = some true) &&
  (decide (PySem.W.findIn K (.ref c) "__class__" = some (some (.builtin "object.__class__"))) && (decide (PySem.W.specialIn K (.builtin "object.__class__") "__get__" = some (some (.builtin "getset_descriptor.__get__"))) && (decide (PySem.W.takesIn K (.builtin "object.__class__") = some true) && decide (PySem.W.mroIn K c (.type "object") = some true)))))))
theorem exFB_ok {K : PySem.W.Frag} {c : Addr} (h : exFB K c = true) : ExF K c := by
  unfold exFB at h
  simp only [Bool.and_eq_true, decide_eq_true_eq] at h
  obtain ⟨h1, h2, h3, h4, h5, h6, h7, h8⟩ := h
  exact ⟨h1, h2, h3, h4, h5, h6, h7, h8⟩
def Xfs (H : Hp) (dd : Option Addr) : Prop := dd = none ∨ ∃ p fs, dd = some p ∧ H p = some (.xd fs)
theorem Xd.fs {H : Hp} {dd : Option Addr} {r : Option Int} (h : Xd H dd r) : Xfs H dd := by
  cases r with
  | none => exact .inl h
  | some m =>
    obtain ⟨p, e, z⟩ := h
    exact .inr ⟨p, _, e, z⟩
def rIsO (K : PySem.W.Frag) (a : Addr) (cls : Value) (dd : Option Addr) (t : Value) : List V → Hp → VK → Prop := fun xs H Q => ∃ (c : Addr) (u : V) (b : Bool), xs = [.ref a, u] ∧ (∀ z, RelV u z → z = t) ∧ cls = .ref c ∧ ExF K c ∧ Xfs H dd ∧ PySem.W.kitOne K (.ref c) t = some b ∧ Q (.bl b) H
theorem inst_of {X : Cx} {a c : Addr} {dd : Option Addr} {oe : Obj} {pn pins : List (Addr × Obj)} {σ : L2.St} {H : Hp} {s : Shared} (I : Inv (X.suite a ((a, oe) :: pn)) pins σ H s) (hz : Zc (.ref c) dd oe) (hf : ∃ vs, oe.data = .fields vs) (hx : Xfs H dd) : ∃ od, PySem.W.InstAt s.heap a oe c od := by
  obtain ⟨hget, _⟩ := I.pin (a, oe) (List.mem_append.mpr (.inl List.mem_cons_self))
  obtain ⟨vs, hv⟩ := hf
  have hno : PySem.W.notCls oe = true := by unfold PySem.W.notCls; rw [hv]
  rcases hx with e | ⟨p, fs, e, hp⟩
  · refine ⟨none, hget, hz.1, hno, ?_⟩
    rw [hz.2, e]
    trivial
  · have ho : ObjOk X.prog X.w H s.heap p (.xd fs) := I.hok p _ hp
    obtain ⟨mA, hns, _⟩ := ho
    obtain ⟨od, h1, _⟩ := lookIn_ns hns
    refine ⟨some od, hget, hz.1, hno, ?_⟩
    rw [hz.2, e]
    exact h1
theorem call_isO {X : Cx} {a : Addr} {cls : Value} {dd : Option Addr} {oe : Obj} {pn : List (Addr × Obj)} {t : Value} (hz : Zc cls dd oe) (hf : ∃ vs, oe.data = .fields vs) : CallR (X.suite a ((a, oe) :: pn)) (.builtin "isinstance") (rIsO X.K a cls dd t) := by
  intro pins s σ H xs us Q I r h
  obtain ⟨c, u, b, exs, hu, ecl, EF, hx, hk, hq⟩ := h
  subst exs
  subst ecl
  cases r with
  | cons ra rr =>
  cases rr with
  | cons rt re =>
  cases re
  have e2 := hu _ rt
  subst e2
  cases ra
  obtain ⟨od, J⟩ := inst_of I hz hf hx
  exact PySem.W.kia_one (PySem.W.kitx_exc EF.hcl EF.hga EF.hgt EF.hsub EF.ha EF.hn EF.ht EF.hm) I.kIn J hk (fun z => nomatch z) fun tk => ⟨.bl b, H, I.kept (t' := tk) fun _ _ z => z, rfl, hq⟩
/-- isinstance(e, T) of the error that the suite holds -/
def tIsE (K : PySem.W.Frag) (i a : Addr) (cls : Value) (dd : Option Addr) (u : V) (t : Value) : TE := tCB (rIsO K a cls dd t) (tCons (tVar i) (tCons (tC u) tNil))
section
variable {X : Cx} {K : PySem.W.Frag} {C : Addr} {E : XK}
theorem pe_isO {a i tA : Addr} {cls : Value} {dd : Option Addr} {oe : Obj} {pn : List (Addr × Obj)} {x tn : Str} {p q1 q2 pos : Pos} (hz : Zc cls dd oe) (hf : ∃ vs, oe.data = .fields vs) (hm : X.mg "isinstance" = none) (hT : X.mg tn = some (.ref tA)) (hN : X.N[i]? = some x) (hv : Vis X.env.scope x)
    (hd : (x == ("__debug__" : Str)) = false := by decide) (hcd : (x == ("__classdict__" : Str)) = false := by decide) (hg : Gl X "isinstance" := by rfl) (hgT : Gl X tn := by rfl) (hdT : (tn == ("__debug__" : Str)) = false := by decide)
    (he : starEach [.Name x q1, .Name tn q2] X.env = (false, eval (.Name x q1) X.env) :: starEach [.Name tn q2] X.env := by rfl) (he2 : starEach [.Name tn q2] X.env = (false, eval (.Name tn q2) X.env) :: starEach [] X.env := by rfl) (hpl : (backTo pos (starEach [.Name tn q2] X.env)).any (·.1) = false := by rfl) :
    PE (X.suite a ((a, oe) :: pn)) (.Call (.Name "isinstance" p) [.Name x q1, .Name tn q2] [] pos) (tIsE X.K i a cls dd (.ref tA) (.ref tA)) :=
  pe_callB (X := X.suite a ((a, oe) :: pn)) (call_isO hz hf) hg hm (by decide +kernel) (pa_cons (pe_var hN hv hd hcd) (pa_cons (pe_glob hgT hT rfl hdT) pa_nil he2) he) (by decide) (by decide) he hpl
theorem wish_ok {α : Type} {o : Rs α} {H0 : Hp} {E : XK} {Q : α → Prop} (h : Wish H0 E o.nx Q) : ∃ a, o = .ok a ∧ Q a := by
  cases o with
  | ok a => exact ⟨a, rfl, h⟩
  | ex c r => exact h.elim
  | no => exact h.elim
/-- xs[k] = e, xs a list that may still change -/
theorem z_put {i : Nat} {x : Str} {e k : Expr} {te tk : TE} {m mk : G → Rs D} {p1 p2 pos : Pos} (hN : X.N[i]? = some x) (hv : Vis X.env.scope x) (he : PEM X K C E e te m) (hk : PEM X K C E k tk mk) (hd : (x == ("__debug__" : Str)) = false := by decide) (hcd : (x == ("__classdict__" : Str)) = false := by decide)
    (ha : ∀ v, assign (.Subscript (.Name x p1) k p2) X.env v = (do
      let ov ← holding [v] (eval (.Name x p1) X.env)
      let iv ← holding [v, ov] (eval k X.env)
      standAt p2
      holding [v, ov, iv] (setItem ov iv v)
      release [v, ov, iv] []) := by intro _; rfl)
    (hs : swapsWithSole [.Subscript (.Name x p1) k p2] e pos.line X.env = pure false := by rfl) (hw : swappedStores [.Subscript (.Name x p1) k p2] e X.env = pure none := by rfl)
    (h1 : (assignEach [.Subscript (.Name x p1) k p2] X.env).map (·.2) = [assign (.Subscript (.Name x p1) k p2) X.env] := by rfl) : PSM X K C E (.Assign [.Subscript (.Name x p1) k p2] e pos) (tAsg te (gSub (tVar i) tk rSetL)) (sPut i mk m) :=
  ⟨ps_asg he.p (pg_sub (pe_var hN hv hd hcd) hk.p set_list ha) hs hw h1, sm_put he.q hk.q⟩
end
end Z
set_option Elab.async false
set_option linter.all false
set_option maxRecDepth 100000
set_option maxHeartbeats 4000000
/-! Z, part W: what the roads want of operators and built-ins. -/
namespace Z
set_option autoImplicit false
open PySem L2
/-! ### (cost, roads) < (cost, roads) -/
abbrev tk (ns : List Int) : List (Int ⊕ List Nat) := PySem.W.keyToksAll (ns.map PyData.int)
section
variable {K : PySem.W.Frag} {C : Addr}
/-! ### sorted of pairs -/
def pairOf : D → Option (Int × Int)
  | .tup [.int i, .int j] => some (i, j)
  | _ => none
def asPairs : List D → Option (List (Int × Int))
  | [] => some []
  | d :: ds => (pairOf d).bind fun p => (asPairs ds).map (p :: ·)
def pairIJ (p : Int × Int) : D := .tup [.int p.1, .int p.2]
theorem pairOf_some {d : D} {p : Int × Int} (h : pairOf d = some p) : d = pairIJ p := by
  unfold pairOf at h
  split at h
  · cases h; rfl
  · cases h
theorem asPairs_some : ∀ {ds : List D} {ps : List (Int × Int)}, asPairs ds = some ps → ds = ps.map pairIJ
  | [], ps, h => by cases h; rfl
  | d :: ds, ps, h => by
    unfold asPairs at h
    cases e1 : pairOf d with
    | none => rw [e1] at h; cases h
    | some p =>
      rw [e1] at h
      cases e2 : asPairs ds with
      | none => rw [e2] at h; cases h
      | some qs =>
        rw [e2] at h
        cases h
        rw [List.map_cons, pairOf_some e1, asPairs_some e2]
theorem asPairs_map : ∀ ps : List (Int × Int), asPairs (ps.map pairIJ) = some ps
  | [] => rfl
  | p :: ps => by
    rw [List.map_cons]
    unfold asPairs
    rw [asPairs_map ps]
    rfl
/-- p is not above q -/
def leP (p q : Int × Int) : Prop := p.1 < q.1 ∨ (p.1 = q.1 ∧ p.2 ≤ q.2)
instance (p q : Int × Int) : Decidable (leP p q) := inferInstanceAs (Decidable (_ ∨ _))
end
end Z
set_option Elab.async false
set_option linter.all false
set_option maxRecDepth 100000
set_option maxHeartbeats 4000000
/-! Z, part X: a web made; Alone raised. -/
namespace Z
set_option autoImplicit false
open PySem L2
/-! ### Web(..) -/
/-- Web.__init__ keeps this: chk tells whether the web is refused -/
def spWeb (K : PySem.W.Frag) (C : Addr) (chk : Int → List D → Rs Unit) : Sp := fun vs H Q E => ∃ (F : Hp) (x dx : Addr) (v1 v2 : V) (n : Int) (ds : List D), vs = [.ref x, v1, v2] ∧ H x = some (.ins C dx []) ∧ H dx = some (.own x) ∧ dx ≠ x ∧ Same F H ∧ F x = none ∧ F dx = none ∧ Is K C F v1 (.int n) ∧ Is K C F v2 (.lst ds) ∧
  Wish H E (chk n ds) (fun _ => ∀ (r : Addr) (ws : List V) (F1 H' : Hp), Same F F1 → F1 x = none → F1 dx = none → F1 r = none → (∀ p, H p ≠ none → F p = none → F1 p = none) → Same F1 H' → H' x = some (.ins C dx (webF n r)) → H' r = some (.lst ws) → H r = none → IsA K C F1 ws ds → (∀ b o, H b = some o → b ≠ x → H' b = some o) → Q .non H')
section
variable {P : Program} {w : World} {K : PySem.W.Frag} {mg : Str → Option Value} {base : Heap} {C : Addr}
theorem web_okX {st : Stmt} {f : Addr} {fd : FuncData} {N ps : List Str} {k : Nat} {cb : Sta → Rs Ou} {chk : Int → List D → Rs Unit} (F : Fun K "__init__" "Web.__init__" st f fd) (S : FnScope N ps (defScope st)) (hp : ps.length = 3) (hc : Cls K C) (np : NoAttr K C "places") (nr : NoAttr K C "roads")
    (hm : ∀ x n ds, chk n ds ≠ .no → ∃ s, s.g[0]? = some (some (.adr x)) ∧ s.g[1]? = some (some (.int n)) ∧ s.g[2]? = some (some (.lst ds)) ∧ cb ⟨startG N.length [.adr x, .int n, .lst ds], none⟩ = (chk n ds).bind fun _ => .ok (.nx s))
    (hb : ∀ (cdv : Value) (A : Around) (outer : List Env) (s : Shared) (H : Hp) (E : XK), Room k (A.deeper (PyProof.Rows.envOfC "Web.__init__" (defScope st) s.heap.objs.size f cdv)) →
      ∃ t, SM K C E t cb ∧ PSs (cxOf (L2.CX P w) P w K mg base N "Web.__init__" (defScope st) f cdv A outer s H E) (defBody st) (tSeq t (tSeq (sFld K (tVar 0) (tVar 1) "places") (tSeq (sFld K (tVar 0) (tCB (rListS K) (tCons (tVar 2) tNil)) "roads") tNext)))) :
    FnOk P w K mg base (L2.CX P w) (k + 1) f fd ps (spWeb K C chk) := by
  refine F.okX S (fun vs H Q E h => ?_) (fun cdv A outer s H vs Q E hr h => ?_)
  · obtain ⟨F, x, dx, v1, v2, n, ds, rfl, _⟩ := h
    rw [hp]
    rfl
  · obtain ⟨F, x, dx, v1, v2, n, ds, rfl, hx, hdx, hne, sF, fx, fd', i1, i2, h⟩ := h
    obtain ⟨t, pt, pp⟩ := hb cdv A outer s H E hr
    refine ⟨_, pp, ?_⟩
    refine pt.run F H ⟨startG N.length [.adr x, .int n, .lst ds], none⟩ [] _ H _ ⟨[], [], fun _ z => z, rfl, start_SS sF (.cons (.adr x) (.cons i1 (.cons i2 .nil)))⟩ ?_
    have hno : chk n ds ≠ .no := fun z => by rw [z] at h; exact h
    obtain ⟨s1, g0, g1, g2, e⟩ := hm x n ds hno
    rw [e]
    cases ec : chk n ds with
    | no => exact absurd ec hno
    | ex c r =>
      rw [ec] at h
      exact h
    | ok u =>
      rw [ec] at h
      intro σ H1 S1
      obtain ⟨P1, T1, _, _, F1, f1⟩ := S1
      obtain ⟨u0, s0, j0⟩ := f1.sl 0 _ g0
      obtain ⟨u1, s1', j1⟩ := f1.sl 1 _ g1
      obtain ⟨u2, s2, j2⟩ := f1.sl 2 _ g2
      cases j0
      cases j1
      cases j2 with
      | @lst p ws _ hp1 hp2 =>
        have hx1 : H1 x = some (.ins C dx []) := f1.e0 _ _ hx
        have Fx : F1 x = none := f1.nw x (by show H x ≠ none; rw [hx]; exact fun z => nomatch z) fx
        have Fd : F1 dx = none := f1.nw dx (by show H dx ≠ none; rw [hdx]; exact fun z => nomatch z) fd'
        have sP : (putF "places" (V.int n) []).length < 1000 := by show 1 < 1000; decide
        have nf : ∀ {b : Addr} {o : HO}, F1 b = some o → upd H1 x (.ins C dx (putF "places" (V.int n) [])) b = some o := fun {b o} e => by
          rw [upd_ne (ne_of_none e Fx)]
          exact f1.eH b o e
        refine ⟨_, s1', .ref x, s0, x, C, dx, [], rfl, hx1, hc, np, (by show 0 < 1000; decide), ?_⟩
        refine ⟨_, s2, _, _, rfl, .inl (.inl (.inl (nf hp1))), fun r hr0 => ?_⟩
        have rx : r ≠ x := fun z => by rw [z, upd_same] at hr0; cases hr0
        have hr1 : H1 r = none := by rw [upd_ne rx] at hr0; exact hr0
        have xr : x ≠ r := Ne.symm rx
        refine ⟨.ref x, s0, x, C, dx, _, rfl, (by rw [upd_ne xr, upd_same]), hc, nr, sP, ?_⟩
        refine h r ws F1 _ f1.eF Fx Fd (f1.eH.free hr1) f1.nw (fun b o e => ?_) upd_same (by rw [upd_ne rx, upd_same]) (f1.e0.free hr1) hp2 fun b o e hb => ?_
        · rw [upd_ne (ne_of_none e Fx), upd_ne (ne_of_none (f1.eH b o e) hr1), upd_ne (ne_of_none e Fx)]
          exact f1.eH b o e
        · have e1 := f1.e0 b o e
          rw [upd_ne hb, upd_ne (ne_of_none e1 hr1), upd_ne hb]
          exact e1
end
/-! the web's own test -/
def okRoad (n : Int) (p : Int × Int) : Bool := decide (0 ≤ p.1) && decide (p.1 < n) && (decide (0 ≤ p.2) && decide (p.2 < n)) && !decide (p.1 = p.2)
def okWeb (n : Int) (ps : List (Int × Int)) : Bool := decide (2 ≤ n) && decide (n ≤ 6) && (decide (1 ≤ ps.length) && decide (ps.length ≤ 10)) && ps.all (okRoad n)
def chkW (c : Addr) (n : Int) (ds : List D) : Rs Unit := match asPairs ds with
  | none => .no
  | some ps => if okWeb n ps = true then .ok () else .ex c none
section
variable (P : Program) (w : World) (K : PySem.W.Frag) (mg : Str → Option Value) (base : Heap) (C : Addr)
/-- the class Web stands, and its __init__ keeps its word -/
def CalW (k : Nat) (chk : Int → List D → Rs Unit) : Prop := ∃ f fd, FnOk P w K mg base (L2.CX P w) k f fd ["self", "places", "roads"] (spWeb K C chk) ∧ Mk K C f ∧ Binds K fd ["self", "places", "roads"] [] ∧ mg "Web" = some (.ref C)
end
/-! ### raise Alone(..) -/
end Z
set_option Elab.async false
set_option linter.all false
set_option maxRecDepth 100000
set_option maxHeartbeats 4000000
/-! Z, part Y: rules that the roads want. -/
set_option Elab.async false
set_option linter.all false
set_option maxRecDepth 100000
set_option maxHeartbeats 4000000
/-! Z, part V: what the top has written of the classes Web and Alone. -/
namespace Z
set_option autoImplicit false
open PySem L2
section
variable (K : PySem.W.Frag) (mg : Str → Option Value) (C : Addr)
def DnW (st : Stmt) : Prop := ∃ f fd, Fun K "__init__" "Web.__init__" st f fd ∧ Mk K C f ∧ Binds K fd ["self", "places", "roads"] [] ∧ mg "Web" = some (.ref C) ∧ Cls K C ∧ NoAttr K C "places" ∧ NoAttr K C "roads"
end
section
variable {P : Program} {w : World} {K : PySem.W.Frag} {mg : Str → Option Value} {base : Heap} {C : Addr} {h : Heap} {fa : List He.Fa} {fn : List He.DefD}
def datM (x m q : Str) (st : Stmt) : He.DefD := ⟨(x, some m), m, q, defArgs st, defBody st, defScope st, [], []⟩
theorem dnW_of (X : K.In h) (G : h.Ns mainGlobals mg) (c : He.SaysD fa fn K) (i j1 j2 j3 j4 j5 : Nat) {st : Stmt} (hi : fn[i]? = some (datM "Web" "__init__" "Web.__init__" st)) (e1 : fa[j1]? = some (.glo "Web")) (e2 : fa[j2]? = some (.cls "Web")) (e3 : fa[j3]? = some (.mkr "Web")) (e4 : fa[j4]? = some (.noat "Web" "places")) (e5 : fa[j5]? = some (.noat "Web" "roads"))
    (hb : ∀ (kV doc pm : Value) (an : Option Addr) (cdv ct : Value) (us : List Value), us.length = 3 → bindArgs (PySem.W.fnOf "__init__" "Web.__init__" (defArgs st) (defBody st) (defScope st) .none kV doc pm an cdv ct) ⟨us, []⟩ = pure ((["self", "places", "roads"] : List Str).zip us)) : DnW K mg (He.ga K "Web") st := by
  obtain ⟨fd, F⟩ := c.def_ i hi
  have F2 : Fun K "__init__" "Web.__init__" st (He.fAd K ("Web", some "__init__")) fd := funD_fun F
  have m := He.mkr_ok (c.fact j3 e3)
  exact ⟨_, fd, F2, m, F2.binds hb, He.glo_ok X G (c.fact j1 e1), He.cls_ok (c.fact j2 e2), He.noat_ok (c.fact j4 e4), He.noat_ok (c.fact j5 e5)⟩
theorem calW_of {st : Stmt} {N : List Str} {cb : Sta → Rs Ou} {chk : Int → List D → Rs Unit} (D : DnW K mg C st) (S : FnScope N ["self", "places", "roads"] (defScope st))
    (hm : ∀ x n ds, chk n ds ≠ .no → ∃ s, s.g[0]? = some (some (.adr x)) ∧ s.g[1]? = some (some (.int n)) ∧ s.g[2]? = some (some (.lst ds)) ∧ cb ⟨startG N.length [.adr x, .int n, .lst ds], none⟩ = (chk n ds).bind fun _ => .ok (.nx s))
    (hb : ∀ (f : Addr) (cdv : Value) (A : Around) (outer : List Env) (s : Shared) (H : Hp) (E : XK), Room 0 (A.deeper (PyProof.Rows.envOfC "Web.__init__" (defScope st) s.heap.objs.size f cdv)) →
      ∃ t, SM K C E t cb ∧ PSs (cxOf (L2.CX P w) P w K mg base N "Web.__init__" (defScope st) f cdv A outer s H E) (defBody st) (tSeq t (tSeq (sFld K (tVar 0) (tVar 1) "places") (tSeq (sFld K (tVar 0) (tCB (rListS K) (tCons (tVar 2) tNil)) "roads") tNext)))) : CalW P w K mg base C 1 chk := by
  obtain ⟨f, fd, F, M, b, g, hc, np, nr⟩ := D
  exact ⟨f, fd, web_okX F S rfl hc np nr hm (hb f), M, b, g⟩
theorem z_pre2 {X : Cx} {E : XK} {s1 s2 : Stmt} {r : List Stmt} {t1 t2 u : TS} {m1 m2 : Sta → Rs Ou} (h1 : PSM X K C E s1 t1 m1) (h2 : PSM X K C E s2 t2 m2) (h : PSs X r u) : SM K C E (tSeq t1 t2) (sSeq m1 m2) ∧ PSs X (s1 :: s2 :: r) (tSeq (tSeq t1 t2) u) := by
  refine ⟨sm_seq h1.q h2.q, ?_⟩
  show PSs X (s1 :: s2 :: r) (tSeq t1 (tSeq t2 u))
  exact pss_cons h1.p (pss_cons h2.p h)
end
end Z
set_option Elab.async false
set_option linter.all false
set_option maxRecDepth 100000
set_option maxHeartbeats 4000000
/-! Z, part U: try with several clauses. -/
set_option Elab.async false
set_option linter.all false
set_option maxRecDepth 100000
set_option maxHeartbeats 4000000
/-! Z, part N: a try whose clauses have names or none. -/
namespace Z
set_option autoImplicit false
open PySem PySem.Spec PyProof.Rows L2
/-- a clause: the class that it names, the slot of its own name, its suite -/
structure Cl where
  cls : Value
  slot : Option Nat
  ts : Addr → Value → Option Addr → TS
def Cl.go (k : Cl) (D : Ends) (a : Addr) (cls : Value) (d : Option Addr) : L2.St → Hp → Prop := match k.slot with
  | none => fun σ H => k.ts a cls d D σ H
  | some i => fun σ H => k.ts a cls d { nx := fun σ' H' => D.nx (σ'.set i none) H', rt := D.rt, bk := fun σ' H' => D.bk (σ'.set i none) H', ct := fun σ' H' => D.ct (σ'.set i none) H' } (σ.set i (some (.ref a))) H
def wN (K : PySem.W.Frag) (Wout : WX) (D : Ends) : List Cl → WX
  | [] => Wout
  | k :: r => fun cls d σ H => ∃ b, PySem.W.exmOne K cls k.cls = some b ∧ (b = true → ∀ a, H a = none → k.go D a cls d σ H) ∧ (b = false → wN K Wout D r cls d σ H)
inductive ClOk (X : Cx) : ExceptHandler → Cl → Prop
  | un {x : Str} {c : Value} {ts : Addr → Value → Option Addr → TS} {b₀ : Stmt} {suite : List Stmt} {np pos' : Pos} (hc : Names X x c)
      (su : ∀ (a : Addr) (oe : Obj) (cls : Value) (d : Option Addr) (pn : List (Addr × Obj)), Zc cls d oe → (∃ vs, oe.data = .fields vs) → PSs (X.suite a ((a, oe) :: pn)) (b₀ :: suite) (ts a cls d)) : ClOk X (.ExceptHandler (some (.Name x np)) none (b₀ :: suite) pos') ⟨c, none, ts⟩
  | nm {x n : Str} {i : Nat} {c : Value} {ts : Addr → Value → Option Addr → TS} {b₀ : Stmt} {suite : List Stmt} {np pos' : Pos} (hi : X.N[i]? = some n) (hk : X.env.kindOf n = some .local) (hc : Names X x c)
      (su : ∀ (a : Addr) (oe : Obj) (cls : Value) (d : Option Addr) (pn : List (Addr × Obj)), Zc cls d oe → (∃ vs, oe.data = .fields vs) → PSs (X.suite a ((a, oe) :: pn)) (b₀ :: suite) (ts a cls d)) : ClOk X (.ExceptHandler (some (.Name x np)) (some n) (b₀ :: suite) pos') ⟨c, some i, ts⟩
inductive ClsOk (X : Cx) : List ExceptHandler → List Cl → Prop
  | nil : ClsOk X [] []
  | cons {h : ExceptHandler} {k : Cl} {hs : List ExceptHandler} {l : List Cl} : ClOk X h k → ClsOk X hs l → ClsOk X (h :: hs) (k :: l)
section
variable {X : Cx} {body : List Stmt} {h₀ : ExceptHandler} {hds : List ExceptHandler} {l : List Cl} {pos : Pos} {tb : WX → TS} {Wout : WX}
theorem ps_tryN (hst : X.stack = X.env :: X.outer) (hf : X.env.frame = some X.env.locals) (hN : X.N.Nodup) (tk : Takes X Wout)
    (hb : ∀ (W : WX) (pn : List (Addr × Obj)) (xe : Value → Shared → Prop), Takes (X.tr pn xe) W → PassesOwn (model X.prog X.w) X.A X.env xe → PSs (X.tr pn xe) body (tb W))
    (hc : ClsOk X (h₀ :: hds) l) : PS X (.Try body (h₀ :: hds) [] [] pos) (fun D σ H => tb (wN X.K Wout D l) D σ H) := by
  refine ⟨fun ps s0 τ G D I0 w0 => ?_⟩
  have k0 := I0.ok
  have fr0 : X.A.frames = some (X.env :: X.outer) := k0.frames.trans (by rw [hst])
  refine wpAny_Try_except ?_
  refine wpAny_mono ((hb (wN X.K Wout D l) (X.pn ++ ps) (fun u t1 => wpAny (model X.prog X.w) X.A (noteFrame u X.env) (fun _ t2 => wpAny (model X.prog X.w) X.A (setFlight u none) (fun _ t3 =>
    wpAny (model X.prog X.w) X.A (handleBy u X.env (h₀ :: hds)) (SP X ps D) X.xe t3) X.xe t2) X.xe t1) (fun u sx xx => ?_) PassesOwn.looking).run [] s0 τ G D (I0.toTry _) w0) (fun fl sz hz => ?_) (fun _ _ z => z)
  · obtain ⟨a, Bn, sI, ps', σ', H', cls, d, rfl, Jt, nb, up, sky, na, eos, ag, w⟩ := xx
    have J : Inv X ps σ' H' sI := Jt.ofTry k0
    have sky2 : Sky Bn (X.env :: X.outer) a (Zc cls d) X.env.locals sx.heap := hst ▸ sky
    show wpAny (model X.prog X.w) X.A (noteFrame (.ref a) X.env) _ _ _
    refine Sky.land Zc.steady fr0 hf sky2 fun q3 fl3 up3 => ?_
    have J3 : Inv X ps σ' H' { sx with heap := q3 } := J.landed nb fl3.1 (up.trans up3) eos ag
    obtain ⟨o3, f3, e3, z3, d3⟩ := fl3.there
    have out : a ∉ frs (X.env :: X.outer) := fun hm => by
      obtain ⟨_, o4, e4, hn⟩ := fl3.2.2.1.mem hm
      rw [e3] at e4
      cases e4
      exact hn _ d3
    have nL : a ≠ X.env.locals := fun z => out (List.mem_filterMap.mpr ⟨X.env, List.mem_cons_self, by rw [hf, z]⟩)
    have nF : a ∉ X.fs := fun hm => by
      obtain ⟨en, hen, q⟩ := List.mem_filterMap.mp hm
      exact out (List.mem_filterMap.mpr ⟨en, List.mem_cons_of_mem _ hen, q⟩)
    have SU := J3.suite e3 d3 na nL nF
    have LT : PySem.W.Looks (model X.prog X.w) q3 (typeOf (.ref a)) cls := fun A Q E t kp q => wpAny_typeOf_ref (kp _ _ e3) (by rw [z3.1]; exact q)
    have named : ∀ {x : Str} {c : Value} {np : Pos} {Q : Value → Shared → Prop} {E : Value → Shared → Prop}, Names X x c → Q c { sx with heap := q3 } → wpAny (model X.prog X.w) (X.A.mark (some (.ref a))) (eval (.Name x np) X.env) Q E { sx with heap := q3 } := fun {x c np Q E} nm q => by
      obtain ⟨g1, g2, g3 | ⟨g3, g4, g5⟩⟩ := nm
      · exact ld_glob (X := X.suite a ((a, o3) :: (X.pn ++ ps))) SU g1 g3 q g2
      · exact ld_blt (X := X.suite a ((a, o3) :: (X.pn ++ ps))) SU g1 g3 g4 q g5 g2
    -- no clause takes it
    have thru : Wout cls d σ' H' → wpAny (model X.prog X.w) X.A (handleBy (.ref a) X.env []) (SP X ps D) X.xe { sx with heap := q3 } := fun w => by
      refine wpAny_handleBy_nil ?_
      obtain ⟨_, _, _, oe, vs, Ta, _, _, he, _, hd, h1, _⟩ := id fl3
      unfold PySem.passOn
      refine wpAny_bind (wpAny_field he hd h1 ?_)
      rw [if_neg (show ¬ (Value.ref Ta == Value.none) = true by simp)]
      have last : wpAny (model X.prog X.w) X.A (setFlight (.ref a) X.env.frame) (fun _ t => wpAny (model X.prog X.w) X.A (throw (.ref a) : Sem Flow) (SP X ps D) X.xe t) X.xe { sx with heap := q3 } := by
        rw [hf]
        exact HandSPX.setFlight_upZ fl3 fun q4 h4 up4 => wpAny_throw (tk _ _ ⟨a, Bn, sI, ps, σ', H', cls, d, rfl, J, nb, (up.trans up3).trans up4, .inr (.inr (hst.symm ▸ h4)), na, eos, ag, w⟩)
      first
        | exact wpAny_bind (wpAny_pure (wpAny_bind last))
        | exact wpAny_bind last
    have each : ∀ {hs' : List ExceptHandler} {l' : List Cl}, ClsOk X hs' l' → wN X.K Wout D l' cls d σ' H' → wpAny (model X.prog X.w) X.A (handleBy (.ref a) X.env hs') (SP X ps D) X.xe { sx with heap := q3 } := by
      intro hs' l' kk
      induction kk with
      | nil => exact thru
      | cons k1 _ ih =>
        intro w
        obtain ⟨b, e1, yes, no⟩ := w
        have LM := PySem.W.exm_one (M := model X.prog X.w) J3.kIn LT e1
        cases k1 with
        | un nm su =>
          refine wpAny_handleBy_cons (codeAny_handlers_test ?_) (fun q => nomatch q)
          refine named nm (LM.here ?_)
          cases b with
          | false => exact ih (no rfl)
          | true =>
            refine codeAny_handlers_suite (HandSPX.lands_againZ fl3 fun q4 fl4 up4 => ?_)
            obtain ⟨o4, f4, e4, z4, d4⟩ := fl4.there
            have K4 : Inv X ps σ' H' { sx with heap := q4 } := J.landed nb fl4.1 ((up.trans up3).trans up4) eos ag
            have S4 := K4.suite e4 d4 na nL nF
            refine wpAny_mono ((su a o4 cls d (X.pn ++ ps) z4 ⟨_, d4⟩).run [] _ _ H' D S4 (yes rfl a na)) (fun fl s6 hz => ?_) (fun _ _ z => z.elim)
            cases fl with
            | ret u =>
              obtain ⟨v6, τ6, G6, J6, r6, q6⟩ := hz
              exact ⟨v6, τ6, G6, J6.unsuite k0, r6, q6⟩
            | next =>
              obtain ⟨τ6, G6, J6, q6⟩ := hz
              exact ⟨τ6, G6, J6.unsuite k0, q6⟩
            | brk =>
              obtain ⟨τ6, G6, J6, q6⟩ := hz
              exact ⟨τ6, G6, J6.unsuite k0, q6⟩
            | cont =>
              obtain ⟨τ6, G6, J6, q6⟩ := hz
              exact ⟨τ6, G6, J6.unsuite k0, q6⟩
        | nm hi hk nm su =>
          refine wpAny_handleBy_cons (codeAny_handlers_test ?_) (fun q => nomatch q)
          refine named nm (LM.here ?_)
          cases b with
          | false => exact ih (no rfl)
          | true =>
            refine codeAny_handlers_suite_as (HandSPX.lands_againZ fl3 fun q4 fl4 up4 => ?_)
            obtain ⟨o4, f4, e4, z4, d4⟩ := fl4.there
            have K4 : Inv X ps σ' H' { sx with heap := q4 } := J.landed nb fl4.1 ((up.trans up3).trans up4) eos ag
            have S4 := K4.suite e4 d4 na nL nF
            refine store_ok (X := X.suite a ((a, o4) :: (X.pn ++ ps))) (v := .ref a) S4 hN hi (.inl hk) rfl (fun s5 S5 => ?_) (.inr hk)
            refine wpAny_mono ((su a o4 cls d (X.pn ++ ps) z4 ⟨_, d4⟩).run [] s5 _ H' _ S5 (yes rfl a na)) (fun fl s6 hz => ?_) (fun _ _ z => z.elim)
            cases fl with
            | ret u =>
              obtain ⟨v6, τ6, G6, J6, r6, q6⟩ := hz
              exact gone_ok (J6.unsuite k0) hN hi hk fun s7 J7 => ⟨v6, _, G6, J7, r6, q6⟩
            | next =>
              obtain ⟨τ6, G6, J6, q6⟩ := hz
              exact gone_ok (J6.unsuite k0) hN hi hk fun s7 J7 => ⟨_, G6, J7, q6⟩
            | brk =>
              obtain ⟨τ6, G6, J6, q6⟩ := hz
              exact gone_ok (J6.unsuite k0) hN hi hk fun s7 J7 => ⟨_, G6, J7, q6⟩
            | cont =>
              obtain ⟨τ6, G6, J6, q6⟩ := hz
              exact gone_ok (J6.unsuite k0) hN hi hk fun s7 J7 => ⟨_, G6, J7, q6⟩
    exact each hc w
  · cases fl with
    | next =>
      obtain ⟨τ1, G1, J1, q1⟩ := hz
      exact wpAny_execs_nil ⟨τ1, G1, J1.ofTry k0, q1⟩
    | brk =>
      obtain ⟨τ1, G1, J1, q1⟩ := hz
      exact ⟨τ1, G1, J1.ofTry k0, q1⟩
    | cont =>
      obtain ⟨τ1, G1, J1, q1⟩ := hz
      exact ⟨τ1, G1, J1.ofTry k0, q1⟩
    | ret u =>
      obtain ⟨v1, τ1, G1, J1, r1, q1⟩ := hz
      exact ⟨v1, τ1, G1, J1.ofTry k0, r1, q1⟩
end
end Z
set_option Elab.async false
set_option linter.all false
set_option maxRecDepth 100000
set_option maxHeartbeats 4000000
/-! Z, part P: what the clauses of k11 and k16 tell. -/
namespace Z
set_option autoImplicit false
open PySem L2
section
variable {X : Cx} {K : PySem.W.Frag} {C : Addr} {E : XK}
/-! ### except NoWay: return ("none", -1); except Alone as e: return ("alone", e.road) -/
/-! ### except NoWay as e: return (isinstance(e, T), -1); except Alone as e: return (isinstance(e, T) and whole(e.road), e.road) -/
theorem is_run {a c tT i : Nat} {dd : Option Addr} {σ : L2.St} {H : Hp} {Q : VK} (hσ : σ[i]? = some (some (.ref a))) (EF : ExF K c) (hx : Xfs H dd) (hk : PySem.W.kitOne K (.ref c) (.ref tT) = some true) (q : Q (.bl true) H) : tIsE K i a (.ref c) dd (.ref tT) (.ref tT) σ H Q :=
  ⟨.ref a, hσ, c, .ref tT, true, rfl, fun z hz => hz, rfl, EF, hx, hk, q⟩
end
end Z
set_option Elab.async false
set_option linter.all false
set_option maxRecDepth 100000
set_option maxHeartbeats 4000000
/-! Z, part Q: the tries of k11 and k16. -/
set_option Elab.async false
set_option linter.all false
set_option maxRecDepth 100000
set_option maxHeartbeats 4000000
/-! Z, part R: a list that is handed to Web and changed later; a found list that is changed, a web being handed with it. -/
namespace Z
set_option autoImplicit false
open PySem L2
/-! ### parts of a heap -/
section
variable {K : PySem.W.Frag} {C : Addr} {F G : Hp}
theorem isA_pairs_of (hG : ∀ b vs, F b = some (.tup vs) → G b = some (.tup vs)) : ∀ (ps : List (Int × Int)) (vs : List V), IsA K C F vs (ps.map pairIJ) → IsA K C G vs (ps.map pairIJ)
  | [], _, h => by
    cases h
    exact .nil
  | (i, j) :: ps, _, h => by
    cases h with
    | cons h1 h2 =>
      refine .cons ?_ (isA_pairs_of hG ps _ h2)
      cases h1 with
      | tup h3 h4 =>
        cases h4 with
        | cons a1 a2 =>
          cases a1
          cases a2 with
          | cons b1 b2 =>
            cases b1
            cases b2
            exact .tup (hG _ _ h3) (.cons (.int i) (.cons (.int j) .nil))
end
/-! ### web = Web(places, given), given being changed later -/
def sWebMu (v p h : Nat) (chk : Int → List D → Rs Unit) : Sta → Rs Ou := fun s => match s.mu with
  | none => .no
  | some (j, ds) => if j = h ∧ v ≠ h then (mV p s.g).bind fun dp => match dp with
      | .int n => (match asPairs ds with
        | none => .no
        | some _ => (chk n ds).bind fun _ => .ok (.nx ⟨s.g.set v (some (.web n ds)), s.mu⟩))
      | _ => .no
    else .no
section
variable {K : PySem.W.Frag} {C : Addr} {E : XK}
theorem sm_webMu {v p h : Nat} {chk : Int → List D → Rs Unit} : SM K C E (tAsg (tMake C (spWeb K C chk) [] E (tCons (tVar p) (tCons (tVar h) tNil))) (gName v)) (sWebMu v p h chk) := ⟨fun F0 H0 s T σ H D' S wsh => by
  obtain ⟨P, T1, t1, mu, S1⟩ := S
  obtain ⟨F, f⟩ := S1
  unfold sWebMu at wsh
  cases emu : s.mu with
  | none =>
    rw [emu] at wsh
    exact wsh.elim
  | some q =>
    obtain ⟨j, ds⟩ := q
    rw [emu] at wsh mu
    dsimp only at wsh
    split at wsh
    · rename_i hc
      obtain ⟨rfl, hvh⟩ := hc
      obtain ⟨a, vs, hP, hσ, al, hg⟩ := mu
      subst hP
      cases eg : s.g[p]? with
      | none =>
        unfold mV at wsh
        rw [eg] at wsh
        exact wsh.elim
      | some o =>
        cases o with
        | none =>
          unfold mV at wsh
          rw [eg] at wsh
          exact wsh.elim
        | some dp =>
          unfold mV at wsh
          rw [eg, Rs.bind_ok] at wsh
          cases dp with
          | int n =>
            dsimp only at wsh
            cases eap : asPairs ds with
            | none =>
              rw [eap] at wsh
              exact wsh.elim
            | some ps =>
              rw [eap] at wsh
              dsimp only at wsh
              obtain ⟨v1, hσ1, i1⟩ := f.sl p _ eg
              cases i1
              obtain ⟨p1, p2, p3⟩ := f.pr (a, vs) List.mem_cons_self
              dsimp only at p1 p2 p3
              have up : Same F (upd F a (.lst vs)) := fun b u e => by rw [upd_ne (ne_of_none e p1)]; exact e
              have upH : Same (upd F a (.lst vs)) H := fun b u e => by
                by_cases z : b = a
                · subst z
                  rw [upd_same] at e
                  rw [← e]
                  exact p3
                · rw [upd_ne z] at e
                  exact f.eH b u e
              have f' : Fz ⟨K, C, F0, H0⟩ s.g [] T1 σ H F := f.subP fun z hz => by cases hz
              have ia : IsA K C F vs ds := f'.all al
              unfold tAsg
              refine ⟨.int n, hσ1, .ref a, hσ, ?_⟩
              intro x dx nx nd ne
              have hH : ∀ {b : Addr} {o : HO}, H b = some o → upd (upd H dx (.own x)) x (.ins C dx []) b = some o := fun {b o} e => by
                rw [upd_ne (ne_of_none e nx), upd_ne (ne_of_none e nd)]
                exact e
              have fx : upd F a (.lst vs) x = none := upH.free nx
              have fd : upd F a (.lst vs) dx = none := upH.free nd
              refine ⟨upd F a (.lst vs), x, dx, .int n, .ref a, n, ds, rfl, upd_same, by rw [upd_ne ne, upd_same], ne, fun b o e => hH (upH b o e), fx, fd, .int n, .lst upd_same (IsA.mono up _ _ ia), ?_⟩
              cases ec : chk n ds with
              | no =>
                rw [ec] at wsh
                exact wsh.elim
              | ex c r =>
                rw [ec] at wsh
                exact XOk.mono wsh fun b o e => hH (f.e0 b o e)
              | ok u =>
                rw [ec, Rs.bind_ok] at wsh
                intro r ws F1 H' s1 h1 h2 h3 h4 h5 h6 h7 h8 h9 h10
                have ha : H a = some (.lst vs) := p3
                have ax : a ≠ x := ne_of_none ha nx
                have ad : a ≠ dx := ne_of_none ha nd
                have rx : r ≠ x := fun z => by rw [z, upd_same] at h8; cases h8
                have rd : r ≠ dx := fun z => by rw [z, upd_ne ne, upd_same] at h8; cases h8
                have rn : H r = none := by rw [upd_ne rx, upd_ne rd] at h8; exact h8
                have ar : a ≠ r := ne_of_none ha rn
                refine ⟨rfl, ?_⟩
                -- all but the list that is changed later
                let F1a : Hp := fun b => if b = a then none else F1 b
                have F1a_of : ∀ {b : Addr} {o : HO}, F1a b = some o → b ≠ a ∧ F1 b = some o := fun {b o} z => by
                  have z' : (if b = a then none else F1 b) = some o := z
                  by_cases e : b = a
                  · rw [if_pos e] at z'; cases z'
                  · rw [if_neg e] at z'; exact ⟨e, z'⟩
                have F1a_at : ∀ {b : Addr} {o : HO}, b ≠ a → F1 b = some o → F1a b = some o := fun {b o} e z => (if_neg e).trans z
                have F1a_no : ∀ {b : Addr}, F1 b = none → F1a b = none := fun {b} z => by
                  show (if b = a then none else F1 b) = none
                  split
                  · rfl
                  · exact z
                have F1a_a : F1a a = none := if_pos rfl
                have sFF : Same F F1a := fun b o z => F1a_at (ne_of_none z p1) (s1 b o (up b o z))
                have sF : Same F1a (upd (upd (upd F1a r (.lst ws)) dx (.own x)) x (.ins C dx (webF n r))) := fun b o e => by
                  rw [upd_ne (ne_of_none e (F1a_no h1)), upd_ne (ne_of_none e (F1a_no h2)), upd_ne (ne_of_none e (F1a_no h3))]
                  exact e
                have eps := asPairs_some eap
                have iw : IsA K C F1a ws ds := by
                  rw [eps] at h9 ⊢
                  refine isA_pairs_of (fun b us z => F1a_at (fun e => ?_) z) ps ws h9
                  subst e
                  have z2 := s1 _ _ (upd_same (H := F) (a := b) (o := .lst vs))
                  rw [z] at z2
                  cases z2
                have hH' : ∀ {b : Addr} {o : HO}, H b = some o → H' b = some o := fun {b o} e => h10 b o (hH e) (ne_of_none e nx)
                have eH2 : Same (upd (upd (upd F1a r (.lst ws)) dx (.own x)) x (.ins C dx (webF n r))) H' := fun b o e => by
                  by_cases bx : b = x
                  · subst bx
                    rw [upd_same] at e
                    rw [h6, ← e]
                  · rw [upd_ne bx] at e
                    by_cases bd : b = dx
                    · subst bd
                      rw [upd_same] at e
                      rw [← e]
                      exact h10 _ _ (by rw [upd_ne ne, upd_same]) ne
                    · rw [upd_ne bd] at e
                      by_cases br : b = r
                      · subst br
                        rw [upd_same] at e
                        rw [← e]
                        exact h7
                      · rw [upd_ne br] at e
                        exact h5 b o (F1a_of e).2
                have g1 : Fz ⟨K, C, F0, H0⟩ s.g [] T1 σ H' (upd (upd (upd F1a r (.lst ws)) dx (.own x)) x (.ins C dx (webF n r))) := f'.grow (sFF.trans sF) eH2 (fun b o e => hH' e) (fun q hq hf => by
                  have qx : q ≠ x := fun z => hq (by rw [z]; exact nx)
                  have qd : q ≠ dx := fun z => hq (by rw [z]; exact nd)
                  have qr : q ≠ r := fun z => hq (by rw [z]; exact rn)
                  rw [upd_ne qx, upd_ne qd, upd_ne qr]
                  by_cases qa : q = a
                  · rw [qa]; exact F1a_a
                  · refine F1a_no (h4 q ?_ (by rw [upd_ne qa]; exact hf))
                    rw [upd_ne qx, upd_ne qd]
                    exact hq)
                have g2 := g1.addT (v := .ref x) (d := .web n ds) (.web upd_same (by rw [upd_ne ne, upd_same]) (by rw [upd_ne rx, upd_ne rd, upd_same]) (IsA.mono sF _ _ iw))
                have S2 : SS ⟨K, C, F0, H0⟩ s.g [(a, vs)] ((.ref x, .web n ds) :: T1) σ H' := ⟨_, { g2 with
                  pr := fun z hz => by
                    rw [List.mem_singleton.mp hz]
                    refine ⟨?_, p2, hH' ha⟩
                    show upd (upd (upd F1a r (.lst ws)) dx (.own x)) x (.ins C dx (webF n r)) a = none
                    rw [upd_ne ax, upd_ne ad, upd_ne ar]
                    exact F1a_a }⟩
                have S3 := S2.set (i := v) List.mem_cons_self
                exact wsh _ _ ⟨[(a, vs)], _, fun z hz => List.mem_cons_of_mem _ (t1 z hz), ⟨a, vs, rfl, by rw [List.getElem?_set_ne hvh]; exact hσ, al.mono fun z hz => List.mem_cons_of_mem _ hz, by
                  show (s.g.set v _)[_]? = _
                  rw [List.getElem?_set_ne hvh]; exact hg⟩, S3⟩
          | _ => exact wsh.elim
    · exact wsh.elim⟩
/-! ### handed = list(costs); found = f(web, kind, handed); tests; found.append(9) -/
end
end Z
set_option Elab.async false
set_option linter.all false
set_option maxRecDepth 100000
set_option maxHeartbeats 4000000
/-! Z, part S: defs that are called within an except suite, raise nothing there. -/
set_option Elab.async false
set_option linter.all false
set_option maxRecDepth 100000
set_option maxHeartbeats 4000000
namespace Z
set_option autoImplicit false
open PySem L2
def m_law_cell_at : Sta → Rs Ou :=
    (sSeq (sIf (mT (m2 dLt (mV 1) (mA dLen (mCons (mV 0) mNil)))) (sSeq (sRet (m2 dIx (mV 0) (mV 1)))
    sNil)
    sNil)
    (sSeq (sRet (mC (.int 0)))
    sNil))
def p_law_cell_at : List D → Rs D := fun ds => (runM 2 (m_law_cell_at) ds).nx
def P_law_cell_at : List D → Rs D := p_law_cell_at
def m_law_mix : Sta → Rs Ou :=
    (sSeq (sSet 3 (mLst (mCons (mC (.int 48271)) (mCons (mC (.int 69621)) (mCons (mC (.int 16807)) (mCons (mC (.int 39373)) (mCons (mC (.int 30269)) (mCons (mC (.int 40014)) (mCons (mC (.int 40692)) (mCons (mC (.int 50021)) (mCons (mC (.int 61687)) (mCons (mC (.int 71993)) (mCons (mC (.int 83869)) (mCons (mC (.int 95561)) (mCons (mC (.int 30307)) mNil)))))))))))))))
    (sSeq (sSet 4 (m2 dAdd (m2 dAdd (m2 dMul (m2 dAdd (m2 dMod (mV 0) (mC (.int 2147483647))) (mC (.int 12345))) (m2 dIx (mV 3) (m2 dMod (mV 1) (mC (.int 13))))) (m2 dMul (mC (.int 977)) (mV 1))) (m2 dMul (mC (.int 7919)) (m2 dDiv (mV 1) (mC (.int 13))))))
    (sSeq (sSet 4 (m2 dMod (mV 4) (mC (.int 1000000007))))
    (sSeq (sRet (m2 dMod (m2 dDiv (m2 dMod (m2 dAdd (m2 dMul (mV 4) (mV 4)) (m2 dMul (mC (.int 48271)) (mV 1))) (mC (.int 1000000007))) (mC (.int 7))) (mV 2)))
    sNil))))
def p_law_mix : List D → Rs D := fun ds => (runM 5 (m_law_mix) ds).nx
def P_law_mix : List D → Rs D := p_law_mix
def m_law_whole : Sta → Rs Ou :=
    (sSeq (sRet (mAndV (m1 (dIsi "int") (mV 0)) (m1 dNot (m1 (dIsi "bool") (mV 0)))))
    sNil)
def p_law_whole : List D → Rs D := fun ds => (runM 1 (m_law_whole) ds).nx
def P_law_whole : List D → Rs D := p_law_whole
end Z
set_option Elab.async false
set_option linter.all false
set_option maxRecDepth 100000
set_option maxHeartbeats 4000000
/-! S, part 1: what the mirrors of the drawing helpers and of the shelf tell. -/
namespace Z
set_option autoImplicit false
open PySem L2
/-! ### slices -/
theorem cut_from {α : Type} (xs : List α) (k : Nat) : cutD xs (some (k : Int)) none = xs.drop k := by
  unfold cutD
  rw [HT.sIx_nat, HT.sIx_none]
  by_cases h : k ≤ xs.length
  · rw [Nat.min_eq_left h]
    exact List.take_of_length_le (by rw [List.length_drop]; omega)
  · rw [Nat.min_eq_right (by omega), List.drop_of_length_le (Nat.le_refl _), List.drop_of_length_le (by omega)]
    exact List.take_nil
theorem cut_to {α : Type} (xs : List α) (k : Nat) : cutD xs none (some (k : Int)) = xs.take k := by
  unfold cutD
  rw [HT.sIx_nat, HT.sIx_none, List.drop_zero, Nat.sub_zero]
  by_cases h : k ≤ xs.length
  · rw [Nat.min_eq_left h]
  · rw [Nat.min_eq_right (by omega), List.take_of_length_le (Nat.le_refl _), List.take_of_length_le (by omega)]
/-! ### draws -/
def cellAt (ns : List Int) (k : Nat) : Int := ns.getD k 0
theorem sp_cell_at (ns : List Int) (k : Nat) : P_law_cell_at [.scr ns, .int k] = .ok (.int (cellAt ns k)) := by
  unfold P_law_cell_at p_law_cell_at m_law_cell_at
  simp only [runM, sSeq, sSet, sSet2, sPar, sIf, sRet, sNil, sExp, sFrz, sKill, sPut, sRaise, mV, mC, m1, m2, mA, mCons, mNil, mCall, mLst, mTup, mT, mAnd, mOr, mNot, mB, mIf, mAndV, mOrV, mSl, mS, mN, mCh, mItems, mRng1, mRng2, mEnum, mZip, mRevI, mYes, Sta.set_no, Sta.set_mu, Sta.set_at, Sta.frz_mu, Sta.frz_no, Nat.reduceBEq, Sta.kill, killG, Rs.bind_ok, Rs.bind_ex, Rs.bind_no, Rs.of_some, Rs.of_none, Rs.nx_ok, startG, List.length_cons, List.length_nil, List.replicate_succ, List.replicate_zero, List.cons_append, List.nil_append, List.map_cons, List.map_nil, List.getElem?_cons_succ, List.getElem?_cons_zero, List.set_cons_succ, List.set_cons_zero, dAdd_i, dSub_i, dIx_l, dIx_t, dIx_s, dSl_l, dRev_l, dLt_i, dLe_i, dGt_i, dGe_i, dNeg_i, dNot, dLen_l, dLen_t2, dLen_s, dMax2_i, dMin2_i, dInt_i, dInt_b, dList_l, dList_t, dIsN, dNotN, dEq_i, dNe_i, dEq_b, dNe_b, dSum_l, dAll_l, dSorted_l, dIn_l, dNi_l, Bool.not_true, Bool.not_false,  Bool.false_eq_true, reduceIte, reduceCtorEq]
  by_cases h : k < ns.length
  · have h' : ((k : Int) < (ns.length : Int)) := by omega
    simp only [runM, sSeq, sSet, sSet2, sPar, sIf, sRet, sNil, sExp, sFrz, sKill, sPut, sRaise, mV, mC, m1, m2, mA, mCons, mNil, mCall, mLst, mTup, mT, mAnd, mOr, mNot, mB, mIf, mAndV, mOrV, mSl, mS, mN, mCh, mItems, mRng1, mRng2, mEnum, mZip, mRevI, mYes, Sta.set_no, Sta.set_mu, Sta.set_at, Sta.frz_mu, Sta.frz_no, Nat.reduceBEq, Sta.kill, killG, Rs.bind_ok, Rs.bind_ex, Rs.bind_no, Rs.of_some, Rs.of_none, Rs.nx_ok, startG, List.length_cons, List.length_nil, List.replicate_succ, List.replicate_zero, List.cons_append, List.nil_append, List.map_cons, List.map_nil, List.getElem?_cons_succ, List.getElem?_cons_zero, List.set_cons_succ, List.set_cons_zero, dAdd_i, dSub_i, dIx_l, dIx_t, dIx_s, dSl_l, dRev_l, dLt_i, dLe_i, dGt_i, dGe_i, dNeg_i, dNot, dLen_l, dLen_t2, dLen_s, dMax2_i, dMin2_i, dInt_i, dInt_b, dList_l, dList_t, dIsN, dNotN, dEq_i, dNe_i, dEq_b, dNe_b, dSum_l, dAll_l, dSorted_l, dIn_l, dNi_l, Bool.not_true, Bool.not_false,  Bool.false_eq_true, reduceIte, reduceCtorEq, h', decide_true, atI_some h, Option.map_some]
    unfold cellAt
    rw [List.getD_eq_getElem?_getD, List.getElem?_eq_getElem h]
    rfl
  · have h' : ¬ ((k : Int) < (ns.length : Int)) := by omega
    simp only [runM, sSeq, sSet, sSet2, sPar, sIf, sRet, sNil, sExp, sFrz, sKill, sPut, sRaise, mV, mC, m1, m2, mA, mCons, mNil, mCall, mLst, mTup, mT, mAnd, mOr, mNot, mB, mIf, mAndV, mOrV, mSl, mS, mN, mCh, mItems, mRng1, mRng2, mEnum, mZip, mRevI, mYes, Sta.set_no, Sta.set_mu, Sta.set_at, Sta.frz_mu, Sta.frz_no, Nat.reduceBEq, Sta.kill, killG, Rs.bind_ok, Rs.bind_ex, Rs.bind_no, Rs.of_some, Rs.of_none, Rs.nx_ok, startG, List.length_cons, List.length_nil, List.replicate_succ, List.replicate_zero, List.cons_append, List.nil_append, List.map_cons, List.map_nil, List.getElem?_cons_succ, List.getElem?_cons_zero, List.set_cons_succ, List.set_cons_zero, dAdd_i, dSub_i, dIx_l, dIx_t, dIx_s, dSl_l, dRev_l, dLt_i, dLe_i, dGt_i, dGe_i, dNeg_i, dNot, dLen_l, dLen_t2, dLen_s, dMax2_i, dMin2_i, dInt_i, dInt_b, dList_l, dList_t, dIsN, dNotN, dEq_i, dNe_i, dEq_b, dNe_b, dSum_l, dAll_l, dSorted_l, dIn_l, dNi_l, Bool.not_true, Bool.not_false,  Bool.false_eq_true, reduceIte, reduceCtorEq, h', decide_false]
    unfold cellAt
    rw [List.getD_eq_getElem?_getD, List.getElem?_eq_none (by omega)]
    rfl
def tab : List Int := [48271, 69621, 16807, 39373, 30269, 40014, 40692, 50021, 61687, 71993, 83869, 95561, 30307]
def tabAt (k : Int) : Int := tab.getD (k % 13).toNat 0
def stir (c k : Int) : Int := ((c % 2147483647 + 12345) * tabAt k + 977 * k + 7919 * (k / 13)) % 1000000007
def mix (c k m : Int) : Int := (stir c k * stir c k + 48271 * k) % 1000000007 / 7 % m
theorem tab_at (k : Int) : atI (tab.map D.int) (k % 13) = some (.int (tabAt k)) := by
  have h : k % 13 = 0 ∨ k % 13 = 1 ∨ k % 13 = 2 ∨ k % 13 = 3 ∨ k % 13 = 4 ∨ k % 13 = 5 ∨ k % 13 = 6 ∨ k % 13 = 7 ∨ k % 13 = 8 ∨ k % 13 = 9 ∨ k % 13 = 10 ∨ k % 13 = 11 ∨ k % 13 = 12 := by omega
  unfold tabAt
  rcases h with h | h | h | h | h | h | h | h | h | h | h | h | h <;> rw [h] <;> rfl
theorem mix_nonneg (c k m : Int) (h : 0 < m) : 0 ≤ mix c k m := Int.emod_nonneg _ (by omega)
theorem mix_lt (c k m : Int) (h : 0 < m) : mix c k m < m := Int.emod_lt_of_pos _ h
theorem sp_mix (c k m : Int) (h : 0 < m) : P_law_mix [.int c, .int k, .int m] = .ok (.int (mix c k m)) := by
  unfold P_law_mix p_law_mix m_law_mix
  have e := tab_at k
  unfold tab at e
  simp only [List.map_cons, List.map_nil] at e
  have hs : 0 ≤ stir c k ∧ stir c k < 1000000007 := by unfold stir; omega
  have c1 : -2 ^ 64 < (c % 2147483647 + 12345) ∧ (c % 2147483647 + 12345) < 2 ^ 64 := by omega
  have c2 : -2 ^ 64 < stir c k ∧ stir c k < 2 ^ 64 := by omega
  have c3 : (0 : Int) < 7 ∧ (7 : Int) < 1073741824 := by decide
  have c4 : (0 : Int) < 13 ∧ (13 : Int) < 1073741824 := by decide
  simp only [runM, sSeq, sSet, sSet2, sPar, sIf, sRet, sNil, sExp, sFrz, sKill, sPut, sRaise, mV, mC, m1, m2, mA, mCons, mNil, mCall, mLst, mTup, mT, mAnd, mOr, mNot, mB, mIf, mAndV, mOrV, mSl, mS, mN, mCh, mItems, mRng1, mRng2, mEnum, mZip, mRevI, mYes, Sta.set_no, Sta.set_mu, Sta.set_at, Sta.frz_mu, Sta.frz_no, Nat.reduceBEq, Sta.kill, killG, Rs.bind_ok, Rs.bind_ex, Rs.bind_no, Rs.of_some, Rs.of_none, Rs.nx_ok, startG, List.length_cons, List.length_nil, List.replicate_succ, List.replicate_zero, List.cons_append, List.nil_append, List.map_cons, List.map_nil, List.getElem?_cons_succ, List.getElem?_cons_zero, List.set_cons_succ, List.set_cons_zero, dAdd_i, dSub_i, dIx_l, dIx_t, dIx_s, dSl_l, dRev_l, dLt_i, dLe_i, dGt_i, dGe_i, dNeg_i, dNot, dLen_l, dLen_t2, dLen_s, dMax2_i, dMin2_i, dInt_i, dInt_b, dList_l, dList_t, dIsN, dNotN, dEq_i, dNe_i, dEq_b, dNe_b, dSum_l, dAll_l, dSorted_l, dIn_l, dNi_l, Bool.not_true, Bool.not_false,  Bool.false_eq_true, reduceIte, reduceCtorEq, dMod_i (show (0 : Int) < 2147483647 by decide), dMod_i (show (0 : Int) < 13 by decide), e, dMul_a c1, dMul_a (show -2 ^ 64 < (977 : Int) ∧ (977 : Int) < 2 ^ 64 by decide), dMul_a (show -2 ^ 64 < (7919 : Int) ∧ (7919 : Int) < 2 ^ 64 by decide), dDiv_i c4, dMod_i (show (0 : Int) < 1000000007 by decide)]
  rw [show ((c % 2147483647 + 12345) * tabAt k + 977 * k + 7919 * (k / 13)) % 1000000007 = stir c k from rfl]
  simp only [runM, sSeq, sSet, sSet2, sPar, sIf, sRet, sNil, sExp, sFrz, sKill, sPut, sRaise, mV, mC, m1, m2, mA, mCons, mNil, mCall, mLst, mTup, mT, mAnd, mOr, mNot, mB, mIf, mAndV, mOrV, mSl, mS, mN, mCh, mItems, mRng1, mRng2, mEnum, mZip, mRevI, mYes, Sta.set_no, Sta.set_mu, Sta.set_at, Sta.frz_mu, Sta.frz_no, Nat.reduceBEq, Sta.kill, killG, Rs.bind_ok, Rs.bind_ex, Rs.bind_no, Rs.of_some, Rs.of_none, Rs.nx_ok, startG, List.length_cons, List.length_nil, List.replicate_succ, List.replicate_zero, List.cons_append, List.nil_append, List.map_cons, List.map_nil, List.getElem?_cons_succ, List.getElem?_cons_zero, List.set_cons_succ, List.set_cons_zero, dAdd_i, dSub_i, dIx_l, dIx_t, dIx_s, dSl_l, dRev_l, dLt_i, dLe_i, dGt_i, dGe_i, dNeg_i, dNot, dLen_l, dLen_t2, dLen_s, dMax2_i, dMin2_i, dInt_i, dInt_b, dList_l, dList_t, dIsN, dNotN, dEq_i, dNe_i, dEq_b, dNe_b, dSum_l, dAll_l, dSorted_l, dIn_l, dNi_l, Bool.not_true, Bool.not_false,  Bool.false_eq_true, reduceIte, reduceCtorEq, dMul_a c2, dMul_a (show -2 ^ 64 < (48271 : Int) ∧ (48271 : Int) < 2 ^ 64 by decide), dMod_i (show (0 : Int) < 1000000007 by decide), dDiv_i c3, dMod_i h]
  rfl
/-! ### what is found -/
theorem dIsi_of {n t : String} {d : D} {b : Bool} (h : tyD d = some t) (h2 : kitB t n = some b) : dIsi n d = some (.bl b) := by
  unfold dIsi
  rw [h]
  show (kitB t n).map D.bl = _
  rw [h2]
  rfl
theorem sp_whole (d : D) (t : String) (b : Bool) (h : tyD d = some t) (h2 : kitB t "int" = some b) (h3 : kitB t "bool" = some false) : P_law_whole [d] = .ok (.bl b) := by
  unfold P_law_whole p_law_whole m_law_whole
  have e1 : dIsi "int" d = some (.bl b) := dIsi_of h h2
  have e2 : dIsi "bool" d = some (.bl false) := dIsi_of h h3
  simp only [runM, sSeq, sSet, sSet2, sPar, sIf, sRet, sNil, sExp, sFrz, sKill, sPut, sRaise, mV, mC, m1, m2, mA, mCons, mNil, mCall, mLst, mTup, mT, mAnd, mOr, mNot, mB, mIf, mAndV, mOrV, mSl, mS, mN, mCh, mItems, mRng1, mRng2, mEnum, mZip, mRevI, mYes, Sta.set_no, Sta.set_mu, Sta.set_at, Sta.frz_mu, Sta.frz_no, Nat.reduceBEq, Sta.kill, killG, Rs.bind_ok, Rs.bind_ex, Rs.bind_no, Rs.of_some, Rs.of_none, Rs.nx_ok, startG, List.length_cons, List.length_nil, List.replicate_succ, List.replicate_zero, List.cons_append, List.nil_append, List.map_cons, List.map_nil, List.getElem?_cons_succ, List.getElem?_cons_zero, List.set_cons_succ, List.set_cons_zero, dAdd_i, dSub_i, dIx_l, dIx_t, dIx_s, dSl_l, dRev_l, dLt_i, dLe_i, dGt_i, dGe_i, dNeg_i, dNot, dLen_l, dLen_t2, dLen_s, dMax2_i, dMin2_i, dInt_i, dInt_b, dList_l, dList_t, dIsN, dNotN, dEq_i, dNe_i, dEq_b, dNe_b, dSum_l, dAll_l, dSorted_l, dIn_l, dNi_l, Bool.not_true, Bool.not_false,  Bool.false_eq_true, reduceIte, reduceCtorEq, e1]
  cases b <;> simp only [runM, sSeq, sSet, sSet2, sPar, sIf, sRet, sNil, sExp, sFrz, sKill, sPut, sRaise, mV, mC, m1, m2, mA, mCons, mNil, mCall, mLst, mTup, mT, mAnd, mOr, mNot, mB, mIf, mAndV, mOrV, mSl, mS, mN, mCh, mItems, mRng1, mRng2, mEnum, mZip, mRevI, mYes, Sta.set_no, Sta.set_mu, Sta.set_at, Sta.frz_mu, Sta.frz_no, Nat.reduceBEq, Sta.kill, killG, Rs.bind_ok, Rs.bind_ex, Rs.bind_no, Rs.of_some, Rs.of_none, Rs.nx_ok, startG, List.length_cons, List.length_nil, List.replicate_succ, List.replicate_zero, List.cons_append, List.nil_append, List.map_cons, List.map_nil, List.getElem?_cons_succ, List.getElem?_cons_zero, List.set_cons_succ, List.set_cons_zero, dAdd_i, dSub_i, dIx_l, dIx_t, dIx_s, dSl_l, dRev_l, dLt_i, dLe_i, dGt_i, dGe_i, dNeg_i, dNot, dLen_l, dLen_t2, dLen_s, dMax2_i, dMin2_i, dInt_i, dInt_b, dList_l, dList_t, dIsN, dNotN, dEq_i, dNe_i, dEq_b, dNe_b, dSum_l, dAll_l, dSorted_l, dIn_l, dNi_l, Bool.not_true, Bool.not_false,  Bool.false_eq_true, reduceIte, reduceCtorEq, e2]
theorem sp_whole_i (i : Int) : P_law_whole [.int i] = .ok (.bl true) := sp_whole (.int i) "int" true rfl (by decide +kernel) (by decide +kernel)
theorem isi_list (ds : List D) : dIsi "list" (.lst ds) = some (.bl true) := dIsi_of (t := "list") rfl (by decide +kernel)
end Z
set_option Elab.async false
set_option linter.all false
set_option maxRecDepth 100000
set_option maxHeartbeats 4000000
/-! S, part 2: the shelf: worths drawn, all dealings, the best of them. -/
set_option Elab.async false
set_option linter.all false
set_option maxRecDepth 100000
set_option maxHeartbeats 4000000
/-! S, part 3: the shelf: all dealings, their sums, the best; the program's own dealing. -/
namespace Z
set_option autoImplicit false
open PySem L2
/-! ### all dealings -/
def goodsL (goods : Nat) : List Int := (List.range (goods + 1)).map fun (i : Nat) => -1 + (i : Int)
def exts (goods : Nat) (row : List Int) : List (List Int) := ((goodsL goods).filter fun g => decide (g = -1) || !decide (g ∈ row)).map fun g => row ++ [g]
/-! ### what a dealing is worth -/
/-! ### the best one, found among all -/
/-! ### the program's dealing -/
end Z
set_option Elab.async false
set_option linter.all false
set_option maxRecDepth 100000
set_option maxHeartbeats 4000000
/-! S, part M: plain mathematics of first maxima and of the shelf. -/
namespace Z
set_option autoImplicit false
/-! ### the first of the greatest -/
/-! ### the shelf -/
/-- rows grown at their end, p times -/
def grow (goods : Nat) : Nat → List (List Int) → List (List Int)
  | 0, l => l
  | p + 1, l => grow goods p (l.flatMap (exts goods))
end Z
set_option Elab.async false
set_option linter.all false
set_option maxRecDepth 100000
set_option maxHeartbeats 4000000
/-! S, part 4: the shelf: the program's own defs. -/
namespace Z
set_option autoImplicit false
open PySem L2
/-! ### what are worths -/
def numOk (ns : List Int) : Bool := ns.all fun x => decide (0 ≤ x) && decide (x ≤ 1000)
def rowOk (n : Nat) (row : List Int) : Bool := (decide (1 ≤ row.length) && decide (row.length ≤ 4)) && (decide (row.length = n) && numOk row)
def shelfOk (rows : List (List Int)) : Bool := (decide (1 ≤ rows.length) && decide (rows.length ≤ 4)) && rows.all (rowOk (rows.headD []).length)
/-- worths of the shelf -/
structure Shelf (rows : List (List Int)) (goods : Nat) : Prop where
  p1 : 1 ≤ rows.length
  p4 : rows.length ≤ 4
  g1 : 1 ≤ goods
  g4 : goods ≤ 4
  len : ∀ r ∈ rows, r.length = goods
  num : ∀ r ∈ rows, ∀ x ∈ r, 0 ≤ x ∧ x ≤ 1000
theorem numOk_of {ns : List Int} (h : ∀ x ∈ ns, 0 ≤ x ∧ x ≤ 1000) : numOk ns = true := by
  unfold numOk
  rw [List.all_eq_true]
  intro x hx
  have := h x hx
  simp [this]
theorem Shelf.ok {rows : List (List Int)} {goods : Nat} (h : Shelf rows goods) : shelfOk rows = true := by
  unfold shelfOk
  have h1 := h.p1
  have h2 := h.p4
  simp only [h1, h2, decide_true, Bool.true_and]
  rw [List.all_eq_true]
  intro r hr
  unfold rowOk
  have e : (rows.headD []).length = goods := by
    cases rows with
    | nil => simp at h1
    | cons a b => exact h.len a List.mem_cons_self
  have h3 := h.len r hr
  have h4 := h.g1
  have h5 := h.g4
  rw [e, h3, numOk_of (h.num r hr)]
  simp [h4, h5]
/-! ### what a good is worth; pays -/
end Z
set_option Elab.async false
set_option linter.all false
set_option maxRecDepth 100000
set_option maxHeartbeats 4000000
/-! S, part V: plain mathematics: nobody gains on the shelf. -/
set_option Elab.async false
set_option linter.all false
set_option maxRecDepth 100000
set_option maxHeartbeats 4000000
/-! S, part 5: law k04. -/
namespace Z
set_option autoImplicit false
open PySem L2
theorem cut_map_to {α : Type} (f : α → D) (xs : List α) (k : Nat) : cutD (xs.map f) none (some (k : Int)) = (xs.take k).map f := by rw [cut_to, List.map_take]
theorem cut_map_from {α : Type} (f : α → D) (xs : List α) (k : Nat) : cutD (xs.map f) (some (k : Int)) none = (xs.drop k).map f := by rw [cut_from, List.map_drop]
/-- xs[:k] + [y] + xs[k + 1:] -/
theorem splice {α : Type} (f : α → D) (xs : List α) (y : α) (k : Nat) (hl : xs.length + 1 ≤ LIM) {g : G} {a b c : G → Rs D} {l h : G → Rs (Option Int)} (ha : a g = .ok (.lst (xs.map f))) (hh : h g = .ok (some (k : Int))) (hb : b g = .ok (f y))
    (hc : c g = .ok (.lst (xs.map f))) (hl2 : l g = .ok (some ((k : Int) + 1))) : m2 dAdd (m2 dAdd (mSl a mN h) (mLst (mCons b mNil))) (mSl c l mN) g = .ok (.lst ((xs.take k ++ y :: xs.drop (k + 1)).map f)) := by
  have e : (k : Int) + 1 = ((k + 1 : Nat) : Int) := by omega
  have h1 : (xs.take k).length ≤ xs.length := by rw [List.length_take]; exact Nat.min_le_right _ _
  have h2 : (xs.take k ++ [y]).length + (xs.drop (k + 1)).length ≤ LIM := by
    rw [List.length_append, List.length_take, List.length_drop]
    show min k xs.length + 1 + (xs.length - (k + 1)) ≤ LIM
    omega
  have e1 : m2 dAdd (mSl a mN h) (mLst (mCons b mNil)) g = .ok (.lst ((xs.take k ++ [y]).map f)) := by
    refine m2_eq (mSl_eq ha mN_eq hh) (mLst_eq (mCons_eq hb mNil_eq)) ?_
    rw [cut_map_to]
    exact dAdd_map (q := [y]) (by show (xs.take k).length + 1 ≤ LIM; omega)
  refine m2_eq e1 (mSl_eq hc hl2 mN_eq) ?_
  rw [e, cut_map_from, dAdd_map h2, List.append_assoc]
  rfl
end Z
set_option Elab.async false
set_option linter.all false
set_option maxRecDepth 100000
set_option maxHeartbeats 4000000
/-! S, part P: plain mathematics of the pile. -/
set_option Elab.async false
set_option linter.all false
set_option maxRecDepth 100000
set_option maxHeartbeats 4000000
/-! S, part 6: the pile: the program's own defs, the drawn heaps. -/
namespace Z
set_option autoImplicit false
open PySem L2
/-! ### what are worths of pieces -/
def fallOk (row : List Int) : Bool := (List.range (row.length - 1)).all fun i => decide (row.getD (i + 1) 0 ≤ row.getD i 0)
def rowP (row : List Int) : Bool := (decide (row.length ≤ 5) && numOk row) && fallOk row
def rowsP (rows : List (List Int)) : Bool := (decide (1 ≤ rows.length) && decide (rows.length ≤ 5)) && rows.all rowP
structure Pile (rows : List (List Int)) : Prop where
  p1 : 1 ≤ rows.length
  p5 : rows.length ≤ 5
  len : ∀ r ∈ rows, r.length ≤ 5
  num : ∀ r ∈ rows, ∀ x ∈ r, 0 ≤ x ∧ x ≤ 1000
  fall : ∀ r ∈ rows, fallOk r = true
theorem Pile.ok {rows : List (List Int)} (h : Pile rows) : rowsP rows = true := by
  unfold rowsP
  have h1 := h.p1
  have h2 := h.p5
  simp only [h1, h2, decide_true, Bool.true_and]
  rw [List.all_eq_true]
  intro r hr
  unfold rowP
  have h3 := h.len r hr
  rw [numOk_of (h.num r hr), h.fall r hr]
  simp [h3]
/-! ### the greatest worth -/
end Z
set_option Elab.async false
set_option linter.all false
set_option maxRecDepth 100000
set_option maxHeartbeats 4000000
/-! S, part 7: the pile: drawn heaps, pays, gains; law k08. -/
set_option Elab.async false
set_option linter.all false
set_option maxRecDepth 100000
set_option maxHeartbeats 4000000
/-! S, part 8: laws k01, k02. -/
set_option Elab.async false
set_option linter.all false
set_option maxRecDepth 100000
set_option maxHeartbeats 4000000
/-! S, part 9: laws k05, k06. -/
set_option Elab.async false
set_option linter.all false
set_option maxRecDepth 100000
set_option maxHeartbeats 4000000
/-! S, part 10: law k03: what is refused on the shelf. -/
namespace Z
set_option autoImplicit false
open PySem L2
theorem rep_flat {α : Type} (x : α) : ∀ n : Nat, (List.replicate n [x]).flatten = List.replicate n x
  | 0 => rfl
  | n + 1 => by rw [List.replicate_succ, List.flatten_cons, rep_flat x n]; rfl
theorem rep_map {α β : Type} (f : α → β) (x : α) (n : Nat) : (List.replicate n x).map f = List.replicate n (f x) := by simp
theorem mul_rep {g : G} {a b : G → Rs D} {x : D} {n : Nat} (hn : n ≤ 10) (hx : b g = .ok (.lst [x])) (h : a g = .ok (.int n)) : m2 dMul b a g = .ok (.lst (List.replicate n x)) := by
  refine m2_eq hx h ?_
  rw [dMul_l ⟨by omega, by omega, by show 1 * ((n : Int)).toNat ≤ LIM; rw [Int.toNat_natCast]; exact Nat.le_trans (show 1 * n ≤ 10 by omega) (by decide)⟩, Int.toNat_natCast, rep_flat]
/-! ### what is spoilt -/
end Z
set_option Elab.async false
set_option linter.all false
set_option maxRecDepth 100000
set_option maxHeartbeats 4000000
/-! S, part 11: law k07: what is refused at the pile. -/
set_option Elab.async false
set_option linter.all false
set_option maxRecDepth 100000
set_option maxHeartbeats 4000000
namespace Z
set_option autoImplicit false
open PySem L2
def m_webchk (c_BadWeb : Addr) : Sta → Rs Ou := sSeq (sIf (mOr (mNot (mT (mCh dLe dLe (mC (.int 2)) (mV 1) (mC (.int 6))))) (mNot (mT (mCh dLe dLe (mC (.int 1)) (mA dLen (mCons (mV 2) mNil)) (mC (.int 10)))))) (sSeq (sRaise c_BadWeb)
    sNil)
    sNil)
    (sFor (mItems (mV 2)) (.two 3 4) [3, 4]
    (sSeq (sIf (mOr (mNot (mT (mCh dLe dLt (mC (.int 0)) (mV 3) (mV 1)))) (mOr (mNot (mT (mCh dLe dLt (mC (.int 0)) (mV 4) (mV 1)))) (mT (m2 dEq (mV 3) (mV 4))))) (sSeq (sRaise c_BadWeb)
    sNil)
    sNil)
    sNil))
def m_law_web_by (φ_law_mix φ_law_cell_at : List D → Rs D) : Sta → Rs Ou :=
    (sSeq (sSet 2 (m2 dAdd (mC (.int 2)) (m2 dMod (mCall (fun ds => (φ_law_cell_at ds).nx) (mCons (mV 0) (mCons (mC (.int 0)) mNil))) (mC (.int 5)))))
    (sSeq (sSet 3 (m2 dAdd (mC (.int 1)) (m2 dMod (mCall (fun ds => (φ_law_cell_at ds).nx) (mCons (mV 0) (mCons (mC (.int 1)) mNil))) (mV 1))))
    (sSeq (sNew 4 mNil)
    (sSeq (sFor (mRng1 (mCons (mV 3) mNil)) (.one 5) [1, 3, 5, 6, 7]
    (sSeq (sSet 6 (mCall (fun ds => (φ_law_cell_at ds).nx) (mCons (mV 0) (mCons (m2 dAdd (mC (.int 2)) (mV 5)) mNil))))
    (sSeq (sSet 7 (mCall (fun ds => (φ_law_mix ds).nx) (mCons (mV 6) (mCons (mC (.int 1)) (mCons (mV 2) mNil)))))
    (sSeq (sIf (mAnd (mT (m2 dLt (mV 5) (mV 2))) (mT (m2 dGt (m2 dMod (mCall (fun ds => (φ_law_cell_at ds).nx) (mCons (mV 0) (mCons (mC (.int 20)) mNil))) (mC (.int 4))) (mC (.int 0))))) (sSeq (sSet 7 (mV 5))
    sNil)
    sNil)
    (sSeq (sApp 4 (mTup (mCons (mV 7) (mCons (m2 dMod (m2 dAdd (m2 dAdd (mV 7) (mC (.int 1))) (mCall (fun ds => (φ_law_mix ds).nx) (mCons (mV 6) (mCons (mC (.int 2)) (mCons (m2 dSub (mV 2) (mC (.int 1))) mNil))))) (mV 2)) mNil))))
    sNil)))))
    (sSeq (sFrz (sRet (mTup (mCons (mV 2) (mCons (mV 4) mNil)))))
    sNil)))))
def p_law_web_by (φ_law_mix φ_law_cell_at : List D → Rs D) : List D → Rs D := fun ds => (runM 8 (m_law_web_by φ_law_mix φ_law_cell_at) ds).nx
def P_law_web_by : List D → Rs D := p_law_web_by (P_law_mix) (P_law_cell_at)
def m_law_hurt_k09 : Sta → Rs Ou :=
    (sSeq (sSet 3 (m2 dMod (mV 2) (mC (.int 5))))
    (sSeq (sSet 4 (m2 dMod (m2 dDiv (mV 2) (mC (.int 5))) (mA dLen (mCons (mV 1) mNil))))
    (sSeq (sIf (mT (m2 dEq (mV 3) (mC (.int 0)))) (sSeq (sRet (mTup (mCons (m2 dIx (mLst (mCons (mC (.int 1)) (mCons (mC (.int 7)) (mCons (mC (.int 0)) mNil)))) (m2 dMod (m2 dDiv (mV 2) (mC (.int 60))) (mC (.int 3)))) (mCons (mV 1) mNil))))
    sNil)
    sNil)
    (sSeq (sIf (mT (m2 dEq (mV 3) (mC (.int 1)))) (sSeq (sRet (mTup (mCons (mV 0) (mCons (m2 dIx (mLst (mCons (mLst mNil) (mCons (m2 dAdd (mV 1) (m2 dMul (mLst (mCons (mTup (mCons (mC (.int 0)) (mCons (mC (.int 1)) mNil))) mNil)) (m2 dSub (mC (.int 11)) (mA dLen (mCons (mV 1) mNil))))) mNil))) (m2 dMod (m2 dDiv (mV 2) (mC (.int 60))) (mC (.int 2)))) mNil))))
    sNil)
    sNil)
    (sSeq (sSet 5 (m2 dIx (mLst (mCons (mTup (mCons (mC (.int 0)) (mCons (mC (.int 0)) mNil))) (mCons (mTup (mCons (m2 dSub (mV 0) (mC (.int 1))) (mCons (mV 0) mNil))) (mCons (mTup (mCons (m1 dNeg (mC (.int 1))) (mCons (mC (.int 0)) mNil))) (mCons (mTup (mCons (mC (.int 0)) (mCons (m2 dPow (mC (.int 10)) (mC (.int 9))) mNil))) mNil))))) (m2 dMod (m2 dDiv (mV 2) (mC (.int 60))) (mC (.int 4)))))
    (sSeq (sIf (mT (m2 dEq (m2 dMod (m2 dDiv (mV 2) (mC (.int 240))) (mC (.int 2))) (mC (.int 1)))) (sSeq (sSet 5 (mTup (mCons (m2 dIx (mV 5) (mC (.int 1))) (mCons (m2 dIx (mV 5) (mC (.int 0))) mNil))))
    sNil)
    sNil)
    (sSeq (sIf (mT (m2 dEq (mV 3) (mC (.int 2)))) (sSeq (sSet 5 (mTup (mCons (m2 dSub (mV 0) (mC (.int 1))) (mCons (m2 dSub (mV 0) (mC (.int 1))) mNil))))
    sNil)
    sNil)
    (sSeq (sRet (mTup (mCons (mV 0) (mCons (m2 dAdd (m2 dAdd (mSl (mV 1) mN (mS (mV 4))) (mLst (mCons (mV 5) mNil))) (mSl (mV 1) (mS (m2 dAdd (mV 4) (mC (.int 1)))) mN)) mNil))))
    sNil))))))))
def p_law_hurt_k09 : List D → Rs D := fun ds => (runM 6 (m_law_hurt_k09) ds).nx
def P_law_hurt_k09 : List D → Rs D := p_law_hurt_k09
end Z
set_option Elab.async false
set_option linter.all false
set_option maxRecDepth 100000
set_option maxHeartbeats 4000000
/-! S, part 12: roads: the program's own defs, what they compute. -/
namespace Z
set_option autoImplicit false
open PySem L2
/-! ### data -/
def eR (p : Nat × Nat) : D := .tup [.int (p.1 : Int), .int (p.2 : Int)]
def rdF (rds : List (Nat × Nat)) (r : Int) : Nat × Nat := rds.getD r.toNat (0, 0)
abbrev webD (n : Nat) (rds : List (Nat × Nat)) : D := .web (n : Int) (rds.map eR)
structure WebOk (n : Nat) (rds : List (Nat × Nat)) : Prop where
  n2 : 2 ≤ n
  n6 : n ≤ 6
  l1 : 1 ≤ rds.length
  l10 : rds.length ≤ 10
  rd : ∀ p ∈ rds, p.1 < n ∧ p.2 < n ∧ p.1 ≠ p.2
/-! ### a loop that appends -/
theorem forGo_apps {α : Type} {tg : Tg} {ks : List Nat} {b : Sta → Rs Ou} (en : α → D) (vs : α → List D) (g : G) (i : Nat) : ∀ (xs : List α) (acc : List D), (∀ a ∈ xs, ∃ ps, tg.put' (en a) = .ok ps ∧ ∀ acc' : List D, muFree (some (i, acc')) tg.slots = true ∧ (acc'.length + (vs a).length ≤ LIM → ∃ s', b ⟨setsG g ps, some (i, acc')⟩ = .ok (.nx s') ∧ s'.kill ks = ⟨g, some (i, acc' ++ vs a)⟩)) →
    acc.length + (xs.flatMap vs).length ≤ LIM → forGo tg ks b (xs.map en) ⟨g, some (i, acc)⟩ = .ok (.nx ⟨g, some (i, acc ++ xs.flatMap vs)⟩)
  | [], acc, _, _ => by
    rw [List.flatMap_nil, List.append_nil]
    rfl
  | a :: xs, acc, h, hl => by
    rw [List.flatMap_cons, List.length_append] at hl
    obtain ⟨ps, h1, h2⟩ := h a List.mem_cons_self
    obtain ⟨h3, h4⟩ := h2 acc
    obtain ⟨s', h5, h6⟩ := h4 (by omega)
    have ih := forGo_apps en vs g i xs (acc ++ vs a) (fun x hx => h x (List.mem_cons_of_mem _ hx)) (by rw [List.length_append]; omega)
    rw [List.map_cons]
    unfold forGo
    rw [h1, Rs.bind_ok, if_pos h3]
    show (b ⟨setsG g ps, some (i, acc)⟩).bind _ = _
    rw [h5, Rs.bind_ok]
    show forGo tg ks b (xs.map en) (s'.kill ks) = _
    rw [h6, ih, List.flatMap_cons, List.append_assoc]
/-! ### ways -/
theorem flat_len {α β : Type} (f : α → List β) (k : Nat) : ∀ l : List α, (∀ a ∈ l, (f a).length ≤ k) → (l.flatMap f).length ≤ l.length * k
  | [], _ => by simp
  | a :: l, h => by
    rw [List.flatMap_cons, List.length_append, List.length_cons, Nat.succ_mul]
    have := flat_len f k l fun x hx => h x (List.mem_cons_of_mem _ hx)
    have := h a List.mem_cons_self
    omega
end Z
set_option Elab.async false
set_option linter.all false
set_option maxRecDepth 100000
set_option maxHeartbeats 4000000
/-! S, part 13: roads: best ways, trees. -/
set_option Elab.async false
set_option linter.all false
set_option maxRecDepth 100000
set_option maxHeartbeats 4000000
/-! S, part 14: roads: what the program's calls tell. -/
namespace Z
set_option autoImplicit false
open PySem L2
/-! ### the costs -/
/-! ### a loop that goes on until something is found -/
theorem sPut_eq {i : Nat} {k e : G → Rs D} {g : G} {ds : List D} {d : D} {n : Nat} (h1 : e g = .ok d) (h2 : k g = .ok (.int (n : Int))) (hn : n < ds.length) : sPut i k e ⟨g, some (i, ds)⟩ = .ok (.nx ⟨g, some (i, ds.set n d)⟩) := by
  unfold sPut
  dsimp only
  rw [if_pos rfl, h1, Rs.bind_ok, h2, Rs.bind_ok]
  have e : ixN ds.length (n : Int) = some n := by
    unfold ixN
    rw [if_pos (by omega), if_pos (by omega), Int.toNat_natCast]
  dsimp only
  rw [e]
end Z
set_option Elab.async false
set_option linter.all false
set_option maxRecDepth 100000
set_option maxHeartbeats 4000000
/-! S, part 15: roads: what owners get, gains. -/
set_option Elab.async false
set_option linter.all false
set_option maxRecDepth 100000
set_option maxHeartbeats 4000000
/-! S, part 16: roads: gains; the drawn webs and costs; the web's own test. -/
namespace Z
set_option autoImplicit false
open PySem L2
/-! ### drawn -/
/-! ### the web's own test -/
theorem sp_webchk (c : Addr) (x : Addr) (n : Int) (ps : List (Int × Int)) : ∃ s : Sta, s.g[0]? = some (some (.adr x)) ∧ s.g[1]? = some (some (.int n)) ∧ s.g[2]? = some (some (.lst (ps.map pairIJ))) ∧ m_webchk c ⟨startG 5 [.adr x, .int n, .lst (ps.map pairIJ)], none⟩ = if okWeb n ps = true then .ok (.nx s) else .ex c none := by
  let st : Sta := ⟨[some (.adr x), some (.int n), some (.lst (ps.map pairIJ)), none, none], none⟩
  refine ⟨st, rfl, rfl, rfl, ?_⟩
  have d1 : (decide ((1 : Int) ≤ (ps.length : Int)) && decide ((ps.length : Int) ≤ 10)) = (decide (1 ≤ ps.length) && decide (ps.length ≤ 10)) := congr (congrArg and (decide_eq_decide.mpr (by omega))) (decide_eq_decide.mpr (by omega))
  have hc : mOr (mNot (mT (mCh dLe dLe (mC (.int 2)) (mV 1) (mC (.int 6))))) (mNot (mT (mCh dLe dLe (mC (.int 1)) (mA dLen (mCons (mV 2) mNil)) (mC (.int 10))))) (startG 5 [.adr x, .int n, .lst (ps.map pairIJ)]) = .ok (!((decide (2 ≤ n) && decide (n ≤ 6)) && (decide (1 ≤ ps.length) && decide (ps.length ≤ 10)))) := by
    refine tst (mOr_eq (mNot_eq (mT_eq (chain_le rfl rfl rfl))) fun _ => mNot_eq (mT_eq (chain_le rfl (mA_eq (mCons_eq rfl rfl) (dLen_map _ _)) rfl))) ?_
    rw [d1]
    cases (decide (2 ≤ n) && decide (n ≤ 6)) <;> cases (decide (1 ≤ ps.length) && decide (ps.length ≤ 10)) <;> rfl
  have hloop := forGo_look (tg := .two 3 4) (ks := [3, 4]) (b := sSeq (sIf (mOr (mNot (mT (mCh dLe dLt (mC (.int 0)) (mV 3) (mV 1)))) (mOr (mNot (mT (mCh dLe dLt (mC (.int 0)) (mV 4) (mV 1)))) (mT (m2 dEq (mV 3) (mV 4))))) (sSeq (sRaise c)
    sNil)
    sNil)
    sNil) (st := st) pairIJ (okRoad n) (.ex c none) (fun s => ⟨(fun z => nomatch z), (fun z => nomatch z), (fun z => nomatch z)⟩) ps fun p _ => by
    obtain ⟨a, b⟩ := p
    have hp : mOr (mNot (mT (mCh dLe dLt (mC (.int 0)) (mV 3) (mV 1)))) (mOr (mNot (mT (mCh dLe dLt (mC (.int 0)) (mV 4) (mV 1)))) (mT (m2 dEq (mV 3) (mV 4)))) [some (.adr x), some (.int n), some (.lst (ps.map pairIJ)), some (.int a), some (.int b)] = .ok (!okRoad n (a, b)) := by
      refine tst (mOr_eq (mNot_eq (mT_eq (chain_lt rfl rfl rfl))) fun _ => mOr_eq (mNot_eq (mT_eq (chain_lt rfl rfl rfl))) fun _ => mT_eq (m2_eq rfl rfl (dEq_i _ _))) ?_
      unfold okRoad
      dsimp only
      cases (decide (0 ≤ a) && decide (a < n)) <;> cases (decide (0 ≤ b) && decide (b < n)) <;> cases (decide (a = b)) <;> rfl
    refine ⟨[(3, .int a), (4, .int b)], rfl, rfl, fun ho => ?_, fun ho => ?_⟩
    · rw [ho] at hp
      exact ⟨_, sSeq_nil (sIf_f hp rfl), rfl⟩
    · rw [ho] at hp
      exact sSeq_ex (sIf_t hp rfl)
  unfold m_webchk okWeb
  cases q : (decide (2 ≤ n) && decide (n ≤ 6)) && (decide (1 ≤ ps.length) && decide (ps.length ≤ 10)) with
  | false =>
    rw [q] at hc
    rw [Bool.false_and, if_neg Bool.false_ne_true]
    exact sSeq_ex (sIf_t hc rfl)
  | true =>
    rw [q] at hc
    rw [Bool.true_and]
    exact sSeq_eq (sIf_f hc rfl) (sFor_eq (mItems_l rfl) hloop)
theorem webchk_spec (c : Addr) : ∀ x n ds, chkW c n ds ≠ .no → ∃ s : Sta, s.g[0]? = some (some (.adr x)) ∧ s.g[1]? = some (some (.int n)) ∧ s.g[2]? = some (some (.lst ds)) ∧ m_webchk c ⟨startG 5 [.adr x, .int n, .lst ds], none⟩ = (chkW c n ds).bind fun _ => .ok (.nx s) := fun x n ds h => by
  unfold chkW at h ⊢
  cases e : asPairs ds with
  | none => rw [e] at h; exact absurd rfl h
  | some ps =>
    obtain ⟨s, h1, h2, h3, h4⟩ := sp_webchk c x n ps
    have hd := asPairs_some e
    subst hd
    refine ⟨s, h1, h2, h3, ?_⟩
    rw [h4]
    dsimp only
    split <;> rfl
end Z
set_option Elab.async false
set_option linter.all false
set_option maxRecDepth 100000
set_option maxHeartbeats 4000000
/-! S, part 17: the drawn webs. -/
namespace Z
set_option autoImplicit false
open PySem L2
def webN (ns : List Int) : Nat := (2 + cellAt ns 0 % 5).toNat
def webM (ns : List Int) (most : Int) : Nat := (1 + cellAt ns 1 % most).toNat
theorem webN_b (ns : List Int) : 2 ≤ webN ns ∧ webN ns ≤ 6 ∧ (webN ns : Int) = 2 + cellAt ns 0 % 5 := by unfold webN; omega
theorem webM_b (ns : List Int) {most : Int} (h : 0 < most) : 1 ≤ webM ns most ∧ (webM ns most : Int) ≤ most ∧ (webM ns most : Int) = 1 + cellAt ns 1 % most := by
  have h0 := Int.emod_nonneg (cellAt ns 1) (show most ≠ 0 by omega)
  have h1 := Int.emod_lt_of_pos (cellAt ns 1) h
  unfold webM
  omega
def oneOf (ns : List Int) (n k : Nat) : Nat := if k < n ∧ 0 < cellAt ns 20 % 4 then k else (mix (cellAt ns (2 + k)) 1 (n : Int)).toNat
def twoOf (ns : List Int) (n k : Nat) : Nat := (oneOf ns n k + 1 + (mix (cellAt ns (2 + k)) 2 ((n : Int) - 1)).toNat) % n
def roadOf (ns : List Int) (n k : Nat) : Nat × Nat := (oneOf ns n k, twoOf ns n k)
def webR (ns : List Int) (n m : Nat) : List (Nat × Nat) := (List.range m).map (roadOf ns n)
theorem one_lt {ns : List Int} {n k : Nat} (h : 2 ≤ n) : oneOf ns n k < n := by
  unfold oneOf
  split
  · rename_i hc
    exact hc.1
  · have := mix_nonneg (cellAt ns (2 + k)) 1 (n : Int) (by omega)
    have := mix_lt (cellAt ns (2 + k)) 1 (n : Int) (by omega)
    omega
theorem two_ne {ns : List Int} {n k : Nat} (h : 2 ≤ n) : twoOf ns n k < n ∧ oneOf ns n k ≠ twoOf ns n k := by
  have h1 := one_lt (ns := ns) (k := k) h
  have h2 := mix_nonneg (cellAt ns (2 + k)) 2 ((n : Int) - 1) (by omega)
  have h3 := mix_lt (cellAt ns (2 + k)) 2 ((n : Int) - 1) (by omega)
  unfold twoOf
  generalize oneOf ns n k = a at h1 ⊢
  generalize mix (cellAt ns (2 + k)) 2 ((n : Int) - 1) = x at h2 h3 ⊢
  refine ⟨Nat.mod_lt _ (by omega), fun z => ?_⟩
  by_cases hl : a + 1 + x.toNat < n
  · rw [Nat.mod_eq_of_lt hl] at z
    omega
  · rw [Nat.mod_eq_sub_mod (by omega), Nat.mod_eq_of_lt (by omega)] at z
    omega
theorem webR_len (ns : List Int) (n m : Nat) : (webR ns n m).length = m := by unfold webR; rw [List.length_map, List.length_range]
theorem web_ok (ns : List Int) {most : Int} (h : 0 < most) (h10 : most ≤ 10) : WebOk (webN ns) (webR ns (webN ns) (webM ns most)) := by
  obtain ⟨a1, a2, _⟩ := webN_b ns
  obtain ⟨b1, b2, _⟩ := webM_b ns h
  refine ⟨a1, a2, by rw [webR_len]; exact b1, by rw [webR_len]; omega, fun p hp => ?_⟩
  unfold webR at hp
  obtain ⟨k, _, rfl⟩ := List.mem_map.mp hp
  exact ⟨one_lt a1, (two_ne a1).1, (two_ne a1).2⟩
theorem sp_web_by (ns : List Int) {most : Int} (h : 0 < most) (h10 : most ≤ 10) : P_law_web_by [.scr ns, .int most] = .ok (.tup [.int (webN ns : Int), .lst ((webR ns (webN ns) (webM ns most)).map eR)]) := by
  obtain ⟨a1, a2, a3⟩ := webN_b ns
  obtain ⟨b1, b2, b3⟩ := webM_b ns h
  generalize webN ns = n at a1 a2 a3 ⊢
  generalize webM ns most = m at b1 b2 b3 ⊢
  unfold P_law_web_by p_law_web_by
  refine runM_rt' ?_
  unfold m_law_web_by
  refine sSeq_eq (sSet_eq (d := .int (n : Int)) (m2_eq rfl (m2_eq (mCalln_eq (mCons_eq rfl (mCons_eq rfl rfl)) (sp_cell_at ns 0)) rfl (dMod_i (by decide))) ((dAdd_i _ _).trans (by rw [a3])))) ?_
  refine sSeq_eq (sSet_eq (d := .int (m : Int)) (m2_eq rfl (m2_eq (mCalln_eq (mCons_eq rfl (mCons_eq rfl rfl)) (sp_cell_at ns 1)) rfl (dMod_i h)) ((dAdd_i _ _).trans (by rw [b3])))) ?_
  refine sSeq_eq (sNew_eq rfl (by show 4 < 8; decide)) ?_
  let g : G := [some (.scr ns), none, some (.int (n : Int)), none, none, none, none, none]
  have key := forGo_apps (tg := .one 5) (ks := [1, 3, 5, 6, 7]) (b := sSeq (sSet 6 (mCall (fun ds => (P_law_cell_at ds).nx) (mCons (mV 0) (mCons (m2 dAdd (mC (.int 2)) (mV 5)) mNil))))
    (sSeq (sSet 7 (mCall (fun ds => (P_law_mix ds).nx) (mCons (mV 6) (mCons (mC (.int 1)) (mCons (mV 2) mNil)))))
    (sSeq (sIf (mAnd (mT (m2 dLt (mV 5) (mV 2))) (mT (m2 dGt (m2 dMod (mCall (fun ds => (P_law_cell_at ds).nx) (mCons (mV 0) (mCons (mC (.int 20)) mNil))) (mC (.int 4))) (mC (.int 0))))) (sSeq (sSet 7 (mV 5))
    sNil)
    sNil)
    (sSeq (sApp 4 (mTup (mCons (mV 7) (mCons (m2 dMod (m2 dAdd (m2 dAdd (mV 7) (mC (.int 1))) (mCall (fun ds => (P_law_mix ds).nx) (mCons (mV 6) (mCons (mC (.int 2)) (mCons (m2 dSub (mV 2) (mC (.int 1))) mNil))))) (mV 2)) mNil))))
    sNil)))) (fun (i : Nat) => D.int (i : Int)) (fun k => [eR (roadOf ns n k)]) g 4 (List.range m) [] (fun k hk => ⟨[(5, .int (k : Int))], rfl, fun acc => ⟨rfl, fun hacc => ?_⟩⟩) ?_
  · have e : (List.range m).flatMap (fun k => [eR (roadOf ns n k)]) = (webR ns n m).map eR := by
      unfold webR
      rw [List.map_map]
      generalize List.range m = l
      clear key
      induction l with
      | nil => rfl
      | cons x l ih => rw [List.flatMap_cons, ih]; rfl
    rw [List.nil_append, e] at key
    exact sSeq_eq (sFor_eq (rng1_nat (Nat.le_trans (show m ≤ 10 by omega) (by decide)) (mCons_eq rfl rfl)) key) (sSeq_nil (sFrz_eq (sRet_eq rfl)))
  · have h7 : (2 : Int) + (k : Int) = ((2 + k : Nat) : Int) := by omega
    have x1 := one_lt (ns := ns) (k := k) a1
    have m2n := mix_nonneg (cellAt ns (2 + k)) 2 ((n : Int) - 1) (by omega)
    have m1n := mix_nonneg (cellAt ns (2 + k)) 1 (n : Int) (by omega)
    have hone : oneOf ns n k = if k < n ∧ 0 < cellAt ns 20 % 4 then k else (mix (cellAt ns (2 + k)) 1 (n : Int)).toNat := rfl
    have htwo : twoOf ns n k = (oneOf ns n k + 1 + (mix (cellAt ns (2 + k)) 2 ((n : Int) - 1)).toNat) % n := rfl
    have hr : eR (roadOf ns n k) = .tup [.int (oneOf ns n k : Int), .int (twoOf ns n k : Int)] := rfl
    have t1 : sSet 6 (mCall (fun ds => (P_law_cell_at ds).nx) (mCons (mV 0) (mCons (m2 dAdd (mC (.int 2)) (mV 5)) mNil))) ⟨setsG g [(5, .int (k : Int))], some (4, acc)⟩ = .ok (.nx ⟨[some (.scr ns), none, some (.int (n : Int)), none, none, some (.int (k : Int)), some (.int (cellAt ns (2 + k))), none], some (4, acc)⟩) :=
      sSet_eq (mCalln_eq (mCons_eq rfl (mCons_eq (m2_eq rfl rfl ((dAdd_i _ _).trans (by rw [h7]))) rfl)) (sp_cell_at ns (2 + k)))
    have t2 : sSet 7 (mCall (fun ds => (P_law_mix ds).nx) (mCons (mV 6) (mCons (mC (.int 1)) (mCons (mV 2) mNil)))) ⟨[some (.scr ns), none, some (.int (n : Int)), none, none, some (.int (k : Int)), some (.int (cellAt ns (2 + k))), none], some (4, acc)⟩ = .ok (.nx ⟨[some (.scr ns), none, some (.int (n : Int)), none, none, some (.int (k : Int)), some (.int (cellAt ns (2 + k))), some (.int (mix (cellAt ns (2 + k)) 1 (n : Int)))], some (4, acc)⟩) :=
      sSet_eq (mCalln_eq (mCons_eq rfl (mCons_eq rfl (mCons_eq rfl rfl))) (sp_mix _ _ _ (by omega)))
    have hc : mAnd (mT (m2 dLt (mV 5) (mV 2))) (mT (m2 dGt (m2 dMod (mCall (fun ds => (P_law_cell_at ds).nx) (mCons (mV 0) (mCons (mC (.int 20)) mNil))) (mC (.int 4))) (mC (.int 0)))) [some (.scr ns), none, some (.int (n : Int)), none, none, some (.int (k : Int)), some (.int (cellAt ns (2 + k))), some (.int (mix (cellAt ns (2 + k)) 1 (n : Int)))] = .ok (decide (k < n ∧ 0 < cellAt ns 20 % 4)) := by
      refine tst (mAnd_eq (mT_eq (m2_eq rfl rfl (dLt_i _ _))) fun _ => mT_eq (m2_eq (m2_eq (mCalln_eq (mCons_eq rfl (mCons_eq rfl rfl)) (sp_cell_at ns 20)) rfl (dMod_i (by decide))) rfl (dGt_i _ _))) ?_
      rw [← Bool.decide_and]
      exact decide_eq_decide.mpr (by omega)
    have t3 : sIf (mAnd (mT (m2 dLt (mV 5) (mV 2))) (mT (m2 dGt (m2 dMod (mCall (fun ds => (P_law_cell_at ds).nx) (mCons (mV 0) (mCons (mC (.int 20)) mNil))) (mC (.int 4))) (mC (.int 0))))) (sSeq (sSet 7 (mV 5)) sNil) sNil ⟨[some (.scr ns), none, some (.int (n : Int)), none, none, some (.int (k : Int)), some (.int (cellAt ns (2 + k))), some (.int (mix (cellAt ns (2 + k)) 1 (n : Int)))], some (4, acc)⟩ =
        .ok (.nx ⟨[some (.scr ns), none, some (.int (n : Int)), none, none, some (.int (k : Int)), some (.int (cellAt ns (2 + k))), some (.int (oneOf ns n k : Int))], some (4, acc)⟩) := by
      rw [hone]
      by_cases hk2 : k < n ∧ 0 < cellAt ns 20 % 4
      · rw [if_pos hk2]
        exact sIf_t (tst hc (decide_eq_true hk2)) (sSeq_nil (sSet_eq rfl))
      · rw [if_neg hk2, Int.toNat_of_nonneg m1n]
        exact sIf_f (tst hc (decide_eq_false hk2)) rfl
    refine ⟨_, sSeq_eq t1 (sSeq_eq t2 (sSeq_eq t3 (sSeq_nil (sApp_eq (d := eR (roadOf ns n k)) ?_ (by have h3 : acc.length + 1 ≤ LIM := hacc; omega))))), rfl⟩
    rw [hr, htwo]
    refine mTup_eq (mCons_eq rfl (mCons_eq (m2_eq (m2_eq (m2_eq rfl rfl (dAdd_i _ _)) (mCalln_eq (mCons_eq rfl (mCons_eq rfl (mCons_eq (m2_eq rfl rfl (dSub_i _ _)) rfl))) (sp_mix _ _ _ (by omega))) (dAdd_i _ _)) rfl ((dMod_i (by omega)).trans ?_)) rfl))
    congr 2
    rw [Int.natCast_emod]
    congr 1
    omega
  · have e : ((List.range m).flatMap (fun k => [eR (roadOf ns n k)])).length ≤ m * 1 := by
      have := flat_len (fun k => [eR (roadOf ns n k)]) 1 (List.range m) fun _ _ => Nat.le_refl _
      rw [List.length_range] at this
      exact this
    exact Nat.le_trans (Nat.le_of_eq (Nat.zero_add _)) (Nat.le_trans e (Nat.le_trans (show m * 1 ≤ 10 by omega) (by decide)))
end Z
set_option Elab.async false
set_option linter.all false
set_option maxRecDepth 100000
set_option maxHeartbeats 4000000
/-! S, part 18: law k12: costs that are refused. -/
namespace Z
set_option autoImplicit false
open PySem L2
def castP (p : Nat × Nat) : Int × Int := ((p.1 : Int), (p.2 : Int))
theorem eR_pairs (rds : List (Nat × Nat)) : rds.map eR = (rds.map castP).map pairIJ := by
  rw [List.map_map]
  rfl
theorem okWeb_of {n : Nat} {rds : List (Nat × Nat)} (hw : WebOk n rds) : okWeb (n : Int) (rds.map castP) = true := by
  have h1 := hw.n2
  have h2 := hw.n6
  have h3 := hw.l1
  have h4 := hw.l10
  unfold okWeb
  rw [List.length_map]
  have e : (rds.map castP).all (okRoad (n : Int)) = true := by
    rw [List.all_eq_true]
    intro p hp
    obtain ⟨q, hq, rfl⟩ := List.mem_map.mp hp
    obtain ⟨a1, a2, a3⟩ := hw.rd q hq
    unfold okRoad castP
    have b1 : (0 : Int) ≤ (q.1 : Int) := by omega
    have b2 : (q.1 : Int) < (n : Int) := by omega
    have b3 : (0 : Int) ≤ (q.2 : Int) := by omega
    have b4 : (q.2 : Int) < (n : Int) := by omega
    have b5 : ¬ (q.1 : Int) = (q.2 : Int) := by omega
    simp only [b1, b2, b3, b4, b5, decide_true, decide_false, Bool.and_self, Bool.not_false]
  rw [e]
  have b1 : (2 : Int) ≤ (n : Int) := by omega
  have b2 : (n : Int) ≤ 6 := by omega
  simp only [b1, b2, h3, h4, decide_true, Bool.and_self]
theorem chkW_ok {n : Nat} {rds : List (Nat × Nat)} (hw : WebOk n rds) (c : Addr) : chkW c (n : Int) (rds.map eR) = .ok () := by
  unfold chkW
  rw [eR_pairs, asPairs_map]
  dsimp only
  rw [okWeb_of hw, if_pos rfl]
theorem shps_eR (n : Nat) : ∀ rds : List (Nat × Nat), shps (n + 1 + 1) (rds.map eR) = true
  | [] => by simp only [List.map_nil, shps]
  | p :: r => by
    rw [List.map_cons]
    simp only [shps, eR, shp, shps_eR n r, Bool.and_self]
theorem ne_eR (rds : List (Nat × Nat)) : dNe (.lst (rds.map eR)) (.lst (rds.map eR)) = some (.bl false) := dNe_of (deq_same (n := 3) (by simp only [shp]; exact shps_eR 0 rds) (by decide))
end Z
set_option Elab.async false
set_option linter.all false
set_option maxRecDepth 100000
set_option maxHeartbeats 4000000
/-! R, part 1: labels: which places are joined. -/
namespace Z
set_option autoImplicit false
section
variable {rds : List (Nat × Nat)}
/-- lab tells the places that the roads of l join -/
structure Lab (rds : List (Nat × Nat)) (l : List Int) (lab : Nat → Nat) : Prop where
  eq : ∀ r ∈ l, lab (rdF rds r).1 = lab (rdF rds r).2
  un : ∀ f : Nat → Nat, (∀ r ∈ l, f (rdF rds r).1 = f (rdF rds r).2) → ∀ x, f x = f (lab x)
theorem Lab.sub {l m : List Int} {f g : Nat → Nat} (h : Lab rds l f) (k : Lab rds m g) (s : ∀ r ∈ l, r ∈ m) {x y : Nat} (e : f x = f y) : g x = g y := by
  have h1 := h.un g fun r hr => k.eq r (s r hr)
  rw [h1 x, h1 y, e]
/-- the other way: roads of m join nothing that l does not join -/
theorem Lab.imp {l m : List Int} {f g : Nat → Nat} (h : Lab rds l f) (k : Lab rds m g) (s : ∀ r ∈ l, g (rdF rds r).1 = g (rdF rds r).2) {x y : Nat} (e : f x = f y) : g x = g y := by
  have h1 := h.un g s
  rw [h1 x, h1 y, e]
/-- one road more -/
theorem Lab.more {l : List Int} {f g : Nat → Nat} {r : Int} (h : Lab rds l f) (h1 : ∀ x, g x = f x ∨ ((f x = f (rdF rds r).1 ∨ f x = f (rdF rds r).2) ∧ (g x = f (rdF rds r).1 ∨ g x = f (rdF rds r).2)))
    (h2 : ∀ x y, f x = f y → g x = g y) (h3 : g (rdF rds r).1 = g (rdF rds r).2) : Lab rds (l ++ [r]) g := by
  refine ⟨fun q hq => ?_, fun k hk x => ?_⟩
  · rcases List.mem_append.mp hq with z | z
    · exact h2 _ _ (h.eq q z)
    · rw [List.mem_singleton.mp z]
      exact h3
  · have u := h.un k fun q hq => hk q (List.mem_append_left _ hq)
    have e := hk r (List.mem_append_right _ (List.mem_singleton.mpr rfl))
    have a := u (rdF rds r).1
    have b := u (rdF rds r).2
    rcases h1 x with z | ⟨z1 | z1, z2 | z2⟩
    · rw [z]
      exact u x
    · rw [z2, ← z1]
      exact u x
    · rw [z2, ← b, ← e, a, ← z1]
      exact u x
    · rw [z2, ← a, e, b, ← z1]
      exact u x
    · rw [z2, ← z1]
      exact u x
theorem Lab.nil : Lab rds [] id := ⟨(fun r hr => nomatch hr), fun f _ x => rfl⟩
/-! ### labels that are the least of their class -/
def mergeL (lab : Nat → Nat) (p : Nat × Nat) : Nat → Nat := fun x => if lab x = max (lab p.1) (lab p.2) then min (lab p.1) (lab p.2) else lab x
def joinL (rds : List (Nat × Nat)) (l : List Int) : Nat → Nat := l.foldl (fun lab r => mergeL lab (rdF rds r)) id
theorem joinL_snoc (l : List Int) (r : Int) : joinL rds (l ++ [r]) = mergeL (joinL rds l) (rdF rds r) := by
  unfold joinL
  rw [List.foldl_append]
  rfl
structure Min (lab : Nat → Nat) : Prop where
  le : ∀ x, lab x ≤ x
  idem : ∀ x, lab (lab x) = lab x
theorem Min.merge {lab : Nat → Nat} (h : Min lab) (p : Nat × Nat) : Min (mergeL lab p) := by
  obtain ⟨a, b⟩ := p
  have ha := h.idem a
  have hb := h.idem b
  refine ⟨fun x => ?_, fun x => ?_⟩
  · have := h.le x
    unfold mergeL
    dsimp only
    split <;> omega
  · have hx := h.idem x
    unfold mergeL
    dsimp only
    by_cases e : lab x = max (lab a) (lab b)
    · rw [if_pos e]
      have hm : lab (min (lab a) (lab b)) = min (lab a) (lab b) := by
        rcases Nat.le_total (lab a) (lab b) with z | z
        · rw [Nat.min_eq_left z, ha]
        · rw [Nat.min_eq_right z, hb]
      rw [hm]
      split <;> rfl
    · rw [if_neg e, hx, if_neg e]
theorem snoc_rec {α : Type} {P : List α → Prop} (h0 : P []) (h1 : ∀ l a, P l → P (l ++ [a])) (l : List α) : P l := by
  have h : ∀ m : List α, P m.reverse := fun m => by
    induction m with
    | nil => exact h0
    | cons a m ih => rw [List.reverse_cons]; exact h1 _ _ ih
  have := h l.reverse
  rw [List.reverse_reverse] at this
  exact this
theorem joinL_min (l : List Int) : Min (joinL rds l) := by
  refine snoc_rec (P := fun l => Min (joinL rds l)) ⟨fun x => Nat.le_refl x, fun x => rfl⟩ (fun l r ih => ?_) l
  rw [joinL_snoc]
  exact ih.merge _
theorem joinL_lab (l : List Int) : Lab rds l (joinL rds l) := by
  refine snoc_rec (P := fun l => Lab rds l (joinL rds l)) Lab.nil (fun l r ih => ?_) l
  rw [joinL_snoc]
  generalize joinL rds l = f at ih ⊢
  refine ih.more (r := r) (fun x => ?_) (fun x y e => ?_) ?_
  · unfold mergeL
    generalize f (rdF rds r).1 = a
    generalize f (rdF rds r).2 = b
    split
    · right
      rename_i e
      rw [e]
      rcases Nat.le_total a b with z | z
      · rw [Nat.max_eq_right z, Nat.min_eq_left z]
        exact ⟨.inr rfl, .inl rfl⟩
      · rw [Nat.max_eq_left z, Nat.min_eq_right z]
        exact ⟨.inl rfl, .inr rfl⟩
    · exact .inl rfl
  · unfold mergeL
    rw [e]
  · unfold mergeL
    generalize f (rdF rds r).1 = a
    generalize f (rdF rds r).2 = b
    split <;> split <;> omega
/-! ### how many merges -/
def cntL (n : Nat) (lab : Nat → Nat) : Nat := (List.range n).countP fun v => decide (lab v ≠ v)
def mrg (rds : List (Nat × Nat)) (n : Nat) (l : List Int) : Nat := cntL n (joinL rds l)
theorem mrg_nil (n : Nat) : mrg rds n [] = 0 := by
  unfold mrg cntL
  rw [List.countP_eq_zero]
  intro v _
  show ¬ decide (v ≠ v) = true
  simp
/-- what joins more merges more -/
theorem mrg_mono {n : Nat} {l m : List Int} (h : ∀ r ∈ l, joinL rds m (rdF rds r).1 = joinL rds m (rdF rds r).2) : mrg rds n l ≤ mrg rds n m := by
  unfold mrg cntL
  refine List.countP_mono_left fun v _ hv => ?_
  have hv' := of_decide_eq_true hv
  refine decide_eq_true fun z => hv' ?_
  have m1 := joinL_min (rds := rds) l
  have m2 := joinL_min (rds := rds) m
  have h1 := m1.le v
  have e : joinL rds l v = joinL rds l (joinL rds l v) := (m1.idem v).symm
  have e2 := (joinL_lab l).imp (joinL_lab m) h e
  rw [z] at e2
  have h2 := m2.le (joinL rds l v)
  omega
theorem mrg_sub {n : Nat} {l m : List Int} (h : ∀ r ∈ l, r ∈ m) : mrg rds n l ≤ mrg rds n m := mrg_mono fun r hr => (joinL_lab m).eq r (h r hr)
end
end Z
set_option Elab.async false
set_option linter.all false
set_option maxRecDepth 100000
set_option maxHeartbeats 4000000
/-! R, part 2: the tree that is built road by road is a least one. -/
namespace Z
set_option autoImplicit false
inductive Pw {α β : Type} (R : α → β → Prop) : List α → List β → Prop
  | nil : Pw R [] []
  | cons {a : α} {b : β} {as : List α} {bs : List β} : R a b → Pw R as bs → Pw R (a :: as) (b :: bs)
theorem Pw.imp {α β : Type} {R S : α → β → Prop} (h : ∀ a b, R a b → S a b) : ∀ {as : List α} {bs : List β}, Pw R as bs → Pw S as bs
  | _, _, .nil => .nil
  | _, _, .cons r t => .cons (h _ _ r) (Pw.imp h t)
section
variable {rds : List (Nat × Nat)} {n : Nat}
def labP (part : List Nat) : Nat → Nat := fun x => if x < part.length then part.getD x 0 else x
structure KInv (rds : List (Nat × Nat)) (n : Nat) (q : List Int) (s : List Nat × List Int) : Prop where
  len : s.1.length = n
  val : ∀ v ∈ s.1, v < n
  lab : Lab rds s.2 (labP s.1)
  all : ∀ r ∈ q, labP s.1 (rdF rds r).1 = labP s.1 (rdF rds r).2
  sub : ∀ r ∈ s.2, r ∈ q
  cnt : s.2.length = mrg rds n s.2
theorem KInv.start : KInv rds n [] (List.range n, []) := by
  refine ⟨List.length_range, fun v hv => List.mem_range.mp hv, ?_, (fun r hr => nomatch hr), (fun r hr => nomatch hr), (mrg_nil n).symm⟩
  have e : labP (List.range n) = id := funext fun x => by
    unfold labP
    rw [List.length_range]
    split
    · rename_i h
      rw [List.getD_eq_getElem?_getD, List.getElem?_range h]
      rfl
    · rfl
  show Lab rds [] (labP (List.range n))
  rw [e]
  exact Lab.nil
theorem KInv.classes {q : List Int} {s : List Nat × List Int} (h : KInv rds n q s) {x y : Nat} : labP s.1 x = labP s.1 y ↔ joinL rds s.2 x = joinL rds s.2 y :=
  ⟨fun e => h.lab.sub (joinL_lab s.2) (fun _ hr => hr) e, fun e => (joinL_lab s.2).sub h.lab (fun _ hr => hr) e⟩
theorem KInv.num {q : List Int} {s : List Nat × List Int} (h : KInv rds n q s) : s.2.length = mrg rds n q := by
  rw [h.cnt]
  exact Nat.le_antisymm (mrg_sub h.sub) (mrg_mono fun r hr => h.classes.mp (h.all r hr))
/-! ### prefix by prefix -/
end
end Z
set_option Elab.async false
set_option linter.all false
set_option maxRecDepth 100000
set_option maxHeartbeats 4000000
/-! R, part 3: the order of what is told; least trees. -/
namespace Z
set_option autoImplicit false
open L2
/-! ### the order -/
/-! ### element by element -/
def leI (a b : Int) : Prop := a ≤ b
theorem Pw.sum {w : Int → Int} {A B : List Int} (h : Pw (fun a b => leP (w a, a) (w b, b)) A B) : (A.map w).sum ≤ (B.map w).sum ∧ ((A.map w).sum = (B.map w).sum → Pw leI A B) := by
  induction h with
  | nil => exact ⟨Int.le_refl _, fun _ => .nil⟩
  | @cons a b as bs r t ih =>
    obtain ⟨h1, h2⟩ := ih
    rw [List.map_cons, List.map_cons, List.sum_cons, List.sum_cons]
    have r' : w a < w b ∨ (w a = w b ∧ a ≤ b) := r
    exact ⟨by omega, fun e => .cons (show a ≤ b by omega) (h2 (by omega))⟩
/-! ### least trees -/
end Z
set_option Elab.async false
set_option linter.all false
set_option maxRecDepth 100000
set_option maxHeartbeats 4000000
/-! R, part 4: the family of sets of roads among which the program finds the least; what a gain is. -/
set_option Elab.async false
set_option linter.all false
set_option maxRecDepth 100000
set_option maxHeartbeats 4000000
/-! S, part 19: law k13: nobody gains by telling another cost. -/
namespace Z
set_option autoImplicit false
open PySem L2
theorem at_st {m : Sta → Rs Ou} {s s' : Sta} {r : Rs Ou} (e : s = s') (h : m s' = r) : m s = r := by rw [e]; exact h
end Z
set_option Elab.async false
set_option linter.all false
set_option maxRecDepth 100000
set_option maxHeartbeats 4000000
/-! S, part 20: law k14: what one pays, gets, by what one gets. -/
set_option Elab.async false
set_option linter.all false
set_option maxRecDepth 100000
set_option maxHeartbeats 4000000
/-! S, part 21: law k15: within the own worth. -/
set_option Elab.async false
set_option linter.all false
set_option maxRecDepth 100000
set_option maxHeartbeats 4000000
/-! S, part 22: law k15, the end. -/
set_option Elab.async false
set_option linter.all false
set_option maxRecDepth 100000
set_option maxHeartbeats 4000000
/-! S, part 23: law k16. -/
set_option Elab.async false
set_option linter.all false
set_option maxRecDepth 100000
set_option maxHeartbeats 4000000
/-! R, part 5: a way is a set of roads with the right ends that hang together. -/
set_option Elab.async false
set_option linter.all false
set_option maxRecDepth 100000
set_option maxHeartbeats 4000000
/-! S, part 24: the law's own choice among all sets of roads. -/
set_option Elab.async false
set_option linter.all false
set_option maxRecDepth 100000
set_option maxHeartbeats 4000000
/-! S, part 25: the law's choice is the program's. -/
set_option Elab.async false
set_option linter.all false
set_option maxRecDepth 100000
set_option maxHeartbeats 4000000
set_option Elab.async false
set_option linter.all false
set_option maxRecDepth 100000
set_option maxHeartbeats 4000000
/-! S, part 26: law k10. -/
set_option Elab.async false
set_option linter.all false
set_option maxRecDepth 100000
set_option maxHeartbeats 4000000
set_option Elab.async false
set_option linter.all false
set_option maxRecDepth 100000
set_option maxHeartbeats 4000000
/-! S, part 27: law k11. -/
namespace Z
set_option autoImplicit false
open PySem L2
section
variable {rds : List (Nat × Nat)} {n : Nat}
theorem WebOk.take (hw : WebOk n rds) {k : Nat} (hk : 1 ≤ k) : WebOk n (rds.take k) := by
  have h1 := hw.l1
  have h10 := hw.l10
  exact ⟨hw.n2, hw.n6, by rw [List.length_take]; omega, by rw [List.length_take]; omega, fun p hp => hw.rd p (List.mem_of_mem_take hp)⟩
end
end Z
set_option Elab.async false
set_option linter.all false
set_option maxRecDepth 100000
set_option maxHeartbeats 4000000
/-! Z, part 9: try: web = Web(places, handed) / except BadWeb as e, handed being changed later. -/
namespace Z
set_option autoImplicit false
open PySem PySem.Spec PyProof.Rows L2
/-! ### Web(..), what is raised being wished for at the caller's slots -/
def tMakeS (C : Addr) (sp : Sp) (dvs : List V) (E : L2.St → XK) (t : TA) : TE := fun σ H Q => tMake C sp dvs (E σ) t σ H Q
theorem pe_makeS {X : Cx} {CX : CXT} {k : Nat} {f C : Addr} {fd : FuncData} {ps : List Str} {sp : Sp} {E : L2.St → XK} {x : Str} {px pos : Pos} {e : Expr} {es : List Expr} {t : TA} (M : Mk X.K C f) (F : FnOk X.prog X.w X.K X.mg X.base CX k f fd ps sp) (room : Room (k + 1) X.A) (hg : Gl X x) (hm : X.mg x = some (.ref C)) (bd : Binds X.K fd ps []) (pass : ∀ τ, PassesAt CX X τ (E τ))
    (args : PA X (e :: es) t) (nd : (x == ("__debug__" : Str)) = false := by decide) (h1 : starEach (e :: es) X.env = (false, eval e X.env) :: starEach es X.env := by rfl) (h2 : (backTo pos (starEach es X.env)).any (·.1) = false := by rfl) : PE X (.Call (.Name x px) (e :: es) [] pos) (tMakeS C sp [] E t) := by
  constructor
  intro pins s σ H Q J wish
  refine wpAny_Call_Name_kw (ld_glob J hg hm (PySem.W.callWith_K (h₀ := X.base) J.ok.mod.kin M.kp (thn (args.run pos pins s σ H _ J wish) ?_) h1 h2) nd)
  rintro us s1 ⟨vs, G, J1, vals, want⟩
  refine ⟨J1.kIn, ?_⟩
  -- the new object, its dict ahead of it
  obtain ⟨n, en⟩ : ∃ n, n = s1.heap.objs.size := ⟨_, rfl⟩
  have made := Inv.made (C := C) J1
  have free : ∀ b, n ≤ b → G b = none := fun b hb => J1.hok.fresh (en ▸ hb)
  have want2 := want (n + 1) n (free _ (Nat.le_add_right n 1)) (free _ (Nat.le_refl n)) (Nat.ne_of_lt (Nat.lt_add_one n))
  rw [List.append_nil] at want2
  have vals2 : Vals (V.ref (n + 1) :: vs) (Value.ref (n + 1) :: us) := .cons rfl vals
  have count : (Value.ref (n + 1) :: us).length = ps.length := vals2.length.symm.trans (F.len _ _ _ _ want2)
  subst en
  have bound := bd _ (Value.ref (s1.heap.objs.size + 1) :: us) made.kIn (by rwa [List.append_nil])
  rw [List.append_nil] at bound
  have body := F.run _ X.stack _ _ ⟨_ :: us, []⟩ _ _ _ (E σ) (room.make C us []) (made.env0.make C us []) bound vals2 want2
  refine wpAny_call (make_map (f := f) J1.kIn M.makes M.init (beq_iff_eq.mp M.fn) (codeAny_mono body ?_))
  rintro (err | fl) s2 z
  · exact pass σ pins _ _ err s2 made z
  · cases fl with
    | ret u =>
      obtain ⟨v, G2, J2, rel, ev, q⟩ := made.after z
      cases ev
      exact ⟨rel, .ref (s1.heap.objs.size + 1), G2, J2, rfl, q⟩
    | _ => exact z.elim
/-! ### isinstance of a caught error, of a built-in class -/
section
variable {X : Cx} {K : PySem.W.Frag} {C : Addr} {E : XK}
theorem pe_isOB {a i : Addr} {cls : Value} {dd : Option Addr} {oe : Obj} {pn : List (Addr × Obj)} {x tn : Str} {Tn : String} {p q1 q2 pos : Pos} (hz : Zc cls dd oe) (hf : ∃ vs, oe.data = .fields vs) (hm : X.mg "isinstance" = none) (hT : X.mg tn = none) (hvt : bootBuiltins tn = some (.type Tn)) (hN : X.N[i]? = some x) (hv : Vis X.env.scope x)
    (hd : (x == ("__debug__" : Str)) = false := by decide) (hcd : (x == ("__classdict__" : Str)) = false := by decide) (hg : Gl X "isinstance" := by rfl) (hgT : Gl X tn := by rfl) (hn : tn ≠ "__name__" := by decide) (hdT : (tn == ("__debug__" : Str)) = false := by decide)
    (he : starEach [.Name x q1, .Name tn q2] X.env = (false, eval (.Name x q1) X.env) :: starEach [.Name tn q2] X.env := by rfl) (he2 : starEach [.Name tn q2] X.env = (false, eval (.Name tn q2) X.env) :: starEach [] X.env := by rfl) (hpl : (backTo pos (starEach [.Name tn q2] X.env)).any (·.1) = false := by rfl) :
    PE (X.suite a ((a, oe) :: pn)) (.Call (.Name "isinstance" p) [.Name x q1, .Name tn q2] [] pos) (tIsE X.K i a cls dd (.ty Tn) (.type Tn)) :=
  pe_callB (X := X.suite a ((a, oe) :: pn)) (call_isO hz hf) hg hm (by decide +kernel) (pa_cons (pe_var hN hv hd hcd) (pa_cons (pe_bltn (v := .ty Tn) hgT hT hvt rfl hn hdT) pa_nil he2) he) (by decide) (by decide) he hpl
theorem is_runB {a c i : Nat} {Tn : String} {dd : Option Addr} {σ : L2.St} {H : Hp} {Q : VK} (hσ : σ[i]? = some (some (.ref a))) (EF : ExF K c) (hx : Xfs H dd) (hk : PySem.W.kitOne K (.ref c) (.type Tn) = some true) (q : Q (.bl true) H) : tIsE K i a (.ref c) dd (.ty Tn) (.type Tn) σ H Q :=
  ⟨.ref a, hσ, c, .ty Tn, true, rfl, fun z hz => hz, rfl, EF, hx, hk, q⟩
/-! ### the clause: return not good and isinstance(e, T) and isinstance(e, ValueError) and handed == roads -/
abbrev ts9 (K : PySem.W.Frag) (tT i : Nat) (Tn : String) (tn te : TE) : Addr → Value → Option Addr → TS := fun a cls d => tSeq (tRet (tAndV tn (tAndV (tIsE K i a cls d (.ref tT) (.ref tT)) (tAndV (tIsE K i a cls d (.ty Tn) (.type Tn)) te)))) tNext
def hnd9 (cB : Addr) (mn me : G → Rs D) : Addr → Option Int → G → Rs D := fun c r g => if c = cB ∧ r = none then (mn g).nx.bind fun x => match x with
  | .bl false => .ok (.bl false)
  | .bl true => (me g).nx
  | _ => .no
  else .no
theorem su9 {cB tT i : Nat} {Tn : String} {tn te : TE} {mn me : G → Rs D} (hn : EM K C E0 tn mn) (he : EM K C E0 te me) (x1 : ExF K cB) (k1 : PySem.W.kitOne K (.ref cB) (.ref tT) = some true) (k2 : PySem.W.kitOne K (.ref cB) (.type Tn) = some true)
    {F0 H0 H : Hp} {g : G} {T : List (V × D)} {σ : L2.St} {c : Addr} {r : Option Int} {a : Addr} {d : D} {D' : Ends} (S : SS ⟨K, C, F0, H0⟩ g [] T σ H) (hi : i < g.length) (eh : hnd9 cB mn me c r (g.set i none) = .ok d)
    (hd : ∀ v H' T g P σ', SS ⟨K, C, F0, H0⟩ g P ((v, d) :: T) σ' H' → D'.rt v H') : ts9 K tT i Tn tn te a (.ref c) none D' (σ.set i (some (.ref a))) H := by
  unfold hnd9 at eh
  split at eh
  · rename_i hc
    obtain ⟨rfl, rfl⟩ := hc
    have hln : σ.length = g.length := by
      obtain ⟨F, f⟩ := S
      exact f.ln
    have hs : (σ.set i (some (V.ref a)))[i]? = some (some (.ref a)) := by rw [List.getElem?_set_self (by rw [hln]; exact hi)]
    have S1 := S.set0 (i := i) (o := some (.ref a))
    unfold ts9 tSeq tRet tAndV
    dsimp only
    refine hn.run F0 H0 (g.set i none) [] T _ H _ S1 ?_
    cases em : mn (g.set i none) with
    | no => rw [em] at eh; cases eh
    | ex _ _ => rw [em] at eh; cases eh
    | ok x =>
      rw [em, Rs.nx_ok, Rs.bind_ok] at eh
      intro v H1 S2
      obtain ⟨F2, f2⟩ := S2
      cases x with
      | bl b =>
        have iv := f2.ts _ List.mem_cons_self
        cases iv
        refine ⟨b, rfl, ?_⟩
        cases b with
        | false =>
          rw [if_neg Bool.false_ne_true]
          cases eh
          exact hd _ _ _ _ _ _ ⟨F2, f2⟩
        | true =>
          rw [if_pos rfl]
          refine is_run hs x1 (.inl rfl) k1 ⟨true, rfl, ?_⟩
          rw [if_pos rfl]
          refine is_runB hs x1 (.inl rfl) k2 ⟨true, rfl, ?_⟩
          rw [if_pos rfl]
          dsimp only at eh
          refine he.run F0 H0 (g.set i none) [] _ _ H1 _ ⟨F2, f2⟩ ?_
          cases em2 : me (g.set i none) with
          | no => rw [em2] at eh; cases eh
          | ex _ _ => rw [em2] at eh; cases eh
          | ok y =>
            rw [em2] at eh
            cases eh
            exact fun v H2 S3 => hd _ _ _ _ _ _ S3
      | _ => cases eh
  · cases eh
/-! ### the try -/
def sTryWeb (v p h n i : Nat) (chk : Int → List D → Rs Unit) (hnd : Addr → Option Int → G → Rs D) : Sta → Rs Ou := fun s => match s.mu with
  | none => .no
  | some (j, ds) => if j = h ∧ v ≠ h ∧ h < n ∧ i < n ∧ s.g.length = n then (mV p s.g).bind fun dp => match dp with
      | .int m => (match asPairs ds with
        | none => .no
        | some _ => (match chk m ds with
          | .ok _ => .ok (.nx ⟨s.g.set v (some (.web m ds)), s.mu⟩)
          | .ex c r => (hnd c r ((s.g.set h (some (.lst ds))).set i none)).nx.bind fun d => .ok (.rt d)
          | .no => .no))
      | _ => .no
    else .no
abbrev wTry9 (K : PySem.W.Frag) (cB tT i : Nat) (Tn : String) (tn te : TE) (D' : Ends) : WX := wN K (fun _ _ _ _ => False) D' [⟨.ref cB, some i, ts9 K tT i Tn tn te⟩]
theorem sm_tryWeb {v p h n cB tT i : Nat} {Tn : String} {chk : Int → List D → Rs Unit} {tn te : TE} {mn me : G → Rs D} (hn : EM K C E0 tn mn) (he : EM K C E0 te me) (x1 : ExF K cB) (m1 : PySem.W.exmOne K (.ref cB) (.ref cB) = some true) (k1 : PySem.W.kitOne K (.ref cB) (.ref tT) = some true) (k2 : PySem.W.kitOne K (.ref cB) (.type Tn) = some true) :
    SM K C E (fun D' σ H => tSeq (tAsg (tMakeS C (spWeb K C chk) [] (WE (wTry9 K cB tT i Tn tn te D')) (tCons (tVar p) (tCons (tVar h) tNil))) (gName v)) tNext D' σ H) (sTryWeb v p h n i chk (hnd9 cB mn me)) := ⟨fun F0 H0 s T σ H D' S wsh => by
  have S0 := S
  obtain ⟨P, T1, t1, mu, S1⟩ := S
  unfold sTryWeb at wsh
  cases emu : s.mu with
  | none =>
    rw [emu] at wsh
    exact wsh.elim
  | some q =>
    obtain ⟨j, ds⟩ := q
    rw [emu] at wsh mu
    dsimp only at wsh
    split at wsh
    · rename_i hc
      obtain ⟨rfl, hvh, hhn, hin, hgn⟩ := hc
      cases ep : mV p s.g with
      | no => rw [ep] at wsh; exact wsh.elim
      | ex _ _ => unfold mV at ep; split at ep <;> cases ep
      | ok dp =>
        rw [ep, Rs.bind_ok] at wsh
        cases dp with
        | int m =>
          dsimp only at wsh
          cases eap : asPairs ds with
          | none => rw [eap] at wsh; exact wsh.elim
          | some ps =>
            rw [eap] at wsh
            dsimp only at wsh
            show tAsg (tMake C (spWeb K C chk) [] (WE (wTry9 K cB tT i Tn tn te D') σ) (tCons (tVar p) (tCons (tVar j) tNil))) (gName v) { D' with nx := fun σ' H' => D'.nx σ' H' } σ H
            cases ec : chk m ds with
            | no => rw [ec] at wsh; exact wsh.elim
            | ok u =>
              rw [ec] at wsh
              refine (sm_webMu (E := WE (wTry9 K cB tT i Tn tn te D') σ)).run F0 H0 s T σ H _ S0 ?_
              unfold sWebMu
              rw [emu]
              dsimp only
              rw [if_pos ⟨rfl, hvh⟩, ep, Rs.bind_ok]
              dsimp only
              rw [eap]
              dsimp only
              rw [ec, Rs.bind_ok]
              exact wsh
            | ex c r =>
              rw [ec] at wsh
              dsimp only at wsh
              obtain ⟨d, ed, hd⟩ := wish_ok wsh.bind
              obtain ⟨F, f⟩ := S1
              obtain ⟨a, vs, hP, hσ, al, hg⟩ := mu
              subst hP
              have eg : s.g[p]? = some (some (.int m)) := by
                unfold mV at ep
                split at ep
                · rename_i x eq
                  cases ep
                  exact eq
                · cases ep
              obtain ⟨v1, hσ1, i1⟩ := f.sl p _ eg
              cases i1
              obtain ⟨p1, p2, p3⟩ := f.pr (a, vs) List.mem_cons_self
              dsimp only at p1 p2 p3
              have up : Same F (upd F a (.lst vs)) := fun b u e => by rw [upd_ne (ne_of_none e p1)]; exact e
              have upH : Same (upd F a (.lst vs)) H := fun b u e => by
                by_cases z : b = a
                · subst z
                  rw [upd_same] at e
                  rw [← e]
                  exact p3
                · rw [upd_ne z] at e
                  exact f.eH b u e
              have f' : Fz ⟨K, C, F0, H0⟩ s.g [] T1 σ H F := f.subP fun z hz => by cases hz
              have ia : IsA K C F vs ds := f'.all al
              unfold tAsg
              refine ⟨.int m, hσ1, .ref a, hσ, ?_⟩
              intro x dx nx nd ne
              have hH : ∀ {b : Addr} {o : HO}, H b = some o → upd (upd H dx (.own x)) x (.ins C dx []) b = some o := fun {b o} e => by
                rw [upd_ne (ne_of_none e nx), upd_ne (ne_of_none e nd)]
                exact e
              refine ⟨upd F a (.lst vs), x, dx, .int m, .ref a, m, ds, rfl, upd_same, by rw [upd_ne ne, upd_same], ne, fun b o e => hH (upH b o e), upH.free nx, upH.free nd, .int m, .lst upd_same (IsA.mono up _ _ ia), ?_⟩
              rw [ec]
              have hcr : c = cB ∧ r = none := by
                unfold hnd9 at ed
                split at ed
                · assumption
                · cases ed
              obtain ⟨rfl, rfl⟩ := hcr
              show XOk _ _ c none
              intro H' e'
              have eHH : Same H H' := fun b o z => e' b o (hH z)
              refine ⟨true, m1, fun _ ae hae => ?_, fun z => nomatch z⟩
              unfold Cl.go
              dsimp only
              have S3 : SS ⟨K, C, F0, H0⟩ (s.g.set j (some (.lst ds))) [] T1 σ H' := ⟨upd F a (.lst vs),
                { eF := f.eF.trans up
                  eH := fun b u z => eHH b u (upH b u z)
                  e0 := fun b u z => eHH b u (f.e0 b u z)
                  nw := fun q hq hf => by
                    have qa : q ≠ a := fun z => hq (by rw [z]; exact p2)
                    rw [upd_ne qa]
                    exact f.nw q hq hf
                  sl := fun i d z => by
                    rcases get_set z with ⟨rfl, z2, _⟩ | ⟨_, z2⟩
                    · cases z2
                      exact ⟨.ref a, hσ, .lst upd_same (IsA.mono up _ _ ia)⟩
                    · obtain ⟨w, h1, h2⟩ := f.sl i d z2
                      exact ⟨w, h1, Is.mono up _ _ h2⟩
                  ln := by rw [List.length_set]; exact f.ln
                  ts := fun x hx => Is.mono up _ _ (f.ts x hx)
                  pr := fun x hx => by cases hx }⟩
              exact su9 hn he x1 k1 k2 S3 (by rw [List.length_set, hgn]; exact hin) ed fun v H2 T2 g2 P2 σ2 S => hd v H2 g2 P2 T2 σ2 S
        | _ => exact wsh.elim
    · exact wsh.elim⟩
/-! ### a test that looks at a list that is changed later -/
def sIfP (mc : G → Rs Bool) (a b : Sta → Rs Ou) : Sta → Rs Ou := fun s => match s.mu with
  | none => .no
  | some (i, ds) => (mc (s.g.set i (some (.lst ds)))).nx.bind fun x => if x = true then a s else b s
theorem sm_ifP {tt : TT} {mc : G → Rs Bool} {t u : TS} {a b : Sta → Rs Ou} (hc : TM K C E tt mc) (h1 : SM K C E t a) (h2 : SM K C E u b) : SM K C E (tIfS tt t u) (sIfP mc a b) := ⟨fun F0 H0 s T σ H D' S w => by
  have S0 := S
  obtain ⟨P, T1, t1, mu, S1⟩ := S
  unfold sIfP at w
  cases emu : s.mu with
  | none =>
    rw [emu] at w
    exact w.elim
  | some q =>
    obtain ⟨i, ds⟩ := q
    rw [emu] at w mu
    dsimp only at w
    obtain ⟨x, ex, w⟩ := wish_ok w.bind
    obtain ⟨p, vs, hP, hi, al, hg⟩ := mu
    subst hP
    obtain ⟨F, f⟩ := S1
    obtain ⟨p1, p2, p3⟩ := f.pr (p, vs) List.mem_cons_self
    dsimp only at p1 p2 p3
    have eFp : Same F (upd F p (.lst vs)) := fun b u z => by
      rw [upd_ne (ne_of_none z p1)]
      exact z
    have S2 : SS ⟨K, C, upd F p (.lst vs), H⟩ (s.g.set i (some (.lst ds))) [] [] σ H := ⟨upd F p (.lst vs),
      { eF := Same.refl _
        eH := fun b u z => by
          by_cases hb : b = p
          · subst hb
            rw [upd_same] at z
            rw [← z]
            exact p3
          · rw [upd_ne hb] at z
            exact f.eH b u z
        e0 := Same.refl _
        nw := fun _ _ z => z
        sl := fun j d z => by
          rcases get_set z with ⟨rfl, z2, _⟩ | ⟨_, z2⟩
          · cases z2
            exact ⟨.ref p, hi, .lst upd_same (IsA.mono eFp _ _ (f.all al))⟩
          · obtain ⟨v, h1, h2⟩ := f.sl j d z2
            exact ⟨v, h1, Is.mono eFp _ _ h2⟩
        ln := by rw [List.length_set]; exact f.ln
        ts := fun x hx => by cases hx
        pr := fun x hx => by cases hx }⟩
    unfold tIfS
    refine hc.run _ H _ [] [] σ H _ S2 ?_
    rw [ex]
    intro H' S3
    obtain ⟨F3, f3⟩ := S3
    have S4 : SSm ⟨K, C, F0, H0⟩ s T σ H' := ⟨[(p, vs)], T1, t1, by rw [emu]; exact ⟨p, vs, rfl, hi, al, hg⟩, F, f.grow (Same.refl F) (f.eH.trans f3.e0) f3.e0 fun _ _ z => z⟩
    cases x with
    | true =>
      rw [if_pos rfl] at w ⊢
      exact h1.run F0 H0 s T σ H' D' S4 w
    | false =>
      rw [if_neg Bool.false_ne_true] at w ⊢
      exact h2.run F0 H0 s T σ H' D' S4 w⟩
/-! ### the rules -/
theorem z_ifP {c : Expr} {tt : TT} {mt : G → Rs Bool} {sts sts2 : List Stmt} {tS uS : TS} {sS sU : Sta → Rs Ou} {pos : Pos} (h : PTM X K C E c tt mt) (ha : PSSM X K C E sts tS sS) (hb : PSSM X K C E sts2 uS sU) : PSM X K C E (.If c sts sts2 pos) (tIfS tt tS uS) (sIfP mt sS sU) := ⟨ps_if h.p ha.p hb.p, sm_ifP h.q ha.q hb.q⟩
theorem z_tryWeb {k j v p h n cB tT i : Nat} {y x1 nm tn xp xh : Str} {Tn : String} {chk : Int → List D → Rs Unit} {en ee : Expr} {tn' te : TE} {mn me : G → Rs D} {py pw p1 p2 pc pa np a1 a2 a3 a4 b1 b2 b3 b4 pb pr pos1 pos : Pos} {tnv : Str}
    (hs : X.stack = X.env :: X.outer) (hf : X.env.frame = some X.env.locals) (hN : X.N.Nodup) (hi : X.N[i]? = some nm) (hln : X.env.kindOf nm = some .local) (hv : Vis X.env.scope nm) (hc1 : Names X x1 (.ref cB)) (hm : X.mg "isinstance" = none) (hT : X.mg tn = some (.ref tT)) (hTv : X.mg tnv = none) (hvt : bootBuiltins tnv = some (.type Tn))
    (W : CalW X.prog X.w K X.mg X.base C k chk) (hr : Room j X.A) (hk : k + 1 ≤ j) (hy : X.N[v]? = some y) (hly : Loc X.env.scope y) (hp : ∀ (pn : List (Addr × Obj)) (xe : Value → Shared → Prop), PE (X.tr pn xe) (.Name xp p1) (tVar p)) (hh : ∀ (pn : List (Addr × Obj)) (xe : Value → Shared → Prop), PE (X.tr pn xe) (.Name xh p2) (tVar h))
    (hnot : ∀ (a : Addr) (oe : Obj) (pn : List (Addr × Obj)), PEM (X.suite a ((a, oe) :: pn)) K C E0 en tn' mn) (heq : ∀ (a : Addr) (oe : Obj) (pn : List (Addr × Obj)), PEM (X.suite a ((a, oe) :: pn)) K C E0 ee te me)
    (x1f : ExF K cB) (m1 : PySem.W.exmOne K (.ref cB) (.ref cB) = some true) (k1 : PySem.W.kitOne K (.ref cB) (.ref tT) = some true) (k2 : PySem.W.kitOne K (.ref cB) (.type Tn) = some true)
    (hd : (nm == ("__debug__" : Str)) = false := by decide) (hcd : (nm == ("__classdict__" : Str)) = false := by decide) (hg : Gl X "isinstance" := by rfl) (hgW : Gl X "Web" := by rfl) (hgT : Gl X tn := by rfl) (hgV : Gl X tnv := by rfl) (hdT : (tn == ("__debug__" : Str)) = false := by decide) (hdV : (tnv == ("__debug__" : Str)) = false := by decide) (hnV : tnv ≠ "__name__" := by decide)
    (hsw : swapsWith (.Call (.Name "Web" pw) [.Name xp p1, .Name xh p2] [] pc) (some (.Name y py)) pa.line X.env = pure false := by rfl) (hfy : X.fn y = true ∨ X.env.scope.names.lookup y = some .local := by first | exact .inl rfl | exact .inr rfl | assumption) (hK : X.K = K := by rfl) :
    PSM X K C E (.Try [.Assign [.Name y py] (.Call (.Name "Web" pw) [.Name xp p1, .Name xh p2] [] pc) pa] [.ExceptHandler (some (.Name x1 np)) (some nm) [.Return (some (.BoolOp .And [en, .Call (.Name "isinstance" a1) [.Name nm a2, .Name tn a3] [] a4, .Call (.Name "isinstance" b1) [.Name nm b2, .Name tnv b3] [] b4, ee] pb)) pr] pos1] [] [] pos)
      (fun D' σ H => tSeq (tAsg (tMakeS C (spWeb K C chk) [] (WE (wTry9 K cB tT i Tn tn' te D')) (tCons (tVar p) (tCons (tVar h) tNil))) (gName v)) tNext D' σ H) (sTryWeb v p h n i chk (hnd9 cB mn me)) := by
  subst hK
  have hn : EM X.K C E0 tn' mn := (hnot 0 default []).q
  have he : EM X.K C E0 te me := (heq 0 default []).q
  refine ⟨?_, sm_tryWeb hn he x1f m1 k1 k2⟩
  obtain ⟨f, fd, F, M, b, gW⟩ := W
  refine ps_tryN (tb := fun W => tSeq (tAsg (tMakeS C (spWeb X.K C chk) [] (WE W) (tCons (tVar p) (tCons (tVar h) tNil))) (gName v)) tNext) hs hf hN takes0 (fun W pn xe tk _ => ?_) ?_
  · exact pss_cons (ps_set (X := X.tr pn xe) hN hy hly (pe_makeS (X := X.tr pn xe) M F (hr.mono hk) hgW gW b (fun σ => passAt tk σ) (pa_cons (hp pn xe) (pa_cons (hh pn xe) pa_nil)) (by decide)) hsw hfy) pss_nil
  · refine .cons (.nm hi hln hc1 fun a oe cls d pn hz hfl => ?_) .nil
    exact pss_cons (ps_ret (pe_and (hnot a oe pn).p (pe_and (pe_isO hz hfl hm hT hi hv hd hcd hg hgT hdT) (pe_and (pe_isOB hz hfl hm hTv hvt hi hv hd hcd hg hgV hnV hdV) (pe_one (heq a oe pn).p))))) pss_nil
end
end Z
set_option Elab.async false
set_option linter.all false
set_option maxRecDepth 100000
set_option maxHeartbeats 4000000
namespace Z
set_option autoImplicit false
open PySem L2
def m_law_k09 (c_BadWeb : Addr) (φ_law_whole φ_law_cell_at φ_law_hurt_k09 φ_law_web_by : List D → Rs D) : Sta → Rs Ou :=
    (sSeq (sSet2 1 2 (mCall (fun ds => (φ_law_web_by ds).nx) (mCons (mV 0) (mCons (mC (.int 10)) mNil))))
    (sSeq (sSet 3 (m2 dEq (m2 dMod (mCall (fun ds => (φ_law_cell_at ds).nx) (mCons (mV 0) (mCons (mC (.int 24)) mNil))) (mC (.int 3))) (mC (.int 0))))
    (sSeq (sIf (mNot (mT (mV 3))) (sSeq (sSet2 1 2 (mCall (fun ds => (φ_law_hurt_k09 ds).nx) (mCons (mV 1) (mCons (mV 2) (mCons (m2 dDiv (mCall (fun ds => (φ_law_cell_at ds).nx) (mCons (mV 0) (mCons (mC (.int 24)) mNil))) (mC (.int 3))) mNil)))))
    sNil)
    sNil)
    (sSeq (sNew 4 (mLs dListL (mCons (mV 2) mNil)))
    (sSeq (sTryWeb 5 1 4 7 6 (chkW c_BadWeb) (hnd9 c_BadWeb (m1 dNot (mV 3)) (m2 dEq (mV 4) (mV 2))))
    (sSeq (sIfP (mOr (mNot (mT (mV 3))) (mT (m2 dNe (mV 4) (mV 2)))) (sSeq (sRet (mC (.bl false)))
    sNil)
    sNil)
    (sSeq (sPut 4 (mC (.int 0)) (mTup (mCons (mC (.int 1)) (mCons (mC (.int 0)) mNil))))
    (sSeq (sApp 4 (mTup (mCons (mC (.int 0)) (mCons (mC (.int 1)) mNil))))
    (sSeq (sRet (mAndV (mCall (fun ds => (φ_law_whole ds).nx) (mCons (m1 (dFld ("places" : Str)) (mV 5)) mNil)) (mAndV (m2 dEq (m1 (dFld ("places" : Str)) (mV 5)) (mV 1)) (mAndV (m1 (dIsi "list") (m1 (dFld ("roads" : Str)) (mV 5))) (m2 dEq (m1 (dFld ("roads" : Str)) (mV 5)) (mV 2))))))
    sNil)))))))))
def p_law_k09 (c_BadWeb : Addr) (φ_law_whole φ_law_cell_at φ_law_hurt_k09 φ_law_web_by : List D → Rs D) : List D → Rs D := fun ds => (runM 7 (m_law_k09 c_BadWeb φ_law_whole φ_law_cell_at φ_law_hurt_k09 φ_law_web_by) ds).nx
def P_law_k09 (c_BadWeb : Addr) : List D → Rs D := p_law_k09 c_BadWeb (P_law_whole) (P_law_cell_at) (P_law_hurt_k09) (P_law_web_by)
end Z
set_option Elab.async false
set_option linter.all false
set_option maxRecDepth 100000
set_option maxHeartbeats 4000000
/-! S, part 28: law k09. -/
namespace Z
set_option autoImplicit false
open PySem L2
theorem shps_pairs (n : Nat) : ∀ ps : List (Int × Int), shps (n + 1 + 1) (ps.map pairIJ) = true
  | [] => by simp only [List.map_nil, shps]
  | p :: r => by
    rw [List.map_cons]
    simp only [shps, pairIJ, shp, shps_pairs n r, Bool.and_self]
theorem eq_pairs (ps : List (Int × Int)) : dEq (.lst (ps.map pairIJ)) (.lst (ps.map pairIJ)) = some (.bl true) := dEq_of (deq_same (n := 3) (by simp only [shp]; exact shps_pairs 0 ps) (by decide))
theorem bad_in {m : Int} {ps : List (Int × Int)} {p : Int × Int} (hp : p ∈ ps) (h : okRoad m p = false) : okWeb m ps = false := by
  unfold okWeb
  have e : ps.all (okRoad m) = false := by
    rw [← Bool.not_eq_true, List.all_eq_true]
    intro z
    rw [z p hp] at h
    cases h
  rw [e, Bool.and_false]
theorem bad_len {m : Int} {ps : List (Int × Int)} (h : ps.length = 0 ∨ 10 < ps.length) : okWeb m ps = false := by
  unfold okWeb
  have e : (decide (1 ≤ ps.length) && decide (ps.length ≤ 10)) = false := by
    rw [← Bool.decide_and]
    exact decide_eq_false (by omega)
  rw [e, Bool.and_false, Bool.false_and]
theorem bad_places {m : Int} {ps : List (Int × Int)} (h : m < 2 ∨ 6 < m) : okWeb m ps = false := by
  unfold okWeb
  have e : (decide (2 ≤ m) && decide (m ≤ 6)) = false := by
    rw [← Bool.decide_and]
    exact decide_eq_false (by omega)
  rw [e, Bool.false_and, Bool.false_and]
theorem road_swap (m a b : Int) : okRoad m (b, a) = okRoad m (a, b) := by
  unfold okRoad
  dsimp only
  rw [Bool.and_comm (decide (0 ≤ b) && decide (b < m))]
  congr 2
  exact decide_eq_decide.mpr ⟨fun h => h.symm, fun h => h.symm⟩
theorem road_eq (m a : Int) : okRoad m (a, a) = false := by
  unfold okRoad
  dsimp only
  rw [decide_eq_true rfl, Bool.not_true, Bool.and_false]
theorem road_out {m a b : Int} (h : a < 0 ∨ m ≤ b) : okRoad m (a, b) = false := by
  unfold okRoad
  dsimp only
  have e : (decide (0 ≤ a) && decide (a < m) && (decide (0 ≤ b) && decide (b < m))) = false := by
    rw [← Bool.decide_and, ← Bool.decide_and, ← Bool.decide_and]
    exact decide_eq_false (by omega)
  rw [e, Bool.false_and]
theorem sp_hurt {n : Nat} {rds : List (Nat × Nat)} (hw : WebOk n rds) (cell : Int) : ∃ (m : Int) (ps : List (Int × Int)), P_law_hurt_k09 [.int (n : Int), .lst (rds.map eR), .int cell] = .ok (.tup [.int m, .lst (ps.map pairIJ)]) ∧ okWeb m ps = false := by
  have n2 := hw.n2
  have n6 := hw.n6
  have l1 := hw.l1
  have l10 := hw.l10
  rw [eR_pairs]
  have hpl : (rds.map castP).length = rds.length := List.length_map _
  generalize rds.map castP = qs at hpl
  have hlen : (0 : Int) < (qs.length : Int) := by omega
  have a0 := Int.emod_nonneg (cell / 5) (show (qs.length : Int) ≠ 0 by omega)
  have a1 := Int.emod_lt_of_pos (cell / 5) hlen
  obtain ⟨k, ek⟩ : ∃ k : Nat, cell / 5 % (qs.length : Int) = (k : Int) := ⟨(cell / 5 % (qs.length : Int)).toNat, by omega⟩
  have hk : k < qs.length := by omega
  have c5 : (0 : Int) < 5 ∧ (5 : Int) < 1073741824 := by decide
  have c60 : (0 : Int) < 60 ∧ (60 : Int) < 1073741824 := by decide
  have c240 : (0 : Int) < 240 ∧ (240 : Int) < 1073741824 := by decide
  unfold P_law_hurt_k09 p_law_hurt_k09 m_law_hurt_k09
  let g4 : G := [some (.int (n : Int)), some (.lst (qs.map pairIJ)), some (.int cell), some (.int (cell % 5)), some (.int (k : Int)), none]
  have S2 : ∀ (m : Sta → Rs Ou) (r : Rs Ou), m ⟨[some (.int (n : Int)), some (.lst (qs.map pairIJ)), some (.int cell), some (.int (cell % 5)), some (.int (k : Int)), none], none⟩ = r →
      sSeq (sSet 3 (m2 dMod (mV 2) (mC (.int 5)))) (sSeq (sSet 4 (m2 dMod (m2 dDiv (mV 2) (mC (.int 5))) (mA dLen (mCons (mV 1) mNil)))) m) ⟨startG 6 [.int (n : Int), .lst (qs.map pairIJ), .int cell], none⟩ = r := fun m r hh =>
    sSeq_eq (sSet_eq (m2_eq rfl rfl (dMod_i (by decide)))) (sSeq_eq (sSet_eq (m2_eq (m2_eq rfl rfl (dDiv_i c5)) (mA_eq (mCons_eq rfl rfl) (dLen_map _ _)) ((dMod_i hlen).trans (by rw [ek])))) hh)
  have divmod : ∀ (p q : Int), (0 < p ∧ p < 1073741824) → 0 < q → ∀ g : G, g[2]? = some (some (.int cell)) → m2 dMod (m2 dDiv (mV 2) (mC (.int p))) (mC (.int q)) g = .ok (.int (cell / p % q)) := fun p q hp hq g hg =>
    m2_eq (m2_eq (by unfold mV; rw [hg]) rfl (dDiv_i hp)) rfl (dMod_i hq)
  have n0 : ∀ (m : Int), cell % 5 ≠ m → ∀ g : G, g[3]? = some (some (.int (cell % 5))) → mT (m2 dEq (mV 3) (mC (.int m))) g = .ok false := fun m hm g hg => mT_eq (m2_eq (by unfold mV; rw [hg]) rfl (dEq_f hm))
  have n1 : ∀ (m : Int), cell % 5 = m → ∀ g : G, g[3]? = some (some (.int (cell % 5))) → mT (m2 dEq (mV 3) (mC (.int m))) g = .ok true := fun m hm g hg => mT_eq (m2_eq (by unfold mV; rw [hg]) rfl (dEq_t hm))
  by_cases hc0 : cell % 5 = 0
  · -- places
    have hb : cell / 60 % 3 = 0 ∨ cell / 60 % 3 = 1 ∨ cell / 60 % 3 = 2 := by omega
    obtain ⟨m, e, h⟩ : ∃ m : Int, atI [D.int 1, .int 7, .int 0] (cell / 60 % 3) = some (.int m) ∧ (m < 2 ∨ 6 < m) := by
      rcases hb with hb | hb | hb
      · exact ⟨1, by rw [hb]; rfl, by decide⟩
      · exact ⟨7, by rw [hb]; rfl, by decide⟩
      · exact ⟨0, by rw [hb]; rfl, by decide⟩
    exact ⟨m, qs, runM_rt' (S2 _ _ (sSeq_rt (sIf_t (n1 0 hc0 _ rfl) (sSeq_rt (sRet_eq (mTup_eq (mCons_eq (m2_eq (mLst_eq (mCons_eq rfl (mCons_eq rfl (mCons_eq rfl rfl)))) (divmod 60 3 c60 (by decide) _ rfl) e) (mCons_eq rfl rfl)))))))), bad_places h⟩
  · have f0 := n0 0 hc0
    by_cases hc1 : cell % 5 = 1
    · -- roads
      have hel : m2 dAdd (mV 1) (m2 dMul (mLst (mCons (mTup (mCons (mC (.int 0)) (mCons (mC (.int 1)) mNil))) mNil)) (m2 dSub (mC (.int 11)) (mA dLen (mCons (mV 1) mNil)))) g4 = .ok (.lst ((qs ++ List.replicate (11 - qs.length) (0, 1)).map pairIJ)) := by
        have e6 : (11 : Int) - (qs.length : Int) = ((11 - qs.length : Nat) : Int) := by omega
        refine m2_eq rfl (mul_rep (x := pairIJ (0, 1)) (n := 11 - qs.length) (by omega) (mLst_eq (mCons_eq (mTup_eq (mCons_eq rfl (mCons_eq rfl rfl))) rfl)) (m2_eq rfl (mA_eq (mCons_eq rfl rfl) (dLen_map _ _)) ((dSub_i _ _).trans (by rw [e6])))) ?_
        rw [← rep_map pairIJ]
        exact dAdd_map (by rw [List.length_replicate]; exact Nat.le_trans (show qs.length + (11 - qs.length) ≤ 11 by omega) (by decide))
      have hb : cell / 60 % 2 = 0 ∨ cell / 60 % 2 = 1 := by omega
      rcases hb with hb | hb
      · exact ⟨(n : Int), [], runM_rt' (S2 _ _ (sSeq_eq (sIf_f (f0 _ rfl) rfl) (sSeq_rt (sIf_t (n1 1 hc1 _ rfl) (sSeq_rt (sRet_eq (mTup_eq (mCons_eq rfl (mCons_eq (m2_eq (mLst_eq (mCons_eq rfl (mCons_eq hel rfl))) ((divmod 60 2 c60 (by decide) _ rfl).trans (by rw [hb])) rfl) rfl))))))))), bad_len (.inl rfl)⟩
      · exact ⟨(n : Int), qs ++ List.replicate (11 - qs.length) (0, 1), runM_rt' (S2 _ _ (sSeq_eq (sIf_f (f0 _ rfl) rfl) (sSeq_rt (sIf_t (n1 1 hc1 _ rfl) (sSeq_rt (sRet_eq (mTup_eq (mCons_eq rfl (mCons_eq (m2_eq (mLst_eq (mCons_eq rfl (mCons_eq hel rfl))) ((divmod 60 2 c60 (by decide) _ rfl).trans (by rw [hb])) rfl) rfl))))))))), bad_len (.inr (by rw [List.length_append, List.length_replicate]; omega))⟩
    · have f1 := n0 1 hc1
      obtain ⟨b0, hb0, e0⟩ : ∃ b0, okRoad (n : Int) b0 = false ∧ atI [pairIJ (0, 0), pairIJ ((n : Int) - 1, (n : Int)), pairIJ (-1, 0), pairIJ (0, 10 ^ 9)] (cell / 60 % 4) = some (pairIJ b0) := by
        have hb : cell / 60 % 4 = 0 ∨ cell / 60 % 4 = 1 ∨ cell / 60 % 4 = 2 ∨ cell / 60 % 4 = 3 := by omega
        rcases hb with hb | hb | hb | hb
        · exact ⟨(0, 0), road_eq _ _, by rw [hb]; rfl⟩
        · exact ⟨((n : Int) - 1, (n : Int)), road_out (.inr (Int.le_refl _)), by rw [hb]; rfl⟩
        · exact ⟨(-1, 0), road_out (.inl (by decide)), by rw [hb]; rfl⟩
        · exact ⟨(0, 10 ^ 9), road_out (.inr (by have : (10 : Int) ^ 9 = 1000000000 := by decide
                                                 omega)), by rw [hb]; rfl⟩
      have s5 : sSet 5 (m2 dIx (mLst (mCons (mTup (mCons (mC (.int 0)) (mCons (mC (.int 0)) mNil))) (mCons (mTup (mCons (m2 dSub (mV 0) (mC (.int 1))) (mCons (mV 0) mNil))) (mCons (mTup (mCons (m1 dNeg (mC (.int 1))) (mCons (mC (.int 0)) mNil))) (mCons (mTup (mCons (mC (.int 0)) (mCons (m2 dPow (mC (.int 10)) (mC (.int 9))) mNil))) mNil))))) (m2 dMod (m2 dDiv (mV 2) (mC (.int 60))) (mC (.int 4)))) ⟨[some (.int (n : Int)), some (.lst (qs.map pairIJ)), some (.int cell), some (.int (cell % 5)), some (.int (k : Int)), none], none⟩ =
          .ok (.nx ⟨[some (.int (n : Int)), some (.lst (qs.map pairIJ)), some (.int cell), some (.int (cell % 5)), some (.int (k : Int)), some (pairIJ b0)], none⟩) :=
        sSet_eq (m2_eq (mLst_eq (xs := [pairIJ (0, 0), pairIJ ((n : Int) - 1, (n : Int)), pairIJ (-1, 0), pairIJ (0, 10 ^ 9)]) (mCons_eq (mTup_eq (mCons_eq rfl (mCons_eq rfl rfl))) (mCons_eq (mTup_eq (mCons_eq (m2_eq rfl rfl (dSub_i _ _)) (mCons_eq rfl rfl))) (mCons_eq (mTup_eq (mCons_eq (m1_eq rfl (dNeg_i 1)) (mCons_eq rfl rfl))) (mCons_eq (mTup_eq (mCons_eq rfl (mCons_eq (m2_eq rfl rfl (dPow_i (by decide))) rfl))) rfl))))) (divmod 60 4 c60 (by decide) _ rfl) e0)
      obtain ⟨b1, hb1, s6⟩ : ∃ b1, okRoad (n : Int) b1 = false ∧ sIf (mT (m2 dEq (m2 dMod (m2 dDiv (mV 2) (mC (.int 240))) (mC (.int 2))) (mC (.int 1)))) (sSeq (sSet 5 (mTup (mCons (m2 dIx (mV 5) (mC (.int 1))) (mCons (m2 dIx (mV 5) (mC (.int 0))) mNil)))) sNil) sNil
          ⟨[some (.int (n : Int)), some (.lst (qs.map pairIJ)), some (.int cell), some (.int (cell % 5)), some (.int (k : Int)), some (pairIJ b0)], none⟩ = .ok (.nx ⟨[some (.int (n : Int)), some (.lst (qs.map pairIJ)), some (.int cell), some (.int (cell % 5)), some (.int (k : Int)), some (pairIJ b1)], none⟩) := by
        by_cases hs : cell / 240 % 2 = 1
        · exact ⟨(b0.2, b0.1), by rw [road_swap]; exact hb0, sIf_t (mT_eq (m2_eq (divmod 240 2 c240 (by decide) _ rfl) rfl (dEq_t hs))) (sSeq_nil (sSet_eq (mTup_eq (mCons_eq (m2_eq rfl rfl (atI_1 _ _ _)) (mCons_eq (m2_eq rfl rfl (atI_0 _ _)) rfl)))))⟩
        · exact ⟨b0, hb0, sIf_f (mT_eq (m2_eq (divmod 240 2 c240 (by decide) _ rfl) rfl (dEq_f hs))) rfl⟩
      obtain ⟨b2, hb2, s7⟩ : ∃ b2, okRoad (n : Int) b2 = false ∧ sIf (mT (m2 dEq (mV 3) (mC (.int 2)))) (sSeq (sSet 5 (mTup (mCons (m2 dSub (mV 0) (mC (.int 1))) (mCons (m2 dSub (mV 0) (mC (.int 1))) mNil)))) sNil) sNil
          ⟨[some (.int (n : Int)), some (.lst (qs.map pairIJ)), some (.int cell), some (.int (cell % 5)), some (.int (k : Int)), some (pairIJ b1)], none⟩ = .ok (.nx ⟨[some (.int (n : Int)), some (.lst (qs.map pairIJ)), some (.int cell), some (.int (cell % 5)), some (.int (k : Int)), some (pairIJ b2)], none⟩) := by
        by_cases hs : cell % 5 = 2
        · exact ⟨((n : Int) - 1, (n : Int) - 1), road_eq _ _, sIf_t (n1 2 hs _ rfl) (sSeq_nil (sSet_eq (mTup_eq (mCons_eq (m2_eq rfl rfl (dSub_i _ _)) (mCons_eq (m2_eq rfl rfl (dSub_i _ _)) rfl)))))⟩
        · exact ⟨b1, hb1, sIf_f (n0 2 hs _ rfl) rfl⟩
      refine ⟨(n : Int), qs.take k ++ b2 :: qs.drop (k + 1), runM_rt' (S2 _ _ (sSeq_eq (sIf_f (f0 _ rfl) rfl) (sSeq_eq (sIf_f (f1 _ rfl) rfl) (sSeq_eq s5 (sSeq_eq s6 (sSeq_eq s7 (sSeq_rt (sRet_eq (mTup_eq (mCons_eq rfl (mCons_eq (splice pairIJ qs b2 k (Nat.le_trans (show qs.length + 1 ≤ 11 by omega) (by decide)) rfl rfl rfl rfl ?_) rfl))))))))))), bad_in (List.mem_append_right _ List.mem_cons_self) hb2⟩
      rfl
theorem tail_bad (cW : Addr) {g0 : D} {m : Int} {ps : List (Int × Int)} (hb : okWeb m ps = false) {rest : Sta → Rs Ou} :
    sSeq (sNew 4 (mLs dListL (mCons (mV 2) mNil))) (sSeq (sTryWeb 5 1 4 7 6 (chkW cW) (hnd9 cW (m1 dNot (mV 3)) (m2 dEq (mV 4) (mV 2)))) rest) ⟨[some g0, some (.int m), some (.lst (ps.map pairIJ)), some (.bl false), none, none, none], none⟩ = .ok (.rt (.bl true)) := by
  refine sSeq_eq (sNew_eq (ds := ps.map pairIJ) rfl (by show 4 < 7; decide)) (sSeq_rt ?_)
  unfold sTryWeb
  dsimp only
  rw [if_pos ⟨rfl, by decide, by decide, by decide, rfl⟩]
  show (match asPairs (ps.map pairIJ) with | none => _ | some _ => _) = _
  rw [asPairs_map]
  dsimp only
  have ec : chkW cW m (ps.map pairIJ) = .ex cW none := by
    unfold chkW
    rw [asPairs_map]
    dsimp only
    rw [hb, if_neg Bool.false_ne_true]
  rw [ec]
  dsimp only
  unfold hnd9
  rw [if_pos ⟨rfl, rfl⟩]
  have e1 : m1 dNot (mV 3) [some g0, some (.int m), some (.lst (ps.map pairIJ)), some (.bl false), some (.lst (ps.map pairIJ)), none, none] = .ok (.bl true) := rfl
  have e2 : m2 dEq (mV 4) (mV 2) [some g0, some (.int m), some (.lst (ps.map pairIJ)), some (.bl false), some (.lst (ps.map pairIJ)), none, none] = .ok (.bl true) := m2_eq rfl rfl (eq_pairs ps)
  show (((m1 dNot (mV 3) [some g0, some (.int m), some (.lst (ps.map pairIJ)), some (.bl false), some (.lst (ps.map pairIJ)), none, none]).nx.bind _).nx.bind _) = _
  rw [e1, Rs.nx_ok, Rs.bind_ok]
  dsimp only
  show ((m2 dEq (mV 4) (mV 2) [some g0, some (.int m), some (.lst (ps.map pairIJ)), some (.bl false), some (.lst (ps.map pairIJ)), none, none]).nx.nx.bind _) = _
  rw [e2]
  rfl
theorem main_k09 (cW : Addr) (ns : List Int) (hns : ns.length ≤ 63) : P_law_k09 cW [.scr ns] = .ok (.bl true) := by
  have hw := web_ok ns (show (0 : Int) < 10 by decide) (show (10 : Int) ≤ 10 by decide)
  have w0 := sp_web_by ns (show (0 : Int) < 10 by decide) (show (10 : Int) ≤ 10 by decide)
  generalize webN ns = n at hw w0
  generalize webR ns n (webM ns 10) = rds at hw w0
  have l1 := hw.l1
  have l10 := hw.l10
  unfold P_law_k09 p_law_k09
  refine runM_rt' ?_
  unfold m_law_k09
  refine sSeq_eq (sSet2_eq (mCalln_eq (mCons_eq rfl (mCons_eq rfl rfl)) w0)) ?_
  refine sSeq_eq (sSet_eq (m2_eq (m2_eq (mCalln_eq (mCons_eq rfl (mCons_eq rfl rfl)) (sp_cell_at ns 24)) rfl (dMod_i (by decide))) rfl (dEq_i _ _))) ?_
  by_cases hg : cellAt ns 24 % 3 = 0
  · rw [decide_eq_true hg]
    refine at_st (s' := ⟨[some (.scr ns), some (.int (n : Int)), some (.lst (rds.map eR)), some (.bl true), none, none, none], none⟩) rfl ?_
    refine sSeq_eq (sIf_f (tst (k := !true) (mNot_eq (mT_eq rfl)) rfl) rfl) ?_
    have ha : asPairs (rds.map eR) = some (rds.map castP) := by rw [eR_pairs, asPairs_map]
    have hck := chkW_ok hw cW
    have hlen : (rds.map eR).length = rds.length := List.length_map _
    refine sSeq_eq (sNew_eq (ds := rds.map eR) rfl (by show 4 < 7; decide)) ?_
    refine sSeq_eq (s' := ⟨[some (.scr ns), some (.int (n : Int)), some (.lst (rds.map eR)), some (.bl true), none, some (webD n rds), none], some (4, rds.map eR)⟩) ?_ ?_
    · unfold sTryWeb
      dsimp only
      rw [if_pos ⟨rfl, by decide, by decide, by decide, rfl⟩]
      show (match asPairs (rds.map eR) with | none => _ | some _ => _) = _
      rw [ha]
      dsimp only
      rw [hck]
      rfl
    · refine sSeq_eq (s' := ⟨[some (.scr ns), some (.int (n : Int)), some (.lst (rds.map eR)), some (.bl true), none, some (webD n rds), none], some (4, rds.map eR)⟩) ?_ ?_
      · have e : mOr (mNot (mT (mV 3))) (mT (m2 dNe (mV 4) (mV 2))) [some (.scr ns), some (.int (n : Int)), some (.lst (rds.map eR)), some (.bl true), some (.lst (rds.map eR)), some (webD n rds), none] = .ok false :=
          tst (mOr_eq (mNot_eq (mT_eq rfl)) fun _ => mT_eq (m2_eq rfl rfl (ne_eR rds))) rfl
        show ((mOr (mNot (mT (mV 3))) (mT (m2 dNe (mV 4) (mV 2))) [some (.scr ns), some (.int (n : Int)), some (.lst (rds.map eR)), some (.bl true), some (.lst (rds.map eR)), some (webD n rds), none]).nx.bind _) = _
        rw [e]
        rfl
      · refine sSeq_eq (sPut_eq (n := 0) (d := .tup [.int 1, .int 0]) rfl rfl (by rw [hlen]; omega)) ?_
        refine sSeq_eq (sApp_eq (d := .tup [.int 0, .int 1]) rfl (by rw [List.length_set, hlen]; exact Nat.le_trans l10 (by decide))) ?_
        generalize (rds.map eR).set 0 (D.tup [.int 1, .int 0]) ++ [.tup [.int 0, .int 1]] = given
        refine sSeq_rt (sRet_eq ?_)
        have e1 : mCall (fun ds => (P_law_whole ds).nx) (mCons (m1 (dFld ("places" : Str)) (mV 5)) mNil) [some (.scr ns), some (.int (n : Int)), some (.lst (rds.map eR)), some (.bl true), none, some (webD n rds), none] = .ok (.bl true) := mCalln_eq (mCons_eq (m1_eq rfl rfl) rfl) (sp_whole_i _)
        have e2 : m2 dEq (m1 (dFld ("places" : Str)) (mV 5)) (mV 1) [some (.scr ns), some (.int (n : Int)), some (.lst (rds.map eR)), some (.bl true), none, some (webD n rds), none] = .ok (.bl true) := m2_eq (m1_eq rfl rfl) rfl (dEq_t rfl)
        have e3 : m1 (dIsi "list") (m1 (dFld ("roads" : Str)) (mV 5)) [some (.scr ns), some (.int (n : Int)), some (.lst (rds.map eR)), some (.bl true), none, some (webD n rds), none] = .ok (.bl true) := m1_eq (m1_eq rfl rfl) (isi_list _)
        have e4 : m2 dEq (m1 (dFld ("roads" : Str)) (mV 5)) (mV 2) [some (.scr ns), some (.int (n : Int)), some (.lst (rds.map eR)), some (.bl true), none, some (webD n rds), none] = .ok (.bl true) := m2_eq (m1_eq rfl rfl) rfl (by rw [eR_pairs]; exact eq_pairs _)
        exact mAndV_eq e1 fun _ => mAndV_eq e2 fun _ => mAndV_eq e3 fun _ => e4
  · rw [decide_eq_false hg]
    obtain ⟨m, ps, hh, hb⟩ := sp_hurt hw (cellAt ns 24 / 3)
    refine at_st (s' := ⟨[some (.scr ns), some (.int (n : Int)), some (.lst (rds.map eR)), some (.bl false), none, none, none], none⟩) rfl ?_
    refine sSeq_eq (s' := ⟨[some (.scr ns), some (.int m), some (.lst (ps.map pairIJ)), some (.bl false), none, none, none], none⟩) (sIf_t (tst (k := !false) (mNot_eq (mT_eq rfl)) rfl) (sSeq_nil (sSet2_eq (mCalln_eq (mCons_eq rfl (mCons_eq rfl (mCons_eq (m2_eq (mCalln_eq (mCons_eq rfl (mCons_eq rfl rfl)) (sp_cell_at ns 24)) rfl (dDiv_i (by decide))) rfl))) hh)))) ?_
    exact tail_bad cW hb
end Z
set_option Elab.async false
set_option linter.all false
set_option maxRecDepth 100000
set_option maxHeartbeats 8000000
namespace Z
set_option autoImplicit false
open PySem L2
def top (i : Nat) : Stmt := PySem.Challenge.pw_truthtoll_k09_webs.main.body.getD i (.Pass ⟨0, 0, 0, 0⟩)
structure Tx (K : PySem.W.Frag) (mg : Str → Option Value) (C : Addr) (c_BadWeb : Addr) (c_TollError : Addr) : Prop where
  b_ValueError : mg "ValueError" = none
  b_bool : mg "bool" = none
  b_int : mg "int" = none
  b_isinstance : mg "isinstance" = none
  b_len : mg "len" = none
  b_list : mg "list" = none
  b_range : mg "range" = none
  x_BadWeb : PySem.W.excIn K c_BadWeb He.veBase "ValueError.__new__" = true
  g_BadWeb : mg "BadWeb" = some (.ref c_BadWeb)
  k_BadWeb : PySem.W.keepIn K (.ref c_BadWeb) = true
  s_BadWeb : PySem.W.subIn K (.ref c_BadWeb) (.type "BaseException") = some true
  t_BadWeb : PySem.W.typeIn K (.ref c_BadWeb) = some (.type "type")
  webC : Cls K C
  no_places : NoAttr K C "places"
  no_roads : NoAttr K C "roads"
  f_BadWeb : ExF K c_BadWeb
  m_BadWeb_BadWeb : PySem.W.exmOne K (.ref c_BadWeb) (.ref c_BadWeb) = some true
  g_TollError : mg "TollError" = some (.ref c_TollError)
  i_BadWeb_ValueError : PySem.W.kitOne K (.ref c_BadWeb) (.type "ValueError") = some true
  i_BadWeb_TollError : PySem.W.kitOne K (.ref c_BadWeb) (.ref c_TollError) = some true
section
variable {P : Program} {w : World} {K : PySem.W.Frag} {mg : Str → Option Value} {base : Heap} {C : Addr} {c_BadWeb : Addr} {c_TollError : Addr}
abbrev s_Web0 : Stmt := inClass (top 4) 0
theorem sc_Web0 : FnScope ["self", "places", "roads", "one", "two"] ["self", "places", "roads"] (defScope s_Web0) := ⟨rfl, rfl, rfl, by decide +kernel, rfl, by decide +kernel, by decide +kernel⟩
set_option maxRecDepth 100000 in
theorem cal_Web (T : Tx K mg C c_BadWeb c_TollError) (D_Web : DnW K mg C s_Web0) : CalW P w K mg base C 1 (chkW c_BadWeb) :=
  calW_of (cb := m_webchk c_BadWeb) D_Web sc_Web0 (webchk_spec c_BadWeb) (fun f cdv A outer s H E hr => ⟨_, z_pre2 (z_if (y_w (w_or (y_not (y_chLeLe x_int (x_v 1) x_int)) (w_or1 (y_not (y_chLeLe x_int (x_len T.b_len (a_cons (x_v 2) a_nil)) x_int))))) (z_cons (z_raise rfl (takes_of rfl rfl rfl rfl) T.x_BadWeb T.g_BadWeb T.k_BadWeb (raises_own T.s_BadWeb T.t_BadWeb) PySem.F.excBase_ValueError)
    z_nil)
    z_nil)
    (z_for (T := .two 3 4) [3, 4] (passes_of rfl) rfl (i_list (x_v 2)) (g_two sc_Web0.nd rfl rfl (Or.inl rfl) (Or.inl rfl) rfl)
    (z_cons (z_if (y_w (w_or (y_not (y_chLeLt x_int (x_v 3) (x_v 1))) (w_or (y_not (y_chLeLt x_int (x_v 4) (x_v 1))) (w_or1 (y_eq hr.units (x_v 3) (x_v 4)))))) (z_cons (z_raise rfl (takes_of rfl rfl rfl rfl) T.x_BadWeb T.g_BadWeb T.k_BadWeb (raises_own T.s_BadWeb T.t_BadWeb) PySem.F.excBase_ValueError)
    z_nil)
    z_nil)
    z_nil))
    (pss_cons (ps_fld (pv 0) (pv 1) rfl) (pss_cons (ps_fld (pv 0) (pe_callTy call_list_of rfl T.b_list (by decide +kernel) (pa_cons (pv 2) pa_nil) (by decide) (by decide)) rfl) pss_nil))⟩)
abbrev s_law_cell_at : Stmt := top 6
theorem sc_law_cell_at : FnScope ["script", "k"] ["script", "k"] (defScope s_law_cell_at) := ⟨rfl, rfl, rfl, by decide +kernel, rfl, by decide +kernel, by decide +kernel⟩
set_option maxRecDepth 100000 in
theorem ok_law_cell_at {k : Nat} (T : Tx K mg C c_BadWeb c_TollError) (hd : Dn K mg "_law_cell_at" s_law_cell_at ["script", "k"]) : Cal P w K mg base C CX0 (k + 1) "_law_cell_at" 2 (p_law_cell_at) := by
  obtain ⟨f, fd, F, g, b⟩ := hd
  exact ⟨f, fd, _, def_ok F sc_law_cell_at (fun cdv A outer s H E hr => ⟨_,
    (z_cons (z_if (y_lt (x_v 1) (x_len T.b_len (a_cons (x_v 0) a_nil))) (z_cons (z_ret (x_ix (x_v 0) (x_v 1)))
    z_nil)
    z_nil)
    (z_cons (z_ret x_int)
    z_nil))⟩), g, F.kp, b⟩
abbrev s_law_mix : Stmt := top 7
theorem sc_law_mix : FnScope ["cell", "k", "many", "some", "stir"] ["cell", "k", "many"] (defScope s_law_mix) := ⟨rfl, rfl, rfl, by decide +kernel, rfl, by decide +kernel, by decide +kernel⟩
set_option maxRecDepth 100000 in
theorem ok_law_mix {k : Nat} (T : Tx K mg C c_BadWeb c_TollError) (hd : Dn K mg "_law_mix" s_law_mix ["cell", "k", "many"]) : Cal P w K mg base C CX0 (k + 1) "_law_mix" 3 (p_law_mix) := by
  obtain ⟨f, fd, F, g, b⟩ := hd
  exact ⟨f, fd, _, def_ok F sc_law_mix (fun cdv A outer s H E hr => ⟨_,
    (z_cons (z_set (i := 3) sc_law_mix.nd rfl (Or.inl rfl) (x_l (l_lst (n := 13) (by decide) (a_cons x_int (a_cons x_int (a_cons x_int (a_cons x_int (a_cons x_int (a_cons x_int (a_cons x_int (a_cons x_int (a_cons x_int (a_cons x_int (a_cons x_int (a_cons x_int (a_cons x_int a_nil))))))))))))) (mCons_len (mCons_len (mCons_len (mCons_len (mCons_len (mCons_len (mCons_len (mCons_len (mCons_len (mCons_len (mCons_len (mCons_len (mCons_len mNil_len))))))))))))))))
    (z_cons (z_set (i := 4) sc_law_mix.nd rfl (Or.inl rfl) (x_add (x_add (x_mul (x_add (x_mod (x_v 0) x_int) x_int) (x_ix (x_v 3) (x_mod (x_v 1) x_int))) (x_mul x_int (x_v 1))) (x_mul x_int (x_div (x_v 1) x_int))))
    (z_cons (z_set (i := 4) sc_law_mix.nd rfl (Or.inl rfl) (x_mod (x_v 4) x_int))
    (z_cons (z_ret (x_mod (x_div (x_mod (x_add (x_mul (x_v 4) (x_v 4)) (x_mul x_int (x_v 1))) x_int) x_int) (x_v 2)))
    z_nil))))⟩), g, F.kp, b⟩
abbrev s_law_whole : Stmt := top 8
theorem sc_law_whole : FnScope ["found"] ["found"] (defScope s_law_whole) := ⟨rfl, rfl, rfl, by decide +kernel, rfl, by decide +kernel, by decide +kernel⟩
set_option maxRecDepth 100000 in
theorem ok_law_whole {k : Nat} (T : Tx K mg C c_BadWeb c_TollError) (hd : Dn K mg "_law_whole" s_law_whole ["found"]) : Cal P w K mg base C CX0 (k + 1) "_law_whole" 1 (p_law_whole) := by
  obtain ⟨f, fd, F, g, b⟩ := hd
  exact ⟨f, fd, _, def_ok F sc_law_whole (fun cdv A outer s H E hr => ⟨_,
    (z_cons (z_ret (x_and (x_isi (T := "int") (Tn := "int") T.b_isinstance T.b_int (by decide +kernel) (x_v 0)) (x_one (x_not (x_isi (T := "bool") (Tn := "bool") T.b_isinstance T.b_bool (by decide +kernel) (x_v 0))))))
    z_nil)⟩), g, F.kp, b⟩
abbrev s_law_web_by : Stmt := top 9
theorem sc_law_web_by : FnScope ["script", "most", "places", "many", "roads", "k", "cell", "one"] ["script", "most"] (defScope s_law_web_by) := ⟨rfl, rfl, rfl, by decide +kernel, rfl, by decide +kernel, by decide +kernel⟩
set_option maxRecDepth 100000 in
theorem ok_law_web_by {k : Nat} {φ_law_mix φ_law_cell_at : List D → Rs D} (T : Tx K mg C c_BadWeb c_TollError) (hd : Dn K mg "_law_web_by" s_law_web_by ["script", "most"]) {l_law_mix : Nat} (hl_law_mix : l_law_mix ≤ k) (h_law_mix : Cal P w K mg base C CX0 l_law_mix "_law_mix" 3 φ_law_mix) {l_law_cell_at : Nat} (hl_law_cell_at : l_law_cell_at ≤ k) (h_law_cell_at : Cal P w K mg base C CX0 l_law_cell_at "_law_cell_at" 2 φ_law_cell_at) : Cal P w K mg base C CX0 (k + 1) "_law_web_by" 2 (p_law_web_by φ_law_mix φ_law_cell_at) := by
  obtain ⟨f, fd, F, g, b⟩ := hd
  obtain ⟨f_law_mix, fd_law_mix, ps_law_mix, G_law_mix, g_law_mix, k_law_mix, b_law_mix⟩ := h_law_mix
  obtain ⟨f_law_cell_at, fd_law_cell_at, ps_law_cell_at, G_law_cell_at, g_law_cell_at, k_law_cell_at, b_law_cell_at⟩ := h_law_cell_at
  exact ⟨f, fd, _, def_ok F sc_law_web_by (fun cdv A outer s H E hr => ⟨_,
    (z_cons (z_set (i := 2) sc_law_web_by.nd rfl (Or.inl rfl) (x_add x_int (x_mod (x_call (n := 2) (mCons_len (mCons_len mNil_len)) G_law_cell_at (hr.mono hl_law_cell_at) g_law_cell_at k_law_cell_at b_law_cell_at (a_cons (x_v 0) (a_cons x_int a_nil))) x_int)))
    (z_cons (z_set (i := 3) sc_law_web_by.nd rfl (Or.inl rfl) (x_add x_int (x_mod (x_call (n := 2) (mCons_len (mCons_len mNil_len)) G_law_cell_at (hr.mono hl_law_cell_at) g_law_cell_at k_law_cell_at b_law_cell_at (a_cons (x_v 0) (a_cons x_int a_nil))) (x_v 1))))
    (z_cons (z_new (i := 4) sc_law_web_by.nd rfl (Or.inl rfl) (l_lst (n := 0) (by decide) a_nil mNil_len))
    (z_cons (z_for (T := .one 5) [1, 3, 5, 6, 7] PassesOwn.never rfl (i_rng1 T.b_range (a_cons (x_v 3) a_nil)) (g_one sc_law_web_by.nd rfl (Or.inl rfl))
    (z_cons (z_set (i := 6) sc_law_web_by.nd rfl (Or.inl rfl) (x_call (n := 2) (mCons_len (mCons_len mNil_len)) G_law_cell_at (hr.mono hl_law_cell_at) g_law_cell_at k_law_cell_at b_law_cell_at (a_cons (x_v 0) (a_cons (x_add x_int (x_v 5)) a_nil))))
    (z_cons (z_set (i := 7) sc_law_web_by.nd rfl (Or.inl rfl) (x_call (n := 3) (mCons_len (mCons_len (mCons_len mNil_len))) G_law_mix (hr.mono hl_law_mix) g_law_mix k_law_mix b_law_mix (a_cons (x_v 6) (a_cons x_int (a_cons (x_v 2) a_nil)))))
    (z_cons (z_if (y_w (w_and (y_lt (x_v 5) (x_v 2)) (w_and1 (y_gt (x_mod (x_call (n := 2) (mCons_len (mCons_len mNil_len)) G_law_cell_at (hr.mono hl_law_cell_at) g_law_cell_at k_law_cell_at b_law_cell_at (a_cons (x_v 0) (a_cons x_int a_nil))) x_int) x_int)))) (z_cons (z_set (i := 7) sc_law_web_by.nd rfl (Or.inl rfl) (x_v 5))
    z_nil)
    z_nil)
    (z_cons (z_app (i := 4) rfl (Or.inl rfl) (x_tup (n := 2) (by decide) (a_cons (x_v 7) (a_cons (x_mod (x_add (x_add (x_v 7) x_int) (x_call (n := 3) (mCons_len (mCons_len (mCons_len mNil_len))) G_law_mix (hr.mono hl_law_mix) g_law_mix k_law_mix b_law_mix (a_cons (x_v 6) (a_cons x_int (a_cons (x_sub (x_v 2) x_int) a_nil))))) (x_v 2)) a_nil)) (mCons_len (mCons_len mNil_len))))
    z_nil)))))
    (z_cons (z_frz (z_ret (x_tup (n := 2) (by decide) (a_cons (x_v 2) (a_cons (x_v 4) a_nil)) (mCons_len (mCons_len mNil_len)))))
    z_nil)))))⟩), g, F.kp, b⟩
abbrev s_law_costs_by : Stmt := top 10
abbrev s_law_kind_by : Stmt := top 11
abbrev s_law_hurt_k09 : Stmt := top 12
theorem sc_law_hurt_k09 : FnScope ["places", "roads", "cell", "way", "at", "bad"] ["places", "roads", "cell"] (defScope s_law_hurt_k09) := ⟨rfl, rfl, rfl, by decide +kernel, rfl, by decide +kernel, by decide +kernel⟩
set_option maxRecDepth 100000 in
theorem ok_law_hurt_k09 {k : Nat} (T : Tx K mg C c_BadWeb c_TollError) (hd : Dn K mg "_law_hurt" s_law_hurt_k09 ["places", "roads", "cell"]) : Cal P w K mg base C CX0 (k + 1) "_law_hurt" 3 (p_law_hurt_k09) := by
  obtain ⟨f, fd, F, g, b⟩ := hd
  exact ⟨f, fd, _, def_ok F sc_law_hurt_k09 (fun cdv A outer s H E hr => ⟨_,
    (z_cons (z_set (i := 3) sc_law_hurt_k09.nd rfl (Or.inl rfl) (x_mod (x_v 2) x_int))
    (z_cons (z_set (i := 4) sc_law_hurt_k09.nd rfl (Or.inl rfl) (x_mod (x_div (x_v 2) x_int) (x_len T.b_len (a_cons (x_v 1) a_nil))))
    (z_cons (z_if (y_eq hr.units (x_v 3) x_int) (z_cons (z_ret (x_tup (n := 2) (by decide) (a_cons (x_ix (x_l (l_lst (n := 3) (by decide) (a_cons x_int (a_cons x_int (a_cons x_int a_nil))) (mCons_len (mCons_len (mCons_len mNil_len))))) (x_mod (x_div (x_v 2) x_int) x_int)) (a_cons (x_v 1) a_nil)) (mCons_len (mCons_len mNil_len))))
    z_nil)
    z_nil)
    (z_cons (z_if (y_eq hr.units (x_v 3) x_int) (z_cons (z_ret (x_tup (n := 2) (by decide) (a_cons (x_v 0) (a_cons (x_ix (x_l (l_lst (n := 2) (by decide) (a_cons (x_l (l_lst (n := 0) (by decide) a_nil mNil_len)) (a_cons (x_add (x_v 1) (x_mul (x_l (l_lst (n := 1) (by decide) (a_cons (x_tup (n := 2) (by decide) (a_cons x_int (a_cons x_int a_nil)) (mCons_len (mCons_len mNil_len))) a_nil) (mCons_len mNil_len))) (x_sub x_int (x_len T.b_len (a_cons (x_v 1) a_nil))))) a_nil)) (mCons_len (mCons_len mNil_len)))) (x_mod (x_div (x_v 2) x_int) x_int)) a_nil)) (mCons_len (mCons_len mNil_len))))
    z_nil)
    z_nil)
    (z_cons (z_set (i := 5) sc_law_hurt_k09.nd rfl (Or.inl rfl) (x_ix (x_l (l_lst (n := 4) (by decide) (a_cons (x_tup (n := 2) (by decide) (a_cons x_int (a_cons x_int a_nil)) (mCons_len (mCons_len mNil_len))) (a_cons (x_tup (n := 2) (by decide) (a_cons (x_sub (x_v 0) x_int) (a_cons (x_v 0) a_nil)) (mCons_len (mCons_len mNil_len))) (a_cons (x_tup (n := 2) (by decide) (a_cons (x_neg x_int) (a_cons x_int a_nil)) (mCons_len (mCons_len mNil_len))) (a_cons (x_tup (n := 2) (by decide) (a_cons x_int (a_cons (x_pow x_int x_int) a_nil)) (mCons_len (mCons_len mNil_len))) a_nil)))) (mCons_len (mCons_len (mCons_len (mCons_len mNil_len)))))) (x_mod (x_div (x_v 2) x_int) x_int)))
    (z_cons (z_if (y_eq hr.units (x_mod (x_div (x_v 2) x_int) x_int) x_int) (z_cons (z_set (i := 5) sc_law_hurt_k09.nd rfl (Or.inl rfl) (x_tup (n := 2) (by decide) (a_cons (x_ix (x_v 5) x_int) (a_cons (x_ix (x_v 5) x_int) a_nil)) (mCons_len (mCons_len mNil_len))))
    z_nil)
    z_nil)
    (z_cons (z_if (y_eq hr.units (x_v 3) x_int) (z_cons (z_set (i := 5) sc_law_hurt_k09.nd rfl (Or.inl rfl) (x_tup (n := 2) (by decide) (a_cons (x_sub (x_v 0) x_int) (a_cons (x_sub (x_v 0) x_int) a_nil)) (mCons_len (mCons_len mNil_len))))
    z_nil)
    z_nil)
    (z_cons (z_ret (x_tup (n := 2) (by decide) (a_cons (x_v 0) (a_cons (x_add (x_add (x_sl (x_v 1) o_n (o_s (x_v 4))) (x_l (l_lst (n := 1) (by decide) (a_cons (x_v 5) a_nil) (mCons_len mNil_len)))) (x_sl (x_v 1) (o_s (x_add (x_v 4) x_int)) o_n)) a_nil)) (mCons_len (mCons_len mNil_len))))
    z_nil))))))))⟩), g, F.kp, b⟩
abbrev s_law_k09 : Stmt := top 13
theorem sc_law_k09 : FnScope ["script", "places", "roads", "good", "handed", "web", "e"] ["script"] (defScope s_law_k09) := ⟨rfl, rfl, rfl, by decide +kernel, rfl, by decide +kernel, by decide +kernel⟩
set_option maxRecDepth 100000 in
theorem ok_law_k09 {k : Nat} {φ_law_whole φ_law_cell_at φ_law_hurt_k09 φ_law_web_by : List D → Rs D} (T : Tx K mg C c_BadWeb c_TollError) {f : Addr} {fd : FuncData} (F : Fun K "law" "law" s_law_k09 f fd) {l_law_whole : Nat} (hl_law_whole : l_law_whole ≤ k) (h_law_whole : Cal P w K mg base C CX0 l_law_whole "_law_whole" 1 φ_law_whole) {l_law_cell_at : Nat} (hl_law_cell_at : l_law_cell_at ≤ k) (h_law_cell_at : Cal P w K mg base C CX0 l_law_cell_at "_law_cell_at" 2 φ_law_cell_at) {l_law_hurt_k09 : Nat} (hl_law_hurt_k09 : l_law_hurt_k09 ≤ k) (h_law_hurt_k09 : Cal P w K mg base C CX0 l_law_hurt_k09 "_law_hurt" 3 φ_law_hurt_k09) {l_law_web_by : Nat} (hl_law_web_by : l_law_web_by ≤ k) (h_law_web_by : Cal P w K mg base C CX0 l_law_web_by "_law_web_by" 2 φ_law_web_by) {l_Web : Nat} (hl_Web : l_Web + 1 ≤ k) (h_Web : CalW P w K mg base C l_Web (chkW c_BadWeb)) : FnOk P w K mg base CX0 (k + 1) f fd ["script"] (spM K C 1 (p_law_k09 c_BadWeb φ_law_whole φ_law_cell_at φ_law_hurt_k09 φ_law_web_by)) := by
  obtain ⟨f_law_whole, fd_law_whole, ps_law_whole, G_law_whole, g_law_whole, k_law_whole, b_law_whole⟩ := h_law_whole
  obtain ⟨f_law_cell_at, fd_law_cell_at, ps_law_cell_at, G_law_cell_at, g_law_cell_at, k_law_cell_at, b_law_cell_at⟩ := h_law_cell_at
  obtain ⟨f_law_hurt_k09, fd_law_hurt_k09, ps_law_hurt_k09, G_law_hurt_k09, g_law_hurt_k09, k_law_hurt_k09, b_law_hurt_k09⟩ := h_law_hurt_k09
  obtain ⟨f_law_web_by, fd_law_web_by, ps_law_web_by, G_law_web_by, g_law_web_by, k_law_web_by, b_law_web_by⟩ := h_law_web_by
  exact def_ok F sc_law_k09 (fun cdv A outer s H E hr => ⟨_,
    (z_cons (z_set2 (i := 1) (j := 2) (x_call (n := 2) (mCons_len (mCons_len mNil_len)) G_law_web_by (hr.mono hl_law_web_by) g_law_web_by k_law_web_by b_law_web_by (a_cons (x_v 0) (a_cons x_int a_nil))) (g_two sc_law_k09.nd rfl rfl (Or.inl rfl) (Or.inl rfl) rfl))
    (z_cons (z_set (i := 3) sc_law_k09.nd rfl (Or.inl rfl) (x_eq hr.units (x_mod (x_call (n := 2) (mCons_len (mCons_len mNil_len)) G_law_cell_at (hr.mono hl_law_cell_at) g_law_cell_at k_law_cell_at b_law_cell_at (a_cons (x_v 0) (a_cons x_int a_nil))) x_int) x_int))
    (z_cons (z_if (y_not (y_val (x_v 3))) (z_cons (z_set2 (i := 1) (j := 2) (x_call (n := 3) (mCons_len (mCons_len (mCons_len mNil_len))) G_law_hurt_k09 (hr.mono hl_law_hurt_k09) g_law_hurt_k09 k_law_hurt_k09 b_law_hurt_k09 (a_cons (x_v 1) (a_cons (x_v 2) (a_cons (x_div (x_call (n := 2) (mCons_len (mCons_len mNil_len)) G_law_cell_at (hr.mono hl_law_cell_at) g_law_cell_at k_law_cell_at b_law_cell_at (a_cons (x_v 0) (a_cons x_int a_nil))) x_int) a_nil)))) (g_two sc_law_k09.nd rfl rfl (Or.inl rfl) (Or.inl rfl) rfl))
    z_nil)
    z_nil)
    (z_cons (z_new (i := 4) sc_law_k09.nd rfl (Or.inl rfl) (l_list T.b_list (a_cons (x_v 2) a_nil)))
    (z_cons (z_tryWeb (v := 5) (p := 1) (h := 4) (n := 7) (i := 6) rfl rfl sc_law_k09.nd rfl rfl (Or.inl rfl) ⟨rfl, by decide, Or.inl T.g_BadWeb⟩ T.b_isinstance T.g_TollError T.b_ValueError (by decide +kernel) h_Web hr hl_Web rfl (Or.inl rfl) (fun _ _ => pv 1) (fun _ _ => pv 4) (fun _ _ _ => (x_not (x_v 3))) (fun _ _ _ => (x_eq hr.units (x_v 4) (x_v 2)))
    T.f_BadWeb T.m_BadWeb_BadWeb T.i_BadWeb_TollError T.i_BadWeb_ValueError)
    (z_cons (z_ifP (y_w (w_or (y_not (y_val (x_v 3))) (w_or1 (y_ne hr.units (x_v 4) (x_v 2))))) (z_cons (z_ret x_bl)
    z_nil)
    z_nil)
    (z_cons (z_put (i := 4) rfl (Or.inl rfl) (x_tup (n := 2) (by decide) (a_cons x_int (a_cons x_int a_nil)) (mCons_len (mCons_len mNil_len))) x_int)
    (z_cons (z_app (i := 4) rfl (Or.inl rfl) (x_tup (n := 2) (by decide) (a_cons x_int (a_cons x_int a_nil)) (mCons_len (mCons_len mNil_len))))
    (z_cons (z_ret (x_and (x_call (n := 1) (mCons_len mNil_len) G_law_whole (hr.mono hl_law_whole) g_law_whole k_law_whole b_law_whole (a_cons (x_fld T.webC T.no_places (x_v 5)) a_nil)) (x_and (x_eq hr.units (x_fld T.webC T.no_places (x_v 5)) (x_v 1)) (x_and (x_isi (T := "list") (Tn := "list") T.b_isinstance T.b_list (by decide +kernel) (x_fld T.webC T.no_roads (x_v 5))) (x_one (x_eq hr.units (x_fld T.webC T.no_roads (x_v 5)) (x_v 2)))))))
    z_nil)))))))))⟩)
theorem cal_law_cell_at (T : Tx K mg C c_BadWeb c_TollError) (D_law_cell_at : Dn K mg "_law_cell_at" s_law_cell_at ["script", "k"]) : Cal P w K mg base C CX0 1 "_law_cell_at" 2 (P_law_cell_at) :=
  ok_law_cell_at (k := 0) T D_law_cell_at
theorem cal_law_mix (T : Tx K mg C c_BadWeb c_TollError) (D_law_mix : Dn K mg "_law_mix" s_law_mix ["cell", "k", "many"]) : Cal P w K mg base C CX0 1 "_law_mix" 3 (P_law_mix) :=
  ok_law_mix (k := 0) T D_law_mix
theorem cal_law_whole (T : Tx K mg C c_BadWeb c_TollError) (D_law_whole : Dn K mg "_law_whole" s_law_whole ["found"]) : Cal P w K mg base C CX0 1 "_law_whole" 1 (P_law_whole) :=
  ok_law_whole (k := 0) T D_law_whole
theorem cal_law_web_by (T : Tx K mg C c_BadWeb c_TollError) (D_law_mix : Dn K mg "_law_mix" s_law_mix ["cell", "k", "many"]) (D_law_cell_at : Dn K mg "_law_cell_at" s_law_cell_at ["script", "k"]) (D_law_web_by : Dn K mg "_law_web_by" s_law_web_by ["script", "most"]) : Cal P w K mg base C CX0 2 "_law_web_by" 2 (P_law_web_by) :=
  ok_law_web_by (k := 1) T D_law_web_by (by decide) (cal_law_mix T D_law_mix) (by decide) (cal_law_cell_at T D_law_cell_at)
theorem cal_law_hurt_k09 (T : Tx K mg C c_BadWeb c_TollError) (D_law_hurt_k09 : Dn K mg "_law_hurt" s_law_hurt_k09 ["places", "roads", "cell"]) : Cal P w K mg base C CX0 1 "_law_hurt" 3 (P_law_hurt_k09) :=
  ok_law_hurt_k09 (k := 0) T D_law_hurt_k09
theorem cal_law (T : Tx K mg C c_BadWeb c_TollError) (D_law_whole : Dn K mg "_law_whole" s_law_whole ["found"]) (D_law_cell_at : Dn K mg "_law_cell_at" s_law_cell_at ["script", "k"]) (D_law_hurt_k09 : Dn K mg "_law_hurt" s_law_hurt_k09 ["places", "roads", "cell"]) (D_law_mix : Dn K mg "_law_mix" s_law_mix ["cell", "k", "many"]) (D_law_web_by : Dn K mg "_law_web_by" s_law_web_by ["script", "most"]) (D_Web : DnW K mg C s_Web0) {f : Addr} {fd : FuncData} (F : Fun K "law" "law" s_law_k09 f fd) : FnOk P w K mg base CX0 3 f fd ["script"] (spM K C 1 (P_law_k09 c_BadWeb)) :=
  ok_law_k09 (k := 2) T F (by decide) (cal_law_whole T D_law_whole) (by decide) (cal_law_cell_at T D_law_cell_at) (by decide) (cal_law_hurt_k09 T D_law_hurt_k09) (by decide) (cal_law_web_by T D_law_mix D_law_cell_at D_law_web_by) (by decide) (cal_Web T D_Web)
end
def fnD : List He.DefD := [dat "_law_cell_at" s_law_cell_at, dat "_law_mix" s_law_mix, dat "_law_whole" s_law_whole, dat "_law_web_by" s_law_web_by, dat "_law_costs_by" s_law_costs_by, dat "_law_kind_by" s_law_kind_by, dat "_law_hurt" s_law_hurt_k09, dat "law" s_law_k09, datM "Web" "__init__" "Web.__init__" s_Web0]
def faD : List He.Fa := [.glo "_law_cell_at", .glo "_law_mix", .glo "_law_whole", .glo "_law_web_by", .glo "_law_costs_by", .glo "_law_kind_by", .glo "_law_hurt", .glo "law", .free "ValueError", .free "bool", .free "int", .free "isinstance", .free "len", .free "list", .free "range", .glo "BadWeb", .exc "BadWeb", .glo "TollError", .glo "Web", .cls "Web", .mkr "Web", .noat "Web" "places", .noat "Web" "roads"]
abbrev RR : PySem.W.OpenRow := PySem.W.OpenLaw.row PySem.Challenge.rw_truthtoll_k09_webs
def exL (K : PySem.W.Frag) : List Bool := [exFB K (He.ga K "BadWeb"),
  decide (PySem.W.exmOne K (.ref (He.ga K "BadWeb")) (.ref (He.ga K "BadWeb")) = some true),
  decide (PySem.W.kitOne K (.ref (He.ga K "BadWeb")) (.type "ValueError") = some true),
  decide (PySem.W.kitOne K (.ref (He.ga K "BadWeb")) (.ref (He.ga K "TollError")) = some true)]
def exD (K : PySem.W.Frag) : Bool := (exL K).all id
theorem exD_at {K : PySem.W.Frag} (h : exD K = true) {i : Nat} {b : Bool} (e : (exL K)[i]? = some b) : b = true := List.all_eq_true.mp h b (List.mem_of_getElem? e)
abbrev hkD : PySem.W.Hook := He.hookX 4 faD fnD [] [] exD
def obD (s : PySem.W.SharedT) : He.AlX := He.obsX 4 faD fnD [] [] exD (HandSHeadRun.getT s)
theorem obD_eq (s : PySem.W.SharedT) : obD s = hkD.obs s.abs := He.obsX_eq (HandSHeadRun.getT_eq s)
def nms0 : List PySem.Str := ["_law_cell_at", "_law_mix", "_law_whole", "_law_web_by", "_law_costs_by", "_law_kind_by", "_law_hurt", "TollError", "BadWeb", "Web"]
def nms : List PySem.Str := nms0
set_option maxHeartbeats 0 in
theorem runD (w : World) : HandSHeadRun.RunEq RR (PySem.W.view RR.prog [13]) hkD obD 4000 nms w := by
  intro os
  kernel_rfl
section
variable {K : PySem.W.Frag} {h : Heap} {mg : Str → Option Value}
theorem tx_of (X : K.In h) (G : h.Ns mainGlobals mg) (c : He.SaysD faD fnD K) (cm : exD K = true) : Tx K mg (He.ga K "Web") (He.ga K "BadWeb") (He.ga K "TollError") :=
  { b_ValueError := He.free_ok X G (c.fact 8 (f := .free "ValueError") rfl),
    b_bool := He.free_ok X G (c.fact 9 (f := .free "bool") rfl),
    b_int := He.free_ok X G (c.fact 10 (f := .free "int") rfl),
    b_isinstance := He.free_ok X G (c.fact 11 (f := .free "isinstance") rfl),
    b_len := He.free_ok X G (c.fact 12 (f := .free "len") rfl),
    b_list := He.free_ok X G (c.fact 13 (f := .free "list") rfl),
    b_range := He.free_ok X G (c.fact 14 (f := .free "range") rfl),
    x_BadWeb := (He.exc_ok (c.fact 16 (f := .exc "BadWeb") rfl)).1,
    g_BadWeb := He.glo_ok X G (c.fact 15 (f := .glo "BadWeb") rfl),
    k_BadWeb := (He.exc_ok (c.fact 16 (f := .exc "BadWeb") rfl)).2.1,
    s_BadWeb := (He.exc_ok (c.fact 16 (f := .exc "BadWeb") rfl)).2.2.1,
    t_BadWeb := (He.exc_ok (c.fact 16 (f := .exc "BadWeb") rfl)).2.2.2,
    g_TollError := He.glo_ok X G (c.fact 17 (f := .glo "TollError") rfl),
    webC := He.cls_ok (c.fact 19 (f := .cls "Web") rfl),
    no_places := He.noat_ok (c.fact 21 (f := .noat "Web" "places") rfl),
    no_roads := He.noat_ok (c.fact 22 (f := .noat "Web" "roads") rfl),
    f_BadWeb := exFB_ok (exD_at cm (i := 0) rfl),
    m_BadWeb_BadWeb := of_decide_eq_true (exD_at cm (i := 1) rfl),
    i_BadWeb_ValueError := of_decide_eq_true (exD_at cm (i := 2) rfl),
    i_BadWeb_TollError := of_decide_eq_true (exD_at cm (i := 3) rfl) }
theorem dn_law_cell_at (X : K.In h) (G : h.Ns mainGlobals mg) (c : He.SaysD faD fnD K) : Dn K mg "_law_cell_at" s_law_cell_at ["script", "k"] := dn_of X G c 0 0 rfl rfl fun _ _ _ _ _ _ us hl => match us, hl with | [_, _], _ => rfl
theorem dn_law_mix (X : K.In h) (G : h.Ns mainGlobals mg) (c : He.SaysD faD fnD K) : Dn K mg "_law_mix" s_law_mix ["cell", "k", "many"] := dn_of X G c 1 1 rfl rfl fun _ _ _ _ _ _ us hl => match us, hl with | [_, _, _], _ => rfl
theorem dn_law_whole (X : K.In h) (G : h.Ns mainGlobals mg) (c : He.SaysD faD fnD K) : Dn K mg "_law_whole" s_law_whole ["found"] := dn_of X G c 2 2 rfl rfl fun _ _ _ _ _ _ us hl => match us, hl with | [_], _ => rfl
theorem dn_law_web_by (X : K.In h) (G : h.Ns mainGlobals mg) (c : He.SaysD faD fnD K) : Dn K mg "_law_web_by" s_law_web_by ["script", "most"] := dn_of X G c 3 3 rfl rfl fun _ _ _ _ _ _ us hl => match us, hl with | [_, _], _ => rfl
theorem dn_law_hurt_k09 (X : K.In h) (G : h.Ns mainGlobals mg) (c : He.SaysD faD fnD K) : Dn K mg "_law_hurt" s_law_hurt_k09 ["places", "roads", "cell"] := dn_of X G c 6 6 rfl rfl fun _ _ _ _ _ _ us hl => match us, hl with | [_, _, _], _ => rfl
theorem dn_Web (X : K.In h) (G : h.Ns mainGlobals mg) (c : He.SaysD faD fnD K) : DnW K mg (He.ga K "Web") s_Web0 := dnW_of X G c 8 18 19 20 21 22 rfl rfl rfl rfl rfl rfl fun _ _ _ _ _ _ us hl => match us, hl with | [_, _, _], _ => rfl
end
end Z
open PySem PySem.W PySem.Calls PyProof.Rows
theorem PySem.Challenge.cw_truthtoll_k09_webs_holds : PySem.Challenge.rw_truthtoll_k09_webs.Holds := by
  w_on; o_law
  refine HandSHeadRun.head_any (r := OpenLaw.row PySem.Challenge.rw_truthtoll_k09_webs) (q := view (OpenLaw.row PySem.Challenge.rw_truthtoll_k09_webs).prog [13]) (H := Z.hkD) (ob := Z.obD) (M := 4000) (loose := Z.nms) (d := HandSHeadRun.topDef (OpenLaw.row PySem.Challenge.rw_truthtoll_k09_webs).prog 13) (kwd := []) Z.obD_eq
    (by kernel_rfl) (fun s => by kernel_rfl) Z.runD (by kernel_rfl) (by kernel_rfl) (by kernel_rfl) (by rfl) (by first | assumption | decide +kernel) (by decide +kernel) ⟨rfl, rfl, rfl, rfl, rfl, by decide +kernel⟩ ?hw ?hc
  case hw => w_witness2
  case hc =>
    refine L2.walk_ofE (l := PySem.Challenge.rw_truthtoll_k09_webs) (n := 63) (k := 3) (x := "script") (CX := L2.CX0) rfl (by decide) (by kernel_rfl) ⟨rfl, by decide, by decide⟩ ?F (fun _ _ _ _ z => z)
    intro w mg fa h Y G hmg0
    obtain ⟨K, KX, cX⟩ := Y
    have c := cX.t.d
    have cm := cX.more
    have hmg : mg ("law" : PySem.Str) = some (.ref fa) := by
      have e : (HandSHeadRun.topDef (OpenLaw.row PySem.Challenge.rw_truthtoll_k09_webs).prog 13).name = ("law" : PySem.Str) := by kernel_rfl
      rw [← e]
      exact hmg0
    have hq := hmg.symm.trans (He.glo_ok KX G (c.fact 7 (f := .glo "law") rfl))
    cases hq
    obtain ⟨fd, F⟩ := c.def_ 7 (d := Z.dat "law" Z.s_law_k09) rfl
    have F2 : L2.Fun K "law" "law" Z.s_law_k09 (He.fAd K ("law", none)) fd := Z.funD_fun F
    have b := L2.FunD.bindsA (ps := ["script"]) F fun _ _ _ _ _ _ us hl => match us, hl with | [_], _ => rfl
    exact ⟨K, fd, Z.spM K (He.ga K "Web") 1 (Z.P_law_k09 (He.ga K "BadWeb")), KX, fun s v => b s [v] rfl, fun H a ns hl _ hS => Z.spM_law hS (Z.main_k09 (He.ga K "BadWeb") ns hl), fun base _ _ => Z.cal_law (Z.tx_of KX G c cm) (Z.dn_law_whole KX G c) (Z.dn_law_cell_at KX G c) (Z.dn_law_hurt_k09 KX G c) (Z.dn_law_mix KX G c) (Z.dn_law_web_by KX G c) (Z.dn_Web KX G c) F2⟩
