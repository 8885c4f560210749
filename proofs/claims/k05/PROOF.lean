import PyProof.Rows.All
import Wide.All
import OpenK.AllK
import Wide.FinOn
import HandS.Strs
import HandS.IsInst
import HandS.Codes
import HandS.ForMost
import HandS.Property
import HandS.Star
import HandS.Defaults
import HandS.ClsMeth
import HandS.Style
import HandS.TupAny
import HandS.TupMul
import HandS.Wide
import HandS.Conv
import HandS.Small
import HandS.TupSets
import HandS.SortInts
import HandS.Zip
import HandS.NoneIn
import KE.GoesEnum
import HandS.Head0
import HandS.Head1
import HandS.Head2
import HandS.HeadEnd
import HandS.HeadHook1
import HandS.HeadHook2
import HandS.HeadNt
import HandS.SortRule
import PySem.Challenge.RW_coverchains_k05_whole_best_and_worst_ord
set_option Elab.async false
set_option linter.all false
set_option maxRecDepth 100000
set_option maxHeartbeats 4000000
/-! The D layer: deep values, what stands for them in the abstract heap, and expressions read as functions of slots. -/
namespace DL
open PySem PySem.Spec PyProof.Rows L2

/-- a deep value: what a Python value says, without addresses -/
inductive D where
  | non
  | bl (b : Bool)
  | int (i : Int)
  | str (x : Str)
  | tup (ds : List D)
  | lst (ds : List D)
  | ob (c : Nat) (d : D)

/-- the written part, and for each class of one field: where it stands, the field -/
structure Gm where
  K : PySem.W.Frag
  ca : Nat → Addr
  cf : Nat → Str

mutual
/-- in the heap H the value v says d; its lists and instances stand within F -/
inductive Rep (G : Gm) (F : Addr → Prop) (H : Hp) : V → D → Prop
  | non : Rep G F H .non .non
  | bl (b : Bool) : Rep G F H (.bl b) (.bl b)
  | int (i : Int) : Rep G F H (.int i) (.int i)
  | str (x : Str) : Rep G F H (.str x) (.str x)
  | tup {a : Addr} {xs : List V} {ds : List D} : H a = some (.tup xs) → RepA G F H xs ds → Rep G F H (.ref a) (.tup ds)
  | lst {a : Addr} {xs : List V} {ds : List D} : Rd H a (.lst xs) → F a → RepA G F H xs ds → Rep G F H (.ref a) (.lst ds)
  | ob {c : Nat} {a dx : Addr} {v : V} {d : D} : H a = some (.ins (G.ca c) dx [(G.cf c, v)]) → F a → Rep G F H v d → Rep G F H (.ref a) (.ob c d)
inductive RepA (G : Gm) (F : Addr → Prop) (H : Hp) : List V → List D → Prop
  | nil : RepA G F H [] []
  | cons {v : V} {vs : List V} {d : D} {ds : List D} : Rep G F H v d → RepA G F H vs ds → RepA G F H (v :: vs) (d :: ds)
end

/-- an object that nothing changes -/
def Fixed : HO → Prop
  | .tup _ => True
  | .frz _ _ => True
  | _ => False

/-- from F in H to F' in H': what F names and what is fixed stands -/
structure Keep (F : Addr → Prop) (H : Hp) (F' : Addr → Prop) (H' : Hp) : Prop where
  sub : ∀ a, F a → F' a
  kp : ∀ a o, H a = some o → (F a ∨ Fixed o) → H' a = some o

theorem Keep.refl (F : Addr → Prop) (H : Hp) : Keep F H F H := ⟨fun _ h => h, fun _ _ h _ => h⟩
theorem Keep.trans {F F1 F2 : Addr → Prop} {H H1 H2 : Hp} (a : Keep F H F1 H1) (b : Keep F1 H1 F2 H2) : Keep F H F2 H2 :=
  ⟨fun x h => b.sub x (a.sub x h), fun x o h k => b.kp x o (a.kp x o h k) (k.elim (fun z => .inl (a.sub x z)) .inr)⟩

theorem Keep.rdT {F F' : Addr → Prop} {H H' : Hp} (e : Keep F H F' H') {a : Addr} {xs : List V} (r : H a = some (.tup xs)) : H' a = some (.tup xs) := e.kp a _ r (.inr True.intro)
theorem Keep.rdL {F F' : Addr → Prop} {H H' : Hp} (e : Keep F H F' H') {a : Addr} {xs : List V} (r : Rd H a (.lst xs)) (f : F a) : Rd H' a (.lst xs) := by
  rcases r with r | ⟨o, r⟩
  · exact .inl (e.kp a _ r (.inl f))
  · exact .inr ⟨o, e.kp a _ r (.inl f)⟩

mutual
theorem Rep.ext {G : Gm} {F F' : Addr → Prop} {H H' : Hp} (e : Keep F H F' H') : ∀ {v : V} {d : D}, Rep G F H v d → Rep G F' H' v d
  | _, _, .non => .non
  | _, _, .bl b => .bl b
  | _, _, .int i => .int i
  | _, _, .str x => .str x
  | _, _, .tup r s => .tup (e.rdT r) (RepA.ext e s)
  | _, _, .lst r f s => .lst (e.rdL r f) (e.sub _ f) (RepA.ext e s)
  | _, _, .ob h f s => .ob (e.kp _ _ h (.inl f)) (e.sub _ f) (Rep.ext e s)
theorem RepA.ext {G : Gm} {F F' : Addr → Prop} {H H' : Hp} (e : Keep F H F' H') : ∀ {vs : List V} {ds : List D}, RepA G F H vs ds → RepA G F' H' vs ds
  | _, _, .nil => .nil
  | _, _, .cons r s => .cons (Rep.ext e r) (RepA.ext e s)
end

section
variable {G : Gm} {F : Addr → Prop} {H : Hp}
theorem RepA.length : ∀ {vs : List V} {ds : List D}, RepA G F H vs ds → vs.length = ds.length
  | _, _, .nil => rfl
  | _, _, .cons _ t => congrArg (· + 1) t.length
theorem RepA.append : ∀ {vs ws : List V} {ds es : List D}, RepA G F H vs ds → RepA G F H ws es → RepA G F H (vs ++ ws) (ds ++ es)
  | _, _, _, _, .nil, s => s
  | _, _, _, _, .cons r t, s => .cons r (t.append s)
theorem RepA.get : ∀ {vs : List V} {ds : List D} {i : Nat} {d : D}, RepA G F H vs ds → ds[i]? = some d → ∃ v, vs[i]? = some v ∧ Rep G F H v d
  | _, _, _, _, .nil, e => by simp at e
  | _, _, 0, _, .cons r _, e => by simp at e; subst e; exact ⟨_, rfl, r⟩
  | _, _, i + 1, _, .cons _ t, e => by
    obtain ⟨u, h1, h2⟩ := RepA.get (i := i) t (by simpa using e)
    exact ⟨u, by simpa using h1, h2⟩
theorem RepA.take : ∀ {vs : List V} {ds : List D} (n : Nat), RepA G F H vs ds → RepA G F H (vs.take n) (ds.take n)
  | _, _, 0, _ => .nil
  | _, _, _ + 1, .nil => .nil
  | _, _, n + 1, .cons r t => .cons r (t.take n)
theorem RepA.drop : ∀ {vs : List V} {ds : List D} (n : Nat), RepA G F H vs ds → RepA G F H (vs.drop n) (ds.drop n)
  | _, _, 0, r => r
  | _, _, _ + 1, .nil => .nil
  | _, _, n + 1, .cons _ t => t.drop n
theorem RepA.reverse : ∀ {vs : List V} {ds : List D}, RepA G F H vs ds → RepA G F H vs.reverse ds.reverse
  | _, _, .nil => .nil
  | _, _, .cons r t => by
    rw [List.reverse_cons, List.reverse_cons]
    exact t.reverse.append (.cons r .nil)
theorem RepA.set {v : V} {d : D} (r : Rep G F H v d) : ∀ {vs : List V} {ds : List D} (i : Nat), RepA G F H vs ds → RepA G F H (vs.set i v) (ds.set i d)
  | _, _, _, .nil => .nil
  | _, _, 0, .cons _ t => .cons r t
  | _, _, i + 1, .cons q t => .cons q (RepA.set r i t)
theorem RepA.eraseIdx : ∀ {vs : List V} {ds : List D} (i : Nat), RepA G F H vs ds → RepA G F H (vs.eraseIdx i) (ds.eraseIdx i)
  | _, _, _, .nil => .nil
  | _, _, 0, .cons _ t => t
  | _, _, i + 1, .cons q t => .cons q (t.eraseIdx i)
theorem RepA.ints : ∀ {vs : List V} {ns : List Int}, RepA G F H vs (ns.map D.int) → vs = ns.map V.int
  | [], [], _ => rfl
  | _ :: _, [], h => nomatch h
  | [], _ :: _, h => nomatch h
  | v :: vs, n :: ns, h => by
    cases h with
    | cons r t =>
      cases r
      rw [RepA.ints t]
      rfl
theorem RepA.ofInts : ∀ ns : List Int, RepA G F H (ns.map V.int) (ns.map D.int)
  | [] => .nil
  | n :: ns => .cons (.int n) (RepA.ofInts ns)
theorem RepA.bools : ∀ {vs : List V} {bs : List Bool}, RepA G F H vs (bs.map D.bl) → vs = bs.map V.bl
  | [], [], _ => rfl
  | _ :: _, [], h => nomatch h
  | [], _ :: _, h => nomatch h
  | v :: vs, n :: ns, h => by
    cases h with
    | cons r t =>
      cases r
      rw [RepA.bools t]
      rfl
theorem RepA.strs : ∀ {vs : List V} {bs : List Str}, RepA G F H vs (bs.map D.str) → vs = bs.map V.str
  | [], [], _ => rfl
  | _ :: _, [], h => nomatch h
  | [], _ :: _, h => nomatch h
  | v :: vs, n :: ns, h => by
    cases h with
    | cons r t =>
      cases r
      rw [RepA.strs t]
      rfl
end

/-- from F in H to F' in H': all that is tracked stands, what F' names besides is new -/
structure New (F : Addr → Prop) (H : Hp) (F' : Addr → Prop) (H' : Hp) : Prop where
  sub : ∀ a, F a → F' a
  kp : ∀ a o, H a = some o → H' a = some o
  fr : ∀ a, F' a → F a ∨ H a = none
  trk : ∀ a, F' a → ∃ o, H' a = some o
theorem New.keep {F F' : Addr → Prop} {H H' : Hp} (n : New F H F' H') : Keep F H F' H' := ⟨n.sub, fun a o h _ => n.kp a o h⟩
theorem New.refl {F : Addr → Prop} {H : Hp} (t : ∀ a, F a → ∃ o, H a = some o) : New F H F H := ⟨fun _ h => h, fun _ _ h => h, fun _ h => .inl h, t⟩
theorem New.trans {F F1 F2 : Addr → Prop} {H H1 H2 : Hp} (a : New F H F1 H1) (b : New F1 H1 F2 H2) : New F H F2 H2 :=
  ⟨fun x h => b.sub x (a.sub x h), fun x o h => b.kp x o (a.kp x o h), (fun x h => by
    rcases b.fr x h with z | z
    · exact a.fr x z
    · right
      cases q : H x with
      | none => rfl
      | some o =>
        have := a.kp x o q
        rw [z] at this
        cases this), b.trk⟩
/-- a new tuple -/
theorem New.tup {F : Addr → Prop} {H : Hp} {p : Addr} {o : HO} (t : ∀ a, F a → ∃ o, H a = some o) (h : H p = none) : New F H F (upd H p o) :=
  ⟨fun _ h => h, fun a o' e => by rw [upd_ne (ne_of_none e h)]; exact e, fun _ h => .inl h, fun a f => by
    obtain ⟨o', e⟩ := t a f
    exact ⟨o', by rw [upd_ne (ne_of_none e h)]; exact e⟩⟩
/-- F with p -/
def add (F : Addr → Prop) (p : Addr) : Addr → Prop := fun a => F a ∨ a = p
/-- a new list, named by F from now on -/
theorem New.lst {F : Addr → Prop} {H : Hp} {p : Addr} {o : HO} (t : ∀ a, F a → ∃ o, H a = some o) (h : H p = none) : New F H (add F p) (upd H p o) :=
  ⟨fun _ h => .inl h, fun a o' e => by rw [upd_ne (ne_of_none e h)]; exact e, (fun a f => by
    rcases f with f | f
    · exact .inl f
    · subst f; exact .inr h), (fun a f => by
    rcases f with f | f
    · obtain ⟨o', e⟩ := t a f
      exact ⟨o', by rw [upd_ne (ne_of_none e h)]; exact e⟩
    · subst f; exact ⟨_, upd_same⟩)⟩
/-- F alone grows by a tracked address that was no one's -/
theorem add_keep {F : Addr → Prop} {H : Hp} {p : Addr} : Keep F H (add F p) H := ⟨fun _ h => .inl h, fun _ _ h _ => h⟩

/-- a value on its way: its own list need not stand within F -/
def Top (G : Gm) (F : Addr → Prop) (H : Hp) (v : V) (d : D) : Prop :=
  Rep G F H v d ∨ ∃ a xs ds, v = .ref a ∧ d = .lst ds ∧ H a = some (.lst xs) ∧ RepA G F H xs ds
section
variable {G : Gm} {F : Addr → Prop} {H : Hp} {v : V}
theorem Top.lst {ds : List D} (t : Top G F H v (.lst ds)) : ∃ a xs, v = .ref a ∧ Rd H a (.lst xs) ∧ RepA G F H xs ds := by
  rcases t with t | ⟨a, xs, ds', e1, e2, h, r⟩
  · cases t with
    | lst r f s => exact ⟨_, _, rfl, r, s⟩
  · cases e2
    exact ⟨a, xs, e1, .inl h, r⟩
theorem Top.tup {ds : List D} (t : Top G F H v (.tup ds)) : ∃ a xs, v = .ref a ∧ H a = some (.tup xs) ∧ RepA G F H xs ds := by
  rcases t with t | ⟨a, xs, ds', e1, e2, h, r⟩
  · cases t with
    | tup r s => exact ⟨_, _, rfl, r, s⟩
  · cases e2
theorem Top.int {i : Int} (t : Top G F H v (.int i)) : v = .int i := by
  rcases t with t | ⟨a, xs, ds', e1, e2, h, r⟩
  · cases t; rfl
  · cases e2
theorem Top.str {i : Str} (t : Top G F H v (.str i)) : v = .str i := by
  rcases t with t | ⟨a, xs, ds', e1, e2, h, r⟩
  · cases t; rfl
  · cases e2
theorem Top.bl {i : Bool} (t : Top G F H v (.bl i)) : v = .bl i := by
  rcases t with t | ⟨a, xs, ds', e1, e2, h, r⟩
  · cases t; rfl
  · cases e2
theorem Top.non (t : Top G F H v .non) : v = .non := by
  rcases t with t | ⟨a, xs, ds', e1, e2, h, r⟩
  · cases t; rfl
  · cases e2
theorem Top.ob {c : Nat} {d : D} (t : Top G F H v (.ob c d)) : ∃ a dx u, v = .ref a ∧ H a = some (.ins (G.ca c) dx [(G.cf c, u)]) ∧ F a ∧ Rep G F H u d := by
  rcases t with t | ⟨a, xs, ds', e1, e2, h, r⟩
  · cases t with
    | ob h f s => exact ⟨_, _, _, rfl, h, f, s⟩
  · cases e2
theorem sqL_rd {K : PySem.W.Frag} {a : Addr} {xs : List V} (r : Rd H a (.lst xs)) : SqL K H a xs := .inl r
theorem sqT_rd {K : PySem.W.Frag} {a : Addr} {xs : List V} (r : Rd H a (.tup xs)) : SqT K H a xs := .inl r
end

/-! ### slots -/
/-- what a slot holds: nothing, a frozen value, a list of the def's own that it changes -/
inductive Sl where
  | no
  | val (d : D)
  | own (lent : Bool) (ds : List D)
  | raw (a : Addr)
abbrev Rho := List Sl

/-- where a body stands: the heap at its entry, the lists that the caller lent, what the caller's values name -/
structure Bs where
  H0 : Hp
  ia : List (Nat × Addr)
  F0 : Addr → Prop
/-- the lists that are lent -/
abbrev Bs.io (B : Bs) : List Addr := B.ia.map (·.2)

def SlOk (G : Gm) (B : Bs) (F : Addr → Prop) (H : Hp) (i : Nat) (o : Option (Option V)) : Sl → Prop
  | .no => True
  | .raw a => o = some (some (.ref a))
  | .val d => ∃ v, o = some (some v) ∧ Rep G F H v d
  | .own t ds => ∃ a xs, o = some (some (.ref a)) ∧ ¬ F a ∧ H a = some (.lst xs) ∧ RepA G F H xs ds ∧ (if t = true then (i, a) ∈ B.ia else B.H0 a = none)

structure SR (G : Gm) (B : Bs) (F : Addr → Prop) (σ : L2.St) (H : Hp) (ρ : Rho) : Prop where
  frame : ∀ b o, B.H0 b = some o → b ∉ B.io → H b = some o
  iot : ∀ b, b ∈ B.io → ∃ o, H b = some o
  io0 : ∀ b, b ∈ B.io → ∃ o, B.H0 b = some o
  trk : ∀ a, F a → ∃ o, H a = some o
  fresh : ∀ a, F a → B.F0 a ∨ B.H0 a = none
  f0 : ∀ a, B.F0 a → F a
  iof : ∀ a, a ∈ B.io → ¬ F a
  len : σ.length = ρ.length
  sl : ∀ (i : Nat) (s : Sl), ρ[i]? = some s → SlOk G B F H i σ[i]? s
  sep : ∀ (i j : Nat) (t u : Bool) (ds es : List D) (a : Addr), ρ[i]? = some (.own t ds) → ρ[j]? = some (.own u es) → σ[i]? = some (some (.ref a)) → σ[j]? = some (some (.ref a)) → i = j

/-- a value on its way: data, or the list that a slot owns -/
inductive Xv where
  | d (d : D)
  | o (i : Nat)

def ownAt (ρ : Rho) (i : Nat) : Option (List D) := match ρ[i]? with
  | some (.own _ ds) => some ds
  | _ => none
theorem ownAt_eq {ρ : Rho} {i : Nat} {ds : List D} (h : ownAt ρ i = some ds) : ∃ t, ρ[i]? = some (.own t ds) := by
  unfold ownAt at h
  cases q : ρ[i]? with
  | none => rw [q] at h; cases h
  | some s =>
    rw [q] at h
    cases s with
    | no => cases h
    | raw _ => cases h
    | val _ => cases h
    | own t es => exact ⟨t, by rw [show es = ds from Option.some.inj h]⟩
/-- what it says, by the slots -/
def rs (ρ : Rho) : Xv → Option D
  | .d d => some d
  | .o i => (ownAt ρ i).map D.lst
def RX (G : Gm) (F : Addr → Prop) (H : Hp) (σ : L2.St) (v : V) : Xv → Prop
  | .d d => Rep G F H v d
  | .o i => σ[i]? = some (some v)

theorem RX.keep {G : Gm} {F F' : Addr → Prop} {H H' : Hp} {σ : L2.St} {v : V} {x : Xv} (r : RX G F H σ v x) (e : Keep F H F' H') : RX G F' H' σ v x := by
  cases x with
  | d d => exact Rep.ext e r
  | o i => exact r
theorem RX.top {G : Gm} {B : Bs} {F : Addr → Prop} {H : Hp} {σ : L2.St} {ρ : Rho} {v : V} {x : Xv} {d : D} (r : RX G F H σ v x) (S : SR G B F σ H ρ) (e : rs ρ x = some d) : Top G F H v d := by
  cases x with
  | d d' =>
    cases (show d' = d from Option.some.inj e)
    exact .inl r
  | o i =>
    have e' : (ownAt ρ i).map D.lst = some d := e
    cases q : ownAt ρ i with
    | none => rw [q] at e'; cases e'
    | some ds =>
      rw [q] at e'
      cases (show D.lst ds = d from Option.some.inj e')
      obtain ⟨t, q'⟩ := ownAt_eq q
      obtain ⟨a, xs, e1, _, h, ra, _⟩ := S.sl i _ q'
      have e2 : some (some v) = some (some (V.ref a)) := (show σ[i]? = some (some v) from r).symm.trans e1
      cases e2
      exact .inr ⟨a, xs, ds, rfl, rfl, h, ra⟩

theorem SR.new {G : Gm} {B : Bs} {F F' : Addr → Prop} {H H' : Hp} {σ : L2.St} {ρ : Rho} (S : SR G B F σ H ρ) (n : New F H F' H') : SR G B F' σ H' ρ where
  frame := fun b o e hb => n.kp b o (S.frame b o e hb)
  iot := fun b hb => by
    obtain ⟨o, e⟩ := S.iot b hb
    exact ⟨o, n.kp b o e⟩
  io0 := S.io0
  trk := n.trk
  fresh := fun a f => by
    rcases n.fr a f with z | z
    · exact S.fresh a z
    · right
      cases q : B.H0 a with
      | none => rfl
      | some o =>
        by_cases hi : a ∈ B.io
        · obtain ⟨o', e⟩ := S.iot a hi
          rw [z] at e; cases e
        · have := S.frame a o q hi
          rw [z] at this; cases this
  f0 := fun a f => n.sub a (S.f0 a f)
  iof := fun a hi f => by
    rcases n.fr a f with z | z
    · exact S.iof a hi z
    · obtain ⟨o', e⟩ := S.iot a hi
      rw [z] at e; cases e
  len := S.len
  sl := fun i s e => by
    have q := S.sl i s e
    cases s with
    | no => exact True.intro
    | raw _ => exact q
    | val d =>
      obtain ⟨v, e1, r⟩ := q
      exact ⟨v, e1, Rep.ext n.keep r⟩
    | own t ds =>
      obtain ⟨a, xs, e1, nf, h, r, z⟩ := q
      have nf' : ¬ F' a := fun f => by
        rcases n.fr a f with y | y
        · exact nf y
        · rw [y] at h; cases h
      exact ⟨a, xs, e1, nf', n.kp a _ h, RepA.ext n.keep r, z⟩
  sep := S.sep

/-- the addresses that slots own -/
def ownA (σ : L2.St) (ρ : Rho) : Addr → Prop := fun a => ∃ (i : Nat) (t : Bool) (ds : List D), ρ[i]? = some (Sl.own t ds) ∧ σ[i]? = some (some (V.ref a))
/-- from one place to a later one: what F names and what is fixed stands, and all else but what slots own; what slots own then, they owned or it is new -/
structure Ext (M F : Addr → Prop) (H : Hp) (M' F' : Addr → Prop) (H' : Hp) : Prop where
  k : Keep F H F' H'
  oth : ∀ a o, H a = some o → ¬ M a → H' a = some o
  own : ∀ a, M' a → M a ∨ H a = none
  tk : ∀ a o, H a = some o → ∃ o', H' a = some o'
  nm : ∀ a, F' a → F a ∨ M a ∨ H a = none
theorem Ext.refl (M F : Addr → Prop) (H : Hp) : Ext M F H M F H := ⟨Keep.refl F H, fun _ _ h _ => h, fun _ h => .inl h, fun _ o h => ⟨o, h⟩, fun _ h => .inl h⟩
theorem Ext.trans {M M1 M2 F F1 F2 : Addr → Prop} {H H1 H2 : Hp} (a : Ext M F H M1 F1 H1) (b : Ext M1 F1 H1 M2 F2 H2) : Ext M F H M2 F2 H2 where
  k := a.k.trans b.k
  oth := fun x o h n => b.oth x o (a.oth x o h n) fun m1 => by
    rcases a.own x m1 with z | z
    · exact n z
    · rw [h] at z; cases z
  own := fun x h => by
    rcases b.own x h with z | z
    · exact a.own x z
    · by_cases m : M x
      · exact .inl m
      · right
        cases q : H x with
        | none => rfl
        | some o =>
          have := a.oth x o q m
          rw [z] at this; cases this
  tk := fun x o h => by
    obtain ⟨o1, h1⟩ := a.tk x o h
    exact b.tk x o1 h1
  nm := fun x f => by
    rcases b.nm x f with z | z | z
    · exact a.nm x z
    · exact .inr (a.own x z)
    · right; right
      cases q : H x with
      | none => rfl
      | some o =>
        obtain ⟨o', q'⟩ := a.tk x o q
        rw [z] at q'; cases q'
theorem New.ext {M F F' : Addr → Prop} {H H' : Hp} (n : New F H F' H') : Ext M F H M F' H' := ⟨n.keep, fun a o h _ => n.kp a o h, fun _ h => .inl h, fun a o h => ⟨o, n.kp a o h⟩, fun a f => (n.fr a f).imp id .inr⟩

/-! ### readings -/
/-- what is wanted of an exception that leaves: its kind, its number -/
abbrev EQ := Nat → Option Int → Prop
abbrev TE' := Rho → (Xv → Rho → Prop) → Prop
abbrev TT' := Rho → (Bool → Rho → Prop) → Prop
abbrev TA' := Rho → (List Xv → Rho → Prop) → Prop

def ok {α : Type} (o : Option α) (k : α → Prop) : Prop := match o with
  | some a => k a
  | none => False
theorem ok_some {α : Type} {a : α} {k : α → Prop} : ok (some a) k = k a := rfl
theorem ok.ex {α : Type} {o : Option α} {k : α → Prop} (h : ok o k) : ∃ a, o = some a ∧ k a := by
  cases o with
  | none => exact h.elim
  | some a => exact ⟨a, rfl, h⟩
theorem ok.mk {α : Type} {o : Option α} {k : α → Prop} {a : α} (e : o = some a) (h : k a) : ok o k := by
  subst e
  exact h

def liE (G : Gm) (B : Bs) (t : TE') : TE := fun σ H Q => ∃ (F : Addr → Prop) (ρ : Rho) (P : Xv → Rho → Prop), SR G B F σ H ρ ∧ t ρ P ∧ ∀ x ρ', P x ρ' → ∀ v H' F', SR G B F' σ H' ρ' → RX G F' H' σ v x → Ext (ownA σ ρ) F H (ownA σ ρ') F' H' → Q v H'
def liT (G : Gm) (B : Bs) (t : TT') : TT := fun σ H Q => ∃ (F : Addr → Prop) (ρ : Rho) (P : Bool → Rho → Prop), SR G B F σ H ρ ∧ t ρ P ∧ ∀ b ρ', P b ρ' → ∀ H' F', SR G B F' σ H' ρ' → Ext (ownA σ ρ) F H (ownA σ ρ') F' H' → Q b H'
inductive RXs (G : Gm) (F : Addr → Prop) (H : Hp) (σ : L2.St) : List V → List Xv → Prop
  | nil : RXs G F H σ [] []
  | cons {v : V} {vs : List V} {x : Xv} {xs : List Xv} : RX G F H σ v x → RXs G F H σ vs xs → RXs G F H σ (v :: vs) (x :: xs)
theorem RXs.keep {G : Gm} {F F' : Addr → Prop} {H H' : Hp} {σ : L2.St} (e : Keep F H F' H') : ∀ {vs : List V} {xs : List Xv}, RXs G F H σ vs xs → RXs G F' H' σ vs xs
  | _, _, .nil => .nil
  | _, _, .cons r s => .cons (r.keep e) (s.keep e)
def liA (G : Gm) (B : Bs) (t : TA') : TA := fun σ H Q => ∃ (F : Addr → Prop) (ρ : Rho) (P : List Xv → Rho → Prop), SR G B F σ H ρ ∧ t ρ P ∧ ∀ xs ρ', P xs ρ' → ∀ vs H' F', SR G B F' σ H' ρ' → RXs G F' H' σ vs xs → Ext (ownA σ ρ) F H (ownA σ ρ') F' H' → Q vs H'

/-- an expression is read as t at every place where a body may stand -/
abbrev PD (X : Cx) (G : Gm) (B : Bs) (e : Expr) (t : TE') : Prop := PE X e (liE G B t)
abbrev PDT (X : Cx) (G : Gm) (B : Bs) (e : Expr) (t : TT') : Prop := PT X e (liT G B t)
abbrev PDA (X : Cx) (G : Gm) (B : Bs) (es : List Expr) (t : TA') : Prop := PA X es (liA G B t)

/-- a reading under a reading that asks less -/
theorem pe_imp {X : Cx} {e : Expr} {t t' : TE} (h : PE X e t) (k : ∀ σ H Q, t' σ H Q → t σ H Q) : PE X e t' := ⟨fun pins s σ H Q I q => h.run pins s σ H Q I (k σ H Q q)⟩
theorem pt_imp {X : Cx} {e : Expr} {t t' : TT} (h : PT X e t) (k : ∀ σ H Q, t' σ H Q → t σ H Q) : PT X e t' := ⟨fun pins s σ H Q I q => h.run pins s σ H Q I (k σ H Q q)⟩
theorem pa_imp {X : Cx} {es : List Expr} {t t' : TA} (h : PA X es t) (k : ∀ σ H Q, t' σ H Q → t σ H Q) : PA X es t' := ⟨fun pos pins s σ H Q I q => h.run pos pins s σ H Q I (k σ H Q q)⟩
theorem ps_imp {X : Cx} {st : Stmt} {t t' : TS} (h : PS X st t) (k : ∀ D σ H, t' D σ H → t D σ H) : PS X st t' := ⟨fun pins s σ H D I q => h.run pins s σ H D I (k D σ H q)⟩
theorem pss_imp {X : Cx} {st : List Stmt} {t t' : TS} (h : PSs X st t) (k : ∀ D σ H, t' D σ H → t D σ H) : PSs X st t' := ⟨fun pins s σ H D I q => h.run pins s σ H D I (k D σ H q)⟩

end DL
set_option Elab.async false
set_option linter.all false
set_option maxRecDepth 100000
set_option maxHeartbeats 4000000
namespace DL
open PySem PySem.Spec PyProof.Rows L2

/-! ### names, constants -/
def cV (i : Nat) : TE' := fun ρ Q => match ρ[i]? with
  | some (.val d) => Q (.d d) ρ
  | some (.own _ _) => Q (.o i) ρ
  | _ => False
def cC (d : D) : TE' := fun ρ Q => Q (.d d) ρ
section
variable {X : Cx} {G : Gm} {B : Bs}
theorem pd_v (i : Nat) {x : Str} {pos : Pos} (hN : X.N[i]? = some x := by rfl) (hv : Vis X.env.scope x := by first | exact Or.inl rfl | exact Or.inr (Or.inl rfl) | exact Or.inr (Or.inr rfl)) (hd : (x == ("__debug__" : Str)) = false := by decide)
    (hcd : (x == ("__classdict__" : Str)) = false := by decide) : PD X G B (.Name x pos) (cV i) := by
  refine pe_imp (pe_var hN hv hd hcd) fun σ H Q h => ?_
  obtain ⟨F, ρ, P, S, h, k⟩ := h
  cases e : ρ[i]? with
  | none => have h' : (match ρ[i]? with | some (.val d) => P (.d d) ρ | some (.own _ _) => P (.o i) ρ | _ => False) := h; rw [e] at h'; exact h'.elim
  | some s =>
    have h' : (match ρ[i]? with | some (.val d) => P (.d d) ρ | some (.own _ _) => P (.o i) ρ | _ => False) := h
    rw [e] at h'
    cases s with
    | no => exact h'.elim
    | raw _ => exact h'.elim
    | val d =>
      obtain ⟨v, e1, r⟩ := S.sl i _ e
      exact ⟨v, e1, k _ _ h' v H F S r (Ext.refl _ F H)⟩
    | own t ds =>
      obtain ⟨a, xs, e1, _⟩ := S.sl i _ e
      exact ⟨.ref a, e1, k _ _ h' _ H F S e1 (Ext.refl _ F H)⟩
/-- what an expression's reading hands on, where nothing is made -/
theorem liE_c {d : D} {v : V} (r : ∀ F H, Rep G F H v d) (σ : L2.St) (H : Hp) (Q : VK) (h : liE G B (cC d) σ H Q) : Q v H := by
  obtain ⟨F, ρ, P, S, h, k⟩ := h
  exact k _ _ h v H F S (r F H) (Ext.refl _ F H)
theorem pd_int {i j pos} : PD X G B (.Constant (.int i) j pos) (cC (.int i)) := pe_imp pe_int (liE_c fun _ _ => .int i)
theorem pd_bl {i j pos} : PD X G B (.Constant (.bool i) j pos) (cC (.bl i)) := pe_imp pe_bl (liE_c fun _ _ => .bl i)
theorem pd_non {j pos} : PD X G B (.Constant .none j pos) (cC .non) := pe_imp pe_non (liE_c fun _ _ => .non)
theorem pd_str {i j pos} : PD X G B (.Constant (.str i) j pos) (cC (.str i)) := pe_imp pe_str (liE_c fun _ _ => .str i)
theorem pd_globI {x : Str} {i : Int} {pos : Pos} (hm : ∃ t, X.mg x = some (.int i t)) (hg : Gl X x := by rfl) (hd : (x == ("__debug__" : Str)) = false := by decide) : PD X G B (.Name x pos) (cC (.int i)) := by
  obtain ⟨t, hm⟩ := hm
  exact pe_imp (pe_glob (v := .int i) hg hm ⟨t, rfl⟩ hd) (liE_c fun _ _ => .int i)

/-! ### operators -/
def bin (f : D → D → Option D) (ta tb : TE') : TE' := fun ρ Q => ta ρ fun x ρ1 => tb ρ1 fun y ρ2 => ok (rs ρ2 x) fun a => ok (rs ρ2 y) fun b => ok (f a b) fun c => Q (.d c) ρ2
def un (f : D → Option D) (ta : TE') : TE' := fun ρ Q => ta ρ fun x ρ1 => ok (rs ρ1 x) fun a => ok (f a) fun c => Q (.d c) ρ1
/-- what an operation by values does, by data -/
def RQ (G : Gm) (F : Addr → Prop) (H : Hp) (c : D) (Q : VK) : Prop := ∀ v H' F', New F H F' H' → Rep G F' H' v c → Q v H'
def OpD (G : Gm) (r : R2) (f : D → D → Option D) : Prop :=
  ∀ (F : Addr → Prop) (H : Hp) (x y : V) (a b c : D) (Q : VK), (∀ p, F p → ∃ o, H p = some o) → Top G F H x a → Top G F H y b → f a b = some c → RQ G F H c Q → r x y H Q
theorem tOp_d {r : R2} {f : D → D → Option D} (hf : OpD G r f) {ta tb : TE'} (σ : L2.St) (H : Hp) (Q : VK) (h : liE G B (bin f ta tb) σ H Q) : tOp r (liE G B ta) (liE G B tb) σ H Q := by
  obtain ⟨F, ρ, P, S, h, k⟩ := h
  refine ⟨F, ρ, _, S, h, fun x ρ1 h1 v H1 F1 S1 r1 e1 => ⟨F1, ρ1, _, S1, h1, fun y ρ2 h2 u H2 F2 S2 r2 e2 => ?_⟩⟩
  obtain ⟨a, ea, h2⟩ := h2.ex
  obtain ⟨b, eb, h2⟩ := h2.ex
  obtain ⟨c, ec, h2⟩ := h2.ex
  exact hf F2 H2 v u a b c Q S2.trk ((r1.keep e2.k).top S2 ea) (r2.top S2 eb) ec fun w H3 F3 n r3 => k _ _ h2 w H3 F3 (S2.new n) r3 ((e1.trans e2).trans n.ext)
theorem pd_op {op : Operator} {r : R2} {f : D → D → Option D} {a b : Expr} {ta tb : TE'} {pos : Pos} (ho : OpR X (binaryOp op) r) (hf : OpD G r f) (ha : PD X G B a ta) (hb : PD X G B b tb) : PD X G B (.BinOp a op b pos) (bin f ta tb) :=
  pe_imp (pe_op ho ha hb) (tOp_d hf)
theorem pd_cmp {op : CmpOp} {r : R2} {f : D → D → Option D} {a b : Expr} {ta tb : TE'} {pos : Pos} (ho : OpR X (compareOp op) r) (hf : OpD G r f) (ha : PD X G B a ta) (hb : PD X G B b tb) (hm : behindInMarks op b = false := by first | exact nomark _ | rfl) : PD X G B (.Compare a [op] [b] pos) (bin f ta tb) :=
  pe_imp (pe_cmpR ho ha hb hm) (tOp_d hf)
theorem pd_ix {r : R2} {f : D → D → Option D} {a b : Expr} {ta tb : TE'} {pos : Pos} (ho : IxR X r) (hf : OpD G r f) (ha : PD X G B a ta) (hb : PD X G B b tb) (hs : PlainIx b := by exact fun _ _ => rfl) : PD X G B (.Subscript a b pos) (bin f ta tb) :=
  pe_imp (pe_ix ho ha hb hs) (tOp_d hf)
def UnD (G : Gm) (r : V → Hp → VK → Prop) (f : D → Option D) : Prop :=
  ∀ (F : Addr → Prop) (H : Hp) (x : V) (a c : D) (Q : VK), (∀ p, F p → ∃ o, H p = some o) → Top G F H x a → f a = some c → RQ G F H c Q → r x H Q
theorem pd_un {op : UnaryOp} {r : V → Hp → VK → Prop} {f : D → Option D} {a : Expr} {ta : TE'} {pos : Pos} (ho : UnR X (unaryOp op) r) (hf : UnD G r f) (ha : PD X G B a ta) : PD X G B (.UnaryOp op a pos) (un f ta) := by
  refine pe_imp (pe_un ho ha) fun σ H Q h => ?_
  obtain ⟨F, ρ, P, S, h, k⟩ := h
  refine ⟨F, ρ, _, S, h, fun x ρ1 h1 v H1 F1 S1 r1 e1 => ?_⟩
  obtain ⟨a, ea, h2⟩ := h1.ex
  obtain ⟨c, ec, h2⟩ := h2.ex
  exact hf F1 H1 v a c Q S1.trk (r1.top S1 ea) ec fun w H3 F3 n r3 => k _ _ h2 w H3 F3 (S1.new n) r3 (e1.trans n.ext)

/-! ### tests -/
def tst (ta : TE') : TT' := fun ρ Q => ta ρ fun x ρ1 => match x with
  | .d (.bl b) => Q b ρ1
  | _ => False
theorem liE_tst {ta : TE'} (σ : L2.St) (H : Hp) (Q : Bool → Hp → Prop) (h : liT G B (tst ta) σ H Q) : liE G B ta σ H fun x H' => ∃ k, x = .bl k ∧ Q k H' := by
  obtain ⟨F, ρ, P, S, h, k⟩ := h
  refine ⟨F, ρ, _, S, h, fun x ρ1 h1 v H1 F1 S1 r1 e1 => ?_⟩
  cases x with
  | o i => exact h1.elim
  | d d =>
    cases d with
    | bl b =>
      cases r1
      exact ⟨b, rfl, k _ _ h1 H1 F1 S1 e1⟩
    | _ => exact h1.elim
theorem pdt_cmp {op : CmpOp} {r : R2} {f : D → D → Option D} {a b : Expr} {ta tb : TE'} {pos : Pos} (ho : OpR X (compareOp op) r) (hf : OpD G r f) (ha : PD X G B a ta) (hb : PD X G B b tb) (hm : behindInMarks op b = false := by first | exact nomark _ | rfl) : PDT X G B (.Compare a [op] [b] pos) (tst (bin f ta tb)) :=
  pt_imp (pt_cmpR ho ha hb hm) fun σ H Q h => tOp_d hf σ H _ (liE_tst σ H Q h)
/-- an expression that gives True or False, as a test -/
theorem pdt_val {e : Expr} {ta : TE'} (h : PD X G B e ta) (he : ∀ whole, isTrue e X.env whole = (do let v ← whole; standAt e.pos; holding [v] (truthy v)) := by intro _; rfl) : PDT X G B e (tst ta) :=
  pt_imp (pt_val h he) fun σ H Q h => liE_tst σ H Q h
def tand (t u : TT') : TT' := fun ρ Q => t ρ fun b ρ1 => if b = true then u ρ1 Q else Q false ρ1
def tor (t u : TT') : TT' := fun ρ Q => t ρ fun b ρ1 => if b = true then Q true ρ1 else u ρ1 Q
def tnot (t : TT') : TT' := fun ρ Q => t ρ fun b ρ1 => Q (!b) ρ1
abbrev PDW (X : Cx) (G : Gm) (B : Bs) (e : Expr) (t : TT') : Prop := PW X e (liT G B t)
theorem pw_imp {X : Cx} {e : Expr} {t t' : TT} (h : PW X e t) (k : ∀ σ H Q, t' σ H Q → t σ H Q) : PW X e t' := ⟨fun wh pins s σ H Q I q => h.run wh pins s σ H Q I (k σ H Q q)⟩
theorem pdw_and1 {a : Expr} {t : TT'} {pos : Pos} (h : PDT X G B a t) : PDW X G B (.BoolOp .And [a] pos) t := pw_and1 h
theorem pdw_or1 {a : Expr} {t : TT'} {pos : Pos} (h : PDT X G B a t) : PDW X G B (.BoolOp .Or [a] pos) t := pw_or1 h
theorem pdw_and {a b : Expr} {rest : List Expr} {t u : TT'} {pos : Pos} (h : PDT X G B a t) (h2 : PDW X G B (.BoolOp .And (b :: rest) pos) u) : PDW X G B (.BoolOp .And (a :: b :: rest) pos) (tand t u) := by
  refine pw_imp (pw_and h h2) fun σ H Q q => ?_
  obtain ⟨F, ρ, P, S, q, k⟩ := q
  refine ⟨F, ρ, _, S, q, fun b ρ1 h1 H1 F1 S1 e1 => ?_⟩
  cases b with
  | true =>
    rw [if_pos rfl] at h1 ⊢
    exact ⟨F1, ρ1, P, S1, h1, fun b ρ2 h2 H2 F2 S2 e2 => k b ρ2 h2 H2 F2 S2 (e1.trans e2)⟩
  | false =>
    rw [if_neg Bool.false_ne_true] at h1 ⊢
    exact k _ _ h1 H1 F1 S1 e1
theorem pdw_or {a b : Expr} {rest : List Expr} {t u : TT'} {pos : Pos} (h : PDT X G B a t) (h2 : PDW X G B (.BoolOp .Or (b :: rest) pos) u) : PDW X G B (.BoolOp .Or (a :: b :: rest) pos) (tor t u) := by
  refine pw_imp (pw_or h h2) fun σ H Q q => ?_
  obtain ⟨F, ρ, P, S, q, k⟩ := q
  refine ⟨F, ρ, _, S, q, fun b ρ1 h1 H1 F1 S1 e1 => ?_⟩
  cases b with
  | true =>
    rw [if_pos rfl] at h1 ⊢
    exact k _ _ h1 H1 F1 S1 e1
  | false =>
    rw [if_neg Bool.false_ne_true] at h1 ⊢
    exact ⟨F1, ρ1, P, S1, h1, fun b ρ2 h2 H2 F2 S2 e2 => k b ρ2 h2 H2 F2 S2 (e1.trans e2)⟩
theorem pdt_w {e : Expr} {t : TT'} (h : PDW X G B e t) : PDT X G B e t := h.pt
theorem pdt_not {a : Expr} {t : TT'} {pos : Pos} (h : PDT X G B a t) : PDT X G B (.UnaryOp .Not a pos) (tnot t) := by
  refine pt_imp (pt_not h) fun σ H Q q => ?_
  obtain ⟨F, ρ, P, S, q, k⟩ := q
  exact ⟨F, ρ, _, S, q, fun b ρ1 h1 H1 F1 S1 e1 => k _ _ h1 H1 F1 S1 e1⟩
/-! values -/
def vand (ta tb : TE') : TE' := fun ρ Q => tst ta ρ fun b ρ1 => if b = true then tb ρ1 Q else Q (.d (.bl false)) ρ1
def vor (ta tb : TE') : TE' := fun ρ Q => tst ta ρ fun b ρ1 => if b = true then Q (.d (.bl true)) ρ1 else tb ρ1 Q
def vnot (ta : TE') : TE' := fun ρ Q => tst ta ρ fun b ρ1 => Q (.d (.bl (!b))) ρ1
theorem pd_one {op} {a : Expr} {t : TE'} {pos : Pos} (h : PD X G B a t) : PD X G B (.BoolOp op [a] pos) t := pe_one h
theorem pd_and {a b : Expr} {rest : List Expr} {t u : TE'} {pos : Pos} (h : PD X G B a t) (h2 : PD X G B (.BoolOp .And (b :: rest) pos) u) : PD X G B (.BoolOp .And (a :: b :: rest) pos) (vand t u) := by
  refine pe_imp (pe_and h h2) fun σ H Q q => ?_
  obtain ⟨F, ρ, P, S, q, k⟩ := q
  refine liE_tst σ H (fun c H1 => if c = true then liE G B u σ H1 Q else Q (.bl false) H1) ⟨F, ρ, _, S, q, fun b ρ1 h1 H1 F1 S1 e1 => ?_⟩
  cases b with
  | true =>
    rw [if_pos rfl] at h1 ⊢
    exact ⟨F1, ρ1, P, S1, h1, fun x ρ2 h2 v H2 F2 S2 r2 e2 => k x ρ2 h2 v H2 F2 S2 r2 (e1.trans e2)⟩
  | false =>
    rw [if_neg Bool.false_ne_true] at h1 ⊢
    exact k _ _ h1 _ H1 F1 S1 (.bl false) e1
theorem pd_or {a b : Expr} {rest : List Expr} {t u : TE'} {pos : Pos} (h : PD X G B a t) (h2 : PD X G B (.BoolOp .Or (b :: rest) pos) u) : PD X G B (.BoolOp .Or (a :: b :: rest) pos) (vor t u) := by
  refine pe_imp (pe_or h h2) fun σ H Q q => ?_
  obtain ⟨F, ρ, P, S, q, k⟩ := q
  refine liE_tst σ H (fun c H1 => if c = true then Q (.bl true) H1 else liE G B u σ H1 Q) ⟨F, ρ, _, S, q, fun b ρ1 h1 H1 F1 S1 e1 => ?_⟩
  cases b with
  | true =>
    rw [if_pos rfl] at h1 ⊢
    exact k _ _ h1 _ H1 F1 S1 (.bl true) e1
  | false =>
    rw [if_neg Bool.false_ne_true] at h1 ⊢
    exact ⟨F1, ρ1, P, S1, h1, fun x ρ2 h2 v H2 F2 S2 r2 e2 => k x ρ2 h2 v H2 F2 S2 r2 (e1.trans e2)⟩
theorem pd_not {a : Expr} {t : TE'} {pos : Pos} (h : PD X G B a t) : PD X G B (.UnaryOp .Not a pos) (vnot t) := by
  refine pe_imp (pe_not h) fun σ H Q q => ?_
  obtain ⟨F, ρ, P, S, q, k⟩ := q
  exact liE_tst σ H (fun c H1 => Q (.bl (!c)) H1) ⟨F, ρ, _, S, q, fun b ρ1 h1 H1 F1 S1 e1 => k _ _ h1 _ H1 F1 S1 (.bl _) e1⟩
def ite' (c : TT') (ta tb : TE') : TE' := fun ρ Q => c ρ fun b ρ1 => if b = true then ta ρ1 Q else tb ρ1 Q
theorem pd_if {c a b : Expr} {tc : TT'} {ta tb : TE'} {pos : Pos} (hc : PDT X G B c tc) (ha : PD X G B a ta) (hb : PD X G B b tb) : PD X G B (.IfExp c a b pos) (ite' tc ta tb) := by
  refine pe_imp (pe_ifExp hc ha hb) fun σ H Q q => ?_
  obtain ⟨F, ρ, P, S, q, k⟩ := q
  refine ⟨F, ρ, _, S, q, fun b ρ1 h1 H1 F1 S1 e1 => ?_⟩
  cases b with
  | true =>
    rw [if_pos rfl] at h1 ⊢
    exact ⟨F1, ρ1, P, S1, h1, fun x ρ2 h2 v H2 F2 S2 r2 e2 => k x ρ2 h2 v H2 F2 S2 r2 (e1.trans e2)⟩
  | false =>
    rw [if_neg Bool.false_ne_true] at h1 ⊢
    exact ⟨F1, ρ1, P, S1, h1, fun x ρ2 h2 v H2 F2 S2 r2 e2 => k x ρ2 h2 v H2 F2 S2 r2 (e1.trans e2)⟩
/-- a < b < c -/
def chn (f g : D → D → Option D) (ta tb tc : TE') : TE' := fun ρ Q => ta ρ fun x ρ1 => tb ρ1 fun y ρ2 => ok (rs ρ2 x) fun a => ok (rs ρ2 y) fun b => ok (f a b) fun z => match z with
  | .bl true => tc ρ2 fun w ρ3 => ok (rs ρ3 y) fun b => ok (rs ρ3 w) fun c => ok (g b c) fun d => Q (.d d) ρ3
  | .bl false => Q (.d (.bl false)) ρ2
  | _ => False
theorem tChain_d {r r' : R2} {f g : D → D → Option D} (hf : OpD G r f) (hg : OpD G r' g) {ta tb tc : TE'} (σ : L2.St) (H : Hp) (Q : VK) (h : liE G B (chn f g ta tb tc) σ H Q) : tChain r r' (liE G B ta) (liE G B tb) (liE G B tc) σ H Q := by
  obtain ⟨F, ρ, P, S, h, k⟩ := h
  refine ⟨F, ρ, _, S, h, fun x ρ1 h1 v H1 F1 S1 r1 e1 => ⟨F1, ρ1, _, S1, h1, fun y ρ2 h2 u H2 F2 S2 r2 e2 => ?_⟩⟩
  obtain ⟨a, ea, h2⟩ := h2.ex
  obtain ⟨b, eb, h2⟩ := h2.ex
  obtain ⟨c, ec, h2⟩ := h2.ex
  refine hf F2 H2 v u a b c _ S2.trk ((r1.keep e2.k).top S2 ea) (r2.top S2 eb) ec fun w H3 F3 n r3 => ?_
  have e3 := (e1.trans e2).trans n.ext
  cases c with
  | bl q =>
    cases r3
    refine ⟨q, rfl, ?_⟩
    cases q with
    | true =>
      refine iteT ⟨F3, ρ2, _, S2.new n, h2, fun z ρ3 h3 w H4 F4 S4 r4 e4 => ?_⟩
      obtain ⟨b', eb', h3⟩ := h3.ex
      obtain ⟨c', ec', h3⟩ := h3.ex
      obtain ⟨d', ed', h3⟩ := h3.ex
      exact hg F4 H4 u w b' c' d' Q S4.trk ((r2.keep (n.keep.trans e4.k)).top S4 eb') (r4.top S4 ec') ed' fun w H5 F5 n5 r5 => k _ _ h3 w H5 F5 (S4.new n5) r5 ((e3.trans e4).trans n5.ext)
    | false => exact iteF (k _ _ h2 _ H3 F3 (S2.new n) (.bl false) e3)
  | _ => exact h2.elim
theorem pd_chain {op op' : CmpOp} {r r' : R2} {f g : D → D → Option D} {a b c : Expr} {ta tb tc : TE'} {pos : Pos} (ho : OpR X (compareOp op) r) (hf : OpD G r f) (ho' : OpR X (compareOp op') r') (hg : OpD G r' g) (ha : PD X G B a ta) (hb : PD X G B b tb) (hc : PD X G B c tc)
    (hm : lastMarks [op, op'] [b, c] = false := by first | rfl | exact nomark _) : PD X G B (.Compare a [op, op'] [b, c] pos) (chn f g ta tb tc) :=
  pe_imp (pe_chain ho ho' ha hb hc hm) (tChain_d hf hg)
theorem pdt_chain {op op' : CmpOp} {r r' : R2} {f g : D → D → Option D} {a b c : Expr} {ta tb tc : TE'} {pos : Pos} (ho : OpR X (compareOp op) r) (hf : OpD G r f) (ho' : OpR X (compareOp op') r') (hg : OpD G r' g) (ha : PD X G B a ta) (hb : PD X G B b tb) (hc : PD X G B c tc)
    (hm : lastMarks [op, op'] [b, c] = false := by first | rfl | exact nomark _) : PDT X G B (.Compare a [op, op'] [b, c] pos) (tst (chn f g ta tb tc)) :=
  pt_imp (pt_chain ho ho' ha hb hc hm) fun σ H Q h => tChain_d hf hg σ H _ (liE_tst σ H Q h)

/-! ### arguments, displays, calls of what is built in -/
def aN : TA' := fun ρ Q => Q [] ρ
def aC (t : TE') (u : TA') : TA' := fun ρ Q => t ρ fun x ρ1 => u ρ1 fun xs ρ2 => Q (x :: xs) ρ2
theorem pda_nil : PDA X G B [] aN := by
  refine pa_imp pa_nil fun σ H Q h => ?_
  obtain ⟨F, ρ, P, S, h, k⟩ := h
  exact k _ _ h [] H F S .nil (Ext.refl _ F H)
theorem pda_cons {e : Expr} {es : List Expr} {t : TE'} {u : TA'} (h : PD X G B e t) (h2 : PDA X G B es u) (hs : starEach (e :: es) X.env = (false, eval e X.env) :: starEach es X.env := by rfl) : PDA X G B (e :: es) (aC t u) := by
  refine pa_imp (pa_cons h h2 hs) fun σ H Q q => ?_
  obtain ⟨F, ρ, P, S, q, k⟩ := q
  exact ⟨F, ρ, _, S, q, fun x ρ1 h1 v H1 F1 S1 r1 e1 => ⟨F1, ρ1, _, S1, h1, fun xs ρ2 h2 vs H2 F2 S2 r2 e2 => k _ _ h2 _ H2 F2 S2 (.cons (r1.keep e2.k) r2) (e1.trans e2)⟩⟩
/-- what the arguments say; where they are to be stored, none may be an own list -/
def rss (ρ : Rho) : List Xv → Option (List D)
  | [] => some []
  | x :: xs => match rs ρ x, rss ρ xs with
    | some d, some ds => some (d :: ds)
    | _, _ => none
def fzs : List Xv → Option (List D)
  | [] => some []
  | .d d :: xs => (fzs xs).map (d :: ·)
  | .o _ :: _ => none
inductive Tops (G : Gm) (F : Addr → Prop) (H : Hp) : List V → List D → Prop
  | nil : Tops G F H [] []
  | cons {v : V} {vs : List V} {d : D} {ds : List D} : Top G F H v d → Tops G F H vs ds → Tops G F H (v :: vs) (d :: ds)
theorem RXs.tops {F : Addr → Prop} {H : Hp} {σ : L2.St} {ρ : Rho} (S : SR G B F σ H ρ) : ∀ {vs : List V} {xs : List Xv} {ds : List D}, RXs G F H σ vs xs → rss ρ xs = some ds → Tops G F H vs ds
  | _, _, _, .nil, e => by
    cases (show [] = _ from Option.some.inj e)
    exact .nil
  | _, x :: xs, ds, .cons r s, e => by
    unfold rss at e
    cases q : rs ρ x with
    | none => rw [q] at e; cases e
    | some d =>
      cases q2 : rss ρ xs with
      | none => rw [q, q2] at e; cases e
      | some ds' =>
        rw [q, q2] at e
        cases (show d :: ds' = ds from Option.some.inj e)
        exact .cons (r.top S q) (RXs.tops S s q2)
theorem RXs.reps {F : Addr → Prop} {H : Hp} {σ : L2.St} : ∀ {vs : List V} {xs : List Xv} {ds : List D}, RXs G F H σ vs xs → fzs xs = some ds → RepA G F H vs ds
  | _, _, _, .nil, e => by
    cases (show [] = _ from Option.some.inj e)
    exact .nil
  | _, .o i :: xs, ds, .cons r s, e => nomatch (show (none : Option (List D)) = some ds from e)
  | _, .d d :: xs, ds, .cons r s, e => by
    have e' : (fzs xs).map (d :: ·) = some ds := e
    cases q2 : fzs xs with
    | none => rw [q2] at e'; cases e'
    | some ds' =>
      rw [q2] at e'
      cases (show d :: ds' = ds from Option.some.inj e')
      exact .cons r (RXs.reps s q2)
def tup (t : TA') : TE' := fun ρ Q => t ρ fun xs ρ1 => ok (fzs xs) fun ds => if ds.length ≤ sizeLine then Q (.d (.tup ds)) ρ1 else False
def lst (t : TA') : TE' := fun ρ Q => t ρ fun xs ρ1 => ok (fzs xs) fun ds => if ds.length ≤ sizeLine then Q (.d (.lst ds)) ρ1 else False
theorem ite_ex {c : Prop} [Decidable c] {p : Prop} (h : if c then p else False) : c ∧ p := by
  by_cases hc : c
  · rw [if_pos hc] at h; exact ⟨hc, h⟩
  · rw [if_neg hc] at h; exact h.elim
theorem pd_tup {es : List Expr} {t : TA'} {x1 pos} (h : PDA X G B es t) : PD X G B (.Tuple es x1 pos) (tup t) := by
  refine pe_imp (pe_tup h) fun σ H Q q => ?_
  obtain ⟨F, ρ, P, S, q, k⟩ := q
  refine ⟨F, ρ, _, S, q, fun xs ρ1 h1 vs H1 F1 S1 r1 e1 => ?_⟩
  obtain ⟨ds, ed, h1⟩ := h1.ex
  obtain ⟨hl, h1⟩ := ite_ex h1
  have ra := r1.reps ed
  refine ⟨by rw [ra.length]; exact hl, fun p hp => ?_⟩
  have n := New.tup (o := .tup vs) S1.trk hp
  exact k _ _ h1 _ _ F1 (S1.new n) (.tup upd_same (RepA.ext n.keep ra)) (e1.trans n.ext)
theorem pd_lst {es : List Expr} {t : TA'} {pos} (h : PDA X G B es t) : PD X G B (.List es pos) (lst t) := by
  refine pe_imp (pe_lst h) fun σ H Q q => ?_
  obtain ⟨F, ρ, P, S, q, k⟩ := q
  refine ⟨F, ρ, _, S, q, fun xs ρ1 h1 vs H1 F1 S1 r1 e1 => ?_⟩
  obtain ⟨ds, ed, h1⟩ := h1.ex
  obtain ⟨hl, h1⟩ := ite_ex h1
  have ra := r1.reps ed
  refine ⟨by rw [ra.length]; exact hl, fun p hp => ?_⟩
  have n := New.lst (o := .lst vs) S1.trk hp
  exact k _ _ h1 _ _ _ (S1.new n) (.lst (.inl upd_same) (.inr rfl) (RepA.ext n.keep ra)) (e1.trans n.ext)
def cal (f : List D → Option D) (t : TA') : TE' := fun ρ Q => t ρ fun xs ρ1 => ok (rss ρ1 xs) fun ds => ok (f ds) fun c => Q (.d c) ρ1
def CalD (G : Gm) (r : List V → Hp → VK → Prop) (f : List D → Option D) : Prop :=
  ∀ (F : Addr → Prop) (H : Hp) (vs : List V) (ds : List D) (c : D) (Q : VK), (∀ p, F p → ∃ o, H p = some o) → Tops G F H vs ds → f ds = some c → RQ G F H c Q → r vs H Q
theorem tCB_d {r : List V → Hp → VK → Prop} {f : List D → Option D} (hf : CalD G r f) {t : TA'} (σ : L2.St) (H : Hp) (Q : VK) (h : liE G B (cal f t) σ H Q) : tCB r (liA G B t) σ H Q := by
  obtain ⟨F, ρ, P, S, h, k⟩ := h
  refine ⟨F, ρ, _, S, h, fun xs ρ1 h1 vs H1 F1 S1 r1 e1 => ?_⟩
  obtain ⟨ds, ed, h1⟩ := h1.ex
  obtain ⟨c, ec, h1⟩ := h1.ex
  exact hf F1 H1 vs ds c Q S1.trk (r1.tops S1 ed) ec fun w H3 F3 n r3 => k _ _ h1 w H3 F3 (S1.new n) r3 (e1.trans n.ext)
theorem pd_callB {id : String} {r : List V → Hp → VK → Prop} {f : List D → Option D} {x : Str} {e : Expr} {es : List Expr} {t : TA'} {p pos : Pos} (hc : CallR X (.builtin id) r) (hf : CalD G r f) (hm : X.mg x = none) (hv : bootBuiltins x = some (.builtin id)) (ha : PDA X G B (e :: es) t)
    (hg : Gl X x := by rfl) (hn : x ≠ "__name__" := by decide) (hdb : (x == ("__debug__" : Str)) = false := by decide) (he : starEach (e :: es) X.env = (false, eval e X.env) :: starEach es X.env := by rfl) (hpl : (backTo pos (starEach es X.env)).any (·.1) = false := by rfl) : PD X G B (.Call (.Name x p) (e :: es) [] pos) (cal f t) :=
  pe_imp (pe_callB hc hg hm hv ha hn hdb he hpl) (tCB_d hf)
theorem pd_callTy {T : String} {r : List V → Hp → VK → Prop} {f : List D → Option D} {x : Str} {e : Expr} {es : List Expr} {t : TA'} {p pos : Pos} (hc : CallR X (.type T) r) (hf : CalD G r f) (hm : X.mg x = none) (hv : bootBuiltins x = some (.type T)) (ha : PDA X G B (e :: es) t)
    (hg : Gl X x := by rfl) (hn : x ≠ "__name__" := by decide) (hdb : (x == ("__debug__" : Str)) = false := by decide) (he : starEach (e :: es) X.env = (false, eval e X.env) :: starEach es X.env := by rfl) (hpl : (backTo pos (starEach es X.env)).any (·.1) = false := by rfl) : PD X G B (.Call (.Name x p) (e :: es) [] pos) (cal f t) :=
  pe_imp (pe_callTy hc hg hm hv ha hn hdb he hpl) (tCB_d hf)
end
end DL
set_option Elab.async false
set_option linter.all false
set_option maxRecDepth 100000
set_option maxHeartbeats 4000000
namespace DL
open PySem PySem.Spec PyProof.Rows L2

/-! ### what changes the slots -/
theorem get_set {α : Type} {l : List α} {i j : Nat} {x y : α} (h : (l.set i x)[j]? = some y) : (i = j ∧ y = x) ∨ (i ≠ j ∧ l[j]? = some y) := by
  by_cases e : i = j
  · subst e
    left
    refine ⟨rfl, ?_⟩
    by_cases hl : i < l.length
    · rw [List.getElem?_set_self hl] at h
      exact (Option.some.inj h).symm
    · rw [List.getElem?_eq_none (by rw [List.length_set]; omega)] at h
      cases h
  · right
    rw [List.getElem?_set_ne e] at h
    exact ⟨e, h⟩
section
variable {G : Gm} {B : Bs} {F : Addr → Prop} {H : Hp} {σ : L2.St} {ρ : Rho}
theorem SR.lt (S : SR G B F σ H ρ) {i : Nat} {s : Sl} (e : ρ[i]? = some s) : i < σ.length := by
  rw [S.len]
  exact (List.getElem?_eq_some_iff.mp e).1
theorem SR.h0 (S : SR G B F σ H ρ) {p : Addr} (h : H p = none) : B.H0 p = none := by
  cases q : B.H0 p with
  | none => rfl
  | some o =>
    by_cases hi : p ∈ B.io
    · obtain ⟨o', e⟩ := S.iot p hi
      rw [h] at e; cases e
    · have := S.frame p o q hi
      rw [h] at this; cases this
theorem SR.nof (S : SR G B F σ H ρ) {p : Addr} (h : H p = none) : ¬ F p := fun f => by
  obtain ⟨o, e⟩ := S.trk p f
  rw [h] at e; cases e
theorem SR.noown (S : SR G B F σ H ρ) {p : Addr} (h : H p = none) : ¬ ownA σ ρ p := fun ⟨i, t, ds, e1, e2⟩ => by
  obtain ⟨a, xs, e3, _, h3, _⟩ := S.sl i _ e1
  rw [e2] at e3
  cases e3
  rw [h] at h3; cases h3
theorem SR.set (S : SR G B F σ H ρ) (i : Nat) {v : V} {d : D} (r : Rep G F H v d) : SR G B F (σ.set i (some v)) H (ρ.set i (.val d)) where
  frame := S.frame
  iot := S.iot
  io0 := S.io0
  trk := S.trk
  fresh := S.fresh
  f0 := S.f0
  iof := S.iof
  len := by rw [List.length_set, List.length_set]; exact S.len
  sl := fun j s e => by
    rcases get_set e with ⟨rfl, rfl⟩ | ⟨n, e⟩
    · have hl : i < σ.length := by
        have := (List.getElem?_eq_some_iff.mp e).1
        rw [List.length_set] at this
        rw [S.len]; exact this
      exact ⟨v, by rw [List.getElem?_set_self hl], r⟩
    · rw [List.getElem?_set_ne n]
      exact S.sl j s e
  sep := fun j k t u ds es a e1 e2 e3 e4 => by
    rcases get_set e1 with ⟨rfl, z⟩ | ⟨n1, e1⟩
    · cases z
    · rcases get_set e2 with ⟨rfl, z⟩ | ⟨n2, e2⟩
      · cases z
      · rw [List.getElem?_set_ne n1] at e3
        rw [List.getElem?_set_ne n2] at e4
        exact S.sep j k t u ds es a e1 e2 e3 e4
theorem SR.setNo (S : SR G B F σ H ρ) (i : Nat) (o : Option V) : SR G B F (σ.set i o) H (ρ.set i .no) where
  frame := S.frame
  iot := S.iot
  io0 := S.io0
  trk := S.trk
  fresh := S.fresh
  f0 := S.f0
  iof := S.iof
  len := by rw [List.length_set, List.length_set]; exact S.len
  sl := fun j s e => by
    rcases get_set e with ⟨rfl, rfl⟩ | ⟨n, e⟩
    · exact True.intro
    · rw [List.getElem?_set_ne n]
      exact S.sl j s e
  sep := fun j k t u ds es a e1 e2 e3 e4 => by
    rcases get_set e1 with ⟨rfl, z⟩ | ⟨n1, e1⟩
    · cases z
    · rcases get_set e2 with ⟨rfl, z⟩ | ⟨n2, e2⟩
      · cases z
      · rw [List.getElem?_set_ne n1] at e3
        rw [List.getElem?_set_ne n2] at e4
        exact S.sep j k t u ds es a e1 e2 e3 e4
theorem SR.setOwn (S : SR G B F σ H ρ) (i : Nat) {a : Addr} {xs : List V} {ds : List D} (hf : ¬ F a) (h : H a = some (.lst xs)) (r : RepA G F H xs ds) (h0 : B.H0 a = none) (no : ¬ ownA σ ρ a) : SR G B F (σ.set i (some (.ref a))) H (ρ.set i (.own false ds)) where
  frame := S.frame
  iot := S.iot
  io0 := S.io0
  trk := S.trk
  fresh := S.fresh
  f0 := S.f0
  iof := S.iof
  len := by rw [List.length_set, List.length_set]; exact S.len
  sl := fun j s e => by
    rcases get_set e with ⟨rfl, rfl⟩ | ⟨n, e⟩
    · have hl : i < σ.length := by
        have := (List.getElem?_eq_some_iff.mp e).1
        rw [List.length_set] at this
        rw [S.len]; exact this
      exact ⟨a, xs, by rw [List.getElem?_set_self hl], hf, h, r, by rw [if_neg Bool.false_ne_true]; exact h0⟩
    · rw [List.getElem?_set_ne n]
      exact S.sl j s e
  sep := fun j k t u es fs b e1 e2 e3 e4 => by
    rcases get_set e1 with ⟨rfl, z⟩ | ⟨n1, e1⟩
    · rcases get_set e2 with ⟨rfl, z⟩ | ⟨n2, e2⟩
      · rfl
      · have hl := S.lt (i := k) e2
        have e4' : σ[k]? = some (some (.ref b)) := by rw [List.getElem?_set_ne n2] at e4; exact e4
        have e3' : a = b := by
          by_cases hl : i < σ.length
          · rw [List.getElem?_set_self hl] at e3
            cases e3; rfl
          · rw [List.getElem?_eq_none (by rw [List.length_set]; omega)] at e3
            cases e3
        subst e3'
        exact (no ⟨k, u, fs, e2, e4'⟩).elim
    · have e3' : σ[j]? = some (some (.ref b)) := by rw [List.getElem?_set_ne n1] at e3; exact e3
      rcases get_set e2 with ⟨rfl, z⟩ | ⟨n2, e2⟩
      · have e4' : a = b := by
          by_cases hl : i < σ.length
          · rw [List.getElem?_set_self hl] at e4
            cases e4; rfl
          · rw [List.getElem?_eq_none (by rw [List.length_set]; omega)] at e4
            cases e4
        subst e4'
        exact (no ⟨j, t, es, e1, e3'⟩).elim
      · rw [List.getElem?_set_ne n2] at e4
        exact S.sep j k t u es fs b e1 e2 e3' e4
/-- a list that no one names is changed -/
theorem keep_write {a : Addr} {xs ys : List V} (hf : ¬ F a) (h : H a = some (.lst xs)) : Keep F H F (upd H a (.lst ys)) := ⟨fun _ h => h, fun b o e k => by
  have n : b ≠ a := fun z => by
    subst z
    rcases k with k | k
    · exact hf k
    · rw [h] at e; cases e; exact k
  rw [upd_ne n]; exact e⟩
theorem SR.write (S : SR G B F σ H ρ) {i : Nat} {t : Bool} {ds : List D} {a : Addr} {xs ys : List V} {es : List D} (e : ρ[i]? = some (.own t ds)) (eσ : σ[i]? = some (some (.ref a))) (h : H a = some (.lst xs)) (r : RepA G F H ys es) : SR G B F σ (upd H a (.lst ys)) (ρ.set i (.own t es)) := by
  obtain ⟨a', xs', e1, nf, h1, r1, z⟩ := S.sl i _ e
  rw [eσ] at e1
  cases e1
  have kw := keep_write (ys := ys) nf h
  have hl := S.lt e
  exact {
    frame := fun b o hb hi => by
      have n : b ≠ a := fun w => by
        subst w
        cases t with
        | true =>
          rw [if_pos rfl] at z
          exact hi (List.mem_map.mpr ⟨_, z, rfl⟩)
        | false =>
          rw [if_neg Bool.false_ne_true, hb] at z
          cases z
      rw [upd_ne n]; exact S.frame b o hb hi
    iot := fun b hb => by
      by_cases n : b = a
      · subst n; exact ⟨_, upd_same⟩
      · rw [upd_ne n]; exact S.iot b hb
    io0 := S.io0
    trk := fun b f => by
      have n : b ≠ a := fun w => nf (w ▸ f)
      rw [upd_ne n]; exact S.trk b f
    fresh := S.fresh
    f0 := S.f0
    iof := S.iof
    len := by rw [List.length_set]; exact S.len
    sl := fun j s e' => by
      rcases get_set e' with ⟨rfl, rfl⟩ | ⟨n, e'⟩
      · exact ⟨a, ys, eσ, nf, upd_same, RepA.ext kw r, z⟩
      · have q := S.sl j s e'
        cases s with
        | no => exact True.intro
        | raw _ => exact q
        | val d =>
          obtain ⟨v, e2, r2⟩ := q
          exact ⟨v, e2, Rep.ext kw r2⟩
        | own u fs =>
          obtain ⟨b, zs, e2, nf2, h2, r2, z2⟩ := q
          have nb : b ≠ a := fun w => n (S.sep i j t u ds fs a e e' eσ (w ▸ e2))
          exact ⟨b, zs, e2, nf2, by rw [upd_ne nb]; exact h2, RepA.ext kw r2, z2⟩
    sep := fun j k t' u es' fs b e1 e2 e3 e4 => by
      have f1 : ∃ t ds, ρ[j]? = some (.own t ds) := by
        rcases get_set e1 with ⟨rfl, _⟩ | ⟨_, e1⟩
        · exact ⟨_, _, e⟩
        · exact ⟨_, _, e1⟩
      have f2 : ∃ t ds, ρ[k]? = some (.own t ds) := by
        rcases get_set e2 with ⟨rfl, _⟩ | ⟨_, e2⟩
        · exact ⟨_, _, e⟩
        · exact ⟨_, _, e2⟩
      obtain ⟨_, _, f1⟩ := f1
      obtain ⟨_, _, f2⟩ := f2
      exact S.sep j k _ _ _ _ b f1 f2 e3 e4 }
theorem SR.freeze (S : SR G B F σ H ρ) {i : Nat} {ds : List D} {a : Addr} (e : ρ[i]? = some (.own false ds)) (eσ : σ[i]? = some (some (.ref a))) : SR G B (add F a) σ H (ρ.set i (.val (.lst ds))) := by
  obtain ⟨a', xs, e1, nf, h1, r1, z⟩ := S.sl i _ e
  rw [eσ] at e1
  cases e1
  rw [if_neg Bool.false_ne_true] at z
  exact {
    frame := S.frame
    iot := S.iot
    io0 := S.io0
    trk := fun b f => by
      rcases f with f | f
      · exact S.trk b f
      · subst f; exact ⟨_, h1⟩
    fresh := fun b f => by
      rcases f with f | f
      · exact S.fresh b f
      · subst f; exact .inr z
    f0 := fun b f => .inl (S.f0 b f)
    iof := fun b hb f => by
      rcases f with f | f
      · exact S.iof b hb f
      · subst f
        obtain ⟨o, q⟩ := S.io0 _ hb
        rw [z] at q; cases q
    len := by rw [List.length_set]; exact S.len
    sl := fun j s e' => by
      rcases get_set e' with ⟨rfl, rfl⟩ | ⟨n, e'⟩
      · exact ⟨.ref a, eσ, .lst (.inl h1) (.inr rfl) (RepA.ext add_keep r1)⟩
      · have q := S.sl j s e'
        cases s with
        | no => exact True.intro
        | raw _ => exact q
        | val d =>
          obtain ⟨v, e2, r2⟩ := q
          exact ⟨v, e2, Rep.ext add_keep r2⟩
        | own u fs =>
          obtain ⟨b, zs, e2, nf2, h2, r2, z2⟩ := q
          exact ⟨b, zs, e2, fun f => by
            rcases f with f | f
            · exact nf2 f
            · exact n (S.sep i j _ u ds fs a e e' eσ (f ▸ e2)), h2, RepA.ext add_keep r2, z2⟩
    sep := fun j k t' u es' fs b e1 e2 e3 e4 => by
      rcases get_set e1 with ⟨_, z⟩ | ⟨_, e1⟩
      · cases z
      · rcases get_set e2 with ⟨_, z⟩ | ⟨_, e2⟩
        · cases z
        · exact S.sep j k _ _ _ _ b e1 e2 e3 e4 }
theorem own_set {i : Nat} {o : Option V} {s : Sl} (hs : ∀ t ds, s ≠ .own t ds) {a : Addr} (h : ownA (σ.set i o) (ρ.set i s) a) : ownA σ ρ a := by
  obtain ⟨j, t, ds, e1, e2⟩ := h
  rcases get_set e1 with ⟨_, z⟩ | ⟨n, e1⟩
  · exact (hs t ds z.symm).elim
  · rw [List.getElem?_set_ne n] at e2
    exact ⟨j, t, ds, e1, e2⟩
theorem own_setS {i : Nat} {s : Sl} (hs : ∀ t ds, s ≠ .own t ds) {a : Addr} (h : ownA σ (ρ.set i s) a) : ownA σ ρ a := by
  obtain ⟨j, t, ds, e1, e2⟩ := h
  rcases get_set e1 with ⟨_, z⟩ | ⟨n, e1⟩
  · exact (hs t ds z.symm).elim
  · exact ⟨j, t, ds, e1, e2⟩
theorem own_setO {i : Nat} {a b : Addr} {t : Bool} {ds : List D} (h : ownA (σ.set i (some (.ref a))) (ρ.set i (.own t ds)) b) : ownA σ ρ b ∨ b = a := by
  obtain ⟨j, u, es, e1, e2⟩ := h
  rcases get_set e1 with ⟨e, z⟩ | ⟨n, e1⟩
  · subst e
    right
    by_cases hl : i < σ.length
    · rw [List.getElem?_set_self hl] at e2
      cases e2; rfl
    · rw [List.getElem?_eq_none (by rw [List.length_set]; omega)] at e2
      cases e2
  · rw [List.getElem?_set_ne n] at e2
    exact .inl ⟨j, u, es, e1, e2⟩
theorem own_write {i : Nat} {t : Bool} {ds es : List D} (e : ρ[i]? = some (.own t ds)) {b : Addr} (h : ownA σ (ρ.set i (.own t es)) b) : ownA σ ρ b := by
  obtain ⟨j, u, fs, e1, e2⟩ := h
  rcases get_set e1 with ⟨rfl, _⟩ | ⟨n, e1⟩
  · exact ⟨_, _, _, e, e2⟩
  · exact ⟨j, u, fs, e1, e2⟩
/-- the own set may be told smaller, or larger by what is new -/
theorem Ext.owns {M F M' F' M'' : Addr → Prop} {H H' : Hp} (e : Ext M F H M' F' H') (h : ∀ a, M'' a → M' a ∨ H a = none) : Ext M F H M'' F' H' :=
  ⟨e.k, e.oth, fun a m => (h a m).elim (e.own a) .inr, e.tk, e.nm⟩
theorem ext_write {i : Nat} {t : Bool} {ds es : List D} {a : Addr} {xs ys : List V} (S : SR G B F σ H ρ) (e : ρ[i]? = some (.own t ds)) (eσ : σ[i]? = some (some (.ref a))) (h : H a = some (.lst xs)) :
    Ext (ownA σ ρ) F H (ownA σ (ρ.set i (.own t es))) F (upd H a (.lst ys)) := by
  obtain ⟨a', xs', e1, nf, h1, r1, z⟩ := S.sl i _ e
  rw [eσ] at e1
  cases e1
  refine ⟨keep_write nf h, fun b o hb n => ?_, fun b hb => .inl (own_write e hb), fun b o hb => ?_, fun b f => .inl f⟩
  · have nb : b ≠ a := fun w => by
      subst w
      exact n ⟨i, t, ds, e, eσ⟩
    rw [upd_ne nb]
    exact hb
  · by_cases w : b = a
    · subst w; exact ⟨_, upd_same⟩
    · exact ⟨o, by rw [upd_ne w]; exact hb⟩
theorem ext_freeze {i : Nat} {ds : List D} {a : Addr} (e : ρ[i]? = some (.own false ds)) (eσ : σ[i]? = some (some (.ref a))) : Ext (ownA σ ρ) F H (ownA σ (ρ.set i (.val (.lst ds)))) (add F a) H :=
  ⟨add_keep, fun _ _ h _ => h, fun _ h => .inl (own_setS (by intro t es z; cases z) h), fun _ o h => ⟨o, h⟩, fun b f => f.elim .inl fun z => .inr (.inl ⟨i, false, ds, e, z ▸ eσ⟩)⟩
end

/-! ### new lists -/
abbrev TF' := Rho → (List D → Rho → Prop) → Prop
def liF (G : Gm) (B : Bs) (t : TF') : TE := fun σ H Q => ∃ (F : Addr → Prop) (ρ : Rho) (P : List D → Rho → Prop), SR G B F σ H ρ ∧ t ρ P ∧ ∀ ds ρ', P ds ρ' → ∀ a H' F' xs, SR G B F' σ H' ρ' → H' a = some (.lst xs) → RepA G F' H' xs ds → ¬ F' a → H a = none → B.H0 a = none → ¬ ownA σ ρ' a →
  Ext (ownA σ ρ) F H (ownA σ ρ') F' H' → Q (.ref a) H'
abbrev PF (X : Cx) (G : Gm) (B : Bs) (e : Expr) (t : TF') : Prop := PE X e (liF G B t)
/-- .. frozen -/
def frz (t : TF') : TE' := fun ρ Q => t ρ fun ds ρ' => Q (.d (.lst ds)) ρ'
section
variable {X : Cx} {G : Gm} {B : Bs}
theorem SR.name {F : Addr → Prop} {H : Hp} {σ : L2.St} {ρ : Rho} (S : SR G B F σ H ρ) {a : Addr} {xs : List V} (h : H a = some (.lst xs)) (h0 : B.H0 a = none) (no : ¬ ownA σ ρ a) : SR G B (add F a) σ H ρ where
  frame := S.frame
  iot := S.iot
  io0 := S.io0
  trk := fun b f => by
    rcases f with f | f
    · exact S.trk b f
    · subst f; exact ⟨_, h⟩
  fresh := fun b f => by
    rcases f with f | f
    · exact S.fresh b f
    · subst f; exact .inr h0
  f0 := fun b f => .inl (S.f0 b f)
  iof := fun b hb f => by
    rcases f with f | f
    · exact S.iof b hb f
    · subst f
      obtain ⟨o, q⟩ := S.io0 _ hb
      rw [h0] at q; cases q
  len := S.len
  sl := fun j s e' => by
    have q := S.sl j s e'
    cases s with
    | no => exact True.intro
    | raw _ => exact q
    | val d =>
      obtain ⟨v, e2, r2⟩ := q
      exact ⟨v, e2, Rep.ext add_keep r2⟩
    | own u fs =>
      obtain ⟨b, zs, e2, nf2, h2, r2, z2⟩ := q
      exact ⟨b, zs, e2, fun f => by
        rcases f with f | f
        · exact nf2 f
        · exact no ⟨j, u, fs, e', f ▸ e2⟩, h2, RepA.ext add_keep r2, z2⟩
  sep := S.sep
theorem pd_frz {e : Expr} {t : TF'} (h : PF X G B e t) : PD X G B e (frz t) := by
  refine pe_imp h fun σ H Q q => ?_
  obtain ⟨F, ρ, P, S, q, k⟩ := q
  refine ⟨F, ρ, _, S, q, fun ds ρ' h1 a H' F' xs S1 ha r nf hn h0 no e1 => ?_⟩
  refine k _ _ h1 (.ref a) H' (add F' a) (S1.name ha h0 no) (.lst (.inl ha) (.inr rfl) (RepA.ext add_keep r)) ⟨e1.k.trans add_keep, e1.oth, e1.own, e1.tk, fun b f => f.elim (e1.nm b) fun z => .inr (.inr (z ▸ hn))⟩
/-- the wish behind an operation that lays a new list -/
def NL (G : Gm) (F : Addr → Prop) (H : Hp) (ds : List D) (Q : VK) : Prop := ∀ p xs, H p = none → RepA G F H xs ds → Q (.ref p) (upd H p (.lst xs))
theorem SR.laid {F : Addr → Prop} {H H0 : Hp} {M F0 : Addr → Prop} {σ : L2.St} {ρ : Rho} (S : SR G B F σ H ρ) (e : Ext M F0 H0 (ownA σ ρ) F H) {ds : List D} {Q : VK}
    (k : ∀ a H' F' xs, SR G B F' σ H' ρ → H' a = some (.lst xs) → RepA G F' H' xs ds → ¬ F' a → H0 a = none → B.H0 a = none → ¬ ownA σ ρ a → Ext M F0 H0 (ownA σ ρ) F' H' → Q (.ref a) H') : NL G F H ds Q := fun p xs hp r => by
  have n := New.tup (o := .lst xs) S.trk hp
  have z : H0 p = none := by
    cases q : H0 p with
    | none => rfl
    | some o =>
      obtain ⟨o', q'⟩ := e.tk p o q
      rw [hp] at q'; cases q'
  exact k p _ F xs (S.new n) upd_same (RepA.ext n.keep r) (S.nof hp) z (S.h0 hp) (S.noown hp) (e.trans n.ext)
def lstF (t : TA') : TF' := fun ρ Q => t ρ fun xs ρ1 => ok (fzs xs) fun ds => if ds.length ≤ sizeLine then Q ds ρ1 else False
theorem pf_lst {es : List Expr} {t : TA'} {pos} (h : PDA X G B es t) : PF X G B (.List es pos) (lstF t) := by
  refine pe_imp (pe_lst h) fun σ H Q q => ?_
  obtain ⟨F, ρ, P, S, q, k⟩ := q
  refine ⟨F, ρ, _, S, q, fun xs ρ1 h1 vs H1 F1 S1 r1 e1 => ?_⟩
  obtain ⟨ds, ed, h1⟩ := h1.ex
  obtain ⟨hl, h1⟩ := ite_ex h1
  have ra := r1.reps ed
  exact ⟨by rw [ra.length]; exact hl, fun p hp => S1.laid e1 (k _ _ h1) p vs hp ra⟩
/-- two operands to a new list -/
def OpF (G : Gm) (r : R2) (f : D → D → Option (List D)) : Prop :=
  ∀ (F : Addr → Prop) (H : Hp) (x y : V) (a b : D) (c : List D) (Q : VK), (∀ p, F p → ∃ o, H p = some o) → Top G F H x a → Top G F H y b → f a b = some c → NL G F H c Q → r x y H Q
theorem OpF.d {r : R2} {f : D → D → Option (List D)} (h : OpF G r f) : OpD G r fun a b => (f a b).map D.lst := fun F H x y a b c Q t ta tb e q => by
  have e' : (f a b).map D.lst = some c := e
  cases z : f a b with
  | none => rw [z] at e'; cases e'
  | some ds =>
    rw [z] at e'
    cases (show D.lst ds = c from Option.some.inj e')
    refine h F H x y a b ds Q t ta tb z fun p xs hp r => ?_
    have n := New.lst (o := .lst xs) t hp
    exact q _ _ _ n (.lst (.inl upd_same) (.inr rfl) (RepA.ext n.keep r))
def binF (f : D → D → Option (List D)) (ta tb : TE') : TF' := fun ρ Q => ta ρ fun x ρ1 => tb ρ1 fun y ρ2 => ok (rs ρ2 x) fun a => ok (rs ρ2 y) fun b => ok (f a b) fun c => Q c ρ2
theorem tOp_f {r : R2} {f : D → D → Option (List D)} (hf : OpF G r f) {ta tb : TE'} (σ : L2.St) (H : Hp) (Q : VK) (h : liF G B (binF f ta tb) σ H Q) : tOp r (liE G B ta) (liE G B tb) σ H Q := by
  obtain ⟨F, ρ, P, S, h, k⟩ := h
  refine ⟨F, ρ, _, S, h, fun x ρ1 h1 v H1 F1 S1 r1 e1 => ⟨F1, ρ1, _, S1, h1, fun y ρ2 h2 u H2 F2 S2 r2 e2 => ?_⟩⟩
  obtain ⟨a, ea, h2⟩ := h2.ex
  obtain ⟨b, eb, h2⟩ := h2.ex
  obtain ⟨c, ec, h2⟩ := h2.ex
  exact hf F2 H2 v u a b c Q S2.trk ((r1.keep e2.k).top S2 ea) (r2.top S2 eb) ec (S2.laid (e1.trans e2) (k _ _ h2))
theorem pf_op {op : Operator} {r : R2} {f : D → D → Option (List D)} {a b : Expr} {ta tb : TE'} {pos : Pos} (ho : OpR X (binaryOp op) r) (hf : OpF G r f) (ha : PD X G B a ta) (hb : PD X G B b tb) : PF X G B (.BinOp a op b pos) (binF f ta tb) :=
  pe_imp (pe_op ho ha hb) (tOp_f hf)
def CalF (G : Gm) (r : List V → Hp → VK → Prop) (f : List D → Option (List D)) : Prop :=
  ∀ (F : Addr → Prop) (H : Hp) (vs : List V) (ds : List D) (c : List D) (Q : VK), (∀ p, F p → ∃ o, H p = some o) → Tops G F H vs ds → f ds = some c → NL G F H c Q → r vs H Q
theorem CalF.d {r : List V → Hp → VK → Prop} {f : List D → Option (List D)} (h : CalF G r f) : CalD G r fun ds => (f ds).map D.lst := fun F H vs ds c Q t ta e q => by
  have e' : (f ds).map D.lst = some c := e
  cases z : f ds with
  | none => rw [z] at e'; cases e'
  | some cs =>
    rw [z] at e'
    cases (show D.lst cs = c from Option.some.inj e')
    refine h F H vs ds cs Q t ta z fun p xs hp r => ?_
    have n := New.lst (o := .lst xs) t hp
    exact q _ _ _ n (.lst (.inl upd_same) (.inr rfl) (RepA.ext n.keep r))
def calF (f : List D → Option (List D)) (t : TA') : TF' := fun ρ Q => t ρ fun xs ρ1 => ok (rss ρ1 xs) fun ds => ok (f ds) fun c => Q c ρ1
theorem tCB_f {r : List V → Hp → VK → Prop} {f : List D → Option (List D)} (hf : CalF G r f) {t : TA'} (σ : L2.St) (H : Hp) (Q : VK) (h : liF G B (calF f t) σ H Q) : tCB r (liA G B t) σ H Q := by
  obtain ⟨F, ρ, P, S, h, k⟩ := h
  refine ⟨F, ρ, _, S, h, fun xs ρ1 h1 vs H1 F1 S1 r1 e1 => ?_⟩
  obtain ⟨ds, ed, h1⟩ := h1.ex
  obtain ⟨c, ec, h1⟩ := h1.ex
  exact hf F1 H1 vs ds c Q S1.trk (r1.tops S1 ed) ec (S1.laid e1 (k _ _ h1))
theorem pf_callB {id : String} {r : List V → Hp → VK → Prop} {f : List D → Option (List D)} {x : Str} {e : Expr} {es : List Expr} {t : TA'} {p pos : Pos} (hc : CallR X (.builtin id) r) (hf : CalF G r f) (hm : X.mg x = none) (hv : bootBuiltins x = some (.builtin id)) (ha : PDA X G B (e :: es) t)
    (hg : Gl X x := by rfl) (hn : x ≠ "__name__" := by decide) (hdb : (x == ("__debug__" : Str)) = false := by decide) (he : starEach (e :: es) X.env = (false, eval e X.env) :: starEach es X.env := by rfl) (hpl : (backTo pos (starEach es X.env)).any (·.1) = false := by rfl) : PF X G B (.Call (.Name x p) (e :: es) [] pos) (calF f t) :=
  pe_imp (pe_callB hc hg hm hv ha hn hdb he hpl) (tCB_f hf)
theorem pf_callTy {T : String} {r : List V → Hp → VK → Prop} {f : List D → Option (List D)} {x : Str} {e : Expr} {es : List Expr} {t : TA'} {p pos : Pos} (hc : CallR X (.type T) r) (hf : CalF G r f) (hm : X.mg x = none) (hv : bootBuiltins x = some (.type T)) (ha : PDA X G B (e :: es) t)
    (hg : Gl X x := by rfl) (hn : x ≠ "__name__" := by decide) (hdb : (x == ("__debug__" : Str)) = false := by decide) (he : starEach (e :: es) X.env = (false, eval e X.env) :: starEach es X.env := by rfl) (hpl : (backTo pos (starEach es X.env)).any (·.1) = false := by rfl) : PF X G B (.Call (.Name x p) (e :: es) [] pos) (calF f t) :=
  pe_imp (pe_callTy hc hg hm hv ha hn hdb he hpl) (tCB_f hf)
end
end DL
set_option Elab.async false
set_option linter.all false
set_option maxRecDepth 100000
set_option maxHeartbeats 4000000
namespace DL
open PySem PySem.Spec PyProof.Rows L2

/-! ### statements -/
structure En where
  nx : Rho → Prop
  rt : Xv → Rho → Prop
  bk : Rho → Prop := fun _ => False
  ct : Rho → Prop := fun _ => False
  rf : List D → Rho → Prop := fun _ _ => False
abbrev TS' := En → Rho → Prop
/-- what the data's wish P gives to the wish D -/
structure Rel (G : Gm) (B : Bs) (F : Addr → Prop) (σ : L2.St) (H : Hp) (ρ : Rho) (P : En) (D : Ends) : Prop where
  nx : ∀ ρ', P.nx ρ' → ∀ σ' H' F', SR G B F' σ' H' ρ' → Ext (ownA σ ρ) F H (ownA σ' ρ') F' H' → D.nx σ' H'
  rt : ∀ x ρ', P.rt x ρ' → ∀ v σ' H' F', SR G B F' σ' H' ρ' → RX G F' H' σ' v x → Ext (ownA σ ρ) F H (ownA σ' ρ') F' H' → D.rt v H'
  bk : ∀ ρ', P.bk ρ' → ∀ σ' H' F', SR G B F' σ' H' ρ' → Ext (ownA σ ρ) F H (ownA σ' ρ') F' H' → D.bk σ' H'
  ct : ∀ ρ', P.ct ρ' → ∀ σ' H' F', SR G B F' σ' H' ρ' → Ext (ownA σ ρ) F H (ownA σ' ρ') F' H' → D.ct σ' H'
  rf : ∀ ds ρ', P.rf ds ρ' → ∀ a σ' H' F' xs, SR G B F' σ' H' ρ' → H' a = some (.lst xs) → RepA G F' H' xs ds → ¬ F' a → H a = none → B.H0 a = none → ¬ ownA σ' ρ' a → Ext (ownA σ ρ) F H (ownA σ' ρ') F' H' → D.rt (.ref a) H'
def liS (G : Gm) (B : Bs) (t : TS') : TS := fun D σ H => ∃ (F : Addr → Prop) (ρ : Rho) (P : En), SR G B F σ H ρ ∧ t P ρ ∧ Rel G B F σ H ρ P D
abbrev PDS (X : Cx) (G : Gm) (B : Bs) (st : Stmt) (t : TS') : Prop := PS X st (liS G B t)
abbrev PDSs (X : Cx) (G : Gm) (B : Bs) (st : List Stmt) (t : TS') : Prop := PSs X st (liS G B t)
section
variable {X : Cx} {G : Gm} {B : Bs} {F F1 : Addr → Prop} {σ σ1 : L2.St} {H H1 : Hp} {ρ ρ1 : Rho} {P : En}
theorem Rel.step {De : Ends} (R : Rel G B F σ H ρ P De) (e : Ext (ownA σ ρ) F H (ownA σ1 ρ1) F1 H1) : Rel G B F1 σ1 H1 ρ1 P De :=
  ⟨fun ρ' h σ' H' F' S e' => R.nx ρ' h σ' H' F' S (e.trans e'), fun x ρ' h v σ' H' F' S r e' => R.rt x ρ' h v σ' H' F' S r (e.trans e'),
    fun ρ' h σ' H' F' S e' => R.bk ρ' h σ' H' F' S (e.trans e'), fun ρ' h σ' H' F' S e' => R.ct ρ' h σ' H' F' S (e.trans e'),
    fun ds ρ' h a σ' H' F' xs S ha r nf hn h0 no e' => R.rf ds ρ' h a σ' H' F' xs S ha r nf (by
      cases q : H a with
      | none => rfl
      | some o =>
        obtain ⟨o', z⟩ := e.tk a o q
        rw [hn] at z; cases z) h0 no (e.trans e')⟩
def nxt : TS' := fun P ρ => P.nx ρ
def seq (t u : TS') : TS' := fun P ρ => t { P with nx := u P } ρ
theorem pds_nil : PDSs X G B [] nxt := by
  refine pss_imp pss_nil fun D σ H ⟨F, ρ, P, S, h, R⟩ => ?_
  exact R.nx ρ h σ H F S (Ext.refl _ _ _)
theorem pds_cons {st : Stmt} {rest : List Stmt} {t u : TS'} (h1 : PDS X G B st t) (h2 : PDSs X G B rest u) : PDSs X G B (st :: rest) (seq t u) := by
  refine pss_imp (pss_cons h1 h2) fun D σ H ⟨F, ρ, P, S, h, R⟩ => ?_
  exact ⟨F, ρ, { P with nx := u P }, S, h, fun ρ' hu σ' H' F' S' e => ⟨F', ρ', P, S', hu, R.step e⟩, R.rt, R.bk, R.ct, R.rf⟩
theorem pds_one {st : Stmt} {t : TS'} (h1 : PDS X G B st t) : PDSs X G B [st] t := pss_one h1
def brk' : TS' := fun P ρ => P.bk ρ
def cnt' : TS' := fun P ρ => P.ct ρ
theorem pds_pass {pos : Pos} : PDS X G B (.Pass pos) nxt := ps_imp ps_pass fun D σ H ⟨F, ρ, P, S, h, R⟩ => R.nx ρ h σ H F S (Ext.refl _ _ _)
theorem pds_never {st : Stmt} : PDS X G B st (fun _ _ => False) := ps_imp ps_never fun D σ H ⟨F, ρ, P, S, h, R⟩ => h.elim
def ret (t : TE') : TS' := fun P ρ => t ρ P.rt
theorem pds_ret {e : Expr} {t : TE'} {pos : Pos} (h : PD X G B e t) : PDS X G B (.Return (some e) pos) (ret t) := by
  refine ps_imp (ps_ret h) fun D σ H ⟨F, ρ, P, S, h, R⟩ => ?_
  exact ⟨F, ρ, P.rt, S, h, fun x ρ' h1 v H' F' S' r e => R.rt x ρ' h1 v σ H' F' S' r e⟩
def retF (t : TF') : TS' := fun P ρ => t ρ P.rf
theorem pds_retF {e : Expr} {t : TF'} {pos : Pos} (h : PF X G B e t) : PDS X G B (.Return (some e) pos) (retF t) := by
  refine ps_imp (ps_ret h) fun D σ H ⟨F, ρ, P, S, h, R⟩ => ?_
  exact ⟨F, ρ, P.rf, S, h, fun ds ρ' h1 a H' F' xs S' ha r nf hn h0 no e => R.rf ds ρ' h1 a σ H' F' xs S' ha r nf hn h0 no e⟩
def retN : TS' := fun P ρ => P.rt (.d .non) ρ
theorem pds_retN {pos : Pos} : PDS X G B (.Return none pos) retN := by
  refine ps_imp ps_retN fun D σ H ⟨F, ρ, P, S, h, R⟩ => ?_
  exact R.rt _ ρ h .non σ H F S .non (Ext.refl _ _ _)
def ifs (c : TT') (t u : TS') : TS' := fun P ρ => c ρ fun b ρ1 => if b = true then t P ρ1 else u P ρ1
theorem pds_if {c : Expr} {a b : List Stmt} {tc : TT'} {t u : TS'} {pos : Pos} (hc : PDT X G B c tc) (ha : PDSs X G B a t) (hb : PDSs X G B b u) : PDS X G B (.If c a b pos) (ifs tc t u) := by
  refine ps_imp (ps_if hc ha hb) fun D σ H ⟨F, ρ, P, S, h, R⟩ => ?_
  refine ⟨F, ρ, _, S, h, fun b ρ1 h1 H1 F1 S1 e1 => ?_⟩
  cases b with
  | true =>
    rw [if_pos rfl] at h1 ⊢
    exact ⟨F1, ρ1, P, S1, h1, R.step e1⟩
  | false =>
    rw [if_neg Bool.false_ne_true] at h1 ⊢
    exact ⟨F1, ρ1, P, S1, h1, R.step e1⟩
def drp (t : TE') : TS' := fun P ρ => t ρ fun _ ρ1 => P.nx ρ1
theorem pds_expr {e : Expr} {t : TE'} {pos : Pos} (he : PD X G B e t) (hs : swapsWith e none pos.line X.env = pure false := by rfl) : PDS X G B (.Expr e pos) (drp t) := by
  refine ps_imp (ps_expr he hs) fun D σ H ⟨F, ρ, P, S, h, R⟩ => ?_
  exact ⟨F, ρ, _, S, h, fun x ρ1 h1 v H1 F1 S1 r1 e1 => R.nx ρ1 h1 σ H1 F1 S1 e1⟩

/-! ### stores -/
theorem ext_set {i : Nat} {o : Option V} {s : Sl} (hs : ∀ t ds, s ≠ .own t ds) : Ext (ownA σ ρ) F H (ownA (σ.set i o) (ρ.set i s)) F H := (Ext.refl _ _ _).owns fun a h => .inl (own_set hs h)
theorem val_ne {d : D} : ∀ t ds, Sl.val d ≠ .own t ds := by intro t ds z; cases z
theorem no_ne : ∀ t ds, Sl.no ≠ .own t ds := by intro t ds z; cases z
def set (i : Nat) (t : TE') : TS' := fun P ρ => t ρ fun x ρ1 => match x with
  | .d d => P.nx (ρ1.set i (.val d))
  | .o _ => False
theorem pds_set {i : Nat} {x : Str} {e : Expr} {t : TE'} {pos pos' : Pos} (hN : X.N.Nodup) (he : PD X G B e t) (hi : X.N[i]? = some x := by rfl) (hx : Loc X.env.scope x := by first | exact .inl rfl | exact .inr rfl) (hs : swapsWith e (some (.Name x pos')) pos.line X.env = pure false := by rfl)
    (hf : X.fn x = true ∨ X.env.scope.names.lookup x = some .local := by first | exact .inl rfl | exact .inr rfl | assumption) : PDS X G B (.Assign [.Name x pos'] e pos) (set i t) := by
  refine ps_imp (ps_set hN hi hx he hs hf) fun D σ H ⟨F, ρ, P, S, h, R⟩ => ?_
  refine ⟨F, ρ, _, S, h, fun x ρ1 h1 v H1 F1 S1 r1 e1 => ?_⟩
  cases x with
  | o j => exact h1.elim
  | d d => exact R.nx _ h1 _ H1 F1 (S1.set i r1) (e1.trans (ext_set val_ne))
/-- a new list comes to a slot that owns it -/
def setO (i : Nat) (t : TF') : TS' := fun P ρ => t ρ fun ds ρ1 => P.nx (ρ1.set i (.own false ds))
theorem pds_setO {i : Nat} {x : Str} {e : Expr} {t : TF'} {pos pos' : Pos} (hN : X.N.Nodup) (he : PF X G B e t) (hi : X.N[i]? = some x := by rfl) (hx : Loc X.env.scope x := by first | exact .inl rfl | exact .inr rfl) (hs : swapsWith e (some (.Name x pos')) pos.line X.env = pure false := by rfl)
    (hf : X.fn x = true ∨ X.env.scope.names.lookup x = some .local := by first | exact .inl rfl | exact .inr rfl | assumption) : PDS X G B (.Assign [.Name x pos'] e pos) (setO i t) := by
  refine ps_imp (ps_set hN hi hx he hs hf) fun D σ H ⟨F, ρ, P, S, h, R⟩ => ?_
  refine ⟨F, ρ, _, S, h, fun ds ρ1 h1 a H1 F1 xs S1 ha r1 nf hn h0 no e1 => ?_⟩
  exact R.nx _ h1 _ H1 F1 (S1.setOwn i nf ha r1 h0 no) (e1.owns fun b m => (own_setO m).elim .inl fun z => .inr (z ▸ hn))
/-- a, b = two expressions -/
def par (i j : Nat) (t : TA') : TS' := fun P ρ => t ρ fun xs ρ1 => match xs with
  | [.d a, .d b] => P.nx ((ρ1.set i (.val a)).set j (.val b))
  | _ => False
theorem pds_par {i j : Nat} {x y : Str} {a b : Expr} {t : TA'} {px py pt pos : Pos} {kt k2 pt2} (hc : X.calm = true) (hN : X.N.Nodup) (ha : PDA X G B [a, b] t) (hi : X.N[i]? = some x := by rfl) (hj : X.N[j]? = some y := by rfl) (hij : i ≠ j := by decide)
    (hx : X.env.scope.names.lookup x = some .local := by rfl) (hy : X.env.scope.names.lookup y = some .local := by rfl)
    (hw : swappedStores [.Tuple [.Name x px, .Name y py] kt pt] (.Tuple [a, b] k2 pt2) X.env = pure (some [x, y]) := by rfl)
    (hs : swapsWithSole [.Tuple [.Name x px, .Name y py] kt pt] (.Tuple [a, b] k2 pt2) pos.line X.env = pure false := by rfl) :
    PDS X G B (.Assign [.Tuple [.Name x px, .Name y py] kt pt] (.Tuple [a, b] k2 pt2) pos) (par i j t) := by
  refine ps_imp (ps_par hc hN hi hj hij hx hy ha hw hs) fun D σ H ⟨F, ρ, P, S, h, R⟩ => ?_
  refine ⟨F, ρ, _, S, h, fun xs ρ1 h1 vs H1 F1 S1 r1 e1 => ?_⟩
  match xs, vs, r1, h1 with
  | [.d a, .d b], _, .cons ra (.cons rb .nil), h1 => exact ⟨_, _, rfl, R.nx _ h1 _ H1 F1 ((S1.set i ra).set j rb) ((e1.trans (ext_set val_ne)).trans (ext_set val_ne))⟩
/-- .. the first a new list that its slot owns -/
def parO (i j : Nat) (t : TF') (u : TE') : TS' := fun P ρ => t ρ fun ds ρ1 => u (ρ1.set i (.own false ds)) fun y ρ2 => False
end

/-! ### targets -/
abbrev TG' := D → Rho → (Rho → Prop) → Prop
abbrev TGs' := List D → Rho → (Rho → Prop) → Prop
/-- the slots at ts alone are changed -/
structure Tgt (ts : List Nat) (σ σ' : L2.St) : Prop where
  len : σ'.length = σ.length
  out : ∀ j, j ∉ ts → σ'[j]? = σ[j]?
def liG (G : Gm) (B : Bs) (ts : List Nat) (t : TG') : TG := fun v σ H Q => ∃ (F : Addr → Prop) (ρ : Rho) (d : D) (P : Rho → Prop), SR G B F σ H ρ ∧ Rep G F H v d ∧ t d ρ P ∧ ∀ ρ', P ρ' → ∀ σ', SR G B F σ' H ρ' → (∀ a, ownA σ' ρ' a → ownA σ ρ a) → Tgt ts σ σ' → Q σ' H
def liGs (G : Gm) (B : Bs) (ts : List Nat) (t : TGs') : TGs := fun vs σ H Q => ∃ (F : Addr → Prop) (ρ : Rho) (ds : List D) (P : Rho → Prop), SR G B F σ H ρ ∧ RepA G F H vs ds ∧ t ds ρ P ∧ ∀ ρ', P ρ' → ∀ σ', SR G B F σ' H ρ' → (∀ a, ownA σ' ρ' a → ownA σ ρ a) → Tgt ts σ σ' → Q σ' H
def gn (i : Nat) : TG' := fun d ρ Q => Q (ρ.set i (.val d))
def g0 : TGs' := fun ds ρ Q => match ds with
  | [] => Q ρ
  | _ :: _ => False
def gc (t : TG') (u : TGs') : TGs' := fun ds ρ Q => match ds with
  | [] => False
  | d :: ds => t d ρ fun ρ1 => u ds ρ1 Q
def gt (n : Nat) (u : TGs') : TG' := fun d ρ Q => match d with
  | .tup ds => if ds.length = n then u ds ρ Q else False
  | _ => False
abbrev PDG (X : Cx) (G : Gm) (B : Bs) (e : Expr) (ts : List Nat) (t : TG') : Prop := PG X e (liG G B ts t)
abbrev PDGs (X : Cx) (G : Gm) (B : Bs) (es : List Expr) (ts : List Nat) (t : TGs') : Prop := PGs X es (liGs G B ts t)
section
variable {X : Cx} {G : Gm} {B : Bs}
theorem pg_imp {e : Expr} {t t' : TG} (h : PG X e t) (k : ∀ v σ H Q, t' v σ H Q → t v σ H Q) : PG X e t' := ⟨fun pins s σ H v u Q I r q => h.run pins s σ H v u Q I r (k v σ H Q q)⟩
theorem pgs_imp {es : List Expr} {t t' : TGs} (h : PGs X es t) (k : ∀ v σ H Q, t' v σ H Q → t v σ H Q) : PGs X es t' := ⟨fun pins s σ H v u Q I r q => h.run pins s σ H v u Q I r (k v σ H Q q)⟩
theorem pdg_n {i : Nat} {x : Str} {pos : Pos} (hN : X.N.Nodup) (hi : X.N[i]? = some x := by rfl) (hx : Loc X.env.scope x := by first | exact .inl rfl | exact .inr rfl) (hf : X.fn x = true ∨ X.env.scope.names.lookup x = some .local := by first | exact .inl rfl | exact .inr rfl | assumption) : PDG X G B (.Name x pos) [i] (gn i) := by
  refine pg_imp (pg_name hN hi hx hf) fun v σ H Q ⟨F, ρ, d, P, S, r, h, k⟩ => ?_
  exact k _ h _ (S.set i r) (fun a => own_set val_ne) ⟨List.length_set, fun j hj => List.getElem?_set_ne (fun e => hj (List.mem_singleton.mpr e.symm))⟩
theorem pdg_nil : PDGs X G B [] [] g0 := by
  refine pgs_imp pgs_nil fun vs σ H Q ⟨F, ρ, ds, P, S, r, h, k⟩ => ?_
  cases ds with
  | nil =>
    cases r
    exact ⟨rfl, k _ h _ S (fun _ h => h) ⟨rfl, fun _ _ => rfl⟩⟩
  | cons d ds => exact h.elim
theorem pdg_cons {e : Expr} {es : List Expr} {ts us : List Nat} {t : TG'} {u : TGs'} (h1 : PDG X G B e ts t) (h2 : PDGs X G B es us u)
    (hs : (assignEach (e :: es) X.env).map (·.2) = assign e X.env :: (assignEach es X.env).map (·.2) := by rfl) : PDGs X G B (e :: es) (ts ++ us) (gc t u) := by
  refine pgs_imp (pgs_cons h1 h2 hs) fun vs σ H Q ⟨F, ρ, ds, P, S, r, h, k⟩ => ?_
  cases ds with
  | nil => exact h.elim
  | cons d ds =>
    cases r with
    | cons r rr =>
      exact ⟨_, _, rfl, F, ρ, d, _, S, r, h, fun ρ1 h1 σ1 S1 o1 t1 => ⟨F, ρ1, ds, P, S1, rr, h1, fun ρ2 h2 σ2 S2 o2 t2 => k ρ2 h2 σ2 S2 (fun a h => o1 a (o2 a h)) ⟨t2.len.trans t1.len, fun j hj => (t2.out j fun m => hj (List.mem_append_right _ m)).trans (t1.out j fun m => hj (List.mem_append_left _ m))⟩⟩⟩
theorem pdg_tup {es : List Expr} {k : Nat} {ts : List Nat} {u : TGs'} {n : Nat} {pos : Pos} (hc : X.calm = true) (h : PDGs X G B es ts u)
    (hn : (assignEach es X.env).length = n := by rfl) (hst : (assignEach es X.env).findIdx? (·.1) = none := by rfl) : PDG X G B (.Tuple es k pos) ts (gt n u) := by
  refine pg_imp (pg_tup hc h hn hst) fun v σ H Q ⟨F, ρ, d, P, S, r, h, k⟩ => ?_
  cases d with
  | tup ds =>
    obtain ⟨hl, h⟩ := ite_ex h
    cases r with
    | tup rd ra => exact ⟨_, _, rfl, SqT.of rd, by rw [ra.length]; exact hl, F, ρ, ds, P, S, ra, h, k⟩
  | _ => exact h.elim
/-- target = e -/
def asg (t : TE') (g : TG') : TS' := fun P ρ => t ρ fun x ρ1 => match x with
  | .d d => g d ρ1 P.nx
  | .o _ => False
theorem pds_asg {tg e : Expr} {t : TE'} {ts : List Nat} {g : TG'} {pos : Pos} (he : PD X G B e t) (hg : PDG X G B tg ts g) (hs : swapsWithSole [tg] e pos.line X.env = pure false := by rfl) (hw : swappedStores [tg] e X.env = pure none := by rfl)
    (h1 : (assignEach [tg] X.env).map (·.2) = [assign tg X.env] := by rfl) : PDS X G B (.Assign [tg] e pos) (asg t g) := by
  refine ps_imp (ps_asg he hg hs hw h1) fun D σ H ⟨F, ρ, P, S, h, R⟩ => ?_
  refine ⟨F, ρ, _, S, h, fun x ρ1 h1 v H1 F1 S1 r1 e1 => ?_⟩
  cases x with
  | o j => exact h1.elim
  | d d => exact ⟨F1, ρ1, d, P.nx, S1, r1, h1, fun ρ2 h2 σ2 S2 o2 _ => R.nx ρ2 h2 σ2 H1 F1 S2 (e1.owns fun a m => .inl (o2 a m))⟩

/-! ### what is walked -/
/-- an iterator yields ds one after another -/
def Walks (G : Gm) (F1 : Addr → Prop) (H1 : Hp) (J : It) (ds : List D) : Prop := ∀ (i : Nat) (F : Addr → Prop) (H : Hp), Keep F1 H1 F H → (∀ p, F p → ∃ o, H p = some o) →
  (∀ d, ds[i]? = some d → J.go i H ∧ ∀ x H', J.yld i H x H' → ∃ F', New F H F' H' ∧ Rep G F' H' x d) ∧ (ds.length ≤ i → J.stop i H)
abbrev TI' := Rho → (List D → Rho → Prop) → Prop
def liI (G : Gm) (B : Bs) (t : TI') : TI := fun σ H R => ∃ (F : Addr → Prop) (ρ : Rho) (P : List D → Rho → Prop), SR G B F σ H ρ ∧ t ρ P ∧ ∀ ds ρ', P ds ρ' → ∀ J H' F', SR G B F' σ H' ρ' → Ext (ownA σ ρ) F H (ownA σ ρ') F' H' → Walks G F' H' J ds → R J H'
abbrev PDI (X : Cx) (G : Gm) (B : Bs) (tg iter : Expr) (t : TI') : Prop := PI X tg iter (liI G B t)
theorem pi_imp {tg iter : Expr} {t t' : TI} (h : PI X tg iter t) (k : ∀ σ H R, t' σ H R → t σ H R) : PI X tg iter t' := ⟨fun pins s σ H R I q => h.run pins s σ H R I (k σ H R q)⟩
/-- a list or a tuple, whichever it is -/
def seqI (K : PySem.W.Frag) (tl : TE) : TI := fun σ H R => tl σ H fun x H1 => ∃ a, x = .ref a ∧ (((∃ xs, SqL K H1 a xs) ∧ R (Itl K a) H1) ∨ ((∃ xs, SqT K H1 a xs) ∧ R (Itt K a) H1))
theorem pi_seq {tg l : Expr} {tl : TE} (hl : PE X l tl) : PI X tg l (seqI X.K tl) := by
  constructor
  intro pins s σ H R I h
  refine thn (hl.run pins s σ H _ I h) fun v s1 h1 => ?_
  obtain ⟨x, H1, I1, r1, a, e, q⟩ := h1
  subst e
  cases r1
  have I2 : ∀ {ob : Obj}, Inv X pins σ H1 { s1 with heap := s1.heap.push ob } := fun {ob} => I1.kept (t' := s1.toks) fun b o z => Heap.get?_push_of_some _ z
  have fp : ∀ b ∈ [s1.heap.objs.size], FpOk X pins H1 b := fun b hb => by
    rw [show b = s1.heap.objs.size from List.mem_singleton.mp hb]
    exact I1.fpOk (Nat.le_refl _) (I1.hok.fresh (Nat.le_refl _))
  rcases q with ⟨⟨xs, hq⟩, q⟩ | ⟨⟨xs, hq⟩, q⟩
  · obtain ⟨its, _, p, _⟩ := I1.list hq
    exact wpAny_pyIter_list p.isList ⟨_, [s1.heap.objs.size], _, _, H1, rfl, I2, turn_list a _, ⟨_, Heap.get?_push_size _ rfl, rfl, rfl⟩, fp, q⟩
  · obtain ⟨its, _, p, _⟩ := I1.tuple hq
    exact wpAny_pyIter_tuple (show s1.heap.IsTuple a its.toArray from p) ⟨_, [s1.heap.objs.size], _, _, H1, rfl, I2, turn_tuple a _, ⟨_, Heap.get?_push_size _ rfl, rfl, rfl⟩, fp, q⟩
def itm (t : TE') : TI' := fun ρ Q => t ρ fun x ρ1 => match x with
  | .d (.lst ds) => Q ds ρ1
  | .d (.tup ds) => Q ds ρ1
  | _ => False
theorem walks_l {F1 : Addr → Prop} {H1 : Hp} {K : PySem.W.Frag} {a : Addr} {xs : List V} {ds : List D} (r : Rd H1 a (.lst xs)) (f : F1 a) (ra : RepA G F1 H1 xs ds) : Walks G F1 H1 (Itl K a) ds := fun i F H k t => by
  have r' := k.rdL r f
  have ra' := RepA.ext k ra
  refine ⟨fun d e => ?_, fun hl => ⟨xs, .inl r', by rw [ra'.length]; exact hl⟩⟩
  obtain ⟨v, ev, rv⟩ := ra'.get e
  refine ⟨⟨xs, v, .inl r', ev⟩, fun x H' ⟨e1, y⟩ => ?_⟩
  subst e1
  have := y xs (.inl r')
  rw [ev] at this
  cases this
  exact ⟨F, New.refl t, rv⟩
theorem walks_t {F1 : Addr → Prop} {H1 : Hp} {K : PySem.W.Frag} {a : Addr} {xs : List V} {ds : List D} (r : H1 a = some (.tup xs)) (ra : RepA G F1 H1 xs ds) : Walks G F1 H1 (Itt K a) ds := fun i F H k t => by
  have r' := k.rdT r
  have ra' := RepA.ext k ra
  refine ⟨fun d e => ?_, fun hl => ⟨xs, SqT.of r', by rw [ra'.length]; exact hl⟩⟩
  obtain ⟨v, ev, rv⟩ := ra'.get e
  refine ⟨⟨xs, v, SqT.of r', ev⟩, fun x H' ⟨e1, y⟩ => ?_⟩
  subst e1
  have := y xs (SqT.of r')
  rw [ev] at this
  cases this
  exact ⟨F, New.refl t, rv⟩
theorem pdi_seq {tg l : Expr} {t : TE'} (hl : PD X G B l t) : PDI X G B tg l (itm t) := by
  refine pi_imp (pi_seq hl) fun σ H R ⟨F, ρ, P, S, h, k⟩ => ?_
  refine ⟨F, ρ, _, S, h, fun x ρ1 h1 v H1 F1 S1 r1 e1 => ?_⟩
  cases x with
  | o j => exact h1.elim
  | d d =>
    cases d with
    | lst ds =>
      cases r1 with
      | lst r f ra => exact ⟨_, rfl, .inl ⟨⟨_, .inl r⟩, k _ _ h1 _ H1 F1 S1 e1 (walks_l r f ra)⟩⟩
    | tup ds =>
      cases r1 with
      | tup r ra => exact ⟨_, rfl, .inr ⟨⟨_, SqT.of r⟩, k _ _ h1 _ H1 F1 S1 e1 (walks_t r ra)⟩⟩
    | _ => exact h1.elim
/-- lo, lo + 1, .. below hi -/
def rangeD (lo hi : Int) : List D := (List.range (hi - lo).toNat).map fun i => D.int (lo + (i : Nat))
def rng1 (t : TE') : TI' := fun ρ Q => t ρ fun x ρ1 => match x with
  | .d (.int j) => if -(2 ^ 62) ≤ j ∧ j < 2 ^ 62 then Q (rangeD 0 j) ρ1 else False
  | _ => False
theorem walks_r {F1 : Addr → Prop} {H1 : Hp} {lo hi : Int} : Walks G F1 H1 (Itr lo (hi - lo).toNat) (rangeD lo hi) := fun i F H k t => by
  refine ⟨fun d e => ?_, fun hl => ?_⟩
  · unfold rangeD at e
    rw [List.getElem?_map] at e
    by_cases hi' : i < (hi - lo).toNat
    · rw [List.getElem?_range hi'] at e
      cases (show D.int (lo + (i : Nat)) = d from Option.some.inj e)
      refine ⟨hi', fun x H' ⟨e1, e2⟩ => ?_⟩
      subst e1
      subst e2
      exact ⟨F, New.refl t, .int _⟩
    · rw [List.getElem?_eq_none (by rw [List.length_range]; omega)] at e
      cases e
  · unfold rangeD at hl
    rw [List.length_map, List.length_range] at hl
    exact hl
theorem pdi_range1 {tg a : Expr} {t : TE'} {p pos : Pos} (hm : X.mg "range" = none) (ha : PD X G B a t) (hg : Gl X "range" := by rfl) (hs : starEach [a] X.env = [(false, eval a X.env)] := by rfl) : PDI X G B tg (.Call (.Name "range" p) [a] [] pos) (rng1 t) := by
  refine pi_imp (pi_range1 hg hm (pa_cons ha pa_nil hs) hs) fun σ H R ⟨F, ρ, P, S, h, k⟩ => ?_
  refine ⟨F, ρ, _, S, h, fun x ρ1 h1 v H1 F1 S1 r1 e1 => ?_⟩
  cases x with
  | o j => exact h1.elim
  | d d =>
    cases d with
    | int j =>
      obtain ⟨⟨q1, q2⟩, h1⟩ := ite_ex h1
      cases r1
      refine ⟨j, rfl, q1, q2, k _ _ h1 _ H1 F1 S1 e1 ?_⟩
      have := walks_r (G := G) (F1 := F1) (H1 := H1) (lo := 0) (hi := j)
      rw [Int.sub_zero] at this
      exact this
    | _ => exact h1.elim
def rng2 (t u : TE') : TI' := fun ρ Q => t ρ fun x ρ1 => u ρ1 fun y ρ2 => match x, y with
  | .d (.int i), .d (.int j) => if -(2 ^ 62) ≤ i ∧ i < 2 ^ 62 ∧ -(2 ^ 62) ≤ j ∧ j < 2 ^ 62 then Q (rangeD i j) ρ2 else False
  | _, _ => False
theorem pdi_range2 {tg a b : Expr} {t u : TE'} {p pos : Pos} (hm : X.mg "range" = none) (ha : PD X G B a t) (hb : PD X G B b u) (hg : Gl X "range" := by rfl) (hs : starEach [a, b] X.env = [(false, eval a X.env), (false, eval b X.env)] := by rfl) (hs2 : starEach [b] X.env = [(false, eval b X.env)] := by rfl) :
    PDI X G B tg (.Call (.Name "range" p) [a, b] [] pos) (rng2 t u) := by
  refine pi_imp (pi_range2 hg hm (pa_cons ha (pa_cons hb pa_nil hs2) (by rw [hs, hs2])) hs hs2) fun σ H R ⟨F, ρ, P, S, h, k⟩ => ?_
  refine ⟨F, ρ, _, S, h, fun x ρ1 h1 v H1 F1 S1 r1 e1 => ⟨F1, ρ1, _, S1, h1, fun y ρ2 h2 u H2 F2 S2 r2 e2 => ?_⟩⟩
  match x, y, r1, r2, h2 with
  | .d (.int i), .d (.int j), r1, r2, h2 =>
    obtain ⟨q, h2⟩ := ite_ex h2
    cases r1
    cases r2
    exact ⟨i, j, rfl, q, k _ _ h2 _ H2 F2 S2 (e1.trans e2) walks_r⟩
/-- zip of two lists, or of two tuples -/
def zipD (as bs : List D) : List D := (as.zip bs).map fun p => D.tup [p.1, p.2]
def zpI (t : TA') : TI' := fun ρ Q => t ρ fun xs ρ1 => match xs with
  | [.d (.lst as), .d (.lst bs)] => Q (zipD as bs) ρ1
  | [.d (.tup as), .d (.tup bs)] => Q (zipD as bs) ρ1
  | _ => False
theorem zipD_get {as bs : List D} {i : Nat} {d : D} (e : (zipD as bs)[i]? = some d) : ∃ a b, as[i]? = some a ∧ bs[i]? = some b ∧ d = .tup [a, b] := by
  unfold zipD at e
  rw [List.getElem?_map] at e
  cases q : (as.zip bs)[i]? with
  | none => rw [q] at e; cases e
  | some p =>
    rw [q] at e
    obtain ⟨h1, h2⟩ := List.getElem?_zip_eq_some.mp q
    exact ⟨p.1, p.2, h1, h2, (Option.some.inj e).symm⟩
theorem rep_pair {F : Addr → Prop} {H : Hp} {T : Addr} {x y : V} {a b : D} (t : ∀ p, F p → ∃ o, H p = some o) (hT : H T = none) (ra : Rep G F H x a) (rb : Rep G F H y b) : ∃ F', New F H F' (upd H T (.tup [x, y])) ∧ Rep G F' (upd H T (.tup [x, y])) (.ref T) (.tup [a, b]) := by
  have n := New.tup (o := .tup [x, y]) t hT
  exact ⟨F, n, .tup upd_same (.cons (Rep.ext n.keep ra) (.cons (Rep.ext n.keep rb) .nil))⟩
theorem pdi_zip {e e2 : Expr} {t : TA'} {p pos tpos : Pos} {elts : List Expr} {kk : Nat} (hm : X.mg "zip" = none) (ha : PDA X G B [e, e2] t) (hg : Gl X "zip" := by rfl)
    (hs : starEach [e, e2] X.env = (false, eval e X.env) :: starEach [e2] X.env := by rfl) (hpl : (backTo pos (starEach [e2] X.env)).any (·.1) = false := by rfl) :
    PDI X G B (.Tuple elts kk tpos) (.Call (.Name "zip" p) [e, e2] [] pos) (zpI t) := by
  refine pi_imp (RZ.pi_zipA hg hm ha hs hpl) fun σ H R ⟨F, ρ, P, S, h, k⟩ => ?_
  refine ⟨F, ρ, _, S, h, fun xs ρ1 h1 vs H1 F1 S1 r1 e1 => ?_⟩
  match xs, vs, r1, h1 with
  | [.d (.lst as), .d (.lst bs)], _, .cons ra (.cons rb .nil), h1 =>
    cases ra with
    | lst rA fA wA =>
      cases rb with
      | lst rB fB wB =>
        refine ⟨_, _, _, _, rfl, .inl ⟨.inl rA, .inl rB, k _ _ h1 _ H1 F1 S1 e1 fun i F' H' kk t => ?_⟩⟩
        have rA' := kk.rdL rA fA
        have rB' := kk.rdL rB fB
        have wA' := RepA.ext kk wA
        have wB' := RepA.ext kk wB
        refine ⟨fun d ed => ?_, fun hl => ⟨_, _, .inl rA', .inl rB', ?_⟩⟩
        · obtain ⟨a, b, ea, eb, rfl⟩ := zipD_get ed
          obtain ⟨x, ex, rx⟩ := wA'.get ea
          obtain ⟨y, ey, ry⟩ := wB'.get eb
          refine ⟨⟨_, _, x, y, .inl rA', .inl rB', ex, ey⟩, fun v H2 ⟨T, x', y', e1, hT, e2, f1, f2⟩ => ?_⟩
          subst e1
          subst e2
          have g1 := f1 _ (.inl rA')
          have g2 := f2 _ (.inl rB')
          rw [ex] at g1
          rw [ey] at g2
          cases g1
          cases g2
          exact rep_pair t hT rx ry
        · unfold zipD at hl
          rw [List.length_map, List.length_zip] at hl
          rw [wA'.length, wB'.length]
          omega
  | [.d (.tup as), .d (.tup bs)], _, .cons ra (.cons rb .nil), h1 =>
    cases ra with
    | tup rA wA =>
      cases rb with
      | tup rB wB =>
        refine ⟨_, _, _, _, rfl, .inr ⟨SqT.of rA, SqT.of rB, k _ _ h1 _ H1 F1 S1 e1 fun i F' H' kk t => ?_⟩⟩
        have rA' := kk.rdT rA
        have rB' := kk.rdT rB
        have wA' := RepA.ext kk wA
        have wB' := RepA.ext kk wB
        refine ⟨fun d ed => ?_, fun hl => ⟨_, _, SqT.of rA', SqT.of rB', ?_⟩⟩
        · obtain ⟨a, b, ea, eb, rfl⟩ := zipD_get ed
          obtain ⟨x, ex, rx⟩ := wA'.get ea
          obtain ⟨y, ey, ry⟩ := wB'.get eb
          refine ⟨⟨_, _, x, y, SqT.of rA', SqT.of rB', ex, ey⟩, fun v H2 ⟨T, x', y', e1, hT, e2, f1, f2⟩ => ?_⟩
          subst e1
          subst e2
          have g1 := f1 _ (SqT.of rA')
          have g2 := f2 _ (SqT.of rB')
          rw [ex] at g1
          rw [ey] at g2
          cases g1
          cases g2
          exact rep_pair t hT rx ry
        · unfold zipD at hl
          rw [List.length_map, List.length_zip] at hl
          rw [wA'.length, wB'.length]
          omega

/-! ### for -/
def forGo (g : TG') (b : TS') (P : En) : List D → Rho → Prop
  | [], ρ => P.nx ρ
  | d :: ds, ρ => g d ρ fun ρ1 => b { P with nx := forGo g b P ds, ct := forGo g b P ds, bk := P.nx } ρ1
def for' (w : TI') (g : TG') (b : TS') : TS' := fun P ρ => w ρ fun ds ρ1 => forGo g b P ds ρ1
theorem pds_for {tg iter : Expr} {body : List Stmt} {w : TI'} {ts : List Nat} {g : TG'} {b : TS'} {pos : Pos} (hp : PassesOwn (model X.prog X.w) X.A X.env X.xe) (hc : X.calm = true) (hi : PDI X G B tg iter w) (hg : PDG X G B tg ts g) (hb : PDSs X G B body b)
    (hs : ∀ x, foldedSetIterable iter X.env x = pure x := by intro _; rfl) : PDS X G B (.For tg iter body [] pos) (for' w g b) := by
  refine ps_imp (ps_for hp hc hi hg hb hs) fun D σ H ⟨F, ρ, P, S, h, R⟩ => ?_
  refine ⟨F, ρ, _, S, h, fun ds ρ1 h1 J H1 F1 S1 e1 W => ?_⟩
  have R1 := R.step e1
  refine ⟨fun i m σ2 H2 => m = ds.length - i ∧ i ≤ ds.length ∧ ∃ (F2 : Addr → Prop) (ρ2 : Rho), SR G B F2 σ2 H2 ρ2 ∧ Ext (ownA σ ρ1) F1 H1 (ownA σ2 ρ2) F2 H2 ∧ forGo g b P (ds.drop i) ρ2,
    ⟨ds.length, rfl, Nat.zero_le _, F1, ρ1, S1, Ext.refl _ _ _, h1⟩, ?_⟩
  rintro i m σ2 H2 ⟨rfl, hl, F2, ρ2, S2, e2, h2⟩
  obtain ⟨w1, w2⟩ := W i F2 H2 e2.k S2.trk
  by_cases hlt : i < ds.length
  · have ed : ds[i]? = some ds[i] := List.getElem?_eq_getElem hlt
    rw [List.drop_eq_getElem_cons hlt] at h2
    obtain ⟨hgo, hy⟩ := w1 _ ed
    refine .inr ⟨hgo, fun σ3 H3 => ∃ (F3 : Addr → Prop) (ρ3 : Rho), SR G B F3 σ3 H3 ρ3 ∧ Ext (ownA σ ρ1) F1 H1 (ownA σ3 ρ3) F3 H3 ∧ forGo g b P (ds.drop (i + 1)) ρ3, fun σ3 H3 h3 => ⟨ds.length - (i + 1), by omega, rfl, hlt, h3⟩, fun x H3 y3 => ?_⟩
    obtain ⟨F3, n3, r3⟩ := hy x H3 y3
    have S3 := S2.new n3
    have e3 := e2.trans (n3.ext (M := ownA σ2 ρ2))
    refine ⟨F3, ρ2, _, _, S3, r3, h2, fun ρ4 h4 σ4 S4 o4 _ => ?_⟩
    have e4 := e3.owns fun a m => .inl (o4 a m)
    have R4 := R1.step e4
    exact ⟨F3, ρ4, _, S4, h4, fun ρ5 h5 σ5 H5 F5 S5 e5 => ⟨F5, ρ5, S5, e4.trans e5, h5⟩, R4.rt, R4.nx, fun ρ5 h5 σ5 H5 F5 S5 e5 => ⟨F5, ρ5, S5, e4.trans e5, h5⟩, R4.rf⟩
  · have e : i = ds.length := by omega
    subst e
    rw [List.drop_length] at h2
    exact .inl ⟨w2 (Nat.le_refl _), R1.nx ρ2 h2 σ2 H2 F2 S2 e2⟩
def whl (c : TT') (b : TS') : TS' := fun P ρ => ∃ W : Nat → Rho → Prop, (∃ m, W m ρ) ∧ ∀ m ρ, W m ρ → c ρ fun t ρ1 => if t = true then ∃ N : Rho → Prop, (∀ ρ', N ρ' → ∃ m', m' < m ∧ W m' ρ') ∧ b { P with nx := N, ct := N, bk := P.nx } ρ1 else P.nx ρ1
theorem pds_while {c : Expr} {body : List Stmt} {tc : TT'} {b : TS'} {pos : Pos} (hp : PassesOwn (model X.prog X.w) X.A X.env X.xe) (hc : PDT X G B c tc) (hb : PDSs X G B body b) : PDS X G B (.While c body [] pos) (whl tc b) := by
  refine ps_imp (ps_while hp hc hb) fun D σ H ⟨F, ρ, P, S, ⟨W, ⟨m0, w0⟩, turn⟩, R⟩ => ?_
  refine ⟨fun m σ2 H2 => ∃ (F2 : Addr → Prop) (ρ2 : Rho), SR G B F2 σ2 H2 ρ2 ∧ Ext (ownA σ ρ) F H (ownA σ2 ρ2) F2 H2 ∧ W m ρ2, ⟨m0, F, ρ, S, Ext.refl _ _ _, w0⟩, ?_⟩
  rintro m σ2 H2 ⟨F2, ρ2, S2, e2, w2⟩
  refine ⟨F2, ρ2, _, S2, turn m ρ2 w2, fun t ρ3 h3 H3 F3 S3 e3 => ?_⟩
  have e3' := e2.trans e3
  have R3 := R.step e3'
  cases t with
  | true =>
    rw [if_pos rfl] at h3
    obtain ⟨N, hN, h3⟩ := h3
    exact iteT ⟨fun σ4 H4 => ∃ (F4 : Addr → Prop) (ρ4 : Rho), SR G B F4 σ4 H4 ρ4 ∧ Ext (ownA σ ρ) F H (ownA σ4 ρ4) F4 H4 ∧ N ρ4, fun σ4 H4 ⟨F4, ρ4, S4, e4, n4⟩ => by
      obtain ⟨m', hm, w4⟩ := hN ρ4 n4
      exact ⟨m', hm, F4, ρ4, S4, e4, w4⟩, F3, ρ3, _, S3, h3, fun ρ5 h5 σ5 H5 F5 S5 e5 => ⟨F5, ρ5, S5, e3'.trans e5, h5⟩, R3.rt, R3.nx, fun ρ5 h5 σ5 H5 F5 S5 e5 => ⟨F5, ρ5, S5, e3'.trans e5, h5⟩, R3.rf⟩
  | false =>
    rw [if_neg Bool.false_ne_true] at h3
    exact iteF (R3.nx ρ3 h3 σ2 H3 F3 S3 (Ext.refl _ _ _))
end
end DL
set_option Elab.async false
set_option linter.all false
set_option maxRecDepth 100000
set_option maxHeartbeats 4000000
namespace DL
open PySem PySem.Spec PyProof.Rows L2

/-! ### comprehensions -/
def nos (ρ : Rho) : List Nat → Rho
  | [] => ρ
  | v :: vs => (nos ρ vs).set v .no
def keepV (ρ0 : Rho) (v : Nat) : Sl := match ρ0[v]? with
  | some (.val d) => .val d
  | _ => .no
def back (ρ0 ρ : Rho) : List Nat → Rho
  | [] => ρ
  | v :: vs => (back ρ0 ρ vs).set v (keepV ρ0 v)
theorem wipe_in {σ : L2.St} {j : Nat} : ∀ {vs : List Nat}, j ∈ vs → j < σ.length → (wipe σ vs)[j]? = some none
  | v :: vs, h, hl => by
    unfold wipe
    by_cases e : v = j
    · subst e
      rw [List.getElem?_set_self (by rw [wipe_length]; exact hl)]
    · rw [List.getElem?_set_ne e]
      rcases List.mem_cons.mp h with q | q
      · exact (e q.symm).elim
      · exact wipe_in q hl
theorem wipe_eq {σ σ' : L2.St} {ts vs : List Nat} (t : Tgt ts σ σ') (hs : ∀ j, j ∈ ts → j ∈ vs) : wipe σ' vs = wipe σ vs := by
  refine List.ext_getElem? fun j => ?_
  by_cases hj : j ∈ vs
  · by_cases hl : j < σ.length
    · rw [wipe_in hj hl, wipe_in hj (by rw [t.len]; exact hl)]
    · rw [List.getElem?_eq_none (by rw [wipe_length, t.len]; omega), List.getElem?_eq_none (by rw [wipe_length]; omega)]
  · rw [wipe_out hj, wipe_out hj]
    exact t.out j fun m => hj (hs j m)
theorem wipe_wipe (σ : L2.St) (vs : List Nat) : wipe (wipe σ vs) vs = wipe σ vs :=
  wipe_eq (ts := vs) ⟨wipe_length σ vs, fun j hj => wipe_out hj⟩ fun _ h => h
section
variable {G : Gm} {B : Bs} {F : Addr → Prop} {H : Hp} {σ : L2.St} {ρ : Rho}
theorem SR.wipe (S : SR G B F σ H ρ) : ∀ vs : List Nat, SR G B F (L2.wipe σ vs) H (nos ρ vs)
  | [] => S
  | v :: vs => (S.wipe vs).setNo v none
theorem own_wipe : ∀ {vs : List Nat} {a : Addr}, ownA (L2.wipe σ vs) (nos ρ vs) a → ownA σ ρ a
  | [], _, h => h
  | v :: vs, _, h => own_wipe (own_set no_ne h)
theorem back_length (ρ0 : Rho) : ∀ vs : List Nat, (back ρ0 ρ vs).length = ρ.length
  | [] => rfl
  | v :: vs => by unfold back; rw [List.length_set, back_length ρ0 vs]
theorem back_get {ρ0 : Rho} {j : Nat} {s : Sl} : ∀ {vs : List Nat}, (back ρ0 ρ vs)[j]? = some s → (j ∈ vs ∧ s = keepV ρ0 j) ∨ (j ∉ vs ∧ ρ[j]? = some s)
  | [], h => .inr ⟨by simp, h⟩
  | v :: vs, h => by
    unfold back at h
    rcases get_set h with ⟨e, z⟩ | ⟨n, h⟩
    · subst e
      exact .inl ⟨List.mem_cons_self, z⟩
    · rcases back_get h with ⟨m, z⟩ | ⟨m, z⟩
      · exact .inl ⟨List.mem_cons_of_mem _ m, z⟩
      · exact .inr ⟨fun q => (List.mem_cons.mp q).elim (fun q => n q.symm) m, z⟩
theorem keepV_ne {ρ0 : Rho} {v : Nat} : ∀ t ds, keepV ρ0 v ≠ .own t ds := by
  intro t ds z
  unfold keepV at z
  split at z <;> cases z
theorem SR.back {F1 : Addr → Prop} {H1 : Hp} {ρ0 : Rho} {vs : List Nat} (S : SR G B F (L2.wipe σ vs) H ρ) (S0 : SR G B F1 σ H1 ρ0) (k : Keep F1 H1 F H) : SR G B F σ H (back ρ0 ρ vs) where
  frame := S.frame
  iot := S.iot
  io0 := S.io0
  trk := S.trk
  fresh := S.fresh
  f0 := S.f0
  iof := S.iof
  len := by
    rw [back_length, ← S.len, wipe_length]
  sl := fun j s e => by
    rcases back_get e with ⟨m, rfl⟩ | ⟨m, e⟩
    · unfold keepV
      cases q : ρ0[j]? with
      | none => exact True.intro
      | some s0 =>
        cases s0 with
        | val d =>
          obtain ⟨v, e1, r⟩ := S0.sl j _ q
          exact ⟨v, e1, Rep.ext k r⟩
        | no => exact True.intro
        | raw _ => exact True.intro
        | own t ds => exact True.intro
    · have z := S.sl j s e
      rw [wipe_out m] at z
      exact z
  sep := fun i j t u ds es a e1 e2 e3 e4 => by
    rcases back_get e1 with ⟨_, z⟩ | ⟨m1, e1⟩
    · exact (keepV_ne _ _ z.symm).elim
    · rcases back_get e2 with ⟨_, z⟩ | ⟨m2, e2⟩
      · exact (keepV_ne _ _ z.symm).elim
      · exact S.sep i j t u ds es a e1 e2 (by rw [wipe_out m1]; exact e3) (by rw [wipe_out m2]; exact e4)
theorem own_back {ρ0 : Rho} {vs : List Nat} {a : Addr} (h : ownA σ (back ρ0 ρ vs) a) : ownA (L2.wipe σ vs) ρ a := by
  obtain ⟨j, t, ds, e1, e2⟩ := h
  rcases back_get e1 with ⟨_, z⟩ | ⟨m, e1⟩
  · exact (keepV_ne _ _ z.symm).elim
  · exact ⟨j, t, ds, e1, by rw [wipe_out m]; exact e2⟩
/-- a list beside the slots is changed -/
theorem SR.side (S : SR G B F σ H ρ) {a : Addr} {xs ys : List V} (nf : ¬ F a) (no : ¬ ownA σ ρ a) (h0 : B.H0 a = none) (h : H a = some (.lst xs)) : SR G B F σ (upd H a (.lst ys)) ρ := by
  have kw := keep_write (ys := ys) nf h
  exact {
    frame := fun b o hb hi => by
      have n : b ≠ a := fun w => by
        subst w
        rw [h0] at hb; cases hb
      rw [upd_ne n]; exact S.frame b o hb hi
    iot := fun b hb => by
      by_cases n : b = a
      · subst n; exact ⟨_, upd_same⟩
      · rw [upd_ne n]; exact S.iot b hb
    io0 := S.io0
    trk := fun b f => by
      have n : b ≠ a := fun w => nf (w ▸ f)
      rw [upd_ne n]; exact S.trk b f
    fresh := S.fresh
    f0 := S.f0
    iof := S.iof
    len := S.len
    sl := fun j s e' => by
      have q := S.sl j s e'
      cases s with
      | no => exact True.intro
      | raw _ => exact q
      | val d =>
        obtain ⟨v, e2, r2⟩ := q
        exact ⟨v, e2, Rep.ext kw r2⟩
      | own u fs =>
        obtain ⟨b, zs, e2, nf2, h2, r2, z2⟩ := q
        have nb : b ≠ a := fun w => no ⟨j, u, fs, e', w ▸ e2⟩
        exact ⟨b, zs, e2, nf2, by rw [upd_ne nb]; exact h2, RepA.ext kw r2, z2⟩
    sep := S.sep }
theorem Ext.side {M M' F' : Addr → Prop} {F : Addr → Prop} {H H' : Hp} (e : Ext M F H M' F' H') {a : Addr} {o : HO} (h : H a = none) : Ext M F H M' F' (upd H' a o) := by
  have n : ∀ b o, H b = some o → b ≠ a := fun b o hb w => by
    subst w
    rw [h] at hb; cases hb
  refine ⟨⟨e.k.sub, fun b o hb z => ?_⟩, fun b o hb z => ?_, e.own, fun b o hb => ?_, e.nm⟩
  · rw [upd_ne (n b o hb)]; exact e.k.kp b o hb z
  · rw [upd_ne (n b o hb)]; exact e.oth b o hb z
  · rw [upd_ne (n b o hb)]; exact e.tk b o hb
end
theorem Ext.nof {M F M' F' : Addr → Prop} {H H' : Hp} (e : Ext M F H M' F' H') {a : Addr} {o : HO} (nf : ¬ F a) (no : ¬ M a) (h : H a = some o) : ¬ F' a := fun f => by
  rcases e.nm a f with z | z | z
  · exact nf z
  · exact no z
  · rw [h] at z; cases z
def lcGo (g : TG') (c : TT') (e : TE') (vs : List Nat) (Q : List D → Rho → Prop) : List D → List D → Rho → Prop
  | [], acc, ρ => Q acc ρ
  | d :: ds, acc, ρ => g d ρ fun ρ1 => c ρ1 fun b ρ2 => if b = true then e ρ2 fun x ρ3 => (match x with
    | .d v => if acc.length < sizeLine then lcGo g c e vs Q ds (acc ++ [v]) (nos ρ3 vs) else False
    | .o _ => False) else lcGo g c e vs Q ds acc (nos ρ2 vs)
def lc (w : TI') (g : TG') (c : TT') (e : TE') (vs : List Nat) : TF' := fun ρ Q => w ρ fun ds ρ1 => lcGo g c e vs (fun acc ρ' => Q acc (back ρ1 ρ' vs)) ds [] (nos ρ1 vs)
def yes' : TT' := fun ρ Q => Q true ρ
abbrev PDTs (X : Cx) (G : Gm) (B : Bs) (ifs : List Expr) (t : TT') : Prop := PTs X ifs (liT G B t)
section
variable {X : Cx} {G : Gm} {B : Bs}
theorem pts_imp {ifs : List Expr} {t t' : TT} (h : PTs X ifs t) (k : ∀ σ H Q, t' σ H Q → t σ H Q) : PTs X ifs t' := ⟨fun pins s σ H Q I q => h.run pins s σ H Q I (k σ H Q q)⟩
theorem pdts_nil : PDTs X G B [] yes' := pts_imp pts_nil fun σ H Q ⟨F, ρ, P, S, h, k⟩ => k _ _ h H F S (Ext.refl _ _ _)
theorem pdts_one {c : Expr} {t : TT'} (h : PDT X G B c t) : PDTs X G B [c] t := pts_one h
/-- what a comprehension asks, by data -/
theorem tLc_d {K : VK} {ts vs : List Nat} {w : TI'} {g : TG'} {c : TT'} {e : TE'} (hts : ∀ j, j ∈ ts → j ∈ vs) (σ : L2.St) (H : Hp) (h0 : liF G B (lc w g c e vs) σ H K) : tLc (liI G B w) (liG G B ts g) (liT G B c) (liE G B e) vs σ H K := by
  obtain ⟨F, ρ, P, S, h, k⟩ := h0
  refine ⟨F, ρ, _, S, h, fun ds ρ1 h1 J H1 F1 S1 e1 Wk Dd hD => ?_⟩
  have hDs : H Dd = none := by
    cases q : H Dd with
    | none => rfl
    | some o =>
      obtain ⟨o', q'⟩ := e1.tk Dd o q
      rw [hD] at q'; cases q'
  have h0 : B.H0 Dd = none := S1.h0 hD
  have S1w := S1.wipe vs
  refine ⟨fun i m H2 => m = ds.length - i ∧ i ≤ ds.length ∧ ∃ (F2 : Addr → Prop) (ρ2 : Rho) (acc : List D) (xs : List V), SR G B F2 (wipe σ vs) H2 ρ2 ∧ Ext (ownA (wipe σ vs) (nos ρ1 vs)) F1 H1 (ownA (wipe σ vs) ρ2) F2 H2 ∧ H2 Dd = some (.lst xs) ∧ RepA G F2 H2 xs acc ∧ ¬ F2 Dd ∧ ¬ ownA (wipe σ vs) ρ2 Dd ∧
    lcGo g c e vs (fun acc ρ' => P acc (back ρ1 ρ' vs)) (ds.drop i) acc ρ2, ⟨ds.length, rfl, Nat.zero_le _, F1, nos ρ1 vs, [], [], ?_, ?_, upd_same, .nil, S1.nof hD, S1w.noown hD, h1⟩, ?_⟩
  · exact S1w.new (New.tup S1w.trk hD)
  · exact (Ext.refl _ _ _).side hD
  rintro i m H2 ⟨rfl, hl, F2, ρ2, acc, xs, S2, e2, hx, rx, nf, no, h2⟩
  obtain ⟨w1, w2⟩ := Wk i F2 H2 e2.k S2.trk
  by_cases hlt : i < ds.length
  · have ed : ds[i]? = some ds[i] := List.getElem?_eq_getElem hlt
    rw [List.drop_eq_getElem_cons hlt] at h2
    obtain ⟨hgo, hy⟩ := w1 _ ed
    refine .inr ⟨hgo, fun H3 => ∃ (F2 : Addr → Prop) (ρ2 : Rho) (acc : List D) (xs : List V), SR G B F2 (wipe σ vs) H3 ρ2 ∧ Ext (ownA (wipe σ vs) (nos ρ1 vs)) F1 H1 (ownA (wipe σ vs) ρ2) F2 H3 ∧ H3 Dd = some (.lst xs) ∧ RepA G F2 H3 xs acc ∧ ¬ F2 Dd ∧ ¬ ownA (wipe σ vs) ρ2 Dd ∧
      lcGo g c e vs (fun acc ρ' => P acc (back ρ1 ρ' vs)) (ds.drop (i + 1)) acc ρ2, fun H3 h3 => ⟨ds.length - (i + 1), by omega, rfl, hlt, h3⟩, fun x H3 y3 => ?_⟩
    obtain ⟨F3, n3, r3⟩ := hy x H3 y3
    have S3 := S2.new n3
    have e3 := e2.trans (n3.ext (M := ownA (wipe σ vs) ρ2))
    have nf3 : ¬ F3 Dd := fun f => by
      rcases n3.fr _ f with z | z
      · exact nf z
      · rw [hx] at z; cases z
    have hx3 := n3.kp _ _ hx
    have rx3 := RepA.ext n3.keep rx
    refine ⟨F3, ρ2, _, _, S3, r3, h2, fun ρ4 h4 σ4 S4 o4 t4 => ⟨wipe_eq t4 hts |>.trans (wipe_wipe σ vs), F3, ρ4, _, S4, h4, fun b ρ5 h5 H5 F5 S5 e5 => ?_⟩⟩
    have e5' := (e3.owns fun a m => .inl (o4 a m)).trans e5
    have no4 : ¬ ownA σ4 ρ4 Dd := fun z => no (o4 _ z)
    have hx5 := e5.oth _ _ hx3 no4
    have rx5 := RepA.ext e5.k rx3
    have nf5 : ¬ F5 Dd := e5.nof nf3 no4 hx3
    have no5 : ¬ ownA σ4 ρ5 Dd := fun z => by
      rcases e5.own _ z with q | q
      · exact no4 q
      · rw [hx3] at q; cases q
    have wq : wipe σ4 vs = wipe σ vs := (wipe_eq t4 hts).trans (wipe_wipe σ vs)
    cases b with
    | true =>
      rw [if_pos rfl] at h5
      refine iteT ⟨F5, ρ5, _, S5, h5, fun x ρ6 h6 v H6 F6 S6 r6 e6 => ?_⟩
      cases x with
      | o j => exact h6.elim
      | d d =>
        obtain ⟨hz, h6⟩ := ite_ex h6
        have hx6 := e6.oth _ _ hx5 no5
        have nf6 : ¬ F6 Dd := e6.nof nf5 no5 hx5
        have no6 : ¬ ownA σ4 ρ6 Dd := fun z => by
          rcases e6.own _ z with q | q
          · exact no5 q
          · rw [hx5] at q; cases q
        have rx6 := RepA.ext e6.k rx5
        have kw := keep_write (ys := xs ++ [v]) nf6 hx6
        refine ⟨xs, hx6, by rw [rx6.length]; exact hz, F6, nos ρ6 vs, acc ++ [d], xs ++ [v], ?_, ?_, upd_same, (RepA.ext kw rx6).append (.cons (Rep.ext kw r6) .nil), nf6, ?_, h6⟩
        · have z := (S6.side (ys := xs ++ [v]) nf6 no6 h0 hx6).wipe vs
          rw [wq] at z
          exact z
        · refine ((e5'.trans e6).side hD).owns fun a m => .inl ?_
          rw [← wq] at m
          exact own_wipe m
        · rw [← wq]
          exact fun m => no6 (own_wipe m)
    | false =>
      rw [if_neg Bool.false_ne_true] at h5
      refine iteF ⟨F5, nos ρ5 vs, acc, xs, ?_, ?_, hx5, rx5, nf5, ?_, h5⟩
      · have z := S5.wipe vs
        rw [wq] at z
        exact z
      · refine e5'.owns fun a m => .inl ?_
        rw [← wq] at m
        exact own_wipe m
      · rw [← wq]
        exact fun m => no5 (own_wipe m)
  · have ei : i = ds.length := by omega
    subst ei
    rw [List.drop_length] at h2
    refine .inl ⟨w2 (Nat.le_refl _), k _ _ h2 Dd H2 F2 xs (S2.back S1 e2.k) hx rx nf hDs h0 (fun z => no (own_back z)) ?_⟩
    refine (e1.trans ⟨e2.k, fun a o ha n => e2.oth a o ha fun m => n (own_wipe m), fun a m => (e2.own a m).imp own_wipe id, e2.tk, fun a f => (e2.nm a f).imp id (·.imp own_wipe id)⟩).owns fun a m => .inl (own_back m)
theorem pf_lc {elt tg iter : Expr} {ifs : List Expr} {scope : Scope} {own : List (Str × Nat)} {ts : List Nat} {pos : Pos} {w : TI'} {g : TG'} {c : TT'} {e : TE'} (hc : X.calm = true) (hN : X.N.Nodup) (hi : PDI X G B tg iter w) (bk : BlkOk X.N X.env.scope scope own)
    (hg : ∀ (s : Shared) (H : Hp) (C : Addr) (cl : List (Str × Addr)) (fp : List Addr), PDG (X.blk s H scope (compEnvC scope cl C X.env) fp) G B tg ts g) (ht : ∀ (s : Shared) (H : Hp) (C : Addr) (cl : List (Str × Addr)) (fp : List Addr), PDTs (X.blk s H scope (compEnvC scope cl C X.env) fp) G B ifs c)
    (he : ∀ (s : Shared) (H : Hp) (C : Addr) (cl : List (Str × Addr)) (fp : List Addr), PD (X.blk s H scope (compEnvC scope cl C X.env) fp) G B elt e) (hts : ∀ j, j ∈ ts → j ∈ own.map (·.2) := by decide) (hs : ∀ x, foldedSetIterable iter X.env x = pure x := by intro _; rfl) :
    PF X G B (.ListComp elt [⟨tg, iter, ifs, 0⟩] scope pos) (lc w g c e (own.map (·.2))) := pe_imp (pe_lc hc hN hi bk hg ht he hs) (fun σ H Q h0 => tLc_d hts σ H h0)
/-- name = [..] on one line -/
theorem pds_setLc {i : Nat} {y : Str} {py : Pos} {elt tg iter : Expr} {ifs : List Expr} {scope : Scope} {own : List (Str × Nat)} {ts : List Nat} {pos spos : Pos} {w : TI'} {g : TG'} {c : TT'} {e : TE'} (hc : X.calm = true) (hN : X.N.Nodup)
    (hsw : swapsWith (.ListComp elt [⟨tg, iter, ifs, 0⟩] scope pos) (some (.Name y py)) spos.line X.env = pure true) (hi : PDI X G B tg iter w) (bk : BlkOk X.N X.env.scope scope own)
    (hg : ∀ (s : Shared) (H : Hp) (C : Addr) (cl : List (Str × Addr)) (fp : List Addr), PDG (X.blk s H scope (compEnvC scope cl C X.env) fp) G B tg ts g) (ht : ∀ (s : Shared) (H : Hp) (C : Addr) (cl : List (Str × Addr)) (fp : List Addr), PDTs (X.blk s H scope (compEnvC scope cl C X.env) fp) G B ifs c)
    (he : ∀ (s : Shared) (H : Hp) (C : Addr) (cl : List (Str × Addr)) (fp : List Addr), PD (X.blk s H scope (compEnvC scope cl C X.env) fp) G B elt e) (hy : X.N[i]? = some y := by rfl) (hyl : X.env.scope.names.lookup y = some .local := by rfl) (hts : ∀ j, j ∈ ts → j ∈ own.map (·.2) := by decide) (hs : ∀ x, foldedSetIterable iter X.env x = pure x := by intro _; rfl) :
    PDS X G B (.Assign [.Name y py] (.ListComp elt [⟨tg, iter, ifs, 0⟩] scope pos) spos) (set i (frz (lc w g c e (own.map (·.2))))) := by
  refine ps_imp (ps_setLc hc hN hy hyl hsw hi bk hg ht he hs) fun D σ H ⟨F, ρ, P, S, h, R⟩ => ?_
  refine tLc_d hts σ H ⟨F, ρ, _, S, h, fun ds ρ1 h1 a H1 F1 xs S1 ha r1 nf hn h0 no e1 => ?_⟩
  have r2 : Rep G (add F1 a) H1 (.ref a) (.lst ds) := .lst (.inl ha) (.inr rfl) (RepA.ext add_keep r1)
  have e2 : Ext (ownA σ ρ) F H (ownA σ ρ1) (add F1 a) H1 := ⟨e1.k.trans add_keep, e1.oth, e1.own, e1.tk, fun b f => f.elim (e1.nm b) fun z => .inr (.inr (z ▸ hn))⟩
  exact R.nx _ h1 _ H1 (add F1 a) ((S1.name ha h0 no).set i r2) (e2.trans (ext_set val_ne))
theorem pds_setOLc {i : Nat} {y : Str} {py : Pos} {elt tg iter : Expr} {ifs : List Expr} {scope : Scope} {own : List (Str × Nat)} {ts : List Nat} {pos spos : Pos} {w : TI'} {g : TG'} {c : TT'} {e : TE'} (hc : X.calm = true) (hN : X.N.Nodup)
    (hsw : swapsWith (.ListComp elt [⟨tg, iter, ifs, 0⟩] scope pos) (some (.Name y py)) spos.line X.env = pure true) (hi : PDI X G B tg iter w) (bk : BlkOk X.N X.env.scope scope own)
    (hg : ∀ (s : Shared) (H : Hp) (C : Addr) (cl : List (Str × Addr)) (fp : List Addr), PDG (X.blk s H scope (compEnvC scope cl C X.env) fp) G B tg ts g) (ht : ∀ (s : Shared) (H : Hp) (C : Addr) (cl : List (Str × Addr)) (fp : List Addr), PDTs (X.blk s H scope (compEnvC scope cl C X.env) fp) G B ifs c)
    (he : ∀ (s : Shared) (H : Hp) (C : Addr) (cl : List (Str × Addr)) (fp : List Addr), PD (X.blk s H scope (compEnvC scope cl C X.env) fp) G B elt e) (hy : X.N[i]? = some y := by rfl) (hyl : X.env.scope.names.lookup y = some .local := by rfl) (hts : ∀ j, j ∈ ts → j ∈ own.map (·.2) := by decide) (hs : ∀ x, foldedSetIterable iter X.env x = pure x := by intro _; rfl) :
    PDS X G B (.Assign [.Name y py] (.ListComp elt [⟨tg, iter, ifs, 0⟩] scope pos) spos) (setO i (lc w g c e (own.map (·.2)))) := by
  refine ps_imp (ps_setLc hc hN hy hyl hsw hi bk hg ht he hs) fun D σ H ⟨F, ρ, P, S, h, R⟩ => ?_
  refine tLc_d hts σ H ⟨F, ρ, _, S, h, fun ds ρ1 h1 a H1 F1 xs S1 ha r1 nf hn h0 no e1 => ?_⟩
  exact R.nx _ h1 _ H1 F1 (S1.setOwn i nf ha r1 h0 no) (e1.owns fun b m => (own_setO m).elim .inl fun z => .inr (z ▸ hn))
end
end DL
set_option Elab.async false
set_option linter.all false
set_option maxRecDepth 100000
set_option maxHeartbeats 4000000
namespace DL
open PySem PySem.Spec PyProof.Rows L2

/-! ### what a def promises, by data -/
/-- the arguments (lent lists as own true), the wish of what it hands back and of the lent lists' items behind it -/
abbrev DSp := List Sl → (D → List (List D) → Prop) → Prop
inductive ArgsOk (G : Gm) (F : Addr → Prop) (H : Hp) : List V → List Sl → Prop
  | nil : ArgsOk G F H [] []
  | val {v : V} {vs : List V} {d : D} {as : List Sl} : Rep G F H v d → ArgsOk G F H vs as → ArgsOk G F H (v :: vs) (.val d :: as)
  | own {a : Addr} {xs : List V} {ds : List D} {vs : List V} {as : List Sl} : ¬ F a → H a = some (.lst xs) → RepA G F H xs ds → ArgsOk G F H vs as → ArgsOk G F H (.ref a :: vs) (.own true ds :: as)
def iaOf : Nat → List V → List Sl → List (Nat × Addr)
  | i, v :: vs, .own _ _ :: as => match v with
    | .ref a => (i, a) :: iaOf (i + 1) vs as
    | _ => iaOf (i + 1) vs as
  | i, _ :: vs, .val _ :: as => iaOf (i + 1) vs as
  | i, _ :: vs, .no :: as => iaOf (i + 1) vs as
  | i, _ :: vs, .raw _ :: as => iaOf (i + 1) vs as
  | _, _, _ => []
inductive Outs (G : Gm) (F : Addr → Prop) (H : Hp) : List (Nat × Addr) → List (List D) → Prop
  | nil : Outs G F H [] []
  | cons {i : Nat} {a : Addr} {xs : List V} {c : List D} {ia : List (Nat × Addr)} {cs : List (List D)} : ¬ F a → H a = some (.lst xs) → RepA G F H xs c → Outs G F H ia cs → Outs G F H ((i, a) :: ia) (c :: cs)
theorem Outs.inv {G : Gm} {F : Addr → Prop} {H : Hp} {i : Nat} {a : Addr} {ia : List (Nat × Addr)} {cs : List (List D)} (o : Outs G F H ((i, a) :: ia) cs) : ∃ c cs' xs, cs = c :: cs' ∧ ¬ F a ∧ H a = some (.lst xs) ∧ RepA G F H xs c ∧ Outs G F H ia cs' := by
  cases o with
  | cons h1 h2 h3 h4 => exact ⟨_, _, _, rfl, h1, h2, h3, h4⟩
structure Post (G : Gm) (F : Addr → Prop) (H : Hp) (ia : List (Nat × Addr)) (cs : List (List D)) (F' : Addr → Prop) (H' : Hp) : Prop where
  sub : ∀ a, F a → F' a
  fr : ∀ a, F' a → F a ∨ H a = none
  trk : ∀ a, F' a → ∃ o, H' a = some o
  frame : ∀ b o, H b = some o → b ∉ ia.map (·.2) → H' b = some o
  outs : Outs G F' H' ia cs
def spOf (G : Gm) (S : DSp) : Sp := fun vs H Q _ => ∃ (F : Addr → Prop) (as : List Sl) (K : D → List (List D) → Prop), (∀ a, F a → ∃ o, H a = some o) ∧ ArgsOk G F H vs as ∧ ((iaOf 0 vs as).map (·.2)).Nodup ∧ S as K ∧
  ∀ d cs, K d cs → ∀ v H' F', Post G F H (iaOf 0 vs as) cs F' H' → Rep G F' H' v d → Q v H'
def outsG : Nat → List Sl → Rho → Option (List (List D))
  | _, [], _ => some []
  | i, .own _ _ :: as, ρ => match ρ[i]? with
    | some (.own true c) => (outsG (i + 1) as ρ).map (c :: ·)
    | _ => none
  | i, .val _ :: as, ρ => outsG (i + 1) as ρ
  | i, .no :: as, ρ => outsG (i + 1) as ρ
  | i, .raw _ :: as, ρ => outsG (i + 1) as ρ
def enOf (as : List Sl) (K : D → List (List D) → Prop) : En where
  nx := fun ρ => ok (outsG 0 as ρ) (K .non)
  rt := fun x ρ => match x with
    | .d d => ok (outsG 0 as ρ) (K d)
    | .o i => match ρ[i]? with
      | some (.own false ds) => ok (outsG 0 as ρ) (K (.lst ds))
      | _ => False
section
variable {G : Gm} {F : Addr → Prop} {H : Hp}
theorem ArgsOk.length : ∀ {vs : List V} {as : List Sl}, ArgsOk G F H vs as → vs.length = as.length
  | _, _, .nil => rfl
  | _, _, .val _ t => congrArg (· + 1) t.length
  | _, _, .own _ _ _ t => congrArg (· + 1) t.length
/-- what the i-th argument is -/
theorem ArgsOk.get : ∀ {vs : List V} {as : List Sl} {n i : Nat} {s : Sl}, ArgsOk G F H vs as → as[i]? = some s → ∃ v, vs[i]? = some v ∧ ((∃ d, s = .val d ∧ Rep G F H v d) ∨ ∃ a xs ds, s = .own true ds ∧ v = .ref a ∧ ¬ F a ∧ H a = some (.lst xs) ∧ RepA G F H xs ds ∧ (n + i, a) ∈ iaOf n vs as)
  | _, _, _, _, _, .nil, e => by simp at e
  | _, _, n, 0, s, .val r _, e => ⟨_, rfl, .inl ⟨_, (Option.some.inj e).symm, r⟩⟩
  | _, _, n, 0, s, .own h1 h2 h3 _, e => ⟨_, rfl, .inr ⟨_, _, _, (Option.some.inj e).symm, rfl, h1, h2, h3, List.mem_cons_self⟩⟩
  | _, _, n, i + 1, s, .val r t, e => by
    obtain ⟨v, ev, q⟩ := ArgsOk.get (n := n + 1) (i := i) t (by simpa using e)
    refine ⟨v, by simpa using ev, q.imp id fun ⟨a, xs, ds, e1, e2, e3, e4, e5, e6⟩ => ⟨a, xs, ds, e1, e2, e3, e4, e5, ?_⟩⟩
    show (n + (i + 1), a) ∈ iaOf (n + 1) _ _
    rw [show n + (i + 1) = n + 1 + i by omega]
    exact e6
  | _, _, n, i + 1, s, .own h1 h2 h3 t, e => by
    obtain ⟨v, ev, q⟩ := ArgsOk.get (n := n + 1) (i := i) t (by simpa using e)
    refine ⟨v, by simpa using ev, q.imp id fun ⟨a, xs, ds, e1, e2, e3, e4, e5, e6⟩ => ⟨a, xs, ds, e1, e2, e3, e4, e5, ?_⟩⟩
    show (n + (i + 1), a) ∈ _ :: iaOf (n + 1) _ _
    rw [show n + (i + 1) = n + 1 + i by omega]
    exact List.mem_cons_of_mem _ e6
/-- what stands among the lent ones -/
theorem ArgsOk.mem : ∀ {vs : List V} {as : List Sl} {n i : Nat} {a : Addr}, ArgsOk G F H vs as → (i, a) ∈ iaOf n vs as → n ≤ i ∧ vs[i - n]? = some (.ref a) ∧ ¬ F a ∧ ∃ xs, H a = some (.lst xs)
  | _, _, _, _, _, .nil, h => by
    have h' : _ ∈ ([] : List (Nat × Addr)) := h
    simp at h'
  | _, _, n, i, a, .val r t, h => by
    obtain ⟨h1, h2, h3⟩ := ArgsOk.mem (n := n + 1) t h
    refine ⟨by omega, ?_, h3⟩
    rw [show i - n = (i - (n + 1)) + 1 by omega]
    exact h2
  | _, _, n, i, a, .own q1 q2 q3 t, h => by
    rcases List.mem_cons.mp h with e | h
    · cases e
      refine ⟨Nat.le_refl _, ?_, q1, _, q2⟩
      rw [Nat.sub_self]
      rfl
    · obtain ⟨h1, h2, h3⟩ := ArgsOk.mem (n := n + 1) t h
      refine ⟨by omega, ?_, h3⟩
      rw [show i - n = (i - (n + 1)) + 1 by omega]
      exact h2
theorem nodup_snd {l : List (Nat × Addr)} (h : (l.map (·.2)).Nodup) {i j : Nat} {a : Addr} (h1 : (i, a) ∈ l) (h2 : (j, a) ∈ l) : i = j := by
  induction l with
  | nil => simp at h1
  | cons p l ih =>
    rw [List.map_cons, List.nodup_cons] at h
    rcases List.mem_cons.mp h1 with e1 | h1
    · rcases List.mem_cons.mp h2 with e2 | h2
      · rw [← e2] at e1; cases e1; rfl
      · exact (h.1 (by rw [← e1]; exact List.mem_map.mpr ⟨_, h2, rfl⟩)).elim
    · rcases List.mem_cons.mp h2 with e2 | h2
      · exact (h.1 (by rw [← e2]; exact List.mem_map.mpr ⟨_, h1, rfl⟩)).elim
      · exact ih h.2 h1 h2
theorem start_get {N : List Str} {vs : List V} {i : Nat} {v : V} (h : vs[i]? = some v) : (L2.start N vs)[i]? = some (some v) := by
  unfold L2.start
  rw [List.getElem?_append_left (by rw [List.length_map]; exact (List.getElem?_eq_some_iff.mp h).1), List.getElem?_map, h]
  rfl
theorem rho_get {as : List Sl} {n i : Nat} {s : Sl} (h : (as ++ List.replicate n Sl.no)[i]? = some s) : as[i]? = some s ∨ s = .no := by
  by_cases hl : i < as.length
  · rw [List.getElem?_append_left hl] at h
    exact .inl h
  · rw [List.getElem?_append_right (by omega)] at h
    right
    obtain ⟨_, e⟩ := List.getElem?_eq_some_iff.mp h
    rw [List.getElem_replicate] at e
    exact e.symm
/-- where a def begins -/
theorem SR.begin {N : List Str} {vs : List V} {as : List Sl} (t : ∀ a, F a → ∃ o, H a = some o) (ao : ArgsOk G F H vs as) (nd : ((iaOf 0 vs as).map (·.2)).Nodup) :
    SR G ⟨H, iaOf 0 vs as, F⟩ F (L2.start N vs) H (as ++ List.replicate (N.length - as.length) .no) where
  frame := fun b o h _ => h
  iot := fun b hb => by
    obtain ⟨⟨i, a⟩, hp, e⟩ := List.mem_map.mp hb
    obtain ⟨_, _, _, xs, h⟩ := ao.mem hp
    cases e
    exact ⟨_, h⟩
  io0 := fun b hb => by
    obtain ⟨⟨i, a⟩, hp, e⟩ := List.mem_map.mp hb
    obtain ⟨_, _, _, xs, h⟩ := ao.mem hp
    cases e
    exact ⟨_, h⟩
  trk := t
  fresh := fun a f => .inl f
  f0 := fun a f => f
  iof := fun b hb => by
    obtain ⟨⟨i, a⟩, hp, e⟩ := List.mem_map.mp hb
    obtain ⟨_, _, h, _⟩ := ao.mem hp
    cases e
    exact h
  len := by
    unfold L2.start
    rw [List.length_append, List.length_append, List.length_map, List.length_replicate, List.length_replicate, ao.length]
  sl := fun i s e => by
    rcases rho_get e with e | rfl
    · obtain ⟨v, ev, q⟩ := ao.get (n := 0) e
      rcases q with ⟨d, rfl, r⟩ | ⟨a, xs, ds, rfl, rfl, h1, h2, h3, h4⟩
      · exact ⟨v, start_get ev, r⟩
      · refine ⟨a, xs, start_get ev, h1, h2, h3, ?_⟩
        rw [if_pos rfl, Nat.zero_add] at *
        exact h4
    · exact True.intro
  sep := fun i j t u ds es a e1 e2 e3 e4 => by
    rcases rho_get e1 with e1 | z
    · rcases rho_get e2 with e2 | z
      · obtain ⟨v, ev, q⟩ := ao.get (n := 0) e1
        obtain ⟨v', ev', q'⟩ := ao.get (n := 0) e2
        rcases q with ⟨d, z, r⟩ | ⟨a1, xs, ds, z, rfl, h1, h2, h3, h4⟩
        · cases z
        rcases q' with ⟨d, z, r⟩ | ⟨a2, xs, ds, z, rfl, k1, k2, k3, k4⟩
        · cases z
        rw [start_get ev] at e3
        rw [start_get ev'] at e4
        cases e3
        cases e4
        rw [Nat.zero_add] at h4 k4
        exact nodup_snd nd h4 k4
      · cases z
    · cases z
theorem outs_of {B : Bs} {F' : Addr → Prop} {H' : Hp} {σ : L2.St} {ρ : Rho} (S : SR G B F' σ H' ρ) (fn : ∀ i a b, (i, a) ∈ B.ia → (i, b) ∈ B.ia → a = b) :
    ∀ {vs : List V} {as : List Sl} {n : Nat} {cs : List (List D)}, ArgsOk G F H vs as → (∀ p, p ∈ iaOf n vs as → p ∈ B.ia) → outsG n as ρ = some cs → Outs G F' H' (iaOf n vs as) cs
  | _, _, n, cs, .nil, _, e => by
    cases (show [] = cs from Option.some.inj e)
    exact .nil
  | _, _, n, cs, .val _ t, hm, e => by
    have z := outs_of (n := n + 1) S fn t hm e
    exact z
  | _, _, n, cs, .own (a := a) _ _ _ t, hm, e => by
    unfold outsG at e
    cases q : ρ[n]? with
    | none => rw [q] at e; cases e
    | some s =>
      rw [q] at e
      cases s with
      | no => cases e
      | raw _ => cases e
      | val _ => cases e
      | own tg c =>
        cases tg with
        | false => cases e
        | true =>
          have e' : (outsG (n + 1) _ ρ).map (c :: ·) = some cs := e
          cases q2 : outsG (n + 1) _ ρ with
          | none => rw [q2] at e'; cases e'
          | some cs' =>
            rw [q2] at e'
            cases (show c :: cs' = cs from Option.some.inj e')
            obtain ⟨b, xs, e1, nf, h, r, z⟩ := S.sl n _ q
            rw [if_pos rfl] at z
            have eb : b = a := fn n b a z (hm _ List.mem_cons_self)
            subst eb
            exact .cons nf h r (outs_of S fn t (fun p hp => hm p (List.mem_cons_of_mem _ hp)) q2)
theorem ia_fn {vs : List V} {as : List Sl} (ao : ArgsOk G F H vs as) (i : Nat) (a b : Addr) (h1 : (i, a) ∈ iaOf 0 vs as) (h2 : (i, b) ∈ iaOf 0 vs as) : a = b := by
  obtain ⟨_, e1, _⟩ := ao.mem h1
  obtain ⟨_, e2, _⟩ := ao.mem h2
  rw [e1] at e2
  cases e2
  rfl
/-- THE RULE of a def: its body's reading, from the arguments to the wish -/
theorem begin_ok {N : List Str} {S : DSp} {t : TS'} {vs : List V} {Q : VK} {E : XK} (hsp : spOf G S vs H Q E) (h : ∀ as K, S as K → t (enOf as K) (as ++ List.replicate (N.length - as.length) .no)) :
    ∃ B : Bs, liS G B t { nx := fun _ H' => Q .non H', rt := Q } (L2.start N vs) H := by
  obtain ⟨F, as, K, trk, ao, nd, hS, kk⟩ := hsp
  refine ⟨⟨H, iaOf 0 vs as, F⟩, F, _, enOf as K, SR.begin trk ao nd, h as K hS, ?_⟩
  have post : ∀ {F' : Addr → Prop} {σ' : L2.St} {H' : Hp} {ρ' : Rho} {cs : List (List D)}, SR G ⟨H, iaOf 0 vs as, F⟩ F' σ' H' ρ' → outsG 0 as ρ' = some cs → Post G F H (iaOf 0 vs as) cs F' H' := fun {F' σ' H' ρ' cs} S' e =>
    ⟨S'.f0, S'.fresh, S'.trk, S'.frame, outs_of S' (fun i a b h1 h2 => ia_fn ao i a b h1 h2) ao (fun _ h => h) e⟩
  refine ⟨fun ρ' h1 σ' H' F' S' e => ?_, fun x ρ' h1 v σ' H' F' S' r e => ?_, fun _ z => z.elim, fun _ z => z.elim, fun _ _ z => z.elim⟩
  · obtain ⟨cs, ec, h1⟩ := ok.ex h1
    exact kk _ _ h1 .non H' F' (post S' ec) .non
  · cases x with
    | d d =>
      obtain ⟨cs, ec, h1⟩ := ok.ex h1
      exact kk _ _ h1 v H' F' (post S' ec) r
    | o i =>
      have h1' : (match ρ'[i]? with | some (.own false ds) => ok (outsG 0 as ρ') (K (.lst ds)) | _ => False) := h1
      cases q : ρ'[i]? with
      | none => rw [q] at h1'; exact h1'.elim
      | some s =>
        rw [q] at h1'
        cases s with
        | no => exact h1'.elim
        | raw _ => exact h1'.elim
        | val _ => exact h1'.elim
        | own tg ds =>
          cases tg with
          | true => exact h1'.elim
          | false =>
            obtain ⟨cs, ec, h1'⟩ := ok.ex h1'
            obtain ⟨a, xs, e1, nf, ha, ra, z⟩ := S'.sl i _ q
            have e2 : some (some v) = some (some (V.ref a)) := (show σ'[i]? = some (some v) from r).symm.trans e1
            cases e2
            have Sf := S'.freeze q e1
            -- the lent lists stand as they stood
            have po := post S' ec
            refine kk _ _ h1' (.ref a) H' (add F' a) ⟨Sf.f0, Sf.fresh, Sf.trk, Sf.frame, ?_⟩ (.lst (.inl ha) (.inr rfl) (RepA.ext add_keep ra))
            have na : ∀ j b, (j, b) ∈ iaOf 0 vs as → b ≠ a := fun j b hb w => by
              subst w
              rw [if_neg Bool.false_ne_true] at z
              obtain ⟨o, e0⟩ := S'.io0 b (List.mem_map.mpr ⟨_, hb, rfl⟩)
              rw [z] at e0; cases e0
            have go : ∀ {ia : List (Nat × Addr)} {cs : List (List D)}, (∀ j b, (j, b) ∈ ia → b ≠ a) → Outs G F' H' ia cs → Outs G (add F' a) H' ia cs := by
              intro ia cs hn o
              induction o with
              | nil => exact .nil
              | cons nf h r _ ih =>
                refine .cons (fun f => f.elim nf fun w => hn _ _ List.mem_cons_self w) h (RepA.ext add_keep r) (ih fun j b hb => hn j b (List.mem_cons_of_mem _ hb))
            exact go na po.outs
end
section
variable {P : Program} {w : World} {K : PySem.W.Frag} {mg : Str → Option Value} {base : Heap}
theorem fnD {G : Gm} {x qual : Str} {st : Stmt} {f : Addr} {fd : FuncData} {N ps : List Str} {k : Nat} {S : DSp} {t : TS'} (F : Fun K x qual st f fd) (sc : FnScope N ps (defScope st)) (len : ∀ as K, S as K → as.length = ps.length)
    (hbody : ∀ (cdv : Value) (A : Around) (outer : List Env) (s : Shared) (H : Hp) (E : XK) (B : Bs), Room k (A.deeper (envOfC qual (defScope st) s.heap.objs.size f cdv)) → PDSs (cxOf CX0 P w K mg base N qual (defScope st) f cdv A outer s H E).nox G B (defBody st) t)
    (h : ∀ as K, S as K → t (enOf as K) (as ++ List.replicate (N.length - as.length) .no)) : FnOk P w K mg base CX0 (k + 1) f fd ps (spOf G S) := by
  refine F.ok sc (fun vs H Q E hs => ?_) (fun cdv A outer s H vs Q E hr hs => ?_)
  · obtain ⟨_, as, K, _, ao, _, hS, _⟩ := hs
    rw [ao.length]
    exact len as K hS
  · obtain ⟨B, hb⟩ := begin_ok (N := N) hs h
    exact ⟨liS G B t, hbody cdv A outer s H E B hr, hb⟩
end

/-! ### calls -/
def toSl (ρ : Rho) : List Xv → Option (List Sl)
  | [] => some []
  | .d d :: xs => (toSl ρ xs).map (Sl.val d :: ·)
  | .o i :: xs => match ownAt ρ i with
    | some ds => (toSl ρ xs).map (Sl.own true ds :: ·)
    | none => none
def putOwn (ρ : Rho) (i : Nat) (c : List D) : Rho := match ρ[i]? with
  | some (.own t _) => ρ.set i (.own t c)
  | _ => ρ
def putOs (ρ : Rho) : List Xv → List (List D) → Rho
  | .d _ :: xs, cs => putOs ρ xs cs
  | .o i :: xs, c :: cs => putOs (putOwn ρ i c) xs cs
  | _, _ => ρ
def owns : List Xv → List Nat
  | [] => []
  | .d _ :: xs => owns xs
  | .o i :: xs => i :: owns xs
def call' (S : DSp) (t : TA') : TE' := fun ρ Q => t ρ fun xs ρ1 => ok (toSl ρ1 xs) fun as => if (owns xs).Nodup then S as (fun d cs => Q (.d d) (putOs ρ1 xs cs)) else False
section
variable {G : Gm} {B : Bs} {F : Addr → Prop} {H : Hp} {σ : L2.St} {ρ : Rho}
theorem args_of (S : SR G B F σ H ρ) : ∀ {vs : List V} {xs : List Xv} {as : List Sl}, RXs G F H σ vs xs → toSl ρ xs = some as → ArgsOk G F H vs as
  | _, _, as, .nil, e => by
    cases (show [] = as from Option.some.inj e)
    exact .nil
  | _, .d d :: xs, as, .cons r s, e => by
    have e' : (toSl ρ xs).map (Sl.val d :: ·) = some as := e
    cases q : toSl ρ xs with
    | none => rw [q] at e'; cases e'
    | some as' =>
      rw [q] at e'
      cases (show Sl.val d :: as' = as from Option.some.inj e')
      exact .val r (args_of S s q)
  | v :: vs, .o i :: xs, as, .cons r s, e => by
    unfold toSl at e
    cases q0 : ownAt ρ i with
    | none => rw [q0] at e; cases e
    | some ds =>
      rw [q0] at e
      have e' : (toSl ρ xs).map (Sl.own true ds :: ·) = some as := e
      cases q : toSl ρ xs with
      | none => rw [q] at e'; cases e'
      | some as' =>
        rw [q] at e'
        cases (show Sl.own true ds :: as' = as from Option.some.inj e')
        obtain ⟨t, q1⟩ := ownAt_eq q0
        obtain ⟨a, ys, e1, nf, h, ra, _⟩ := S.sl i _ q1
        have e2 : some (some v) = some (some (V.ref a)) := (show σ[i]? = some (some v) from r).symm.trans e1
        cases e2
        exact .own nf h ra (args_of S s q)
/-- the lent ones are what the slots own -/
theorem ia_own (S : SR G B F σ H ρ) : ∀ {vs : List V} {xs : List Xv} {as : List Sl} {n j : Nat} {a : Addr}, RXs G F H σ vs xs → toSl ρ xs = some as → (j, a) ∈ iaOf n vs as → ∃ i, i ∈ owns xs ∧ σ[i]? = some (some (V.ref a)) ∧ ∃ t ds, ρ[i]? = some (Sl.own t ds)
  | _, _, as, n, j, a, .nil, e, h => by
    cases (show [] = as from Option.some.inj e)
    have h' : _ ∈ ([] : List (Nat × Addr)) := h
    simp at h'
  | _, .d d :: xs, as, n, j, a, .cons r s, e, h => by
    have e' : (toSl ρ xs).map (Sl.val d :: ·) = some as := e
    cases q : toSl ρ xs with
    | none => rw [q] at e'; cases e'
    | some as' =>
      rw [q] at e'
      cases (show Sl.val d :: as' = as from Option.some.inj e')
      exact ia_own (n := n + 1) (xs := xs) (as := as') S s q h
  | v :: vs, .o i :: xs, as, n, j, a, .cons r s, e, h => by
    unfold toSl at e
    cases q0 : ownAt ρ i with
    | none => rw [q0] at e; cases e
    | some ds =>
      rw [q0] at e
      have e' : (toSl ρ xs).map (Sl.own true ds :: ·) = some as := e
      cases q : toSl ρ xs with
      | none => rw [q] at e'; cases e'
      | some as' =>
        rw [q] at e'
        cases (show Sl.own true ds :: as' = as from Option.some.inj e')
        obtain ⟨t, q1⟩ := ownAt_eq q0
        obtain ⟨b, ys, e1, nf, h1, ra, _⟩ := S.sl i _ q1
        have e2 : some (some v) = some (some (V.ref b)) := (show σ[i]? = some (some v) from r).symm.trans e1
        obtain rfl : v = V.ref b := Option.some.inj (Option.some.inj e2)
        rcases List.mem_cons.mp h with z | h
        · cases z
          exact ⟨i, List.mem_cons_self, e1, t, ds, q1⟩
        · obtain ⟨i', m, z⟩ := ia_own (n := n + 1) (xs := xs) (as := as') S s q h
          exact ⟨i', List.mem_cons_of_mem _ m, z⟩
theorem ia_nodup (S : SR G B F σ H ρ) : ∀ {vs : List V} {xs : List Xv} {as : List Sl} {n : Nat}, RXs G F H σ vs xs → toSl ρ xs = some as → (owns xs).Nodup → ((iaOf n vs as).map (·.2)).Nodup
  | _, _, as, n, .nil, e, _ => by
    cases (show [] = as from Option.some.inj e)
    exact List.nodup_nil
  | _, .d d :: xs, as, n, .cons r s, e, nd => by
    have e' : (toSl ρ xs).map (Sl.val d :: ·) = some as := e
    cases q : toSl ρ xs with
    | none => rw [q] at e'; cases e'
    | some as' =>
      rw [q] at e'
      cases (show Sl.val d :: as' = as from Option.some.inj e')
      exact ia_nodup (n := n + 1) (xs := xs) (as := as') S s q nd
  | v :: vs, .o i :: xs, as, n, .cons r s, e, nd => by
    unfold toSl at e
    cases q0 : ownAt ρ i with
    | none => rw [q0] at e; cases e
    | some ds =>
      rw [q0] at e
      have e' : (toSl ρ xs).map (Sl.own true ds :: ·) = some as := e
      cases q : toSl ρ xs with
      | none => rw [q] at e'; cases e'
      | some as' =>
        rw [q] at e'
        cases (show Sl.own true ds :: as' = as from Option.some.inj e')
        obtain ⟨t, q1⟩ := ownAt_eq q0
        obtain ⟨b, ys, e1, nf, h1, ra, _⟩ := S.sl i _ q1
        have e2 : some (some v) = some (some (V.ref b)) := (show σ[i]? = some (some v) from r).symm.trans e1
        obtain rfl : v = V.ref b := Option.some.inj (Option.some.inj e2)
        have nd' : (i :: owns xs).Nodup := nd
        rw [List.nodup_cons] at nd'
        show (b :: (iaOf (n + 1) vs as').map (·.2)).Nodup
        rw [List.nodup_cons]
        refine ⟨fun m => ?_, ia_nodup S s q nd'.2⟩
        obtain ⟨⟨j, c⟩, hp, ec⟩ := List.mem_map.mp m
        obtain ⟨i', m', e3, t', ds', e4⟩ := ia_own S s q hp
        rw [show c = b from ec] at e3
        exact nd'.1 ((S.sep i i' _ _ _ _ b q1 e4 e1 e3) ▸ m')
/-- what the lent slots hold behind the call -/
def OutX (G : Gm) (F' : Addr → Prop) (H' : Hp) (σ : L2.St) (ρ : Rho) (i : Nat) (c : List D) : Prop := ∃ a xs t ds, σ[i]? = some (some (V.ref a)) ∧ ρ[i]? = some (Sl.own t ds) ∧ ¬ F' a ∧ H' a = some (.lst xs) ∧ RepA G F' H' xs c
theorem put_get (S : SR G B F σ H ρ) {F' : Addr → Prop} {H' : Hp} : ∀ {vs : List V} {xs : List Xv} {as : List Sl} {cs : List (List D)} {n : Nat} {ρ1 : Rho}, RXs G F H σ vs xs → toSl ρ xs = some as → (owns xs).Nodup → Outs G F' H' (iaOf n vs as) cs →
    (∀ (i : Nat), i ∈ owns xs → ρ1[i]? = ρ[i]?) → ∀ (j : Nat) (s : Sl), (putOs ρ1 xs cs)[j]? = some s → (∃ t ds c, ρ[j]? = some (Sl.own t ds) ∧ s = .own t c ∧ j ∈ owns xs ∧ OutX G F' H' σ ρ j c) ∨ (j ∉ owns xs ∧ ρ1[j]? = some s)
  | _, _, as, cs, n, ρ1, .nil, e, nd, o, hk, j, s, h => by
    have h' : ρ1[j]? = some s := by
      unfold putOs at h
      exact h
    exact .inr ⟨by simp [owns], h'⟩
  | _, .d d :: xs, as, cs, n, ρ1, .cons r rr, e, nd, o, hk, j, s, h => by
    have e' : (toSl ρ xs).map (Sl.val d :: ·) = some as := e
    cases q : toSl ρ xs with
    | none => rw [q] at e'; cases e'
    | some as' =>
      rw [q] at e'
      cases (show Sl.val d :: as' = as from Option.some.inj e')
      have h' : (putOs ρ1 xs cs)[j]? = some s := by
        unfold putOs at h
        exact h
      exact put_get (n := n + 1) (xs := xs) (as := as') S rr q nd o hk j s h'
  | v :: vs, .o i :: xs, as, cs, n, ρ1, .cons r rr, e, nd, o, hk, j, s, h => by
    unfold toSl at e
    cases q0 : ownAt ρ i with
    | none => rw [q0] at e; cases e
    | some ds =>
      rw [q0] at e
      have e' : (toSl ρ xs).map (Sl.own true ds :: ·) = some as := e
      cases q : toSl ρ xs with
      | none => rw [q] at e'; cases e'
      | some as' =>
        rw [q] at e'
        cases (show Sl.own true ds :: as' = as from Option.some.inj e')
        obtain ⟨t, q1⟩ := ownAt_eq q0
        obtain ⟨b, ys, e1, nf, h1, ra, _⟩ := S.sl i _ q1
        have e2 : some (some v) = some (some (V.ref b)) := (show σ[i]? = some (some v) from r).symm.trans e1
        obtain rfl : v = V.ref b := Option.some.inj (Option.some.inj e2)
        have nd' : (i :: owns xs).Nodup := nd
        rw [List.nodup_cons] at nd'
        have o' : Outs G F' H' ((n, b) :: iaOf (n + 1) vs as') cs := o
        obtain ⟨c, cs', zs, rfl, nf', hb', rb', o'⟩ := o'.inv
        · have er : ρ1[i]? = some (Sl.own t ds) := (hk i List.mem_cons_self).trans q1
          have hput : putOwn ρ1 i c = ρ1.set i (.own t c) := by
            unfold putOwn
            rw [er]
          have h' : (putOs (putOwn ρ1 i c) xs cs')[j]? = some s := by
            unfold putOs at h
            exact h
          rw [hput] at h'
          have hk' : ∀ (i' : Nat), i' ∈ owns xs → (ρ1.set i (.own t c))[i']? = ρ[i']? := fun i' m => by
            have ne : i ≠ i' := fun w => nd'.1 (w ▸ m)
            rw [List.getElem?_set_ne ne]
            exact hk i' (List.mem_cons_of_mem _ m)
          rcases put_get S rr q nd'.2 o' hk' j s h' with ⟨t', ds', c', z1, z2, z3, z4⟩ | ⟨z1, z2⟩
          · exact .inl ⟨t', ds', c', z1, z2, List.mem_cons_of_mem _ z3, z4⟩
          · rcases get_set z2 with ⟨w1, w2⟩ | ⟨w1, w2⟩
            · subst w1
              exact .inl ⟨t, ds, c, q1, w2, List.mem_cons_self, b, _, t, ds, e1, q1, nf', hb', rb'⟩
            · exact .inr ⟨fun m => (List.mem_cons.mp m).elim (fun w => w1 w.symm) z1, w2⟩
theorem put_length : ∀ (xs : List Xv) (cs : List (List D)) (ρ : Rho), (putOs ρ xs cs).length = ρ.length
  | [], _, _ => by unfold putOs; rfl
  | .d _ :: xs, cs, ρ => by
    unfold putOs
    exact put_length xs cs ρ
  | .o i :: xs, [], ρ => by unfold putOs; rfl
  | .o i :: xs, c :: cs, ρ => by
    unfold putOs
    rw [put_length xs cs]
    unfold putOwn
    split
    · rw [List.length_set]
    · rfl
/-- behind a call -/
theorem SR.called (S : SR G B F σ H ρ) {vs : List V} {xs : List Xv} {as : List Sl} {cs : List (List D)} {F' : Addr → Prop} {H' : Hp} (r : RXs G F H σ vs xs) (e : toSl ρ xs = some as) (nd : (owns xs).Nodup) (p : Post G F H (iaOf 0 vs as) cs F' H') :
    SR G B F' σ H' (putOs ρ xs cs) ∧ Ext (ownA σ ρ) F H (ownA σ (putOs ρ xs cs)) F' H' := by
  have io : ∀ b, b ∈ (iaOf 0 vs as).map (·.2) → ownA σ ρ b := fun b hb => by
    obtain ⟨⟨j, a⟩, hp, ec⟩ := List.mem_map.mp hb
    cases ec
    obtain ⟨i, _, e3, t, ds, e4⟩ := ia_own S r e hp
    exact ⟨i, t, ds, e4, e3⟩
  have stay : ∀ b o, H b = some o → ¬ ownA σ ρ b → H' b = some o := fun b o h n => p.frame b o h fun m => n (io b m)
  have notF : ∀ b, F b → ¬ ownA σ ρ b := fun b f ⟨i, t, ds, e1, e2⟩ => by
    obtain ⟨a, ys, e3, nf, _⟩ := S.sl i _ e1
    rw [e2] at e3
    cases e3
    exact nf f
  have notX : ∀ b o, H b = some o → Fixed o → ¬ ownA σ ρ b := fun b o h fx ⟨i, t, ds, e1, e2⟩ => by
    obtain ⟨a, ys, e3, nf, h3, _⟩ := S.sl i _ e1
    rw [e2] at e3
    cases e3
    rw [h] at h3
    cases h3
    exact fx
  have kp : Keep F H F' H' := ⟨p.sub, fun b o h z => stay b o h (z.elim (fun f => notF b f) fun fx => notX b o h fx)⟩
  have pg := put_get S (F' := F') (H' := H') (n := 0) (ρ1 := ρ) r e nd p.outs (fun _ _ => rfl)
  have there : ∀ {ia : List (Nat × Addr)} {cs : List (List D)}, Outs G F' H' ia cs → ∀ b, b ∈ ia.map (·.2) → ∃ o, H' b = some o := by
    intro ia cs o
    induction o with
    | nil => intro b hb; simp at hb
    | cons nf h r _ ih =>
      intro b hb
      rw [List.map_cons] at hb
      rcases List.mem_cons.mp hb with z | z
      · exact ⟨_, by rw [z]; exact h⟩
      · exact ih b z
  have tk : ∀ b o, H b = some o → ∃ o', H' b = some o' := fun b o h => by
    by_cases m : b ∈ (iaOf 0 vs as).map (·.2)
    · exact there p.outs b m
    · exact ⟨o, p.frame b o h m⟩
  have ow : ∀ b, ownA σ (putOs ρ xs cs) b → ownA σ ρ b := fun b ⟨j, t, ds, e1, e2⟩ => by
    rcases pg j _ e1 with ⟨t', ds', c', z1, _⟩ | ⟨_, z⟩
    · exact ⟨j, t', ds', z1, e2⟩
    · exact ⟨j, t, ds, z, e2⟩
  refine ⟨?_, ⟨kp, stay, fun b m => .inl (ow b m), tk, fun b f => (p.fr b f).imp id .inr⟩⟩
  exact {
    frame := fun b o hb hi => p.frame b o (S.frame b o hb hi) fun m => by
      obtain ⟨i, t, ds, e1, e2⟩ := io b m
      obtain ⟨a, ys, e3, nf, h3, _, z⟩ := S.sl i _ e1
      rw [e2] at e3
      cases e3
      cases t with
      | true =>
        rw [if_pos rfl] at z
        exact hi (List.mem_map.mpr ⟨_, z, rfl⟩)
      | false =>
        rw [if_neg Bool.false_ne_true, hb] at z
        cases z
    iot := fun b hb => by
      obtain ⟨o, ho⟩ := S.iot b hb
      exact tk b o ho
    io0 := S.io0
    trk := p.trk
    fresh := fun a f => by
      rcases p.fr a f with z | z
      · exact S.fresh a z
      · exact .inr (S.h0 z)
    f0 := fun a f => p.sub a (S.f0 a f)
    iof := fun a hi f => by
      rcases p.fr a f with z | z
      · exact S.iof a hi z
      · obtain ⟨o, ho⟩ := S.iot a hi
        rw [z] at ho; cases ho
    len := by rw [put_length]; exact S.len
    sl := fun j s e1 => by
      rcases pg j _ e1 with ⟨t, ds, c, z1, rfl, m, a, ys, t', ds', e2, e3, nf, ha, ra⟩ | ⟨nm, z⟩
      · obtain ⟨b, zs, e4, _, _, _, zz⟩ := S.sl j _ z1
        rw [e2] at e4
        cases e4
        exact ⟨a, ys, e2, nf, ha, ra, zz⟩
      · have q := S.sl j s z
        cases s with
        | no => exact True.intro
        | raw _ => exact q
        | val d =>
          obtain ⟨v, e2, r2⟩ := q
          exact ⟨v, e2, Rep.ext kp r2⟩
        | own t ds =>
          obtain ⟨a, ys, e2, nf, ha, ra, zz⟩ := q
          have ni : a ∉ (iaOf 0 vs as).map (·.2) := fun m => by
            obtain ⟨⟨k, a'⟩, hp, ec⟩ := List.mem_map.mp m
            cases ec
            obtain ⟨i, mi, e3, t', ds', e4⟩ := ia_own S r e hp
            exact nm ((S.sep i j _ _ _ _ _ e4 z e3 e2) ▸ mi)
          have ha' := p.frame a _ ha ni
          refine ⟨a, ys, e2, fun f => ?_, ha', RepA.ext kp ra, zz⟩
          rcases p.fr a f with w | w
          · exact nf w
          · rw [ha] at w; cases w
    sep := fun i j t u ds es a e1 e2 e3 e4 => by
      have f1 : ∃ t ds, ρ[i]? = some (Sl.own t ds) := by
        rcases pg i _ e1 with ⟨t', ds', c', z1, _⟩ | ⟨_, z⟩
        · exact ⟨_, _, z1⟩
        · exact ⟨_, _, z⟩
      have f2 : ∃ t ds, ρ[j]? = some (Sl.own t ds) := by
        rcases pg j _ e2 with ⟨t', ds', c', z1, _⟩ | ⟨_, z⟩
        · exact ⟨_, _, z1⟩
        · exact ⟨_, _, z⟩
      obtain ⟨_, _, f1⟩ := f1
      obtain ⟨_, _, f2⟩ := f2
      exact S.sep i j _ _ _ _ a f1 f2 e3 e4 }
/-- what a call asks, by data -/
theorem call_ok {S : DSp} {vs : List V} {xs : List Xv} {as : List Sl} {Q : VK} {E : XK} {P : Xv → Rho → Prop} (Sr : SR G B F σ H ρ) (r : RXs G F H σ vs xs) (e : toSl ρ xs = some as) (nd : (owns xs).Nodup) (h : S as fun d cs => P (.d d) (putOs ρ xs cs))
    (k : ∀ x ρ', P x ρ' → ∀ v H' F', SR G B F' σ H' ρ' → RX G F' H' σ v x → Ext (ownA σ ρ) F H (ownA σ ρ') F' H' → Q v H') : spOf G S vs H Q E := by
  refine ⟨F, as, _, Sr.trk, args_of Sr r e, ia_nodup Sr r e nd, h, fun d cs hp v H' F' p rv => ?_⟩
  obtain ⟨S', e'⟩ := Sr.called r e nd p
  exact k _ _ hp v H' F' S' rv e'
end
section
variable {X : Cx} {G : Gm} {B : Bs}
theorem tCall_d {S : DSp} {E : XK} {t : TA'} (σ : L2.St) (H : Hp) (Q : VK) (h : liE G B (call' S t) σ H Q) : tCall (spOf G S) [] E (liA G B t) σ H Q := by
  obtain ⟨F, ρ, P, Sr, h, k⟩ := h
  refine ⟨F, ρ, _, Sr, h, fun xs ρ1 h1 vs H1 F1 S1 r1 e1 => ?_⟩
  obtain ⟨as, ea, h1⟩ := h1.ex
  obtain ⟨nd, h1⟩ := ite_ex h1
  rw [List.append_nil]
  exact call_ok S1 r1 ea nd h1 fun x ρ' hp v H' F' S' r e => k x ρ' hp v H' F' S' r (e1.trans e)
/-- a def of the text as it stands, with its promise by data -/
structure Kn (P : Program) (w : World) (K : PySem.W.Frag) (mg : Str → Option Value) (base : Heap) (G : Gm) (k : Nat) (x : Str) (S : DSp) : Prop where
  ex : ∃ (f : Addr) (fd : FuncData) (ps : List Str), mg x = some (.ref f) ∧ PySem.W.keepIn K (.ref f) = true ∧ Binds K fd ps [] ∧ FnOk P w K mg base CX0 k f fd ps (spOf G S)
theorem pd_call {k : Nat} {x : Str} {S : DSp} {e : Expr} {es : List Expr} {t : TA'} {p pos : Pos} (F : Kn X.prog X.w X.K X.mg X.base G k x S) (hr : Room k X.A) (ha : PDA X G B (e :: es) t) (hg : Gl X x := by rfl) (hdb : (x == ("__debug__" : Str)) = false := by decide)
    (he : starEach (e :: es) X.env = (false, eval e X.env) :: starEach es X.env := by rfl) (hpl : (backTo pos (starEach es X.env)).any (·.1) = false := by rfl) : PD X G B (.Call (.Name x p) (e :: es) [] pos) (call' S t) := by
  obtain ⟨f, fd, ps, h1, h2, h3, h4⟩ := F.ex
  exact pe_imp (pe_call h4 hr hg h1 h2 h3 .nil pass0 ha hdb he hpl) tCall_d
theorem pd_call0 {k : Nat} {x : Str} {S : DSp} {p pos : Pos} (F : Kn X.prog X.w X.K X.mg X.base G k x S) (hr : Room k X.A) (hg : Gl X x := by rfl) (hdb : (x == ("__debug__" : Str)) = false := by decide) : PD X G B (.Call (.Name x p) [] [] pos) (call' S aN) := by
  obtain ⟨f, fd, ps, h1, h2, h3, h4⟩ := F.ex
  refine pe_imp (pe_call0 h4 hr hg h1 h2 h3 .nil pass0 hdb) fun σ H Q h => ?_
  obtain ⟨F, ρ, P, Sr, h, k⟩ := h
  have h' : ok (toSl ρ []) fun as => if (owns []).Nodup then S as (fun d cs => P (.d d) (putOs ρ [] cs)) else False := h
  obtain ⟨as, ea, h1⟩ := h'.ex
  obtain ⟨nd, h1⟩ := ite_ex h1
  exact call_ok (vs := []) (E := E0) Sr .nil ea nd h1 k
end

/-! ### lists that slots own -/
def app (i : Nat) (t : TE') : TE' := fun ρ Q => ok (ownAt ρ i) fun _ => t ρ fun x ρ1 => match x with
  | .d d => ok (ownAt ρ1 i) fun ds => if ds.length < sizeLine then Q (.d .non) (putOwn ρ1 i (ds ++ [d])) else False
  | .o _ => False
def sti (i : Nat) (t u : TE') : TS' := fun P ρ => t ρ fun x ρ1 => ok (ownAt ρ1 i) fun _ => u ρ1 fun y ρ2 => match x, y with
  | .d d, .d (.int n) => ok (ownAt ρ2 i) fun ds => ok (ixN ds.length n) fun j => P.nx (putOwn ρ2 i (ds.set j d))
  | _, _ => False
def popL (i : Nat) : TE' := fun ρ Q => ok (ownAt ρ i) fun ds => ok ds[ds.length - 1]? fun d => Q (.d d) (putOwn ρ i ds.dropLast)
def popA (i : Nat) (t : TE') : TE' := fun ρ Q => ok (ownAt ρ i) fun _ => t ρ fun x ρ1 => match x with
  | .d (.int n) => ok (ownAt ρ1 i) fun ds => if -(2 ^ 63) ≤ n ∧ n < 2 ^ 63 then ok (seqIndex? n ds.length) fun j => ok ds[j]? fun d => Q (.d d) (putOwn ρ1 i (ds.eraseIdx j)) else False
  | _ => False
section
variable {X : Cx} {G : Gm} {B : Bs} {i : Nat} {x : Str} {p pos apos : Pos}
theorem own_there {F : Addr → Prop} {H : Hp} {σ : L2.St} {ρ : Rho} {ds : List D} (S : SR G B F σ H ρ) (e : ownAt ρ i = some ds) : ∃ a xs t, σ[i]? = some (some (V.ref a)) ∧ ρ[i]? = some (Sl.own t ds) ∧ ¬ F a ∧ H a = some (.lst xs) ∧ RepA G F H xs ds := by
  obtain ⟨t, q⟩ := ownAt_eq e
  obtain ⟨a, xs, e1, nf, h, r, _⟩ := S.sl i _ q
  exact ⟨a, xs, t, e1, q, nf, h, r⟩
theorem put_eq {ρ : Rho} {t : Bool} {ds c : List D} (q : ρ[i]? = some (Sl.own t ds)) : putOwn ρ i c = ρ.set i (.own t c) := by
  unfold putOwn
  rw [q]
theorem pd_app {e : Expr} {t : TE'} (bm : PE X (.Call (.Attribute (.Name x p) "append" apos) [e] [] pos) (tBM X.K "list" rAppend (tVar i) (tCons (liE G B t) tNil))) :
    PD X G B (.Call (.Attribute (.Name x p) "append" apos) [e] [] pos) (app i t) := by
  refine pe_imp bm fun σ H Q ⟨F, ρ, P, S, h, k⟩ => ?_
  obtain ⟨ds0, eo, h⟩ := ok.ex h
  obtain ⟨a, xs, t0, e1, q0, nf, ha, ra⟩ := own_there S eo
  refine ⟨.ref a, e1, .inl ⟨rfl, _, SqL.of ha⟩, F, ρ, _, S, h, fun x ρ1 h1 v H1 F1 S1 r1 ex1 => ?_⟩
  cases x with
  | o j => exact h1.elim
  | d d =>
    obtain ⟨ds, eo1, h1⟩ := ok.ex h1
    obtain ⟨hz, h1⟩ := ite_ex h1
    obtain ⟨b, ys, t1, e2, q1, nf1, hb, rb⟩ := own_there S1 eo1
    rw [e1] at e2
    cases e2
    refine ⟨a, ys, v, rfl, rfl, hb, by rw [rb.length]; exact hz, ?_⟩
    rw [put_eq q1] at h1
    have rr := rb.append (.cons r1 .nil)
    exact k _ _ h1 .non _ F1 (S1.write q1 e1 hb rr) .non (ex1.trans (ext_write S1 q1 e1 hb))
theorem pd_pop (bm : PE X (.Call (.Attribute (.Name x p) "pop" apos) [] [] pos) (tBM0 X.K "list" rPop (tVar i))) :
    PD X G B (.Call (.Attribute (.Name x p) "pop" apos) [] [] pos) (popL i) := by
  refine pe_imp bm fun σ H Q ⟨F, ρ, P, S, h, k⟩ => ?_
  obtain ⟨ds, eo, h⟩ := ok.ex h
  obtain ⟨d, ed, h⟩ := ok.ex h
  obtain ⟨a, xs, t0, e1, q0, nf, ha, ra⟩ := own_there S eo
  obtain ⟨v, ev, rv⟩ := ra.get ed
  refine ⟨.ref a, e1, .inl ⟨rfl, _, SqL.of ha⟩, a, xs, v, rfl, rfl, ha, by rw [ra.length]; exact ev, ?_⟩
  rw [put_eq q0] at h
  have rr : RepA G F H xs.dropLast ds.dropLast := by
    rw [List.dropLast_eq_take, List.dropLast_eq_take, ra.length]
    exact ra.take _
  have kw := keep_write (ys := xs.dropLast) nf ha
  exact k _ _ h v _ F (S.write q0 e1 ha rr) (Rep.ext kw rv) (ext_write S q0 e1 ha)
theorem pd_popA {e : Expr} {t : TE'} (bm : PE X (.Call (.Attribute (.Name x p) "pop" apos) [e] [] pos) (tBM X.K "list" rPopAt (tVar i) (tCons (liE G B t) tNil))) :
    PD X G B (.Call (.Attribute (.Name x p) "pop" apos) [e] [] pos) (popA i t) := by
  refine pe_imp bm fun σ H Q ⟨F, ρ, P, S, h, k⟩ => ?_
  obtain ⟨ds0, eo, h⟩ := ok.ex h
  obtain ⟨a, xs, t0, e1, q0, nf, ha, ra⟩ := own_there S eo
  refine ⟨.ref a, e1, .inl ⟨rfl, _, SqL.of ha⟩, F, ρ, _, S, h, fun x ρ1 h1 v H1 F1 S1 r1 ex1 => ?_⟩
  cases x with
  | o j => exact h1.elim
  | d d =>
    cases d with
    | int n =>
      cases r1
      obtain ⟨ds, eo1, h1⟩ := ok.ex h1
      obtain ⟨⟨hb1, hb2⟩, h1⟩ := ite_ex h1
      obtain ⟨j, ej, h1⟩ := ok.ex h1
      obtain ⟨d, ed, h1⟩ := ok.ex h1
      obtain ⟨b, ys, t1, e2, q1, nf1, hb, rb⟩ := own_there S1 eo1
      rw [e1] at e2
      cases e2
      obtain ⟨v, ev, rv⟩ := rb.get ed
      refine ⟨a, ys, n, j, v, rfl, rfl, hb, hb1, hb2, by rw [rb.length]; exact ej, ev, ?_⟩
      rw [put_eq q1] at h1
      have kw := keep_write (ys := ys.eraseIdx j) nf1 hb
      exact k _ _ h1 v _ F1 (S1.write q1 e1 hb (rb.eraseIdx j)) (Rep.ext kw rv) (ex1.trans (ext_write S1 q1 e1 hb))
    | _ => exact h1.elim
theorem pds_sti {e ix : Expr} {t u : TE'} {pos' : Pos} (bm : PS X (.Assign [.Subscript (.Name x p) ix pos'] e pos) (tAsg (liE G B t) (gSub (tVar i) (liE G B u) rSetL))) :
    PDS X G B (.Assign [.Subscript (.Name x p) ix pos'] e pos) (sti i t u) := by
  refine ps_imp bm fun D σ H ⟨F, ρ, P, S, h, R⟩ => ?_
  refine ⟨F, ρ, _, S, h, fun x ρ1 h1 v H1 F1 S1 r1 ex1 => ?_⟩
  obtain ⟨ds0, eo, h1⟩ := ok.ex h1
  obtain ⟨a, xs, t0, e1, q0, nf, ha, ra⟩ := own_there S1 eo
  refine ⟨.ref a, e1, F1, ρ1, _, S1, h1, fun y ρ2 h2 z H2 F2 S2 r2 ex2 => ?_⟩
  cases x with
  | o j => exact h2.elim
  | d d =>
    cases y with
    | o j => exact h2.elim
    | d dn =>
      cases dn with
      | int n =>
        cases r2
        obtain ⟨ds, eo1, h2⟩ := ok.ex h2
        obtain ⟨j, ej, h2⟩ := ok.ex h2
        obtain ⟨b, ys, t1, e2, q1, nf1, hb, rb⟩ := own_there S2 eo1
        rw [e1] at e2
        cases e2
        refine ⟨a, ys, n, j, rfl, rfl, hb, by rw [rb.length]; exact ej, ?_⟩
        rw [put_eq q1] at h2
        exact R.nx _ h2 σ _ F2 (S2.write q1 e1 hb (RepA.set (Rep.ext ex2.k r1) j rb)) ((ex1.trans ex2).trans (ext_write S2 q1 e1 hb))
      | _ => exact h2.elim
end
end DL
set_option Elab.async false
set_option linter.all false
set_option maxRecDepth 100000
set_option maxHeartbeats 4000000
namespace DL
open PySem PySem.Spec PyProof.Rows L2

/-! ### operations by data -/
def iop (g : Int → Int → D) : D → D → Option D := fun a b => match a, b with
  | .int i, .int j => some (g i j)
  | _, _ => none
def iopC (c : Int → Int → Prop) [∀ i j, Decidable (c i j)] (g : Int → Int → D) : D → D → Option D := fun a b => match a, b with
  | .int i, .int j => if c i j then some (g i j) else none
  | _, _ => none
/-- a value of no address -/
def flatD : D → Option V
  | .non => some .non
  | .bl b => some (.bl b)
  | .int i => some (.int i)
  | .str x => some (.str x)
  | _ => none
section
variable {G : Gm}
theorem RQ.flat {F : Addr → Prop} {H : Hp} {c : D} {v : V} {Q : VK} (t : ∀ p, F p → ∃ o, H p = some o) (e : flatD c = some v) (q : RQ G F H c Q) : Q v H := by
  refine q v H F (New.refl t) ?_
  cases c with
  | non => cases e; exact .non
  | bl b => cases e; exact .bl b
  | int b => cases e; exact .int b
  | str b => cases e; exact .str b
  | _ => cases e
theorem opd_i {g : Int → Int → D} {v : Int → Int → V} (e : ∀ i j, flatD (g i j) = some (v i j)) : OpD G (rI0 v) (iop g) := by
  intro F H x y a b c Q t ta tb h q
  match a, b, ta, tb, h with
  | .int i, .int j, ta, tb, h =>
    rw [ta.int, tb.int]
    cases (show g i j = c from Option.some.inj h)
    exact ⟨i, j, rfl, rfl, q.flat t (e i j)⟩
theorem opd_iC {C : Int → Int → Prop} [∀ i j, Decidable (C i j)] {g : Int → Int → D} {v : Int → Int → V} (e : ∀ i j, flatD (g i j) = some (v i j)) : OpD G (rI C v) (iopC C g) := by
  intro F H x y a b c Q t ta tb h q
  match a, b, ta, tb, h with
  | .int i, .int j, ta, tb, h =>
    rw [ta.int, tb.int]
    have h' : (if C i j then some (g i j) else none) = some c := h
    by_cases hc : C i j
    · rw [if_pos hc] at h'
      cases (show g i j = c from Option.some.inj h')
      exact ⟨i, j, rfl, rfl, hc, q.flat t (e i j)⟩
    · rw [if_neg hc] at h'
      cases h'
/-! numbers -/
instance : ∀ i j, Decidable (CPow i j) := fun i j => by unfold CPow; infer_instance
instance : ∀ i j, Decidable (CMul i j) := fun i j => by unfold CMul; infer_instance
instance : ∀ i j, Decidable (CDivW i j) := fun i j => by unfold CDivW; infer_instance
def addI := iop fun i j => .int (i + j)
def subI := iop fun i j => .int (i - j)
def mulI := iopC CMul fun i j => .int (i * j)
def powI := iopC CPow fun i j => .int (i ^ j.toNat)
def divI := iopC CDivW fun i j => .int (i / j)
def modI := iopC (fun _ j => 0 < j) fun i j => .int (i % j)
def ltI := iop fun i j => .bl (decide (i < j))
def leI := iop fun i j => .bl (decide (i ≤ j))
def gtI := iop fun i j => .bl (decide (j < i))
def geI := iop fun i j => .bl (decide (j ≤ i))
theorem opd_addI : OpD G (rI0 fun i j => .int (i + j)) addI := opd_i fun _ _ => rfl
theorem opd_subI : OpD G (rI0 fun i j => .int (i - j)) subI := opd_i fun _ _ => rfl
theorem opd_mulI : OpD G (rI CMul fun i j => .int (i * j)) mulI := opd_iC fun _ _ => rfl
theorem opd_powI : OpD G (rI CPow fun i j => .int (i ^ j.toNat)) powI := opd_iC fun _ _ => rfl
theorem opd_divI : OpD G (rI CDivW fun i j => .int (i / j)) divI := opd_iC fun _ _ => rfl
theorem opd_modI : OpD G (rI (fun _ j => 0 < j) fun i j => .int (i % j)) modI := opd_iC fun _ _ => rfl
theorem opd_ltI : OpD G (rI0 fun i j => .bl (decide (i < j))) ltI := opd_i fun _ _ => rfl
theorem opd_leI : OpD G (rI0 fun i j => .bl (decide (i ≤ j))) leI := opd_i fun _ _ => rfl
theorem opd_gtI : OpD G (rI0 fun i j => .bl (decide (j < i))) gtI := opd_i fun _ _ => rfl
theorem opd_geI : OpD G (rI0 fun i j => .bl (decide (j ≤ i))) geI := opd_i fun _ _ => rfl
def negI : D → Option D
  | .int i => some (.int (-i))
  | _ => none
theorem opd_neg : UnD G (rU fun i => .int (-i)) negI := by
  intro F H x a c Q t ta h q
  match a, ta, h with
  | .int i, ta, h =>
    rw [ta.int]
    cases (show D.int (-i) = c from Option.some.inj h)
    exact ⟨i, rfl, q.flat t rfl⟩
/-! None, booleans -/
def nonB : D → Bool
  | .non => true
  | _ => false
def isN : D → D → Option D := fun a b => match b with
  | .non => some (.bl (nonB a))
  | _ => none
def notN : D → D → Option D := fun a b => match b with
  | .non => some (.bl (!nonB a))
  | _ => none
theorem Top.isN {F : Addr → Prop} {H : Hp} {v : V} {a : D} (t : Top G F H v a) : decide (v = .non) = nonB a := by
  rcases t with t | ⟨b, xs, ds, rfl, rfl, _⟩
  · cases t <;> rfl
  · rfl
theorem opd_isN : OpD G (fun x y H Q => y = .non ∧ Q (.bl (decide (x = .non))) H) isN := by
  intro F H x y a b c Q t ta tb h q
  match b, tb, h with
  | .non, tb, h =>
    refine ⟨tb.non, ?_⟩
    rw [ta.isN]
    cases (show D.bl (nonB a) = c from Option.some.inj h)
    exact q.flat t rfl
theorem opd_notN : OpD G (fun x y H Q => y = .non ∧ Q (.bl (!decide (x = .non))) H) notN := by
  intro F H x y a b c Q t ta tb h q
  match b, tb, h with
  | .non, tb, h =>
    refine ⟨tb.non, ?_⟩
    rw [ta.isN]
    cases (show D.bl (!nonB a) = c from Option.some.inj h)
    exact q.flat t rfl
def isB : D → D → Option D := fun a b => match a, b with
  | .bl i, .bl j => some (.bl (decide (i = j)))
  | _, _ => none
theorem opd_isB : OpD G rIsB isB := by
  intro F H x y a b c Q t ta tb h q
  match a, b, ta, tb, h with
  | .bl i, .bl j, ta, tb, h =>
    cases (show D.bl (decide (i = j)) = c from Option.some.inj h)
    exact ⟨i, j, ta.bl, tb.bl, q.flat t rfl⟩
/-! sequences -/
def catL : D → D → Option (List D) := fun a b => match a, b with
  | .lst as, .lst bs => if as.length + bs.length ≤ sizeLine then some (as ++ bs) else none
  | _, _ => none
/-- two lists joined, read wherever they stand -/
def rCatR : R2 := fun x y H Q => ∃ l b xs zs, x = .ref l ∧ y = .ref b ∧ Rd H l (.lst xs) ∧ Rd H b (.lst zs) ∧ xs.length + zs.length ≤ sizeLine ∧ ∀ p, H p = none → Q (.ref p) (upd H p (.lst (xs ++ zs)))
theorem op_catR {X : Cx} : OpR X (binaryOp .Add) rCatR := by
  intro pins s σ H x y v u Q I rx ry h
  obtain ⟨l, b, xs, zs, rfl, rfl, hH, hB, hz, q⟩ := h
  cases rx
  cases ry
  obtain ⟨z, its, n, r, e⟩ := hH.ok I.hok
  obtain ⟨z2, its2, n2, r2, e2⟩ := hB.ok I.hok
  refine PySem.P.add_list e e2 ?_ (by rw [List.size_toArray, List.size_toArray, ← r.length, ← r2.length]; exact hz)
  have ea : its.toArray ++ its2.toArray = (its ++ its2).toArray := by simp
  rw [ea]
  exact ⟨.ref _, _, I.lnew (t' := s.toks) (r.append r2) (by rw [List.length_append]; exact hz), rfl, q _ I.fresh⟩
theorem opf_cat : OpF G rCatR catL := by
  intro F H x y a b c Q t ta tb h q
  match a, b, ta, tb, h with
  | .lst as, .lst bs, ta, tb, h =>
    obtain ⟨l, xs, rfl, r1, w1⟩ := ta.lst
    obtain ⟨m, ys, rfl, r2, w2⟩ := tb.lst
    have h' : (if as.length + bs.length ≤ sizeLine then some (as ++ bs) else none) = some c := h
    by_cases hc : as.length + bs.length ≤ sizeLine
    · rw [if_pos hc] at h'
      cases (show as ++ bs = c from Option.some.inj h')
      exact ⟨l, m, xs, ys, rfl, rfl, r1, r2, by rw [w1.length, w2.length]; exact hc, fun p hp => q p _ hp (w1.append w2)⟩
    · rw [if_neg hc] at h'
      cases h'
def catT : D → D → Option D := fun a b => match a, b with
  | .tup as, .tup bs => if as.length + bs.length ≤ sizeLine then some (.tup (as ++ bs)) else none
  | _, _ => none
theorem RepA.nil_iff {F : Addr → Prop} {H : Hp} {xs : List V} {ds : List D} (r : RepA G F H xs ds) : xs = [] ↔ ds = [] := by
  cases r with
  | nil => simp
  | cons _ _ => simp
theorem opd_catT {K : PySem.W.Frag} : OpD G (rCatA K) catT := by
  intro F H x y a b c Q t ta tb h q
  match a, b, ta, tb, h with
  | .tup as, .tup bs, ta, tb, h =>
    obtain ⟨l, xs, rfl, r1, w1⟩ := ta.tup
    obtain ⟨m, ys, rfl, r2, w2⟩ := tb.tup
    have h' : (if as.length + bs.length ≤ sizeLine then some (.tup (as ++ bs)) else none) = some c := h
    by_cases hc : as.length + bs.length ≤ sizeLine
    · rw [if_pos hc] at h'
      cases (show D.tup (as ++ bs) = c from Option.some.inj h')
      refine ⟨l, m, xs, ys, rfl, rfl, SqT.of r1, SqT.of r2, by rw [w1.length, w2.length]; exact hc, fun e => ?_, fun _ e => ?_, fun _ _ p hp => ?_⟩
      · have e2 : as = [] := w1.nil_iff.mp e
        subst e2
        exact q _ H F (New.refl t) (.tup r2 w2)
      · have e2 : bs = [] := w2.nil_iff.mp e
        subst e2
        refine q _ H F (New.refl t) ?_
        rw [List.append_nil]
        exact .tup r1 w1
      · have n := New.tup (o := .tup (xs ++ ys)) t hp
        exact q _ _ F n (.tup upd_same (RepA.ext n.keep (w1.append w2)))
    · rw [if_neg hc] at h'
      cases h'
def addS : D → D → Option D := fun a b => match a, b with
  | .str x, .str y => if x.length + y.length ≤ sizeLine then some (.str (x ++ y)) else none
  | _, _ => none
theorem opd_addS : OpD G (fun x y H Q => ∃ i j, x = .str i ∧ y = .str j ∧ i.length + j.length ≤ sizeLine ∧ Q (.str (i ++ j)) H) addS := by
  intro F H x y a b c Q t ta tb h q
  match a, b, ta, tb, h with
  | .str i, .str j, ta, tb, h =>
    have h' : (if i.length + j.length ≤ sizeLine then some (D.str (i ++ j)) else none) = some c := h
    by_cases hc : i.length + j.length ≤ sizeLine
    · rw [if_pos hc] at h'
      cases (show D.str (i ++ j) = c from Option.some.inj h')
      exact ⟨i, j, ta.str, tb.str, hc, q.flat t rfl⟩
    · rw [if_neg hc] at h'
      cases h'
/-! places -/
def ixD : D → D → Option D := fun a b => match a, b with
  | .lst ds, .int i => atI ds i
  | .tup ds, .int i => atI ds i
  | .str z, .int i => if z.length ≤ sizeLine then (atI z.cps.toList i).map fun c => D.str ⟨#[c]⟩ else none
  | _, _ => none
theorem atI_rep {F : Addr → Prop} {H : Hp} {xs : List V} {ds : List D} {i : Int} {d : D} (r : RepA G F H xs ds) (e : atI ds i = some d) : ∃ v, atI xs i = some v ∧ Rep G F H v d := by
  unfold atI at e ⊢
  rw [r.length]
  cases q : ixN ds.length i with
  | none => rw [q] at e; cases e
  | some j =>
    rw [q] at e
    exact r.get e
theorem opd_ix {K : PySem.W.Frag} : OpD G (rIx K) ixD := by
  intro F H x y a b c Q t ta tb h q
  match a, b, ta, tb, h with
  | .lst ds, .int i, ta, tb, h =>
    obtain ⟨l, xs, rfl, r1, w1⟩ := ta.lst
    rw [tb.int]
    obtain ⟨v, ev, rv⟩ := atI_rep w1 h
    exact .inl ⟨l, xs, i, v, rfl, rfl, sqL_rd r1, ev, q v H F (New.refl t) rv⟩
  | .tup ds, .int i, ta, tb, h =>
    obtain ⟨l, xs, rfl, r1, w1⟩ := ta.tup
    rw [tb.int]
    obtain ⟨v, ev, rv⟩ := atI_rep w1 h
    exact .inr (.inl ⟨l, xs, i, v, rfl, rfl, SqT.of r1, ev, q v H F (New.refl t) rv⟩)
  | .str z, .int i, ta, tb, h =>
    rw [ta.str, tb.int]
    have h' : (if z.length ≤ sizeLine then (atI z.cps.toList i).map fun c => D.str ⟨#[c]⟩ else none) = some c := h
    by_cases hc : z.length ≤ sizeLine
    · rw [if_pos hc] at h'
      cases e : atI z.cps.toList i with
      | none => rw [e] at h'; cases h'
      | some k =>
        rw [e] at h'
        cases (show D.str ⟨#[k]⟩ = c from Option.some.inj h')
        exact .inr (.inr ⟨z, i, k, rfl, rfl, hc, e, q.flat t rfl⟩)
    · rw [if_neg hc] at h'
      cases h'
/-! calls of what is built in -/
theorem Tops.one {F : Addr → Prop} {H : Hp} {vs : List V} {a : D} (t : Tops G F H vs [a]) : ∃ v, vs = [v] ∧ Top G F H v a := by
  cases t with
  | cons r s => cases s; exact ⟨_, rfl, r⟩
theorem Tops.two {F : Addr → Prop} {H : Hp} {vs : List V} {a b : D} (t : Tops G F H vs [a, b]) : ∃ v u, vs = [v, u] ∧ Top G F H v a ∧ Top G F H u b := by
  cases t with
  | cons r s =>
    obtain ⟨u, rfl, r2⟩ := s.one
    exact ⟨_, _, rfl, r, r2⟩
def i2 (g : Int → Int → Int) : List D → Option D
  | [.int i, .int j] => some (.int (g i j))
  | _ => none
def maxI := i2 fun i j => if j > i then j else i
def minI := i2 fun i j => if j < i then j else i
theorem cald_i2 {g : Int → Int → Int} : CalD G (fun xs H Q => ∃ i j, xs = [.int i, .int j] ∧ Q (.int (g i j)) H) (i2 g) := by
  intro F H vs ds c Q t ts h q
  match ds, ts, h with
  | [.int i, .int j], ts, h =>
    obtain ⟨v, u, rfl, r1, r2⟩ := ts.two
    rw [r1.int, r2.int]
    cases (show D.int (g i j) = c from Option.some.inj h)
    exact ⟨i, j, rfl, q.flat t rfl⟩
def absI : List D → Option D
  | [.int i] => some (.int (if i < 0 then -i else i))
  | _ => none
theorem cald_abs : CalD G (fun xs H Q => ∃ i, xs = [.int i] ∧ Q (.int (if i < 0 then -i else i)) H) absI := by
  intro F H vs ds c Q t ts h q
  match ds, ts, h with
  | [.int i], ts, h =>
    obtain ⟨v, rfl, r1⟩ := ts.one
    rw [r1.int]
    cases (show D.int (if i < 0 then -i else i) = c from Option.some.inj h)
    exact ⟨i, rfl, q.flat t rfl⟩
def lenD : List D → Option D
  | [.lst ds] => some (.int ds.length)
  | [.tup ds] => some (.int ds.length)
  | [.str z] => if z.length ≤ sizeLine then some (.int z.length) else none
  | _ => none
theorem cald_len {K : PySem.W.Frag} : CalD G (fun xs H Q => ∃ x n, xs = [x] ∧ LenV K x H n ∧ Q (.int n) H) lenD := by
  intro F H vs ds c Q t ts h q
  match ds, ts, h with
  | [.lst ds], ts, h =>
    obtain ⟨v, rfl, r1⟩ := ts.one
    obtain ⟨l, xs, rfl, r, w⟩ := r1.lst
    cases (show D.int ds.length = c from Option.some.inj h)
    exact ⟨_, ds.length, rfl, .inl ⟨xs, sqL_rd r, w.length.symm⟩, q.flat t rfl⟩
  | [.tup ds], ts, h =>
    obtain ⟨v, rfl, r1⟩ := ts.one
    obtain ⟨l, xs, rfl, r, w⟩ := r1.tup
    cases (show D.int ds.length = c from Option.some.inj h)
    exact ⟨_, ds.length, rfl, .inr ⟨xs, SqT.of r, w.length.symm⟩, q.flat t rfl⟩
  | [.str z], ts, h =>
    obtain ⟨v, rfl, r1⟩ := ts.one
    rw [r1.str]
    have h' : (if z.length ≤ sizeLine then some (D.int z.length) else none) = some c := h
    by_cases hc : z.length ≤ sizeLine
    · rw [if_pos hc] at h'
      cases (show D.int z.length = c from Option.some.inj h')
      exact ⟨_, z.length, rfl, ⟨hc, rfl⟩, q.flat t rfl⟩
    · rw [if_neg hc] at h'
      cases h'
def toInts : List D → Option (List Int)
  | [] => some []
  | .int i :: ds => (toInts ds).map (i :: ·)
  | _ :: _ => none
theorem toInts_eq : ∀ {ds : List D} {ns : List Int}, toInts ds = some ns → ds = ns.map D.int
  | [], ns, e => by cases (show [] = ns from Option.some.inj e); rfl
  | .int i :: ds, ns, e => by
    have e' : (toInts ds).map (i :: ·) = some ns := e
    cases q : toInts ds with
    | none => rw [q] at e'; cases e'
    | some ms =>
      rw [q] at e'
      cases (show i :: ms = ns from Option.some.inj e')
      rw [toInts_eq q]
      rfl
theorem toInts_map : ∀ ns : List Int, toInts (ns.map D.int) = some ns
  | [] => rfl
  | n :: ns => by
    show (toInts (ns.map D.int)).map (n :: ·) = _
    rw [toInts_map ns]
    rfl
def sumD : List D → Option D
  | [.lst ds] => (toInts ds).map fun ns => .int ns.sum
  | _ => none
theorem cald_sum {K : PySem.W.Frag} : CalD G (rSum K) sumD := by
  intro F H vs ds c Q t ts h q
  match ds, ts, h with
  | [.lst ds], ts, h =>
    obtain ⟨v, rfl, r1⟩ := ts.one
    obtain ⟨l, xs, rfl, r, w⟩ := r1.lst
    have h' : (toInts ds).map (fun ns => D.int ns.sum) = some c := h
    cases e : toInts ds with
    | none => rw [e] at h'; cases h'
    | some ns =>
      rw [e] at h'
      cases (show D.int ns.sum = c from Option.some.inj h')
      have e2 := toInts_eq e
      subst e2
      have e3 := w.ints
      subst e3
      exact ⟨l, ns, rfl, sqL_rd r, q.flat t rfl⟩
def toBls : List D → Option (List Bool)
  | [] => some []
  | .bl i :: ds => (toBls ds).map (i :: ·)
  | _ :: _ => none
theorem toBls_eq : ∀ {ds : List D} {ns : List Bool}, toBls ds = some ns → ds = ns.map D.bl
  | [], ns, e => by cases (show [] = ns from Option.some.inj e); rfl
  | .bl i :: ds, ns, e => by
    have e' : (toBls ds).map (i :: ·) = some ns := e
    cases q : toBls ds with
    | none => rw [q] at e'; cases e'
    | some ms =>
      rw [q] at e'
      cases (show i :: ms = ns from Option.some.inj e')
      rw [toBls_eq q]
      rfl
theorem toBls_map : ∀ ns : List Bool, toBls (ns.map D.bl) = some ns
  | [] => rfl
  | n :: ns => by
    show (toBls (ns.map D.bl)).map (n :: ·) = _
    rw [toBls_map ns]
    rfl
def allD : List D → Option D
  | [.lst ds] => (toBls ds).map fun bs => .bl (bs.all id)
  | _ => none
def anyD : List D → Option D
  | [.lst ds] => (toBls ds).map fun bs => .bl (bs.any id)
  | _ => none
theorem cald_all {K : PySem.W.Frag} : CalD G (rAll K) allD := by
  intro F H vs ds c Q t ts h q
  match ds, ts, h with
  | [.lst ds], ts, h =>
    obtain ⟨v, rfl, r1⟩ := ts.one
    obtain ⟨l, xs, rfl, r, w⟩ := r1.lst
    have h' : (toBls ds).map (fun bs => D.bl (bs.all id)) = some c := h
    cases e : toBls ds with
    | none => rw [e] at h'; cases h'
    | some ns =>
      rw [e] at h'
      cases (show D.bl (ns.all id) = c from Option.some.inj h')
      have e2 := toBls_eq e
      subst e2
      have e3 := w.bools
      subst e3
      exact ⟨l, ns, rfl, sqL_rd r, q.flat t rfl⟩
theorem cald_any {K : PySem.W.Frag} : CalD G (rAny K) anyD := by
  intro F H vs ds c Q t ts h q
  match ds, ts, h with
  | [.lst ds], ts, h =>
    obtain ⟨v, rfl, r1⟩ := ts.one
    obtain ⟨l, xs, rfl, r, w⟩ := r1.lst
    have h' : (toBls ds).map (fun bs => D.bl (bs.any id)) = some c := h
    cases e : toBls ds with
    | none => rw [e] at h'; cases h'
    | some ns =>
      rw [e] at h'
      cases (show D.bl (ns.any id) = c from Option.some.inj h')
      have e2 := toBls_eq e
      subst e2
      have e3 := w.bools
      subst e3
      exact ⟨l, ns, rfl, sqL_rd r, q.flat t rfl⟩
/-- list(xs), tuple(xs) -/
def lstD : List D → Option (List D)
  | [.lst ds] => some ds
  | [.tup ds] => some ds
  | _ => none
theorem calf_list {K : PySem.W.Frag} : CalF G (fun xs H Q => ∃ p ys, xs = [.ref p] ∧ (SqL K H p ys ∨ SqT K H p ys) ∧ ∀ l, H l = none → Q (.ref l) (upd H l (.lst ys))) lstD := by
  intro F H vs ds c Q t ts h q
  match ds, ts, h with
  | [.lst ds], ts, h =>
    obtain ⟨v, rfl, r1⟩ := ts.one
    obtain ⟨l, xs, rfl, r, w⟩ := r1.lst
    cases (show ds = c from Option.some.inj h)
    exact ⟨l, xs, rfl, .inl (sqL_rd r), fun p hp => q p xs hp w⟩
  | [.tup ds], ts, h =>
    obtain ⟨v, rfl, r1⟩ := ts.one
    obtain ⟨l, xs, rfl, r, w⟩ := r1.tup
    cases (show ds = c from Option.some.inj h)
    exact ⟨l, xs, rfl, .inr (SqT.of r), fun p hp => q p xs hp w⟩
def tupD : List D → Option D
  | [.lst ds] => some (.tup ds)
  | [.tup ds] => some (.tup ds)
  | _ => none
theorem cald_tuple {K : PySem.W.Frag} : CalD G (fun xs H Q => ∃ p ys, xs = [.ref p] ∧ ((SqL K H p ys ∧ ∀ l, H l = none → Q (.ref l) (upd H l (.tup ys))) ∨ (SqT K H p ys ∧ Q (.ref p) H))) tupD := by
  intro F H vs ds c Q t ts h q
  match ds, ts, h with
  | [.lst ds], ts, h =>
    obtain ⟨v, rfl, r1⟩ := ts.one
    obtain ⟨l, xs, rfl, r, w⟩ := r1.lst
    cases (show D.tup ds = c from Option.some.inj h)
    refine ⟨l, xs, rfl, .inl ⟨sqL_rd r, fun p hp => ?_⟩⟩
    have n := New.tup (o := .tup xs) t hp
    exact q _ _ F n (.tup upd_same (RepA.ext n.keep w))
  | [.tup ds], ts, h =>
    obtain ⟨v, rfl, r1⟩ := ts.one
    obtain ⟨l, xs, rfl, r, w⟩ := r1.tup
    cases (show D.tup ds = c from Option.some.inj h)
    exact ⟨l, xs, rfl, .inr ⟨SqT.of r, q _ H F (New.refl t) (.tup r w)⟩⟩
end
end DL
set_option Elab.async false
set_option linter.all false
set_option maxRecDepth 100000
set_option maxHeartbeats 4000000
namespace DL
open PySem PySem.Spec PyProof.Rows L2

/-! ### one rule or another -/
def orD (f g : D → D → Option D) : D → D → Option D := fun a b => match f a b with
  | some c => some c
  | none => g a b
def orC (f g : List D → Option D) : List D → Option D := fun a => match f a with
  | some c => some c
  | none => g a
section
variable {G : Gm}
theorem opd_or {r r' : R2} {f g : D → D → Option D} (hf : OpD G r f) (hg : OpD G r' g) : OpD G (fun x y H Q => r x y H Q ∨ r' x y H Q) (orD f g) := by
  intro F H x y a b c Q t ta tb h q
  unfold orD at h
  cases e : f a b with
  | none =>
    rw [e] at h
    exact .inr (hg F H x y a b c Q t ta tb h q)
  | some c' =>
    rw [e] at h
    cases (show c' = c from Option.some.inj h)
    exact .inl (hf F H x y a b _ Q t ta tb e q)
theorem cald_or {r r' : List V → Hp → VK → Prop} {f g : List D → Option D} (hf : CalD G r f) (hg : CalD G r' g) : CalD G (fun xs H Q => r xs H Q ∨ r' xs H Q) (orC f g) := by
  intro F H vs ds c Q t ts h q
  unfold orC at h
  cases e : f ds with
  | none =>
    rw [e] at h
    exact .inr (hg F H vs ds c Q t ts h q)
  | some c' =>
    rw [e] at h
    cases (show c' = c from Option.some.inj h)
    exact .inl (hf F H vs ds _ Q t ts e q)
/-- a + b: numbers, lists, tuples, texts -/
def addD : D → D → Option D := orD addI (orD (fun a b => (catL a b).map D.lst) (orD catT addS))
theorem opr_add {X : Cx} : OpR X (binaryOp .Add) (fun x y H Q => rI0 (fun i j => .int (i + j)) x y H Q ∨ rCatR x y H Q ∨ rCatA X.K x y H Q ∨ (∃ i j, x = .str i ∧ y = .str j ∧ i.length + j.length ≤ sizeLine ∧ Q (.str (i ++ j)) H)) :=
  op_add.or (op_catR.or (op_catA.or op_add_str))
theorem opd_add {K : PySem.W.Frag} : OpD G (fun x y H Q => rI0 (fun i j => .int (i + j)) x y H Q ∨ rCatR x y H Q ∨ rCatA K x y H Q ∨ (∃ i j, x = .str i ∧ y = .str j ∧ i.length + j.length ≤ sizeLine ∧ Q (.str (i ++ j)) H)) addD :=
  opd_or opd_addI (opd_or opf_cat.d (opd_or opd_catT opd_addS))
end

/-! ### == over data -/
mutual
def toPy : D → Option PyData
  | .non => some .none
  | .bl b => some (.bool b)
  | .int i => some (.int i)
  | .str x => some (.str x)
  | .tup ds => (toPyA ds).map .tuple
  | .lst ds => (toPyA ds).map .list
  | .ob _ _ => none
def toPyA : List D → Option (List PyData)
  | [] => some []
  | d :: ds => match toPy d, toPyA ds with
    | some p, some ps => some (p :: ps)
    | _, _ => none
end
mutual
theorem Rep.dp {G : Gm} {F : Addr → Prop} {H : Hp} : ∀ {v : V} {d : D} {p : PyData}, Rep G F H v d → toPy d = some p → Dp G.K H v p
  | _, _, p, .non, e => by cases (show PyData.none = p from Option.some.inj e); exact .non
  | _, _, p, .bl b, e => by cases (show PyData.bool b = p from Option.some.inj e); exact .bl b
  | _, _, p, .int b, e => by cases (show PyData.int b = p from Option.some.inj e); exact .int b
  | _, _, p, .str b, e => by cases (show PyData.str b = p from Option.some.inj e); exact .str b
  | _, .tup ds, p, .tup r s, e => by
    have e' : (toPyA ds).map PyData.tuple = some p := by rw [← e, toPy]
    cases q : toPyA ds with
    | none => rw [q] at e'; cases e'
    | some ps =>
      rw [q] at e'
      cases (show PyData.tuple ps = p from Option.some.inj e')
      exact .tup (SqT.of r) (RepA.dp s q)
  | _, .lst ds, p, .lst r f s, e => by
    have e' : (toPyA ds).map PyData.list = some p := by rw [← e, toPy]
    cases q : toPyA ds with
    | none => rw [q] at e'; cases e'
    | some ps =>
      rw [q] at e'
      cases (show PyData.list ps = p from Option.some.inj e')
      exact .lst (sqL_rd r) (RepA.dp s q)
  | _, .ob c d, p, .ob _ _ _, e => by
    have e' : (none : Option PyData) = some p := by rw [← e, toPy]
    cases e'
theorem RepA.dp {G : Gm} {F : Addr → Prop} {H : Hp} : ∀ {vs : List V} {ds : List D} {ps : List PyData}, RepA G F H vs ds → toPyA ds = some ps → DpAll G.K H vs ps
  | _, _, ps, .nil, e => by
    cases (show [] = ps from Option.some.inj (by rw [← e, toPyA]))
    exact .nil
  | _, d :: ds, ps, .cons r s, e => by
    rw [toPyA] at e
    cases q : toPy d with
    | none => rw [q] at e; cases e
    | some p =>
      cases q2 : toPyA ds with
      | none => rw [q, q2] at e; cases e
      | some ps' =>
        rw [q, q2] at e
        cases (show p :: ps' = ps from Option.some.inj e)
        exact .cons (Rep.dp r q) (RepA.dp s q2)
end
theorem Top.dp {G : Gm} {F : Addr → Prop} {H : Hp} {v : V} {d : D} {p : PyData} (t : Top G F H v d) (e : toPy d = some p) : Dp G.K H v p := by
  rcases t with t | ⟨a, xs, ds, rfl, rfl, h, r⟩
  · exact Rep.dp t e
  · have e' : (toPyA ds).map PyData.list = some p := by rw [← e, toPy]
    cases q : toPyA ds with
    | none => rw [q] at e'; cases e'
    | some ps =>
      rw [q] at e'
      cases (show PyData.list ps = p from Option.some.inj e')
      exact .lst (SqL.of h) (RepA.dp r q)
def eqD : D → D → Option D := fun a b => match toPy a, toPy b with
  | some p, some q => if SeqAt.shaped p = true ∧ SeqAt.shaped q = true then some (.bl (PyData.eqv p q)) else none
  | _, _ => none
def neD : D → D → Option D := fun a b => match toPy a, toPy b with
  | some p, some q => if SeqAt.shaped p = true ∧ SeqAt.shaped q = true then some (.bl (!PyData.eqv p q)) else none
  | _, _ => none
section
variable {G : Gm}
theorem opd_eq : OpD G (rEqD G.K) eqD := by
  intro F H x y a b c Q t ta tb h q
  unfold eqD at h
  cases e1 : toPy a with
  | none => rw [e1] at h; cases h
  | some p =>
    cases e2 : toPy b with
    | none => rw [e1, e2] at h; cases h
    | some p' =>
      rw [e1, e2] at h
      have h' : (if SeqAt.shaped p = true ∧ SeqAt.shaped p' = true then some (D.bl (PyData.eqv p p')) else none) = some c := h
      by_cases hc : SeqAt.shaped p = true ∧ SeqAt.shaped p' = true
      · rw [if_pos hc] at h'
        cases (show D.bl (PyData.eqv p p') = c from Option.some.inj h')
        exact ⟨p, p', ta.dp e1, tb.dp e2, hc.1, hc.2, q.flat t rfl⟩
      · rw [if_neg hc] at h'
        cases h'
theorem opd_ne : OpD G (rNeD G.K) neD := by
  intro F H x y a b c Q t ta tb h q
  unfold neD at h
  cases e1 : toPy a with
  | none => rw [e1] at h; cases h
  | some p =>
    cases e2 : toPy b with
    | none => rw [e1, e2] at h; cases h
    | some p' =>
      rw [e1, e2] at h
      have h' : (if SeqAt.shaped p = true ∧ SeqAt.shaped p' = true then some (D.bl (!PyData.eqv p p')) else none) = some c := h
      by_cases hc : SeqAt.shaped p = true ∧ SeqAt.shaped p' = true
      · rw [if_pos hc] at h'
        cases (show D.bl (!PyData.eqv p p') = c from Option.some.inj h')
        exact ⟨p, p', ta.dp e1, tb.dp e2, hc.1, hc.2, q.flat t rfl⟩
      · rw [if_neg hc] at h'
        cases h'
end

/-! ### loops and comprehensions by data -/
/-- one turn of a comprehension -/
def lcStep (g : TG') (c : TT') (e : TE') (vs : List Nat) (d : D) (ρ : Rho) (k : Option D → Rho → Prop) : Prop :=
  g d ρ fun ρ1 => c ρ1 fun b ρ2 => if b = true then e ρ2 fun x ρ3 => (match x with
    | .d v => k (some v) (nos ρ3 vs)
    | .o _ => False) else k none (nos ρ2 vs)
theorem lcGo_pure {α : Type} {enc : α → D} {val : α → Option D} {g : TG'} {c : TT'} {e : TE'} {vs : List Nat} {Q : List D → Rho → Prop} {ρ : Rho} : ∀ (items : List α) (acc : List D), (∀ x ∈ items, ∀ k, k (val x) ρ → lcStep g c e vs (enc x) ρ k) →
    acc.length + items.length ≤ sizeLine → Q (acc ++ items.filterMap val) ρ → lcGo g c e vs Q (items.map enc) acc ρ
  | [], acc, _, _, q => by
    rw [List.filterMap_nil, List.append_nil] at q
    exact q
  | x :: items, acc, hs, hl, q => by
    show lcStep g c e vs (enc x) ρ fun o ρ' => match o with
      | some v => if acc.length < sizeLine then lcGo g c e vs Q (items.map enc) (acc ++ [v]) ρ' else False
      | none => lcGo g c e vs Q (items.map enc) acc ρ'
    rw [List.length_cons] at hl
    refine hs x List.mem_cons_self _ ?_
    rw [List.filterMap_cons] at q
    cases ev : val x with
    | none =>
      rw [ev] at q
      exact lcGo_pure items acc (fun y hy => hs y (List.mem_cons_of_mem _ hy)) (by omega) q
    | some v =>
      rw [ev] at q
      show if acc.length < sizeLine then lcGo g c e vs Q (items.map enc) (acc ++ [v]) ρ else False
      rw [if_pos (by omega)]
      refine lcGo_pure items (acc ++ [v]) (fun y hy => hs y (List.mem_cons_of_mem _ hy)) (by rw [List.length_append]; show acc.length + 1 + items.length ≤ _; omega) ?_
      rw [List.append_assoc]
      exact q
/-- [f x for x in items] -/
theorem lcGo_map {α : Type} {enc : α → D} {val : α → D} {g : TG'} {c : TT'} {e : TE'} {vs : List Nat} {Q : List D → Rho → Prop} {ρ : Rho} (items : List α) (hs : ∀ x ∈ items, ∀ k, k (some (val x)) ρ → lcStep g c e vs (enc x) ρ k)
    (hl : items.length ≤ sizeLine) (q : Q (items.map val) ρ) : lcGo g c e vs Q (items.map enc) [] ρ := by
  refine lcGo_pure (val := fun x => some (val x)) items [] hs (by rw [List.length_nil]; omega) ?_
  rw [List.nil_append]
  have ef : items.filterMap (fun x => some (val x)) = items.map val := List.filterMap_eq_map (f := val) ▸ rfl
  rw [ef]
  exact q
/-- a comprehension that turns something: R what holds between the turns -/
theorem lcGo_inv {α : Type} {enc : α → D} {g : TG'} {c : TT'} {e : TE'} {vs : List Nat} {Q : List D → Rho → Prop} (R : Nat → List D → Rho → Prop) : ∀ (items : List α) (i : Nat) (acc : List D) (ρ : Rho), R i acc ρ →
    (∀ j x acc ρ, items[j]? = some x → R (i + j) acc ρ → acc.length ≤ i + j → ∀ k, (∀ ρ', (∀ v, R (i + j + 1) (acc ++ [v]) ρ' → k (some v) ρ') ∧ (R (i + j + 1) acc ρ' → k none ρ')) → lcStep g c e vs (enc x) ρ k) →
    acc.length ≤ i → i + items.length ≤ sizeLine → (∀ acc ρ, R (i + items.length) acc ρ → Q acc ρ) → lcGo g c e vs Q (items.map enc) acc ρ
  | [], i, acc, ρ, r, _, _, _, q => q acc ρ r
  | x :: items, i, acc, ρ, r, hs, ha, hl, q => by
    show lcStep g c e vs (enc x) ρ fun o ρ' => match o with
      | some v => if acc.length < sizeLine then lcGo g c e vs Q (items.map enc) (acc ++ [v]) ρ' else False
      | none => lcGo g c e vs Q (items.map enc) acc ρ'
    rw [List.length_cons] at hl q
    have go : ∀ acc' ρ', acc'.length ≤ i + 1 → R (i + 1) acc' ρ' → lcGo g c e vs Q (items.map enc) acc' ρ' := fun acc' ρ' hl' r' =>
      lcGo_inv R items (i + 1) acc' ρ' r' (fun j y ac ρ2 hy hr hl2 k hk => by
        refine hs (j + 1) y ac ρ2 (by simpa using hy) (by rw [show i + (j + 1) = i + 1 + j by omega]; exact hr) (by omega) k ?_
        rw [show i + (j + 1) = i + 1 + j by omega]
        exact hk) hl' (by omega) (fun ac ρ2 hr => q ac ρ2 (by rw [show i + (items.length + 1) = i + 1 + items.length by omega]; exact hr))
    refine hs 0 x acc ρ rfl r ha _ fun ρ' => ⟨fun v r' => ?_, fun r' => ?_⟩
    · show if acc.length < sizeLine then lcGo g c e vs Q (items.map enc) (acc ++ [v]) ρ' else False
      rw [if_pos (by omega)]
      exact go _ _ (by rw [List.length_append]; show acc.length + 1 ≤ _; omega) r'
    · exact go _ _ (by omega) r'
/-- a for loop: R what holds between the turns -/
theorem forGo_inv {α : Type} {enc : α → D} {g : TG'} {b : TS'} {P : En} (R : Nat → Rho → Prop) : ∀ (items : List α) (i : Nat) (ρ : Rho), R i ρ →
    (∀ j x ρ, items[j]? = some x → R (i + j) ρ → ∀ nx : Rho → Prop, (∀ ρ', R (i + j + 1) ρ' → nx ρ') → g (enc x) ρ fun ρ1 => b { P with nx := nx, ct := nx, bk := P.nx } ρ1) →
    (∀ ρ, R (i + items.length) ρ → P.nx ρ) → forGo g b P (items.map enc) ρ
  | [], i, ρ, r, _, q => q ρ r
  | x :: items, i, ρ, r, hs, q => by
    rw [List.length_cons] at q
    refine hs 0 x ρ rfl r _ fun ρ' r' => ?_
    refine forGo_inv R items (i + 1) ρ' r' (fun j y ρ2 hy hr nx hn => ?_) (fun ρ2 hr => q ρ2 (by rw [show i + (items.length + 1) = i + 1 + items.length by omega]; exact hr))
    refine hs (j + 1) y ρ2 (by simpa using hy) (by rw [show i + (j + 1) = i + 1 + j by omega]; exact hr) nx fun ρ' h => hn ρ' ?_
    rw [show i + 1 + j + 1 = i + (j + 1) + 1 by omega]
    exact h
/-- .. over a state that a function turns -/
theorem forGo_fold {α β : Type} {enc : α → D} {g : TG'} {b : TS'} {P : En} (R : β → Rho → Prop) (f : β → α → β) : ∀ (items : List α) (s : β) (ρ : Rho), R s ρ →
    (∀ x s ρ, x ∈ items → R s ρ → ∀ nx : Rho → Prop, (∀ ρ', R (f s x) ρ' → nx ρ') → g (enc x) ρ fun ρ1 => b { P with nx := nx, ct := nx, bk := P.nx } ρ1) →
    (∀ ρ, R (items.foldl f s) ρ → P.nx ρ) → forGo g b P (items.map enc) ρ
  | [], s, ρ, r, _, q => q ρ r
  | x :: items, s, ρ, r, hs, q => by
    refine hs x s ρ List.mem_cons_self r _ fun ρ' r' => ?_
    exact forGo_fold R f items (f s x) ρ' r' (fun y s2 ρ2 hy => hs y s2 ρ2 (List.mem_cons_of_mem _ hy)) q
end DL
set_option Elab.async false
set_option linter.all false
set_option maxRecDepth 100000
set_option maxHeartbeats 4000000
namespace DL
open PySem PySem.Spec PyProof.Rows L2

/-! ### slices -/
def cutG {α : Type} (xs : List α) (lo hi : Option Int) : List α := (xs.drop (HT.sIx xs.length 0 lo)).take (HT.sIx xs.length xs.length hi - HT.sIx xs.length 0 lo)
def slD : D → Option Int → Option Int → Option D
  | .lst ds, lo, hi => some (.lst (cutG ds lo hi))
  | .tup ds, lo, hi => some (.tup (cutG ds lo hi))
  | .str z, lo, hi => if z.length ≤ sizeLine then some (.str (cutS z lo hi)) else none
  | _, _, _ => none
abbrev TO' := Rho → (Option Int → Rho → Prop) → Prop
def pNo : TO' := fun ρ Q => Q none ρ
def pSo (t : TE') : TO' := fun ρ Q => t ρ fun x ρ1 => match x with
  | .d (.int i) => Q (some i) ρ1
  | _ => False
def liO (G : Gm) (B : Bs) (t : TO') : TO := fun σ H Q => ∃ (F : Addr → Prop) (ρ : Rho) (P : Option Int → Rho → Prop), SR G B F σ H ρ ∧ t ρ P ∧ ∀ o ρ', P o ρ' → ∀ H' F', SR G B F' σ H' ρ' → Ext (ownA σ ρ) F H (ownA σ ρ') F' H' → Q o H'
abbrev PDO (X : Cx) (G : Gm) (B : Bs) (e : Option Expr) (t : TO') : Prop := PO X e (liO G B t)
theorem po_imp {X : Cx} {e : Option Expr} {t t' : TO} (h : PO X e t) (k : ∀ σ H Q, t' σ H Q → t σ H Q) : PO X e t' := ⟨fun pins s σ H Q I q => h.run pins s σ H Q I (k σ H Q q)⟩
def slc (t : TE') (l h : TO') : TE' := fun ρ Q => t ρ fun x ρ1 => l ρ1 fun lo ρ2 => h ρ2 fun hi ρ3 => ok (rs ρ3 x) fun a => ok (slD a lo hi) fun c => Q (.d c) ρ3
section
variable {X : Cx} {G : Gm} {B : Bs}
theorem pdo_no : PDO X G B none pNo := po_imp po_none fun σ H Q ⟨F, ρ, P, S, h, k⟩ => k _ _ h H F S (Ext.refl _ _ _)
theorem pdo_so {e : Expr} {t : TE'} (h : PD X G B e t) : PDO X G B (some e) (pSo t) := by
  refine po_imp (po_some h) fun σ H Q ⟨F, ρ, P, S, h, k⟩ => ?_
  refine ⟨F, ρ, _, S, h, fun x ρ1 h1 v H1 F1 S1 r1 e1 => ?_⟩
  cases x with
  | o j => exact h1.elim
  | d d =>
    cases d with
    | int i =>
      cases r1
      exact ⟨i, rfl, k _ _ h1 H1 F1 S1 e1⟩
    | _ => exact h1.elim
theorem cutG_rep {F : Addr → Prop} {H : Hp} {xs : List V} {ds : List D} (r : RepA G F H xs ds) (lo hi : Option Int) : RepA G F H (cutV xs lo hi) (cutG ds lo hi) := by
  unfold cutV cutG
  rw [r.length]
  exact (r.drop _).take _
abbrev rSlc (K : PySem.W.Frag) : V → Option Int → Option Int → Hp → VK → Prop := fun x lo hi H Q => rSlL K x lo hi H Q ∨ rSlA K x lo hi H Q ∨ rSlS x lo hi H Q
theorem pd_slice {e : Expr} {te : TE'} {lo hi : Option Expr} {tl th : TO'} {pos p2 : Pos} (he : PD X G B e te) (hl : PDO X G B lo tl) (hu : PDO X G B hi th) : PD X G B (.Subscript e (.Slice lo hi none p2) pos) (slc te tl th) := by
  refine pe_imp (pe_slice (sl_list.or (sl_tupA.or sl_str)) he hl hu) fun σ H Q ⟨F, ρ, P, S, h, k⟩ => ?_
  refine ⟨F, ρ, _, S, h, fun x ρ1 h1 v H1 F1 S1 r1 e1 => ⟨F1, ρ1, _, S1, h1, fun lo ρ2 h2 H2 F2 S2 e2 => ⟨F2, ρ2, _, S2, h2, fun hi ρ3 h3 H3 F3 S3 e3 => ?_⟩⟩⟩
  obtain ⟨a, ea, h3⟩ := h3.ex
  obtain ⟨c, ec, h3⟩ := h3.ex
  have tp := (r1.keep (e2.trans e3).k).top S3 ea
  have q : RQ G F3 H3 c Q := fun w H4 F4 n r4 => k _ _ h3 w H4 F4 (S3.new n) r4 ((e1.trans (e2.trans e3)).trans n.ext)
  match a, tp, ec with
  | .lst ds, tp, ec =>
    obtain ⟨l, xs, rfl, r, w⟩ := tp.lst
    cases (show D.lst (cutG ds lo hi) = c from Option.some.inj ec)
    refine .inl ⟨l, xs, rfl, sqL_rd r, fun p hp => ?_⟩
    have n := New.lst (o := .lst (cutV xs lo hi)) S3.trk hp
    exact q _ _ _ n (.lst (.inl upd_same) (.inr rfl) (RepA.ext n.keep (cutG_rep w lo hi)))
  | .tup ds, tp, ec =>
    obtain ⟨l, xs, rfl, r, w⟩ := tp.tup
    cases (show D.tup (cutG ds lo hi) = c from Option.some.inj ec)
    refine .inr (.inl ⟨l, xs, rfl, SqT.of r, fun e => ?_, fun _ p hp => ?_⟩)
    · refine q _ H3 F3 (New.refl S3.trk) ?_
      have ew : cutG ds lo hi = ds := by
        unfold cutG
        rw [w.length] at e
        rw [e.1, e.2, List.drop_zero, Nat.sub_zero, List.take_length]
      rw [ew]
      exact .tup r w
    · have n := New.tup (o := .tup (cutV xs lo hi)) S3.trk hp
      exact q _ _ F3 n (.tup upd_same (RepA.ext n.keep (cutG_rep w lo hi)))
  | .str z, tp, ec =>
    rw [tp.str]
    have ec' : (if z.length ≤ sizeLine then some (D.str (cutS z lo hi)) else none) = some c := ec
    by_cases hc : z.length ≤ sizeLine
    · rw [if_pos hc] at ec'
      cases (show D.str (cutS z lo hi) = c from Option.some.inj ec')
      exact .inr (.inr ⟨z, rfl, hc, q.flat S3.trk rfl⟩)
    · rw [if_neg hc] at ec'
      cases ec'
/-! ### sorted -/
def eP (p : Int × Int) : D := .tup [.int p.1, .int p.2]
def toPs : List D → Option (List (Int × Int))
  | [] => some []
  | .tup [.int i, .int j] :: ds => (toPs ds).map ((i, j) :: ·)
  | _ :: _ => none
theorem toPs_map : ∀ ps : List (Int × Int), toPs (ps.map eP) = some ps
  | [] => rfl
  | p :: ps => by
    show (toPs (ps.map eP)).map ((p.1, p.2) :: ·) = _
    rw [toPs_map ps]
    rfl
theorem toPs_eq : ∀ {ds : List D} {ps : List (Int × Int)}, toPs ds = some ps → ds = ps.map eP
  | [], ps, e => by cases (show [] = ps from Option.some.inj e); rfl
  | .tup [.int i, .int j] :: ds, ps, e => by
    have e' : (toPs ds).map ((i, j) :: ·) = some ps := e
    cases q : toPs ds with
    | none => rw [q] at e'; cases e'
    | some qs =>
      rw [q] at e'
      cases (show (i, j) :: qs = ps from Option.some.inj e')
      rw [toPs_eq q]
      rfl
def leP (p q : Int × Int) : Prop := p.1 < q.1 ∨ (p.1 = q.1 ∧ p.2 ≤ q.2)
/-- sorted of a list of pairs, of ints -/
def srtP (t : TA') : TF' := fun ρ Q => t ρ fun xs ρ1 => ok (rss ρ1 xs) fun ds => match ds with
  | [.lst es] => ok (toPs es) fun ps => ∀ ps' : List (Int × Int), ps'.Perm ps → ps'.Pairwise leP → Q (ps'.map eP) ρ1
  | _ => False
def srtI (t : TA') : TF' := fun ρ Q => t ρ fun xs ρ1 => ok (rss ρ1 xs) fun ds => match ds with
  | [.lst es] => ok (toInts es) fun ns => ∀ ns' : List Int, ns'.Perm ns → ns'.Pairwise (· ≤ ·) → Q (ns'.map D.int) ρ1
  | _ => False
/-- the two ints of a pair -/
def kOf (H : Hp) : V → Int × Int
  | .ref t => match H t with
    | some (.tup [.int i, .int j]) => (i, j)
    | _ => (0, 0)
  | _ => (0, 0)
theorem rep_pairs {F : Addr → Prop} {H : Hp} : ∀ {xs : List V} {ps : List (Int × Int)}, RepA G F H xs (ps.map eP) → ps = xs.map (kOf H) ∧ ∀ x ∈ xs, (∃ t, x = V.ref t ∧ H t = some (.tup [.int (kOf H x).1, .int (kOf H x).2])) ∧ Rep G F H x (eP (kOf H x))
  | [], [], _ => ⟨rfl, by simp⟩
  | _ :: _, [], h => nomatch h
  | [], _ :: _, h => nomatch h
  | x :: xs, p :: ps, h => by
    cases h with
    | cons r s =>
      obtain ⟨e, hk⟩ := rep_pairs s
      have r0 := r
      cases r with
      | tup ht ra =>
        cases ra with
        | cons r1 ra =>
          cases ra with
          | cons r2 ra =>
            cases ra
            cases r1
            cases r2
            rename_i t
            have ek : kOf H (.ref t) = p := by
              show (match H t with | some (.tup [.int i, .int j]) => (i, j) | _ => (0, 0)) = p
              rw [ht]
            refine ⟨by rw [List.map_cons, ek, ← e], fun y hy => ?_⟩
            rcases List.mem_cons.mp hy with rfl | hy
            · rw [ek]
              exact ⟨⟨t, rfl, ht⟩, r0⟩
            · exact hk y hy
theorem repA_of {F : Addr → Prop} {H : Hp} : ∀ {ys : List V}, (∀ y ∈ ys, Rep G F H y (eP (kOf H y))) → RepA G F H ys ((ys.map (kOf H)).map eP)
  | [], _ => .nil
  | y :: ys, h => .cons (h y List.mem_cons_self) (repA_of fun z hz => h z (List.mem_cons_of_mem _ hz))
theorem pf_sortedP {x : Str} {e : Expr} {t : TA'} {p pos : Pos} (hx : x = "sorted") (hm : X.mg x = none) (hv : bootBuiltins x = some (.builtin "sorted")) (ha : PDA X G B [e] t)
    (hg : Gl X x := by rfl) (hn : x ≠ "__name__" := by decide) (hdb : (x == ("__debug__" : Str)) = false := by decide) (he : starEach [e] X.env = (false, eval e X.env) :: starEach [] X.env := by rfl) (hpl : (backTo pos (starEach [] X.env)).any (·.1) = false := by rfl) : PF X G B (.Call (.Name x p) [e] [] pos) (srtP t) := by
  refine pe_imp (pe_callB cr_sortedPO hg hm hv ha hn hdb he hpl) fun σ H Q ⟨F, ρ, P, S, h, k⟩ => ?_
  refine ⟨F, ρ, _, S, h, fun xs ρ1 h1 vs H1 F1 S1 r1 e1 => ?_⟩
  obtain ⟨ds, ed, h1⟩ := h1.ex
  have tp := r1.tops S1 ed
  match ds, tp, h1 with
  | [.lst es], tp, h1 =>
    obtain ⟨ps, ep, h2⟩ := h1.ex
    obtain ⟨v, rfl, t1⟩ := tp.one
    obtain ⟨l, us, rfl, r, w⟩ := t1.lst
    have e2 := toPs_eq ep
    subst e2
    obtain ⟨e3, hk⟩ := rep_pairs w
    refine ⟨l, us, kOf H1, rfl, sqL_rd r, fun y hy => (hk y hy).1, fun ys q hs hst hq => ?_⟩
    have pm : (ys.map (kOf H1)).Perm ps := by
      rw [e3]
      exact hst.perm.map _
    have pw : (ys.map (kOf H1)).Pairwise leP := by
      rw [List.pairwise_map]
      refine List.Pairwise.imp (fun {a b} hab => ?_) hs
      have z := SrtO.lexB_no.mp hab
      unfold leP
      omega
    exact S1.laid e1 (k _ _ (h2 _ pm pw)) q ys hq (repA_of fun y hy => (hk y (hst.perm.mem_iff.mp hy)).2)
theorem pf_sortedI {x : Str} {e : Expr} {t : TA'} {p pos : Pos} (hx : x = "sorted") (hm : X.mg x = none) (hv : bootBuiltins x = some (.builtin "sorted")) (ha : PDA X G B [e] t)
    (hg : Gl X x := by rfl) (hn : x ≠ "__name__" := by decide) (hdb : (x == ("__debug__" : Str)) = false := by decide) (he : starEach [e] X.env = (false, eval e X.env) :: starEach [] X.env := by rfl) (hpl : (backTo pos (starEach [] X.env)).any (·.1) = false := by rfl) : PF X G B (.Call (.Name x p) [e] [] pos) (srtI t) := by
  refine pe_imp (pe_callB cr_sortedI hg hm hv ha hn hdb he hpl) fun σ H Q ⟨F, ρ, P, S, h, k⟩ => ?_
  refine ⟨F, ρ, _, S, h, fun xs ρ1 h1 vs H1 F1 S1 r1 e1 => ?_⟩
  obtain ⟨ds, ed, h1⟩ := h1.ex
  have tp := r1.tops S1 ed
  match ds, tp, h1 with
  | [.lst es], tp, h1 =>
    obtain ⟨ns, ep, h2⟩ := h1.ex
    obtain ⟨v, rfl, t1⟩ := tp.one
    obtain ⟨l, us, rfl, r, w⟩ := t1.lst
    have e2 := toInts_eq ep
    subst e2
    have e3 := w.ints
    subst e3
    exact ⟨l, ns, rfl, sqL_rd r, fun ns' q hp hs hq => S1.laid e1 (k _ _ (h2 ns' hp hs)) q _ hq (RepA.ofInts ns')⟩

/-! ### instances of one field -/
def fldD (c : Nat) : D → Option D
  | .ob c' d => if c' = c then some d else none
  | _ => none
theorem lk1 (f : Str) (v : V) : List.lookup f [(f, v)] = some v := by simp [List.lookup]
theorem lk0 {f g : Str} (v : V) (h : (g == f) = false) : List.lookup g [(f, v)] = none := by simp [List.lookup, h]
theorem pd_fld {c : Nat} {e : Expr} {t : TE'} {f : Str} {pos : Pos} (he : PD X G B e t) (cl : Cls X.K (G.ca c)) (na : NoAttr X.K (G.ca c) f) (ef : G.cf c = f) (hb : attributeBase e f X.env (eval e X.env) = eval e X.env := by rfl) : PD X G B (.Attribute e f pos) (un (fldD c) t) := by
  refine pe_imp (pe_fld he hb) fun σ H Q ⟨F, ρ, P, S, h, k⟩ => ?_
  refine ⟨F, ρ, _, S, h, fun x ρ1 h1 v H1 F1 S1 r1 e1 => ?_⟩
  obtain ⟨a, ea, h2⟩ := h1.ex
  obtain ⟨d, ed, h3⟩ := h2.ex
  have tp := r1.top S1 ea
  match a, tp, ed with
  | .ob c' d', tp, ed =>
    obtain ⟨l, dx, u, rfl, hl, f1, ru⟩ := tp.ob
    have ed' : (if c' = c then some d' else none) = some d := ed
    by_cases hc : c' = c
    · rw [if_pos hc] at ed'
      cases (show d' = d from Option.some.inj ed')
      subst hc
      refine ⟨l, _, dx, _, u, rfl, hl, cl, na, ?_, k _ _ h3 u H1 F1 S1 ru e1⟩
      rw [ef]
      exact lk1 f u
    · rw [if_neg hc] at ed'
      cases ed'
/-- a method, a special method: its promise by data -/
structure KnM (P : Program) (w : World) (K : PySem.W.Frag) (mg : Str → Option Value) (base : Heap) (G : Gm) (k : Nat) (C : Addr) (m : Str) (S : DSp) : Prop where
  ex : ∃ (f : Addr) (fd : FuncData) (ps : List Str), Meth K C m f ∧ Binds K fd ps [] ∧ FnOk P w K mg base CX0 k f fd ps (spOf G S)
theorem FnOk.r {P : Program} {w : World} {K : PySem.W.Frag} {mg : Str → Option Value} {base : Heap} {k : Nat} {f : Addr} {fd : FuncData} {ps : List Str} {sp : Sp} (F : FnOk P w K mg base CX0 k f fd ps sp) (b : Binds K fd ps []) : FnR P w K mg base CX0 k f sp := fun A outer s H us vs Q E hr e0 r hs => by
  have KX : K.In s.heap := e0.mod.kin.keeps fun b o e => (e0.bs b o e).1
  have hl : (us ++ []).length = ps.length := by rw [List.append_nil, ← r.length]; exact F.len vs H Q E hs
  have z := F.run A outer s H ⟨us, []⟩ us vs Q E hr e0
  have bb := b s us KX hl
  rw [List.append_nil] at bb
  exact z bb r hs
theorem run_R {k : Nat} {f : Addr} {sp : Sp} {pins : List (Addr × Obj)} {σ : L2.St} {H : Hp} {s : Shared} {Q : VK} {us : List Value} {vs : List V} {A : Around} {E' : Value → Shared → Prop} (F : FnR X.prog X.w X.K X.mg X.base CX0 k f sp) (hr : Room k A) (I : Inv X pins σ H s) (e0 : Env0 X.prog X.w X.K X.mg X.base A X.stack s H) (r : Vals vs us) (h : sp vs H Q E0) :
    wpAny (model X.prog X.w) A (call (.ref f) us) (EP X pins σ Q) E' s := by
  refine wpAny_call (codeAny_mono (F A X.stack s H us vs Q E0 hr e0 r h) fun r s' hq => ?_)
  cases r with
  | error e => exact hq.elim
  | ok fl =>
    cases fl with
    | ret u => exact I.after hq
    | next => exact False.elim hq
    | brk => exact False.elim hq
    | cont => exact False.elim hq
theorem cmp_back {w : V} {v : Value} {Q : Value → Shared → Prop} {s : Shared} (r : RelV w v) (h : Q v s) : PySem.W.CmpBack Q v s := by
  cases w with
  | non => cases r; exact h
  | bl b => cases r; exact h
  | int i => obtain ⟨t, rfl⟩ := r; exact h
  | str i => obtain ⟨t, rfl⟩ := r; exact h
  | byt i => obtain ⟨t, rfl⟩ := r; exact h
  | flt i => obtain ⟨t, rfl⟩ := r; exact h
  | ref a => cases r; exact h
  | ty n => cases r; exact h
/-- a op b of two instances of one class -/
def rOwn2 (C : Addr) (sp : Sp) : R2 := fun x y H Q => ∃ a b dx fs dy gs, x = .ref a ∧ y = .ref b ∧ H a = some (.ins C dx fs) ∧ H b = some (.ins C dy gs) ∧ sp [.ref a, .ref b] H Q E0
theorem ins_inst {pins : List (Addr × Obj)} {σ : L2.St} {H : Hp} {s : Shared} {a C dx : Addr} {fs : List (Str × V)} (I : Inv X pins σ H s) (h : H a = some (.ins C dx fs)) : ∃ ox od, PySem.W.InstAt s.heap a ox C (some od) := by
  obtain ⟨mA, O, _⟩ := ins_get I.hok h
  obtain ⟨od, J, _⟩ := O.look
  exact ⟨_, od, J⟩
theorem op_own2 {op : Operator} {C f : Addr} {sp : Sp} {k : Nat} (hc : PySem.W.selfFirst X.K C = true) (hs : PySem.W.findIn X.K (.ref C) (PySem.dunder op.info.2) = some (some (.ref f))) (hf : PySem.W.isFn X.K (.ref f) = true) (F : FnR X.prog X.w X.K X.mg X.base CX0 k f sp) (hr : Room k X.A) :
    OpR X (binaryOp op) (rOwn2 C sp) := by
  intro pins s σ H x y v u Q I rx ry h
  obtain ⟨a, b, dx, fs, dy, gs, rfl, rfl, ea, eb, h⟩ := h
  cases rx
  cases ry
  obtain ⟨oa, oda, Ja⟩ := ins_inst I ea
  obtain ⟨ob, odb, Jb⟩ := ins_inst I eb
  obtain ⟨m, Fm⟩ := I.fr
  refine PySem.W.binop_K Fm I.ok.mod.kin Ja Jb.type hc hs hf (thn (run_R F hr I I.env0 (us := [.ref a, .ref b]) (vs := [.ref a, .ref b]) (.cons rfl (.cons rfl .nil)) h) fun v s' q => ?_)
  obtain ⟨w, H', I', r, q⟩ := q
  exact cmp_back r ⟨w, H', I', r, q⟩
def mth (S : DSp) (ta : TE') (t : TA') : TE' := fun ρ Q => ta ρ fun x ρ1 => match x with
  | .d (.ob 0 d) => t ρ1 fun xs ρ2 => ok (toSl ρ2 xs) fun as => if (owns xs).Nodup then S (.val (.ob 0 d) :: as) (fun d cs => Q (.d d) (putOs ρ2 xs cs)) else False
  | _ => False
def own2 (S : DSp) (ta tb : TE') : TE' := fun ρ Q => ta ρ fun x ρ1 => tb ρ1 fun y ρ2 => match x, y with
  | .d (.ob 0 a), .d (.ob 0 b) => S [.val (.ob 0 a), .val (.ob 0 b)] (fun d _ => Q (.d d) ρ2)
  | _, _ => False
theorem tOwn2_d {S : DSp} {ta tb : TE'} (σ : L2.St) (H : Hp) (Q : VK) (h : liE G B (own2 S ta tb) σ H Q) : tOp (rOwn2 (G.ca 0) (spOf G S)) (liE G B ta) (liE G B tb) σ H Q := by
  obtain ⟨F, ρ, P, Sr, h, k⟩ := h
  refine ⟨F, ρ, _, Sr, h, fun x ρ1 h1 v H1 F1 S1 r1 e1 => ⟨F1, ρ1, _, S1, h1, fun y ρ2 h2 u H2 F2 S2 r2 e2 => ?_⟩⟩
  match x, y, r1, r2, h2 with
  | .d (.ob 0 a), .d (.ob 0 b), r1, r2, h2 =>
    have r1' : Rep G F2 H2 v (.ob 0 a) := Rep.ext e2.k r1
    have r2' : Rep G F2 H2 u (.ob 0 b) := r2
    have r1s := r1'
    have r2s := r2'
    cases r1' with
    | ob hv fv rv =>
      cases r2' with
      | ob hu fu ru =>
        refine ⟨_, _, _, _, _, _, rfl, rfl, hv, hu, ?_⟩
        exact call_ok (xs := [.d (.ob 0 a), .d (.ob 0 b)]) S2 (.cons r1s (.cons r2s .nil)) rfl List.nodup_nil h2 fun x ρ' hp v H' F' S' r e => k x ρ' hp v H' F' S' r ((e1.trans e2).trans e)
theorem pd_own2 {op : Operator} {f : Addr} {S : DSp} {k : Nat} {a b : Expr} {ta tb : TE'} {pos : Pos} (hc : PySem.W.selfFirst X.K (G.ca 0) = true) (hs : PySem.W.findIn X.K (.ref (G.ca 0)) (PySem.dunder op.info.2) = some (some (.ref f))) (hf : PySem.W.isFn X.K (.ref f) = true) (F : FnR X.prog X.w X.K X.mg X.base CX0 k f (spOf G S)) (hr : Room k X.A)
    (ha : PD X G B a ta) (hb : PD X G B b tb) : PD X G B (.BinOp a op b pos) (own2 S ta tb) :=
  pe_imp (pe_op (op_own2 hc hs hf F hr) ha hb) tOwn2_d
/-- a == b of two instances -/
theorem op_ownEq {C f : Addr} {sp : Sp} {k : Nat} (hn : PySem.W.notFirst X.K C (.ref C) = true) (hs : PySem.W.findIn X.K (.ref C) "__eq__" = some (some (.ref f))) (hf : PySem.W.isFn X.K (.ref f) = true) (F : FnR X.prog X.w X.K X.mg X.base CX0 k f sp) (hr : Room k X.A) :
    OpR X (compareOp .Eq) (rOwn2 C sp) := by
  intro pins s σ H x y v u Q I rx ry h
  obtain ⟨a, b, dx, fs, dy, gs, rfl, rfl, ea, eb, h⟩ := h
  cases rx
  cases ry
  obtain ⟨oa, oda, Ja⟩ := ins_inst I ea
  obtain ⟨ob, odb, Jb⟩ := ins_inst I eb
  obtain ⟨m, Fm⟩ := I.fr
  refine PySem.W.cmp_ofEq (PySem.W.cmp_K hr.units0 Fm I.ok.mod.kin Ja Jb.type hn hs hf (thn (run_R F hr I I.env0 (us := [.ref a, .ref b]) (vs := [.ref a, .ref b]) (.cons rfl (.cons rfl .nil)) h) fun v s' q => ?_))
  obtain ⟨w, H', I', r, q⟩ := q
  exact cmp_back r ⟨w, H', I', r, q⟩
theorem pd_ownEq {f : Addr} {S : DSp} {k : Nat} {a b : Expr} {ta tb : TE'} {pos : Pos} (hn : PySem.W.notFirst X.K (G.ca 0) (.ref (G.ca 0)) = true) (hs : PySem.W.findIn X.K (.ref (G.ca 0)) "__eq__" = some (some (.ref f))) (hf : PySem.W.isFn X.K (.ref f) = true) (F : FnR X.prog X.w X.K X.mg X.base CX0 k f (spOf G S)) (hr : Room k X.A)
    (ha : PD X G B a ta) (hb : PD X G B b tb) : PD X G B (.Compare a [.Eq] [b] pos) (own2 S ta tb) :=
  pe_imp (pe_cmpR (op_ownEq hn hs hf F hr) ha hb (nomark _)) tOwn2_d
theorem pdt_ownEq {f : Addr} {S : DSp} {k : Nat} {a b : Expr} {ta tb : TE'} {pos : Pos} (hn : PySem.W.notFirst X.K (G.ca 0) (.ref (G.ca 0)) = true) (hs : PySem.W.findIn X.K (.ref (G.ca 0)) "__eq__" = some (some (.ref f))) (hf : PySem.W.isFn X.K (.ref f) = true) (F : FnR X.prog X.w X.K X.mg X.base CX0 k f (spOf G S)) (hr : Room k X.A)
    (ha : PD X G B a ta) (hb : PD X G B b tb) : PDT X G B (.Compare a [.Eq] [b] pos) (tst (own2 S ta tb)) :=
  pt_imp (pt_cmpR (op_ownEq hn hs hf F hr) ha hb (nomark _)) fun σ H Q h => tOwn2_d σ H _ (liE_tst σ H Q h)
/-- a property -/
def prp (S : DSp) (ta : TE') : TE' := fun ρ Q => ta ρ fun x ρ1 => match x with
  | .d (.ob 0 a) => S [.val (.ob 0 a)] (fun d _ => Q (.d d) ρ1)
  | _ => False
theorem pd_prp {f : Str} {p g : Addr} {fd : FuncData} {ps : List Str} {S : DSp} {k : Nat} {e : Expr} {ta : TE'} {pos : Pos} (he : PD X G B e ta) (c : Cls X.K (G.ca 0)) (hp : PropOf X.K (G.ca 0) f p g) (F : FnOk X.prog X.w X.K X.mg X.base CX0 k g fd ps (spOf G S)) (hr : Room (k + 1) X.A) (hb : Binds X.K fd ps [])
    (hab : attributeBase e f X.env (eval e X.env) = eval e X.env := by rfl) : PD X G B (.Attribute e f pos) (prp S ta) := by
  refine pe_imp (pe_prop he c hp F hr hb .nil pass0 hab) fun σ H Q ⟨Fp, ρ, P, Sr, h, k⟩ => ?_
  refine ⟨Fp, ρ, _, Sr, h, fun x ρ1 h1 v H1 F1 S1 r1 e1 => ?_⟩
  match x, r1, h1 with
  | .d (.ob 0 a), r1, h1 =>
    have r1' : Rep G F1 H1 v (.ob 0 a) := r1
    have r1s := r1'
    cases r1' with
    | ob hv fv rv =>
      refine ⟨_, _, _, rfl, hv, ?_⟩
      exact call_ok (xs := [.d (.ob 0 a)]) S1 (.cons r1s .nil) rfl List.nodup_nil h1 fun x ρ' hp v H' F' S' r e => k x ρ' hp v H' F' S' r (e1.trans e)
/-- o.m(..) -/
theorem pd_mth {m : Str} {f : Addr} {S : DSp} {k : Nat} {o e : Expr} {es : List Expr} {ta : TE'} {t : TA'} {apos pos : Pos} {pl : Sem Bool} (he : PD X G B o ta) (c : Cls X.K (G.ca 0)) (hm : Meth X.K (G.ca 0) m f) (F : FnR X.prog X.w X.K X.mg X.base CX0 k f (spOf G S)) (hr : Room k X.A) (ha : PDA X G B (e :: es) t)
    (hne : (m == G.cf 0) = false) (hst : starEach (e :: es) X.env = (false, eval e X.env) :: starEach es X.env := by rfl) (hpl : (backTo pos (starEach es X.env)).any (·.1) = false := by rfl)
    (ht : eval (.Call (.Attribute o m apos) (e :: es) [] pos) X.env = (do
      let ov ← eval o X.env
      standAt apos.atName
      let (f, first) ← holding [ov] (getMethod ov m pl)
      callWith pos f first (backTo pos (starEach (e :: es) X.env)) (backToKw pos (keywordEach [] X.env))) := by rfl) : PD X G B (.Call (.Attribute o m apos) (e :: es) [] pos) (mth S ta t) := by
  refine pe_imp (pe_methR he c hm F hr pass0 ha hst hpl ht) fun σ H Q ⟨Fp, ρ, P, Sr, h, k⟩ => ?_
  refine ⟨Fp, ρ, _, Sr, h, fun x ρ1 h1 v H1 F1 S1 r1 e1 => ?_⟩
  match x, r1, h1 with
  | .d (.ob 0 a), r1, h1 =>
    have r1' : Rep G F1 H1 v (.ob 0 a) := r1
    have r1s := r1'
    cases r1' with
    | ob hv fv rv =>
      refine ⟨_, _, _, rfl, hv, lk0 _ hne, F1, ρ1, _, S1, h1, fun xs ρ2 h2 vs H2 F2 S2 r2 e2 => ?_⟩
      obtain ⟨as, ea, h2⟩ := h2.ex
      obtain ⟨nd, h2⟩ := ite_ex h2
      have et : toSl ρ2 (.d (.ob 0 a) :: xs) = some (.val (.ob 0 a) :: as) := by
        show (toSl ρ2 xs).map (Sl.val (.ob 0 a) :: ·) = _
        rw [ea]
        rfl
      exact call_ok (xs := .d (.ob 0 a) :: xs) S2 (.cons (Rep.ext e2.k r1s) r2) et nd h2 fun x ρ' hp v H' F' S' r e => k x ρ' hp v H' F' S' r ((e1.trans e2).trans e)
end
end DL
set_option Elab.async false
set_option linter.all false
set_option maxRecDepth 100000
set_option maxHeartbeats 4000000
/-! sorted(set(list of ints)); unpacking; instances made and called; isinstance -/
namespace L2
open PySem PySem.Spec PyProof.Rows
section
variable {P : Program} {w : World} {A : Around} {E : Value → Shared → Prop} {s : Shared}
set_option maxRecDepth 100000 in
set_option maxHeartbeats 3200000 in
theorem set_of_listI {l : Addr} {items : Array Value} (ns : List Int) {Q : Value → Shared → Prop} (hh : A.handled = none) (hl : s.heap.IsList l items) (hit : IntsAre items.toList ns) (hb : ns.length + 1 < scanBound)
    (h : ∀ (h' : Heap) (tk c : Nat), SetR w h' s.heap.objs.size (fun j => decide (j ∈ ns)) c → c ≤ ns.length → (∀ b o, s.heap.get? b = some o → h'.get? b = some o) → Q (.ref s.heap.objs.size) { s with heap := h', toks := tk }) :
    wpAny (model P w) A (call (.type "set") [.ref l]) Q E s := by
  have hisz : items.size = ns.length := by
    have q := IntsAre.length hit
    rw [Array.length_toList] at q
    exact q
  obtain ⟨c, tl, hmro⟩ := PySem.F.called_set.mro
  have hmade := PySem.F.called_set.made
  have hsub := PySem.F.called_set.sub
  refine wpAny_call (codeAny_of_tree ?_)
  show wpAny _ _ (callAny (.type "set") _) _ _ _
  refine wpAny_pure ⟨Code.quiet_builtin _ (by decide +kernel), codeAny_builtin PySem.F.entry_type_call ?_⟩
  rw [Around.under_plain (weight_type_call_type "set" [.ref l] []) rfl]
  have h1 := PySem.F.called_set.notType
  have h2 := PySem.F.called_set.canCreate
  have hct := PySem.F.typeCall_set_1 (.ref l)
  repeat (any_goals (first | assumption | wp_step))

  refine codeAny_mono (code_set_led1 (.ref l) (E := E) (Q₁ := fun obj s₁ => obj = .ref s.heap.objs.size ∧ s₁ = { s with heap := s.heap.push { cls := .type "set", dict := none, data := .set #[] 0 (.fresh 0 0 (!w.params.followText "set-order")) } }) ⟨rfl, rfl⟩) fun r s₁ hr => ?_
  cases r with
  | error e => exact hr
  | ok fl =>
    cases fl with
    | ret obj =>
      obtain ⟨rfl, rfl⟩ := hr
      have hS : (s.heap.push { cls := .type "set", dict := none, data := .set #[] 0 (.fresh 0 0 (!w.params.followText "set-order")) }).get? s.heap.objs.size = some { cls := .type "set", dict := none, data := .set #[] 0 (.fresh 0 0 (!w.params.followText "set-order")) } := Heap.get?_push_size _ rfl
      have hT : Shared.TypeIs { s with heap := s.heap.push { cls := .type "set", dict := none, data := .set #[] 0 (.fresh 0 0 (!w.params.followText "set-order")) } } (.ref s.heap.objs.size) "set" := ⟨_, hS, rfl⟩
      have hli := PySem.F.called_set.init.lookup
      have hbi := PySem.F.called_set.init.bind (.ref s.heap.objs.size)
      repeat (any_goals (first | assumption | wp_step))

      refine codeAny_mono (codeAny_call_builtin (R := wants (fun r s₂ => r = .none ∧ ∃ h' tk c, s₂ = { s with heap := h', toks := tk } ∧ SetR w h' s.heap.objs.size (fun j => decide (j ∈ ns)) c ∧ c ≤ ns.length ∧
          (∀ b o, s.heap.get? b = some o → h'.get? b = some o)) E) PySem.F.called_set.init.plain PySem.F.entry_set_init (check_set_init_1 hT ?_)) fun r₂ s₂ hr₂ => ?_
      · obtain ⟨ol, hol, hcl, nl, hdl⟩ := hl
        obtain ⟨ocls, odict, odata, oslots⟩ := ol
        simp only at hcl hdl
        subst hcl; subst hdl
        have hol' : (s.heap.push { cls := .type "set", dict := none, data := .set #[] 0 (.fresh 0 0 (!w.params.followText "set-order")) }).get? l = some { cls := .type "list", dict := odict, data := .seq items nl, slots := oslots } := Heap.get?_push_of_some _ hol
        have hsls := PySem.F.sub_list_set
        have hslf := PySem.F.sub_list_frozenset
        have hne : (Value.type "list" == Value.type "dict") = false := by decide
        have hl1 : (s.heap.push { cls := .type "set", dict := none, data := .set #[] 0 (.fresh 0 0 (!w.params.followText "set-order")) }).IsList l items := ⟨_, hol', rfl, nl, rfl⟩
        unfold Builtin.«set.__init__» noKeywords Builtin.Frozenset.updateFrom
        generalize hPI : pyIter = PI
        wp_walk
        subst hPI

        refine wpAny_pyIter_list hl1 ?_
        refine wpAny_bind (wpAny_runValue ?_)
        have hlS : l < s.heap.objs.size := Heap.lt_size hol
        have hh3 : A.in1.in1.in1.handled = none := by simp [hh]
        have hz1 : (s.heap.push { cls := .type "set", dict := none, data := .set #[] 0 (.fresh 0 0 (!w.params.followText "set-order")) }).objs.size = s.heap.objs.size + 1 := Heap.size_push ..
        have hneI : l ≠ (s.heap.push { cls := .type "set", dict := none, data := .set #[] 0 (.fresh 0 0 (!w.params.followText "set-order")) }).objs.size := by
          rw [Heap.size_push]; exact Nat.ne_of_lt (Nat.lt_succ_of_lt hlS)
        have hSf : s.heap.objs.size ∉ [(s.heap.push { cls := .type "set", dict := none, data := .set #[] 0 (.fresh 0 0 (!w.params.followText "set-order")) }).objs.size, l] := by
          rw [Heap.size_push]; simp only [List.mem_cons, List.mem_singleton, List.not_mem_nil, or_false, not_or]
          exact ⟨Nat.ne_of_lt (Nat.lt_succ_self _), Nat.ne_of_gt hlS⟩
        have hval : ∀ (i : Nat) (v : Value), items[i]? = some v → ∃ k t, ns[i]? = some k ∧ v = .int k t := fun i v hv => by
          have hi : i < ns.length := by rw [← hisz]; exact (Array.getElem?_eq_some_iff.mp hv).1
          obtain ⟨t, e⟩ := PyProof.Rows.IntsAre.int_at hit i v (by rw [Array.getElem?_toList]; exact hv)
          refine ⟨ns[i], t, List.getElem?_eq_getElem hi, ?_⟩
          rw [e, List.getD_eq_getElem?_getD, List.getElem?_eq_getElem hi] <;> rfl
        refine set_update_ints ((Walks.list hh3 _ l hneI items).toS) s.heap.objs.size
          hSf ns hisz hb hval (items.size - 0) 0 _ (by omega) (Nat.zero_le _)
          ⟨⟨_, Heap.get?_push_size _ rfl, rfl, rfl⟩, (hl1.push _)⟩ ?hS0 ?hR
        case hS0 =>
          have hget : ((s.heap.push { cls := .type "set", dict := none, data := .set #[] 0 (.fresh 0 0 (!w.params.followText "set-order")) }).push { cls := .type "list_iterator", data := .fields #[.ref l, .int 0 0] }).get? s.heap.objs.size
              = some { cls := .type "set", dict := none, data := .set #[] 0 (.fresh 0 0 (!w.params.followText "set-order")) } := Heap.get?_push_of_some _ hS
          exact ⟨0, Nat.le_refl 0, setR_new_at hget⟩
        case hR =>
          intro s' c' hm hc' hS'
          obtain ⟨h', g2, d', tk', os'⟩ := s'
          have eg : g2 = s.gens := hm.gens
          have ed : d' = s.drawn := hm.drawn
          have eo : os' = s.os := hm.os
          subst eg; subst ed; subst eo
          show wpAny _ _ _ _ _ _
          refine wpAny_pure ?_
          show wpAny _ _ (ret Value.none) _ _ _
          rw [hisz] at hc'
          refine wpAny_pure ⟨rfl, h', tk', c', rfl, hS', hc', fun b o e => ?_⟩
          have hb0 : b < s.heap.objs.size := Heap.lt_size e
          have hb1 : b ≠ s.heap.objs.size := Nat.ne_of_lt hb0
          have hb2 : b ≠ (s.heap.push { cls := .type "set", dict := none, data := .set #[] 0 (.fresh 0 0 (!w.params.followText "set-order")) }).objs.size := by
            rw [Heap.size_push]; exact Nat.ne_of_lt (Nat.lt_succ_of_lt hb0)
          exact hm.heap b o (by simp only [List.mem_cons, List.mem_singleton, List.not_mem_nil, or_false, not_or]; exact ⟨hb1, hb2⟩) (Heap.get?_push_of_some _ (Heap.get?_push_of_some _ e))

      · cases r₂ with
        | error e => exact hr₂
        | ok fl₂ =>
          cases fl₂ with
          | ret r =>
            obtain ⟨rfl, h', tk, c', rfl, hS', hc', hk'⟩ := hr₂
            repeat (any_goals (first | assumption | wp_step))
            exact h _ _ _ hS' hc' hk'
          | _ => exact hr₂.elim
    | _ => exact hr.elim
end
end L2
namespace L2
open PySem PySem.Spec PyProof.Rows HT
section
variable {prog : Program} {w : World} {A : Around} {E : Value → Shared → Prop} {s : Shared}
theorem applied_rev {sl : Addr} {vl vu vs : Value} {n : Nat} {Q : Int × Int × Nat → Shared → Prop} (hs : s.heap.IsSliceOf sl vl vu vs) (pl : IsPart vl none) (pu : IsPart vu none) (ps : IsPart vs (some (-1)))
    (h : Q ((n : Int) - 1, -1, n) s) : wpAny (model prog w) A (Builtin.Slice.sliceApplied (.ref sl) (pure (n : Int))) Q E s := by
  obtain ⟨os, hos, hcs, hds⟩ := id hs
  unfold Builtin.Slice.sliceApplied Builtin.Slice.sliceFields
  refine wpAny_bind (wpAny_bind (wpAny_field hos hds (x := vl) rfl (wpAny_bind (wpAny_field hos hds (x := vu) rfl (wpAny_bind (wpAny_field hos hds (x := vs) rfl (wpAny_pure ?_)))))))
  refine wpAny_bind (slicePart_ ps ?_)
  show wpAny _ _ (if (((-1 : Int)) == 0) = true then _ else _) _ _ s
  rw [if_neg (by decide)]
  refine wpAny_bind (slicePart_ pl (wpAny_bind (slicePart_ pu (wpAny_bind (wpAny_pure ?_)))))
  show wpAny _ _ (pure ((n : Int) - 1, (-1 : Int), Builtin.Slice.slicePlaces ((n : Int) - 1) (-1) (-1))) _ _ s
  have e : Builtin.Slice.slicePlaces ((n : Int) - 1) (-1) (-1) = n := by
    unfold Builtin.Slice.slicePlaces
    have h1 : ¬ ((-1 : Int) > 0) := by decide
    simp only [h1, if_false]
    have h2 : (- -1 : Int) = 1 := by decide
    rw [h2, Int.ediv_one]
    split <;> omega
  rw [e]
  exact wpAny_pure h
theorem pick_rev (xs : Array Value) : ((List.range xs.size).filterMap fun (m : Nat) => xs[((xs.size : Int) - 1 + (m : Int) * (-1)).toNat]?) = xs.toList.reverse := by
  have e : ((List.range xs.size).filterMap fun (m : Nat) => xs[((xs.size : Int) - 1 + (m : Int) * (-1)).toNat]?) = ((List.range xs.size).map fun k => xs.size - 1 - k).filterMap (xs[·]?) := by
    rw [List.filterMap_map]
    have go : ∀ l : List Nat, (∀ m ∈ l, m < xs.size) → (l.filterMap fun (m : Nat) => xs[((xs.size : Int) - 1 + (m : Int) * (-1)).toNat]?) = l.filterMap ((fun x => xs[x]?) ∘ fun k => xs.size - 1 - k) := by
      intro l
      induction l with
      | nil => intro _; rfl
      | cons m l ih =>
        intro hm
        have h1 := hm m List.mem_cons_self
        have z : ((xs.size : Int) - 1 + (m : Int) * (-1)).toNat = xs.size - 1 - m := by omega
        rw [List.filterMap_cons, List.filterMap_cons, ih fun y hy => hm y (List.mem_cons_of_mem _ hy), z]
        rfl
    exact go _ fun m hm => List.mem_range.mp hm
  rw [e, PySem.W.krv_range, List.filterMap_reverse, PySem.W.krv_all]
theorem getItem_tuple_rev {t sl : Addr} {items : Array Value} {vl vu vs : Value} {Q : Value → Shared → Prop} (ht : IsTup s.heap t items) (hs : s.heap.IsSliceOf sl vl vu vs) (pl : IsPart vl none) (pu : IsPart vu none) (ps : IsPart vs (some (-1)))
    (h : Q (.ref s.heap.objs.size) { s with heap := s.heap.push { cls := .type "tuple", data := .seq items.toList.reverse.toArray } })
    (hsz : items.size ≤ sizeLine) : wpAny (model prog w) A (getItem (.ref t) (.ref sl)) Q E s := by
  have htake : sizeOk (.seq items.toList.reverse.toArray) := by
    show items.toList.reverse.toArray.size ≤ sizeLine
    rw [List.size_toArray, List.length_reverse, Array.length_toList]
    exact hsz
  obtain ⟨os, hos, hcs, hds⟩ := id hs
  have hTs : s.TypeIs (.ref sl) "slice" := ⟨os, hos, hcs⟩
  unfold getItem
  try with_reducible refine wpAny_holding ?_
  first | refine wpAny_bind (wpAny_pure ?_) | skip
  refine wpAny_bind (wpAny_sequenceKey ht.typeIs (by decide) ?_)
  refine wpAny_bind (wpAny_callSpecial?_slot (name := Str.ofString "__getitem__") ht.typeIs PyProof.Rows.slot_tuple_getitem
    (wpAny_call_entry PyProof.Rows.slot_tuple_getitem ht.typeIs entry_tuple_getitem ?_ (args_tuple_getitem _ _)))
  show wpAny _ _ (Builtin.Tuple.tupleItemsOf (.ref t) >>= _) _ _ s
  refine wpAny_bind (tupleItemsOf_ ht ?_)
  refine wpAny_bind (wpAny_typeOf hTs ?_)
  rw [if_pos (by decide)]
  refine wpAny_bind (applied_rev hs pl pu ps ?_)
  have hno : ¬ (((((items.size : Int) - 1)) == 0 && (-1 : Int) == 1 && items.size == items.size) = true) := by
    intro q
    rw [Bool.and_eq_true, Bool.and_eq_true] at q
    exact absurd (eq_of_beq q.1.2) (by decide)
  show wpAny _ _ (if (((items.size : Int) - 1) == 0 && (-1 : Int) == 1 && items.size == items.size) = true then _ else _) _ _ s
  rw [if_neg hno, pick_rev]
  first
    | exact wpAny_bind (m := Builtin.Tuple.tupleExact _) (wpAny_newObj_type (wpAny_pure ⟨_, rfl, wpAny_pure h⟩) htake)
    | exact wpAny_bind (m := Builtin.Tuple.tupleExact _) (wpAny_newObj_type (wpAny_bind (wpAny_pure (wpAny_pure ⟨_, rfl, wpAny_pure h⟩))) htake)
    | exact wpAny_bind (wpAny_bind (m := Builtin.Tuple.tupleExact _) (wpAny_newObj_type (wpAny_pure (wpAny_pure ⟨_, rfl, wpAny_pure h⟩)) htake))
    | exact wpAny_bind (wpAny_bind (m := Builtin.Tuple.tupleExact _) (wpAny_newObj_type (wpAny_pure ⟨_, rfl, wpAny_pure h⟩) htake))
end
section
variable {X : Cx}
/-- t[::-1], a list or a tuple -/
def tRevA (K : PySem.W.Frag) (te : TE) : TE := fun σ H Q => te σ H fun x H1 => ∃ a xs, x = .ref a ∧ ((SqL K H1 a xs ∧ ∀ p, H1 p = none → Q (.ref p) (upd H1 p (.lst xs.reverse))) ∨ (SqT K H1 a xs ∧ ∀ p, H1 p = none → Q (.ref p) (upd H1 p (.tup xs.reverse))))
theorem pe_revA {e : Expr} {te : TE} {k : Nat} {p1 p2 p3 pos : Pos} (he : PE X e te) : PE X (.Subscript e (.Slice none none (some (.UnaryOp .USub (.Constant (.int 1) k p1) p2)) p3) pos) (tRevA X.K te) := by
  refine ⟨fun pins s σ H Q I h => ?_⟩
  refine Subscript_ (thn (he.run pins s σ H _ I h) fun v s1 ⟨x, H1, I1, r1, q1⟩ => ?_)
  obtain ⟨a, xs, ex, q⟩ := q1
  subst ex
  cases r1
  have hst : PO X (some (.UnaryOp .USub (.Constant (.int 1) k p1) p2)) (tPart (tUn (rU fun i => .int (-i)) (tC (.int 1)))) := po_some (pe_un un_neg pe_int)
  refine wpAny_Slice (thn (po_none.run pins s1 σ H1 (fun o H2 => o = none ∧ H2 = H1) I1 ⟨rfl, rfl⟩) fun vl s2 ⟨l, H2, I2, pl, el, e2⟩ => ?_)
  subst el e2
  refine thn (po_none.run pins s2 σ H2 (fun o H3 => o = none ∧ H3 = H2) I2 ⟨rfl, rfl⟩) fun vu s3 ⟨u, H3, I3, pu, eu, e3⟩ => ?_
  subst eu e3
  refine thn (hst.run pins s3 σ H3 (fun o H4 => o = some (-1) ∧ H4 = H3) I3 ⟨1, rfl, -1, rfl, rfl, rfl⟩) fun vs s4 ⟨o, H4, I4, ps, eo, e4⟩ => ?_
  subst eo e4
  have I5 : Inv X pins σ H4 { s4 with heap := s4.heap.push { cls := .type "slice", data := .fields #[vl, vu, vs] } } := I4.kept (t' := s4.toks) fun b ob q => Heap.get?_push_of_some _ q
  show wpAny (model X.prog X.w) X.A (subscriptTail e (.Slice none none (some (.UnaryOp .USub (.Constant (.int 1) k p1) p2)) p3) (.ref a) (.ref s4.heap.objs.size)) (EP X pins σ Q) X.xe { s4 with heap := s4.heap.push { cls := .type "slice", data := .fields #[vl, vu, vs] } }
  rcases q with ⟨hx, q⟩ | ⟨hx, q⟩
  · obtain ⟨its, r, ht, hz⟩ := I5.list hx
    have hlen := r.length
    refine tail_any (ops := [.ref a, .ref s4.heap.objs.size]) ht.isList.typeIs (PySem.slot_list_getitem.lookup) ?_ (by with_unfolding_all rfl)
    refine wpAny_getItem_list_slice ht.isList (Heap.IsSliceOf.new _ vl vu vs) pl pu ps (by decide) ?_ (by rw [List.size_toArray]; omega)
    rw [PySem.W.krv_pick]
    refine ⟨.ref _, _, I5.laid (t' := s4.toks) (o := .lst xs.reverse) (fun b ob q => Heap.get?_push_of_some _ q) (Nat.le_refl _) ?_, rfl, q _ (I5.hok.fresh (Nat.le_refl _))⟩
    exact ⟨by rw [List.length_reverse]; exact hz, _, 0, r.reverse, Heap.get?_push_size _ rfl⟩
  · obtain ⟨its, r, ht, hz⟩ := I5.tuple hx
    have hlen := r.length
    refine tail_any (ops := [.ref a, .ref s4.heap.objs.size]) ht.typeIs (PyProof.Rows.slot_tuple_getitem.lookup) ?_ (by with_unfolding_all rfl)
    refine getItem_tuple_rev ht (Heap.IsSliceOf.new _ vl vu vs) pl pu ps ?_ (by rw [List.size_toArray]; omega)
    refine ⟨.ref _, _, I5.laid (t' := s4.toks) (o := .tup xs.reverse) (fun b ob q => Heap.get?_push_of_some _ q) (Nat.le_refl _) ?_, rfl, q _ (I5.hok.fresh (Nat.le_refl _))⟩
    exact ⟨by rw [List.length_reverse]; exact hz, _, r.reverse, ⟨_, Heap.get?_push_size _ rfl, rfl, _, rfl⟩⟩
/-- set(l), l a list of ints -/
def rSetLI (K : PySem.W.Frag) (w : World) : List V → Hp → VK → Prop := fun xs H Q => ∃ (l : Addr) (ns : List Int), xs = [.ref l] ∧ SqL K H l (ns.map V.int) ∧ ns.length ≤ 1000 ∧ ∀ p n, H p = none → (∃ l : List Int, l.Nodup ∧ (∀ k, k ∈ l ↔ k ∈ ns) ∧ l.length = n) → Q (.ref p) (upd H p (SetO w p (fun j => decide (j ∈ ns)) n))
theorem cr_setL (hc : X.calm = true) : CallR X (.type "set") (rSetLI X.K X.w) := by
  intro pins s σ H xs us Q I r h
  obtain ⟨l, ns, rfl, hq, hz, q⟩ := h
  rw [Vals.ref1 r]
  obtain ⟨its, rv, pl, _⟩ := I.list hq
  have hi : IntsAre its.toArray.toList ns := by rw [List.toList_toArray]; exact ints_of_vals rv
  have hi2 := hi
  refine set_of_listI ns (I.ok.hd hc) pl.isList hi (by unfold scanBound; omega) fun h' tk c R hcn k => ?_
  have hn : H s.heap.objs.size = none := I.hok.fresh (Nat.le_refl _)
  refine ⟨.ref _, upd H s.heap.objs.size (SetO X.w s.heap.objs.size (fun j => decide (j ∈ ns)) c), I.laid (t' := tk) k (Nat.le_refl _) (setO_new R), rfl, q _ c hn ?_⟩
  obtain ⟨o, es, ep, t, ho, hex, hdt, g, nd, hm2, hb, hf, hn2, hr, hl2⟩ := R
  exact ⟨es.toList.map keyOf, nd, fun k => by rw [← hm2 k, decide_eq_true_eq], by rw [List.length_map, Array.length_toList]; exact hn2⟩
end
end L2
set_option Elab.async false
set_option linter.all false
set_option maxRecDepth 100000
set_option maxHeartbeats 4000000
namespace DL
open PySem PySem.Spec PyProof.Rows L2
section
variable {X : Cx} {G : Gm} {B : Bs}

/-! ### x[::-1] -/
def rev (t : TE') : TE' := fun ρ Q => t ρ fun x ρ1 => ok (rs ρ1 x) fun a => match a with
  | .lst ds => Q (.d (.lst ds.reverse)) ρ1
  | .tup ds => Q (.d (.tup ds.reverse)) ρ1
  | _ => False
theorem pd_rev {e : Expr} {t : TE'} {k : Nat} {p1 p2 p3 pos : Pos} (he : PD X G B e t) : PD X G B (.Subscript e (.Slice none none (some (.UnaryOp .USub (.Constant (.int 1) k p1) p2)) p3) pos) (rev t) := by
  refine pe_imp (pe_revA he) fun σ H Q ⟨F, ρ, P, S, h, k⟩ => ?_
  refine ⟨F, ρ, _, S, h, fun x ρ1 h1 v H1 F1 S1 r1 e1 => ?_⟩
  obtain ⟨a, ea, h2⟩ := h1.ex
  have tp := r1.top S1 ea
  match a, tp, h2 with
  | .lst ds, tp, h2 =>
    obtain ⟨l, xs, rfl, hr, ra⟩ := tp.lst
    refine ⟨l, xs, rfl, .inl ⟨.inl hr, fun p hp => ?_⟩⟩
    have n := New.lst (o := .lst xs.reverse) S1.trk hp
    exact k _ _ h2 _ _ _ (S1.new n) (.lst (.inl upd_same) (.inr rfl) (RepA.ext n.keep ra.reverse)) (e1.trans n.ext)
  | .tup ds, tp, h2 =>
    obtain ⟨l, xs, rfl, hr, ra⟩ := tp.tup
    refine ⟨l, xs, rfl, .inr ⟨SqT.of hr, fun p hp => ?_⟩⟩
    have n := New.tup (o := .tup xs.reverse) S1.trk hp
    exact k _ _ h2 _ _ _ (S1.new n) (.tup upd_same (RepA.ext n.keep ra.reverse)) (e1.trans n.ext)

/-! ### sorted(set(ints)) -/
def srtS (t : TA') : TF' := fun ρ Q => t ρ fun xs ρ1 => ok (rss ρ1 xs) fun ds => match ds with
  | [.lst es] => ok (toInts es) fun ns => ns.length ≤ 1000 ∧ (∀ l : List Int, l.Nodup → (∀ k, k ∈ l ↔ k ∈ ns) → l.length < 64) ∧ ∀ out : List Int, out.Pairwise (· < ·) → (∀ k, k ∈ out ↔ k ∈ ns) → Q (out.map D.int) ρ1
  | _ => False
theorem pf_sortedSet {x y : Str} {e : Expr} {t : TA'} {p p2 pos pos2 : Pos} (hx : x = "sorted") (hy : y = "set") (hc : X.calm = true) (hm : X.mg x = none) (hm2 : X.mg y = none) (hv : bootBuiltins x = some (.builtin "sorted")) (hv2 : bootBuiltins y = some (.type "set")) (ha : PDA X G B [e] t)
    (hg : Gl X x := by rfl) (hg2 : Gl X y := by rfl) (hn : x ≠ "__name__" := by decide) (hdb : (x == ("__debug__" : Str)) = false := by decide) (hn2 : y ≠ "__name__" := by decide) (hdb2 : (y == ("__debug__" : Str)) = false := by decide)
    (he : starEach [e] X.env = (false, eval e X.env) :: starEach [] X.env := by rfl) (hpl : (backTo pos2 (starEach [] X.env)).any (·.1) = false := by rfl) (he2 : starEach [.Call (.Name y p2) [e] [] pos2] X.env = (false, eval (.Call (.Name y p2) [e] [] pos2) X.env) :: starEach [] X.env := by rfl) (hpl2 : (backTo pos (starEach [] X.env)).any (·.1) = false := by rfl) :
    PF X G B (.Call (.Name x p) [.Call (.Name y p2) [e] [] pos2] [] pos) (srtS t) := by
  refine pe_imp (pe_callB (cr_sortedSet hc) hg hm hv (pa_cons (pe_callTy (cr_setL hc) hg2 hm2 hv2 ha hn2 hdb2 he hpl) pa_nil he2) hn hdb he2 hpl2) fun σ H Q ⟨F, ρ, P, S, h, k⟩ => ?_
  refine ⟨F, ρ, _, S, h, fun xs ρ1 h1 vs H1 F1 S1 r1 e1 => ?_⟩
  obtain ⟨ds, ed, h1⟩ := h1.ex
  have tp := r1.tops S1 ed
  match ds, tp, h1 with
  | [.lst es], tp, h1 =>
    obtain ⟨ns, ep, hl, h64, h2⟩ := h1.ex
    obtain ⟨v, rfl, t1⟩ := tp.one
    obtain ⟨l, us, rfl, r, w⟩ := t1.lst
    have e2 := toInts_eq ep
    subst e2
    have e3 := w.ints
    subst e3
    refine ⟨l, ns, rfl, sqL_rd r, hl, fun p n hp ⟨l2, nd, hm3, hlen⟩ => ⟨p, _, n, rfl, upd_same, by rw [← hlen]; exact h64 l2 nd hm3, fun out q hpw hmem hol hq => ?_⟩⟩
    have nw := New.tup (o := SetO X.w p (fun j => decide (j ∈ ns)) n) S1.trk hp
    exact (S1.new nw).laid (e1.trans nw.ext) (k _ _ (h2 out hpw fun j => by rw [hmem j, decide_eq_true_eq])) q _ hq (RepA.ofInts out)

/-! ### a, b, c = a list -/
def gl (n : Nat) (u : TGs') : TG' := fun d ρ Q => match d with
  | .lst ds => if ds.length = n then u ds ρ Q else False
  | _ => False
theorem pdg_lst {es : List Expr} {k : Nat} {ts : List Nat} {u : TGs'} {n : Nat} {pos : Pos} (hc : X.calm = true) (h : PDGs X G B es ts u)
    (hn : (assignEach es X.env).length = n := by rfl) (hst : (assignEach es X.env).findIdx? (·.1) = none := by rfl) : PDG X G B (.Tuple es k pos) ts (gl n u) := by
  refine pg_imp (pg_unl hc h hn hst) fun v σ H Q ⟨F, ρ, d, P, S, r, h, k⟩ => ?_
  cases d with
  | lst ds =>
    obtain ⟨hl, h⟩ := ite_ex h
    cases r with
    | lst rd f ra => exact ⟨_, _, rfl, sqL_rd rd, by rw [ra.length]; exact hl, F, ρ, ds, P, S, ra, h, k⟩
  | _ => exact h.elim

/-! ### isinstance -/
/-- the type's name, for what is no instance of the program's classes -/
def tyN : D → Option String
  | .non => some "NoneType"
  | .bl _ => some "bool"
  | .int _ => some "int"
  | .str _ => some "str"
  | .tup _ => some "tuple"
  | .lst _ => some "list"
  | .ob _ _ => none
/-- what isinstance(_, u) says by data -/
def IsiOk (G : Gm) (u : Value) (f : D → Option Bool) : Prop := ∀ (F : Addr → Prop) (H : Hp) (v : V) (d : D) (b : Bool), Top G F H v d → f d = some b → ∃ t, TyX G.K H v t ∧ PySem.W.kitOne G.K t u = some b
theorem tyN_ok {F : Addr → Prop} {H : Hp} {v : V} {d : D} {n : String} (t : Top G F H v d) (e : tyN d = some n) : TyX G.K H v (.type n) := by
  cases d with
  | non => cases e; cases t.non; exact .base .non
  | bl b => cases e; cases t.bl; exact .base (.bl _)
  | int b => cases e; cases t.int; exact .base (.int _)
  | str b => cases e; cases t.str; exact .base (.str _)
  | tup ds =>
    cases e
    obtain ⟨a, xs, rfl, h, _⟩ := t.tup
    exact .base (.tup h)
  | lst ds =>
    cases e
    obtain ⟨a, xs, rfl, h, _⟩ := t.lst
    rcases h with h | ⟨o, h⟩
    · exact .base (.lst h)
    · exact .base (.frz h)
  | ob c d => cases e
def tyT (T : String) : D → Option Bool := fun d => match tyN d with
  | some n => kitB n T
  | none => none
theorem isi_ty {T : String} : IsiOk G (.type T) (tyT T) := fun F H v d b t e => by
  unfold tyT at e
  cases q : tyN d with
  | none => rw [q] at e; cases e
  | some n =>
    rw [q] at e
    exact ⟨.type n, tyN_ok t q, kit_ty e⟩
/-- what a class of the program must have that its instances' isinstance is told -/
structure InsT (K : PySem.W.Frag) (C : Addr) : Prop where
  cl : Cls K C
  ha : PySem.W.findIn K (.ref C) "__class__" = some (some (.builtin "object.__class__"))
  hn : PySem.W.specialIn K (.builtin "object.__class__") "__get__" = some (some (.builtin "getset_descriptor.__get__"))
  ht : PySem.W.takesIn K (.builtin "object.__class__") = some true
  hm : PySem.W.mroIn K C (.type "object") = some true
theorem insT_ok {F : Addr → Prop} {H : Hp} {v : V} {d : D} {c : Nat} (I : InsT G.K (G.ca c)) (t : Top G F H v (.ob c d)) : TyX G.K H v (.ref (G.ca c)) := by
  obtain ⟨a, dx, u, rfl, h, _⟩ := t.ob
  exact .base (.ins h I.cl I.ha I.hn I.ht I.hm)
/-- isinstance(_, an own class): by a table of the built-in types, of the own classes -/
def tyC (f : String → Option Bool) (g : Nat → Option Bool) : D → Option Bool := fun d => match tyN d with
  | some n => f n
  | none => match d with
    | .ob c _ => g c
    | _ => none
theorem isi_own {u : Value} {f : String → Option Bool} {g : Nat → Option Bool} (hf : ∀ n b, f n = some b → PySem.W.kitOne G.K (.type n) u = some b) (hg : ∀ c b, g c = some b → InsT G.K (G.ca c) ∧ PySem.W.kitOne G.K (.ref (G.ca c)) u = some b) : IsiOk G u (tyC f g) := fun F H v d b t e => by
  unfold tyC at e
  cases q : tyN d with
  | some n =>
    rw [q] at e
    exact ⟨.type n, tyN_ok t q, hf n b e⟩
  | none =>
    rw [q] at e
    cases d with
    | ob c d' =>
      obtain ⟨I, z⟩ := hg c b e
      exact ⟨_, insT_ok I t, z⟩
    | _ => cases e
def isi (f : D → Option Bool) (t : TE') : TE' := fun ρ Q => t ρ fun x ρ1 => ok (rs ρ1 x) fun a => ok (f a) fun b => Q (.d (.bl b)) ρ1
theorem pd_isi {f : D → Option Bool} {u : Value} {cv : V} {e c : Expr} {t : TE'} {p pos : Pos} (hG : X.K = G.K) (hI : IsiOk G u f) (hu : ClsV cv u) (hm : X.mg "isinstance" = none) (he : PD X G B e t) (hc : PE X c (tC cv)) (hg : Gl X "isinstance" := by rfl)
    (h1 : starEach [e, c] X.env = (false, eval e X.env) :: starEach [c] X.env := by rfl) (h2 : starEach [c] X.env = (false, eval c X.env) :: starEach [] X.env := by rfl) (hpl : (backTo pos (starEach [c] X.env)).any (·.1) = false := by rfl) : PD X G B (.Call (.Name "isinstance" p) [e, c] [] pos) (isi f t) := by
  refine pe_imp (pe_callB call_isi hg hm PyProof.Rows.boot_isinstance (pa_cons he (pa_cons hc pa_nil h2) h1) (by decide) (by decide) h1 hpl) fun σ H Q ⟨F, ρ, P, S, h, k⟩ => ?_
  refine ⟨F, ρ, _, S, h, fun x ρ1 h1 v H1 F1 S1 r1 e1 => ?_⟩
  obtain ⟨a, ea, h2⟩ := h1.ex
  obtain ⟨b, eb, h3⟩ := h2.ex
  obtain ⟨ty, z1, z2⟩ := hI F1 H1 v a b (r1.top S1 ea) eb
  exact ⟨v, cv, ty, u, b, rfl, hu, by rw [hG]; exact z1, by rw [hG]; exact z2, k _ _ h3 _ H1 F1 S1 (.bl b) e1⟩
theorem pe_tyName {x : Str} {n : String} {pos : Pos} (hm : X.mg x = none) (hv : bootBuiltins x = some (.type n)) (hg : Gl X x := by rfl) (hn : x ≠ "__name__" := by decide) (hd : (x == ("__debug__" : Str)) = false := by decide) : PE X (.Name x pos) (tC (.ty n)) := pe_bltn hg hm hv rfl hn hd
theorem pe_clName {x : Str} {C : Addr} {pos : Pos} (hm : X.mg x = some (.ref C)) (hg : Gl X x := by rfl) (hd : (x == ("__debug__" : Str)) = false := by decide) : PE X (.Name x pos) (tC (.ref C)) := pe_glob (v := .ref C) hg hm rfl hd
end
end DL
set_option Elab.async false
set_option linter.all false
set_option maxRecDepth 100000
set_option maxHeartbeats 4000000
namespace DL
open PySem PySem.Spec PyProof.Rows L2

/-! ### instances of one field made -/
/-- what an __init__ promises by data: the arguments (all of them data), the wish of the field's value -/
abbrev DIn := List D → (D → Prop) → Prop
def spMk (G : Gm) (c : Nat) (S : DIn) : Sp := fun vs H Q _ => ∃ (F : Addr → Prop) (x dx : Addr) (ws : List V) (ds : List D) (K : D → Prop), vs = .ref x :: ws ∧ H x = some (.ins (G.ca c) dx []) ∧ (∀ a, F a → ∃ o, H a = some o) ∧ ¬ F x ∧ RepA G F H ws ds ∧ S ds K ∧
  ∀ d, K d → ∀ (v : V) (H' : Hp) (F' : Addr → Prop), (∀ a, F a → F' a) → (∀ a, F' a → F a ∨ H a = none) → (∀ a, F' a → ∃ o, H' a = some o) → (∀ b o, b ≠ x → H b = some o → H' b = some o) → H' x = some (.ins (G.ca c) dx [(G.cf c, v)]) → Rep G F' H' v d → ¬ F' x → Q .non H'
section
variable {G : Gm} {F : Addr → Prop} {H : Hp}
theorem SR.beginR {N : List Str} {x : Addr} {ws : List V} {ds : List D} (t : ∀ a, F a → ∃ o, H a = some o) (ra : RepA G F H ws ds) :
    SR G ⟨H, [], F⟩ F (L2.start N (.ref x :: ws)) H ((.raw x :: ds.map .val) ++ List.replicate (N.length - (ds.length + 1)) .no) where
  frame := fun b o h _ => h
  iot := fun b hb => by simp [Bs.io] at hb
  io0 := fun b hb => by simp [Bs.io] at hb
  trk := t
  fresh := fun a f => .inl f
  f0 := fun a f => f
  iof := fun b hb => by simp [Bs.io] at hb
  len := by
    unfold L2.start
    simp [ra.length]
  sl := fun i s e => by
    rcases rho_get e with e | e
    · cases i with
      | zero =>
        have e' : some (Sl.raw x) = some s := e
        cases e'
        exact start_get (vs := .ref x :: ws) (i := 0) rfl
      | succ i =>
        have e' : (ds.map Sl.val)[i]? = some s := by simpa using e
        rw [List.getElem?_map] at e'
        cases q : ds[i]? with
        | none => rw [q] at e'; cases e'
        | some d =>
          rw [q] at e'
          cases (show Sl.val d = s from Option.some.inj e')
          obtain ⟨v, ev, r⟩ := ra.get q
          exact ⟨v, start_get (vs := .ref x :: ws) (i := i + 1) (by simpa using ev), r⟩
    · subst e
      exact True.intro
  sep := fun i j t u ds' es a e1 e2 e3 e4 => by
    exfalso
    rcases rho_get e1 with e | e
    · cases i with
      | zero => exact nomatch (show some (Sl.raw x) = some (Sl.own t ds') from e)
      | succ i =>
        have e' : (ds.map Sl.val)[i]? = some (Sl.own t ds') := by simpa using e
        rw [List.getElem?_map] at e'
        cases q : ds[i]? with
        | none => rw [q] at e'; cases e'
        | some d =>
          rw [q] at e'
          cases e'
    · cases e
/-- the last statement of an __init__: self.f = e -/
def fin' (x : Addr) (te : TE') (K : D → Prop) : Rho → Prop := fun ρ => te ρ fun y ρ' => ∃ d, y = .d d ∧ ρ'[0]? = some (.raw x) ∧ K d
theorem fin_ok {B : Bs} {σ : L2.St} {ρ : Rho} {te : TE'} {Q : VK} {c : Nat} {x dx : Addr} {K : D → Prop} {k : PySem.W.Frag} {f : Str} {H1 : Hp} {F1 : Addr → Prop} {De : Ends} (S : SR G ⟨H, [], F⟩ F1 σ H1 ρ) (hx : H x = some (.ins (G.ca c) dx [])) (nx : ¬ F x) (ef : G.cf c = f) (cl : Cls k (G.ca c)) (na : NoAttr k (G.ca c) f)
    (h : fin' x te K ρ) (hD : ∀ σ' H', De.nx σ' H' = Q .non H')
    (kk : ∀ d, K d → ∀ (v : V) (H' : Hp) (F' : Addr → Prop), (∀ a, F a → F' a) → (∀ a, F' a → F a ∨ H a = none) → (∀ a, F' a → ∃ o, H' a = some o) → (∀ b o, b ≠ x → H b = some o → H' b = some o) → H' x = some (.ins (G.ca c) dx [(G.cf c, v)]) → Rep G F' H' v d → ¬ F' x → Q .non H') :
    sFld k (tVar 0) (liE G ⟨H, [], F⟩ te) f De σ H1 := by
  refine ⟨F1, ρ, _, S, h, fun y ρ' ⟨d, ey, e0, hk⟩ v H2 F2 S2 r2 e2 => ?_⟩
  subst ey
  have r2' : Rep G F2 H2 v d := r2
  refine ⟨.ref x, S2.sl 0 _ e0, x, G.ca c, dx, [], rfl, S2.frame x _ hx (by simp [Bs.io]), cl, na, by decide, ?_⟩
  rw [hD]
  have nx2 : ¬ F2 x := fun f => by
    rcases S2.fresh x f with z | z
    · exact nx z
    · rw [show (Bs.mk H [] F).H0 = H from rfl, hx] at z; cases z
  have hx2 := S2.frame x _ hx (by simp [Bs.io])
  have kw : Keep F2 H2 F2 (upd H2 x (.ins (G.ca c) dx (putF f v []))) := ⟨fun _ h => h, fun b o e z => by
    have n : b ≠ x := fun w => by
      subst w
      rcases z with z | z
      · exact nx2 z
      · rw [hx2] at e; cases e; exact z
    rw [upd_ne n]; exact e⟩
  refine kk d hk v _ F2 S2.f0 S2.fresh (fun a f => ?_) (fun b o n e => ?_) ?_ (Rep.ext kw r2') nx2
  · have n : a ≠ x := fun w => nx2 (w ▸ f)
    rw [upd_ne n]
    exact S2.trk a f
  · rw [upd_ne n]
    exact S2.frame b o e (by simp [Bs.io])
  · rw [upd_same, ef]
    rfl
end
section
variable {P : Program} {w : World} {K : PySem.W.Frag} {mg : Str → Option Value} {base : Heap}
/-- def __init__(self, a, ..): self.f = e -/
theorem initD {G : Gm} {c : Nat} {n qual : Str} {st : Stmt} {f : Addr} {fd : FuncData} {N ps : List Str} {k : Nat} {S : DIn} {te : TE'} {e : Expr} {fld s0 : Str} {ctx : Pos} {p2 pos : Pos} (hb0 : defBody st = [.Assign [.Attribute (.Name s0 ctx) fld p2] e pos]) (F : Fun K n qual st f fd) (sc : FnScope N ps (defScope st)) (len : ∀ ds K, S ds K → ds.length + 1 = ps.length)
    (ef : G.cf c = fld) (cl : Cls K (G.ca c)) (na : NoAttr K (G.ca c) fld) (hN : N[0]? = some s0) (hv : Vis (defScope st) s0) (hd : (s0 == ("__debug__" : Str)) = false) (hcd : (s0 == ("__classdict__" : Str)) = false)
    (hs : ∀ (cdv : Value) (A : Around) (outer : List Env) (s : Shared) (H : Hp) (E : XK), swapsWith e (some (.Attribute (.Name s0 ctx) fld p2)) pos.line (cxOf CX0 P w K mg base N qual (defScope st) f cdv A outer s H E).nox.env = pure false)
    (hbody : ∀ (cdv : Value) (A : Around) (outer : List Env) (s : Shared) (H : Hp) (E : XK) (B : Bs), Room k (A.deeper (envOfC qual (defScope st) s.heap.objs.size f cdv)) → PD (cxOf CX0 P w K mg base N qual (defScope st) f cdv A outer s H E).nox G B e te)
    (h : ∀ x ds K, S ds K → fin' x te K ((.raw x :: ds.map .val) ++ List.replicate (N.length - (ds.length + 1)) .no)) : FnOk P w K mg base CX0 (k + 1) f fd ps (spMk G c S) := by
  refine F.ok sc (fun vs H Q E hs => ?_) (fun cdv A outer s H vs Q E hr hsp => ?_)
  · obtain ⟨F, x, dx, ws, ds, K, rfl, _, _, _, ra, hS, _⟩ := hs
    rw [List.length_cons, ra.length]
    exact len _ _ hS
  · obtain ⟨F, x, dx, ws, ds, K, rfl, hx, trk, nx, ra, hS, kk⟩ := hsp
    refine ⟨_, by rw [hb0]; exact pss_one (ps_fld (pe_var (i := 0) hN hv hd hcd) (hbody cdv A outer s H E ⟨H, [], F⟩ hr) (hs cdv A outer s H E)), ?_⟩
    exact fin_ok (B := ⟨H, [], F⟩) (SR.beginR trk ra) hx nx ef cl na (h x ds K hS) (fun _ _ => rfl) kk
/-- def __init__(self, *args): s1; s2; self.f = e -/
theorem initStar {G : Gm} {c : Nat} {n qual pv : Str} {st : Stmt} {f : Addr} {fd : FuncData} {N ps : List Str} {k : Nat} {S : DIn} {te : TE'} {t1 t2 : TS'} {s1 s2 : Stmt} {e : Expr} {fld s0 : Str} {ctx : Pos} {p2 pos : Pos} (hb0 : defBody st = [s1, s2, .Assign [.Attribute (.Name s0 ctx) fld p2] e pos]) (F : Fun K n qual st f fd) (sc : FnScope N ([s0] ++ [pv]) (defScope st))
    (hb : ∀ (kV doc pm : Value) (an : Option Addr) (cdv ct : Value) (us rest : List Value), us.length = [s0].length → bindArgs (PySem.W.fnOf n qual (defArgs st) (defBody st) (defScope st) .none kV doc pm an cdv ct) ⟨us ++ rest, []⟩ = (newTuple rest >>= fun t => pure ([s0].zip us ++ [(pv, t)])))
    (ef : G.cf c = fld) (cl : Cls K (G.ca c)) (na : NoAttr K (G.ca c) fld) (hN : N[0]? = some s0) (hv : Vis (defScope st) s0) (hd : (s0 == ("__debug__" : Str)) = false) (hcd : (s0 == ("__classdict__" : Str)) = false)
    (hs : ∀ (cdv : Value) (A : Around) (outer : List Env) (s : Shared) (H : Hp) (E : XK), swapsWith e (some (.Attribute (.Name s0 ctx) fld p2)) pos.line (cxOf CX0 P w K mg base N qual (defScope st) f cdv A outer s H E).nox.env = pure false)
    (hbody : ∀ (cdv : Value) (A : Around) (outer : List Env) (s : Shared) (H : Hp) (E : XK) (B : Bs), Room k (A.deeper (envOfC qual (defScope st) s.heap.objs.size f cdv)) → PDS (cxOf CX0 P w K mg base N qual (defScope st) f cdv A outer s H E).nox G B s1 t1 ∧ PDS (cxOf CX0 P w K mg base N qual (defScope st) f cdv A outer s H E).nox G B s2 t2 ∧ PD (cxOf CX0 P w K mg base N qual (defScope st) f cdv A outer s H E).nox G B e te)
    (h : ∀ x ds K, S ds K → ds.length ≤ sizeLine ∧ t1 { nx := t2 { nx := fin' x te K, rt := fun _ _ => False }, rt := fun _ _ => False } ([.raw x, .val (.tup ds)] ++ List.replicate (N.length - 2) .no)) : FnR P w K mg base CX0 (k + 1) f (spMk G c S) := by
  obtain ⟨oc, od, kV, doc, pm, an, cdv, ct, osl, rfl, lk, hcd2⟩ := F.ex
  have z := StX.fn_star (P := P) (w := w) (mg := mg) (base := base) (CX := CX0) (k := k) (ps := [s0]) (pv := pv) (sp := spMk G c fun ds K => match ds with | [.tup ds] => S ds K | _ => False) lk hcd2 sc StX.cxUp_none (fun us rest hl => hb kV doc pm an cdv ct us rest hl) (fun A outer s H vs Q E hr hsp => ?_)
  · intro A outer s H us vs Q E hr e0 r hsp
    refine z A outer s H us vs Q E hr e0 r ?_
    obtain ⟨F, x, dx, ws, ds, K, rfl, hx, trk, nx, ra, hS, kk⟩ := hsp
    refine ⟨[.ref x], ws, rfl, rfl, by rw [ra.length]; exact (h x ds K hS).1, fun p hp => ?_⟩
    have n := New.tup (o := .tup ws) trk hp
    have npx : x ≠ p := fun e => by rw [e, hp] at hx; cases hx
    refine ⟨F, x, dx, [.ref p], [.tup ds], K, rfl, by rw [upd_ne npx]; exact hx, n.trk, nx, .cons (.tup upd_same (RepA.ext n.keep ra)) .nil, hS, fun d hd' v H' F' q1 q2 q3 q4 q5 q6 q7 => ?_⟩
    refine kk d hd' v H' F' q1 (fun a f => (q2 a f).imp id fun z => ?_) q3 (fun b o nb e => q4 b o nb (n.kp b o e)) q5 q6 q7
    cases q : H a with
    | none => rfl
    | some o =>
      have := n.kp a o q
      rw [z] at this; cases this
  · obtain ⟨F, x, dx, ws, ds, K, rfl, hx, trk, nx, ra, hS, kk⟩ := hsp
    match ds, hS, ra with
    | [.tup ds], hS, ra =>
      obtain ⟨q1, q2, q3⟩ := hbody cdv A outer s H E ⟨H, [], F⟩ hr
      obtain ⟨_, hh⟩ := h x ds K hS
      refine ⟨_, by rw [hb0]; exact (pss_cons q1 (pss_cons q2 (pss_one (ps_fld (pe_var (i := 0) hN hv hd hcd) q3 (hs cdv A outer s H E))))).nox, ?_⟩
      refine ⟨F, _, _, SR.beginR trk ra, hh, fun ρ' h1 σ' H1 F1 S1 e1 => ⟨F1, ρ', _, S1, h1, fun ρ2 h2 σ2 H2 F2 S2 e2 => ?_, fun _ _ z => z.elim, fun _ z => z.elim, fun _ z => z.elim, fun _ _ z => z.elim⟩, fun _ _ z => z.elim, fun _ z => z.elim, fun _ z => z.elim, fun _ _ z => z.elim⟩
      exact fin_ok (B := ⟨H, [], F⟩) S2 hx nx ef cl na h2 (fun _ _ => rfl) kk
end
def mk (c : Nat) (S : DIn) (t : TA') : TE' := fun ρ Q => t ρ fun xs ρ1 => ok (fzs xs) fun ds => S ds fun d => Q (.d (.ob c d)) ρ1
section
variable {X : Cx} {G : Gm} {B : Bs}
theorem make_ok {c : Nat} {S : DIn} {F : Addr → Prop} {H : Hp} {σ : L2.St} {ρ : Rho} {vs : List V} {ds : List D} {P : D → Prop} {Q : VK} (Sr : SR G B F σ H ρ) (ra : RepA G F H vs ds) (h : S ds P)
    (k : ∀ d, P d → ∀ v H' F', SR G B F' σ H' ρ → Rep G F' H' v (.ob c d) → Ext (ownA σ ρ) F H (ownA σ ρ) F' H' → Q v H') :
    ∀ x dx, H x = none → H dx = none → dx ≠ x → spMk G c S (.ref x :: vs) (upd (upd H dx (.own x)) x (.ins (G.ca c) dx [])) (fun v H2 => v = .non ∧ Q (.ref x) H2) E0 := fun x dx hx hdx hne => by
  have kp : ∀ a o, H a = some o → (upd (upd H dx (.own x)) x (.ins (G.ca c) dx [])) a = some o := fun a o e => by
    rw [upd_ne (ne_of_none e hx), upd_ne (ne_of_none e hdx)]
    exact e
  have kE : Keep F H F (upd (upd H dx (.own x)) x (.ins (G.ca c) dx [])) := ⟨fun _ h => h, fun a o e _ => kp a o e⟩
  refine ⟨F, x, dx, vs, ds, P, rfl, upd_same, fun a f => ?_, Sr.nof hx, RepA.ext kE ra, h, fun d hd v H' F' q1 q2 q3 q4 q5 q6 q7 => ⟨rfl, ?_⟩⟩
  · obtain ⟨o, e⟩ := Sr.trk a f
    exact ⟨o, kp a o e⟩
  · have kp' : ∀ a o, H a = some o → H' a = some o := fun a o e => q4 a o (ne_of_none e hx) (kp a o e)
    have n : New F H (add F' x) H' := ⟨fun a f => .inl (q1 a f), kp', fun a f => by
      rcases f with f | f
      · refine (q2 a f).imp id fun z => ?_
        cases q : H a with
        | none => rfl
        | some o =>
          have := kp a o q
          rw [z] at this; cases this
      · subst f; exact .inr hx, fun a f => by
      rcases f with f | f
      · exact q3 a f
      · subst f; exact ⟨_, q5⟩⟩
    exact k d hd _ H' _ (Sr.new n) (.ob q5 (.inr rfl) (Rep.ext add_keep q6)) n.ext
theorem pd_make {c : Nat} {C f : Addr} {S : DIn} {k : Nat} {x : Str} {e : Expr} {es : List Expr} {t : TA'} {p pos : Pos} (M : Mk X.K (G.ca c) f) (F : FnR X.prog X.w X.K X.mg X.base CX0 k f (spMk G c S)) (hr : Room (k + 1) X.A) (hm : X.mg x = some (.ref (G.ca c))) (ha : PDA X G B (e :: es) t) (hg : Gl X x := by rfl) (hdb : (x == ("__debug__" : Str)) = false := by decide)
    (he : starEach (e :: es) X.env = (false, eval e X.env) :: starEach es X.env := by rfl) (hpl : (backTo pos (starEach es X.env)).any (·.1) = false := by rfl) : PD X G B (.Call (.Name x p) (e :: es) [] pos) (mk c S t) := by
  refine pe_imp (StX.pe_makeR M F hr hg hm pass0 ha hdb he hpl) fun σ H Q ⟨Fp, ρ, P, Sr, h, k⟩ => ?_
  refine ⟨Fp, ρ, _, Sr, h, fun xs ρ1 h1 vs H1 F1 S1 r1 e1 => ?_⟩
  obtain ⟨ds, ed, h1⟩ := h1.ex
  exact make_ok (P := fun d => P (.d (.ob c d)) ρ1) S1 (r1.reps ed) h1 fun d hd v H' F' S' r e => k _ _ hd v H' F' S' r (e1.trans e)
theorem pd_make0 {c : Nat} {f : Addr} {S : DIn} {k : Nat} {x : Str} {p pos : Pos} (M : Mk X.K (G.ca c) f) (F : FnR X.prog X.w X.K X.mg X.base CX0 k f (spMk G c S)) (hr : Room (k + 1) X.A) (hm : X.mg x = some (.ref (G.ca c))) (hg : Gl X x := by rfl) (hdb : (x == ("__debug__" : Str)) = false := by decide) : PD X G B (.Call (.Name x p) [] [] pos) (mk c S aN) := by
  refine ⟨fun pins s σ H Q I h => ?_⟩
  obtain ⟨Fp, ρ, P, Sr, h, k⟩ := h
  refine wpAny_Call_Name_kw (ld_glob I hg hm ?_ hdb)
  have h' : S [] fun d => P (.d (.ob c d)) ρ := h
  exact PySem.W.callWith_K0 I.kIn M.kp (StX.run_makeR (us := []) (vs := []) M F hr pass0 I .nil (make_ok (P := fun d => P (.d (.ob c d)) ρ) Sr .nil h' fun d hd v H' F' S' r e => k _ _ hd v H' F' S' r e))
/-- o(e, ..), o an instance -/
theorem pd_callO {f : Addr} {S : DSp} {k : Nat} {o e : Expr} {es : List Expr} {ta : TE'} {t : TA'} {pos : Pos} (he : PD X G B o ta) (c : StX.CallO X.K (G.ca 0) f) (F : FnR X.prog X.w X.K X.mg X.base CX0 k f (spOf G S)) (hr : Room k X.A) (ha : PDA X G B (e :: es) t)
    (ht : eval (.Call o (e :: es) [] pos) X.env = (do callWith pos (← eval o X.env) [] (backTo pos (starEach (e :: es) X.env)) (backToKw pos (keywordEach [] X.env))) := by rfl)
    (hst : starEach (e :: es) X.env = (false, eval e X.env) :: starEach es X.env := by rfl) (hpl : (backTo pos (starEach es X.env)).any (·.1) = false := by rfl) : PD X G B (.Call o (e :: es) [] pos) (mth S ta t) := by
  refine pe_imp (StX.pe_callO he c F hr pass0 ha ht hst hpl) fun σ H Q ⟨Fp, ρ, P, Sr, h, k⟩ => ?_
  refine ⟨Fp, ρ, _, Sr, h, fun x ρ1 h1 v H1 F1 S1 r1 e1 => ?_⟩
  match x, r1, h1 with
  | .d (.ob 0 a), r1, h1 =>
    have r1' : Rep G F1 H1 v (.ob 0 a) := r1
    have r1s := r1'
    cases r1' with
    | ob hv fv rv =>
      refine ⟨_, rfl, F1, ρ1, _, S1, h1, fun xs ρ2 h2 vs H2 F2 S2 r2 e2 => ?_⟩
      obtain ⟨as, ea, h2⟩ := h2.ex
      obtain ⟨nd, h2⟩ := ite_ex h2
      have et : toSl ρ2 (.d (.ob 0 a) :: xs) = some (.val (.ob 0 a) :: as) := by
        show (toSl ρ2 xs).map (Sl.val (.ob 0 a) :: ·) = _
        rw [ea]
        rfl
      have r1x := Rep.ext e2.k r1s
      have hi : StX.InsC X H2 _ (G.ca 0) := .inr ⟨_, _, e2.k.kp _ _ hv (.inl fv)⟩
      exact ⟨hi, call_ok (xs := .d (.ob 0 a) :: xs) S2 (.cons r1x r2) et nd h2 fun x ρ' hp v H' F' S' r e => k x ρ' hp v H' F' S' r ((e1.trans e2).trans e)⟩
end
end DL
set_option Elab.async false
set_option linter.all false
set_option maxRecDepth 100000
set_option maxHeartbeats 4000000
namespace DL
open PySem PySem.Spec PyProof.Rows L2

/-! ### a def that hands back a list of its own -/
abbrev DSpF := List Sl → (List D → List (List D) → Prop) → Prop
def spOfF (G : Gm) (S : DSpF) : Sp := fun vs H Q _ => ∃ (F : Addr → Prop) (as : List Sl) (K : List D → List (List D) → Prop), (∀ a, F a → ∃ o, H a = some o) ∧ ArgsOk G F H vs as ∧ ((iaOf 0 vs as).map (·.2)).Nodup ∧ S as K ∧
  ∀ ds cs, K ds cs → ∀ a H' F' xs, Post G F H (iaOf 0 vs as) cs F' H' → H' a = some (.lst xs) → RepA G F' H' xs ds → ¬ F' a → H a = none → Q (.ref a) H'
def enOfF (as : List Sl) (K : List D → List (List D) → Prop) : En where
  nx := fun _ => False
  rt := fun x ρ => match x with
    | .d _ => False
    | .o i => match ρ[i]? with
      | some (.own false ds) => ok (outsG 0 as ρ) (K ds)
      | _ => False
  rf := fun ds ρ => ok (outsG 0 as ρ) (K ds)
section
variable {G : Gm} {F : Addr → Prop} {H : Hp}
theorem begin_okF {N : List Str} {S : DSpF} {t : TS'} {vs : List V} {Q : VK} {E : XK} (hsp : spOfF G S vs H Q E) (h : ∀ as K, S as K → t (enOfF as K) (as ++ List.replicate (N.length - as.length) .no)) :
    ∃ B : Bs, liS G B t { nx := fun _ H' => Q .non H', rt := Q } (L2.start N vs) H := by
  obtain ⟨F, as, K, trk, ao, nd, hS, kk⟩ := hsp
  refine ⟨⟨H, iaOf 0 vs as, F⟩, F, _, enOfF as K, SR.begin trk ao nd, h as K hS, ?_⟩
  have post : ∀ {F' : Addr → Prop} {σ' : L2.St} {H' : Hp} {ρ' : Rho} {cs : List (List D)}, SR G ⟨H, iaOf 0 vs as, F⟩ F' σ' H' ρ' → outsG 0 as ρ' = some cs → Post G F H (iaOf 0 vs as) cs F' H' := fun {F' σ' H' ρ' cs} S' e =>
    ⟨S'.f0, S'.fresh, S'.trk, S'.frame, outs_of S' (fun i a b h1 h2 => ia_fn ao i a b h1 h2) ao (fun _ h => h) e⟩
  refine ⟨fun ρ' h1 => h1.elim, fun x ρ' h1 v σ' H' F' S' r e => ?_, fun _ z => z.elim, fun _ z => z.elim, fun ds ρ' h1 a σ' H' F' xs S' ha r nf hn h0 no e => ?_⟩
  · cases x with
    | d d => exact h1.elim
    | o i =>
      have h1' : (match ρ'[i]? with | some (.own false ds) => ok (outsG 0 as ρ') (K ds) | _ => False) := h1
      cases q : ρ'[i]? with
      | none => rw [q] at h1'; exact h1'.elim
      | some s =>
        rw [q] at h1'
        cases s with
        | no => exact h1'.elim
        | raw _ => exact h1'.elim
        | val _ => exact h1'.elim
        | own tg ds =>
          cases tg with
          | true => exact h1'.elim
          | false =>
            obtain ⟨cs, ec, h1'⟩ := ok.ex h1'
            obtain ⟨a, xs, e1, nf, ha, ra, z⟩ := S'.sl i _ q
            have e2 : some (some v) = some (some (V.ref a)) := (show σ'[i]? = some (some v) from r).symm.trans e1
            cases e2
            exact kk _ _ h1' a H' F' xs (post S' ec) ha ra nf (by rw [if_neg Bool.false_ne_true] at z; exact z)
  · obtain ⟨cs, ec, h1⟩ := ok.ex h1
    exact kk _ _ h1 a H' F' xs (post S' ec) ha r nf hn
end
section
variable {P : Program} {w : World} {K : PySem.W.Frag} {mg : Str → Option Value} {base : Heap}
theorem fnF {G : Gm} {x qual : Str} {st : Stmt} {f : Addr} {fd : FuncData} {N ps : List Str} {k : Nat} {S : DSpF} {t : TS'} (F : Fun K x qual st f fd) (sc : FnScope N ps (defScope st)) (len : ∀ as K, S as K → as.length = ps.length)
    (hbody : ∀ (cdv : Value) (A : Around) (outer : List Env) (s : Shared) (H : Hp) (E : XK) (B : Bs), Room k (A.deeper (envOfC qual (defScope st) s.heap.objs.size f cdv)) → PDSs (cxOf CX0 P w K mg base N qual (defScope st) f cdv A outer s H E).nox G B (defBody st) t)
    (h : ∀ as K, S as K → t (enOfF as K) (as ++ List.replicate (N.length - as.length) .no)) : FnOk P w K mg base CX0 (k + 1) f fd ps (spOfF G S) := by
  refine F.ok sc (fun vs H Q E hs => ?_) (fun cdv A outer s H vs Q E hr hs => ?_)
  · obtain ⟨_, as, K, _, ao, _, hS, _⟩ := hs
    rw [ao.length]
    exact len as K hS
  · obtain ⟨B, hb⟩ := begin_okF (N := N) hs h
    exact ⟨liS G B t, hbody cdv A outer s H E B hr, hb⟩
structure KnF (P : Program) (w : World) (K : PySem.W.Frag) (mg : Str → Option Value) (base : Heap) (G : Gm) (k : Nat) (x : Str) (S : DSpF) : Prop where
  ex : ∃ (f : Addr) (fd : FuncData) (ps : List Str), mg x = some (.ref f) ∧ PySem.W.keepIn K (.ref f) = true ∧ Binds K fd ps [] ∧ FnOk P w K mg base CX0 k f fd ps (spOfF G S)
end
def callF (S : DSpF) (t : TA') : TF' := fun ρ Q => t ρ fun xs ρ1 => ok (toSl ρ1 xs) fun as => if (owns xs).Nodup then S as (fun ds cs => Q ds (putOs ρ1 xs cs)) else False
section
variable {X : Cx} {G : Gm} {B : Bs}
theorem pf_call {k : Nat} {x : Str} {S : DSpF} {e : Expr} {es : List Expr} {t : TA'} {p pos : Pos} (F : KnF X.prog X.w X.K X.mg X.base G k x S) (hr : Room k X.A) (ha : PDA X G B (e :: es) t) (hg : Gl X x := by rfl) (hdb : (x == ("__debug__" : Str)) = false := by decide)
    (he : starEach (e :: es) X.env = (false, eval e X.env) :: starEach es X.env := by rfl) (hpl : (backTo pos (starEach es X.env)).any (·.1) = false := by rfl) : PF X G B (.Call (.Name x p) (e :: es) [] pos) (callF S t) := by
  obtain ⟨f, fd, ps, h1, h2, h3, h4⟩ := F.ex
  refine pe_imp (pe_call h4 hr hg h1 h2 h3 .nil pass0 ha hdb he hpl) fun σ H Q ⟨F, ρ, P, Sr, h, k⟩ => ?_
  refine ⟨F, ρ, _, Sr, h, fun xs ρ1 h1 vs H1 F1 S1 r1 e1 => ?_⟩
  obtain ⟨as, ea, h1⟩ := h1.ex
  obtain ⟨nd, h1⟩ := ite_ex h1
  rw [List.append_nil]
  refine ⟨F1, as, _, S1.trk, args_of S1 r1 ea, ia_nodup S1 r1 ea nd, h1, fun ds cs hp a H' F' xs' p ha ra nf hn => ?_⟩
  obtain ⟨S', e'⟩ := S1.called r1 ea nd p
  have z : H a = none := by
    cases q : H a with
    | none => rfl
    | some o =>
      obtain ⟨o', q'⟩ := e1.tk a o q
      rw [hn] at q'; cases q'
  refine k _ _ hp a H' F' xs' S' ha ra nf z (S1.h0 hn) (fun m => ?_) (e1.trans e')
  rcases e'.own a m with y | y
  · exact S1.noown hn y
  · obtain ⟨i, t, ds', f1, f2⟩ := m
    obtain ⟨b, zs, f3, _, f4, _⟩ := S'.sl i _ f1
    rw [f2] at f3
    cases f3
    have : ∃ t ds, ρ1[i]? = some (Sl.own t ds) := by
      have pg := put_get S1 (F' := F') (H' := H') (n := 0) (ρ1 := ρ1) r1 ea nd p.outs (fun _ _ => rfl)
      rcases pg i _ f1 with ⟨t', ds'', c', z1, _⟩ | ⟨_, z1⟩
      · exact ⟨_, _, z1⟩
      · exact ⟨_, _, z1⟩
    obtain ⟨t2, ds2, f5⟩ := this
    exact S1.noown hn ⟨i, t2, ds2, f5, f2⟩

/-! ### a, b = two new lists -/
def parOO (i j : Nat) (t u : TF') : TS' := fun P ρ => t ρ fun ds ρ1 => u ρ1 fun es ρ2 => P.nx ((ρ2.set i (.own false ds)).set j (.own false es))
theorem pds_parOO {i j : Nat} {x y : Str} {a b : Expr} {t u : TF'} {px py pt pos : Pos} {kt k2 pt2} (hc : X.calm = true) (hN : X.N.Nodup) (ha : PF X G B a t) (hb : PF X G B b u) (hi : X.N[i]? = some x := by rfl) (hj : X.N[j]? = some y := by rfl) (hij : i ≠ j := by decide)
    (hx : X.env.scope.names.lookup x = some .local := by rfl) (hy : X.env.scope.names.lookup y = some .local := by rfl)
    (hs1 : starEach [a, b] X.env = (false, eval a X.env) :: starEach [b] X.env := by rfl) (hs2 : starEach [b] X.env = (false, eval b X.env) :: starEach [] X.env := by rfl)
    (hw : swappedStores [.Tuple [.Name x px, .Name y py] kt pt] (.Tuple [a, b] k2 pt2) X.env = pure (some [x, y]) := by rfl)
    (hs : swapsWithSole [.Tuple [.Name x px, .Name y py] kt pt] (.Tuple [a, b] k2 pt2) pos.line X.env = pure false := by rfl) :
    PDS X G B (.Assign [.Tuple [.Name x px, .Name y py] kt pt] (.Tuple [a, b] k2 pt2) pos) (parOO i j t u) := by
  refine ps_imp (ps_par hc hN hi hj hij hx hy (pa_cons ha (pa_cons hb pa_nil hs2) hs1) hw hs) fun D σ H ⟨F, ρ, P, S, h, R⟩ => ?_
  refine ⟨F, ρ, _, S, h, fun ds ρ1 h1 a H1 F1 xs S1 ha r1 nf hn h0 no e1 => ⟨F1, ρ1, _, S1, h1, fun es ρ2 h2 b H2 F2 ys S2 hb r2 nf2 hn2 h02 no2 e2 => ⟨_, _, rfl, ?_⟩⟩⟩
  have ne : b ≠ a := fun w => by rw [w, ha] at hn2; cases hn2
  have ha2 := e2.oth _ _ ha no
  have nfa : ¬ F2 a := e2.nof nf no ha
  have noa : ¬ ownA σ ρ2 a := fun m => (e2.own a m).elim no fun z => by rw [ha] at z; cases z
  have Sa := S2.setOwn i nfa ha2 (RepA.ext e2.k r1) h0 noa
  have nob : ¬ ownA (σ.set i (some (.ref a))) (ρ2.set i (.own false ds)) b := fun m => (own_setO m).elim no2 ne
  have Sb := Sa.setOwn j nf2 hb r2 h02 nob
  have hnb : H b = none := by
    cases q : H b with
    | none => rfl
    | some o =>
      obtain ⟨o', q'⟩ := e1.tk b o q
      rw [hn2] at q'; cases q'
  exact R.nx _ h2 _ H2 F2 Sb ((e1.trans e2).owns fun c m => by
    rcases own_setO m with m | m
    · rcases own_setO m with m | m
      · exact .inl m
      · exact .inr (m ▸ hn)
    · exact .inr (m ▸ hnb))

/-! ### o.m() -/
theorem pd_mth0 {m : Str} {f : Addr} {fd : FuncData} {ps : List Str} {S : DSp} {k : Nat} {o : Expr} {ta : TE'} {apos pos : Pos} {pl : Sem Bool} (he : PD X G B o ta) (c : Cls X.K (G.ca 0)) (hm : Meth X.K (G.ca 0) m f) (F : FnOk X.prog X.w X.K X.mg X.base CX0 k f fd ps (spOf G S)) (hb : Binds X.K fd ps []) (hr : Room k X.A)
    (hne : (m == G.cf 0) = false)
    (ht : eval (.Call (.Attribute o m apos) [] [] pos) X.env = (do
      let ov ← eval o X.env
      standAt apos.atName
      let (f, first) ← holding [ov] (getMethod ov m pl)
      callWith pos f first (backTo pos (starEach [] X.env)) (backToKw pos (keywordEach [] X.env))) := by rfl) : PD X G B (.Call (.Attribute o m apos) [] [] pos) (mth S ta aN) := by
  refine pe_imp (pe_meth0 he c hm F hr hb .nil pass0 ht) fun σ H Q ⟨Fp, ρ, P, Sr, h, k⟩ => ?_
  refine ⟨Fp, ρ, _, Sr, h, fun x ρ1 h1 v H1 F1 S1 r1 e1 => ?_⟩
  match x, r1, h1 with
  | .d (.ob 0 a), r1, h1 =>
    have r1' : Rep G F1 H1 v (.ob 0 a) := r1
    have r1s := r1'
    cases r1' with
    | ob hv fv rv =>
      refine ⟨_, _, _, rfl, hv, lk0 _ hne, ?_⟩
      have h1' : ok (toSl ρ1 []) fun as => if (owns []).Nodup then S (.val (.ob 0 a) :: as) (fun d cs => P (.d d) (putOs ρ1 [] cs)) else False := h1
      obtain ⟨as, ea, h2⟩ := h1'.ex
      obtain ⟨nd, h2⟩ := ite_ex h2
      have et : toSl ρ1 (.d (.ob 0 a) :: []) = some (.val (.ob 0 a) :: as) := by
        show (toSl ρ1 []).map (Sl.val (.ob 0 a) :: ·) = _
        rw [ea]
        rfl
      exact call_ok (E := E0) (xs := [.d (.ob 0 a)]) S1 (.cons r1s .nil) et nd h2 fun x ρ' hp v H' F' S' r e => k x ρ' hp v H' F' S' r (e1.trans e)
end

/-! ### [e for a in x for b in y] -/
def lc2Go (g : TG') (c : TT') (w1 : TI') (g1 : TG') (c1 : TT') (e : TE') (vs vs1 : List Nat) (Q : List D → Rho → Prop) : List D → List D → Rho → Prop
  | [], acc, ρ => Q acc ρ
  | d :: ds, acc, ρ => g d ρ fun ρ1 => c ρ1 fun b ρ2 => if b = true then w1 ρ2 fun es ρ3 => lcGo g1 c1 e vs1 (fun acc' ρ4 => lc2Go g c w1 g1 c1 e vs vs1 Q ds acc' (nos ρ4 vs)) es acc (nos ρ3 vs1) else lc2Go g c w1 g1 c1 e vs vs1 Q ds acc (nos ρ2 vs)
def lc2 (w : TI') (g : TG') (c : TT') (w1 : TI') (g1 : TG') (c1 : TT') (e : TE') (vs vs1 : List Nat) : TF' := fun ρ Q => w ρ fun ds ρ1 => lc2Go g c w1 g1 c1 e vs vs1 (fun acc ρ' => Q acc (back ρ1 ρ' vs)) ds [] (nos ρ1 vs)
theorem wipe_in2 {σ : L2.St} {j : Nat} {vs : List Nat} (h : j ∈ vs) : (wipe σ vs)[j]? = if j < σ.length then some none else none := by
  by_cases hl : j < σ.length
  · rw [if_pos hl]; exact wipe_in h hl
  · rw [if_neg hl]; exact List.getElem?_eq_none (by rw [wipe_length]; omega)
theorem wipe_sub {σ : L2.St} {vs vs1 : List Nat} (h : ∀ j, j ∈ vs1 → j ∈ vs) : wipe (wipe σ vs1) vs = wipe σ vs := by
  refine List.ext_getElem? fun j => ?_
  by_cases m : j ∈ vs
  · rw [wipe_in2 m, wipe_in2 m, wipe_length]
  · rw [wipe_out m, wipe_out m, wipe_out fun k => m (h j k)]
section
variable {X : Cx} {G : Gm} {B : Bs}
/-- where a comprehension's list stands between the turns -/
structure At (G : Gm) (B : Bs) (M0 F0 : Addr → Prop) (H0 : Hp) (σ : L2.St) (Dd : Addr) (F : Addr → Prop) (H : Hp) (ρ : Rho) (acc : List D) : Prop where
  S : SR G B F σ H ρ
  e : Ext M0 F0 H0 (ownA σ ρ) F H
  x : ∃ xs, H Dd = some (.lst xs) ∧ RepA G F H xs acc
  nf : ¬ F Dd
  no : ¬ ownA σ ρ Dd
theorem At.new {M0 F0 : Addr → Prop} {H0 : Hp} {σ : L2.St} {Dd : Addr} {F F' : Addr → Prop} {H H' : Hp} {ρ : Rho} {acc : List D} (a : At G B M0 F0 H0 σ Dd F H ρ acc) (n : New F H F' H') : At G B M0 F0 H0 σ Dd F' H' ρ acc := by
  obtain ⟨xs, hx, rx⟩ := a.x
  exact ⟨a.S.new n, a.e.trans (n.ext (M := ownA σ ρ)), ⟨xs, n.kp _ _ hx, RepA.ext n.keep rx⟩, fun f => (n.fr _ f).elim a.nf (fun z => by rw [hx] at z; cases z), a.no⟩
theorem At.ext {M0 F0 : Addr → Prop} {H0 : Hp} {σ : L2.St} {Dd : Addr} {F F' : Addr → Prop} {H H' : Hp} {ρ ρ' : Rho} {acc : List D} (a : At G B M0 F0 H0 σ Dd F H ρ acc) (S' : SR G B F' σ H' ρ') (e : Ext (ownA σ ρ) F H (ownA σ ρ') F' H') : At G B M0 F0 H0 σ Dd F' H' ρ' acc := by
  obtain ⟨xs, hx, rx⟩ := a.x
  exact ⟨S', a.e.trans e, ⟨xs, e.oth _ _ hx a.no, RepA.ext e.k rx⟩, e.nof a.nf a.no hx, fun z => (e.own _ z).elim a.no fun q => by rw [hx] at q; cases q⟩
theorem At.st {M0 F0 : Addr → Prop} {H0 : Hp} {σ σ' : L2.St} {Dd : Addr} {F : Addr → Prop} {H : Hp} {ρ ρ' : Rho} {acc : List D} (a : At G B M0 F0 H0 σ Dd F H ρ acc) (S' : SR G B F σ' H ρ') (o : ∀ b, ownA σ' ρ' b → ownA σ ρ b) : At G B M0 F0 H0 σ' Dd F H ρ' acc :=
  ⟨S', a.e.owns fun b m => .inl (o b m), a.x, a.nf, fun z => a.no (o _ z)⟩
theorem At.wipe {M0 F0 : Addr → Prop} {H0 : Hp} {σ : L2.St} {Dd : Addr} {F : Addr → Prop} {H : Hp} {ρ : Rho} {acc : List D} (a : At G B M0 F0 H0 σ Dd F H ρ acc) (vs : List Nat) : At G B M0 F0 H0 (L2.wipe σ vs) Dd F H (nos ρ vs) acc := a.st (a.S.wipe vs) fun b m => own_wipe m
theorem At.app {M0 F0 : Addr → Prop} {H0 : Hp} {σ : L2.St} {Dd : Addr} {F : Addr → Prop} {H : Hp} {ρ : Rho} {acc : List D} {v : V} {d : D} (a : At G B M0 F0 H0 σ Dd F H ρ acc) (h0 : B.H0 Dd = none) (hD : H0 Dd = none) (r : Rep G F H v d) {xs : List V} (hx : H Dd = some (.lst xs)) : At G B M0 F0 H0 σ Dd F (upd H Dd (.lst (xs ++ [v]))) ρ (acc ++ [d]) := by
  obtain ⟨xs', hx', rx⟩ := a.x
  rw [hx] at hx'
  cases hx'
  have kw := keep_write (ys := xs ++ [v]) a.nf hx
  exact ⟨a.S.side a.nf a.no h0 hx, a.e.side hD, ⟨_, upd_same, (RepA.ext kw rx).append (.cons (Rep.ext kw r) .nil)⟩, a.nf, a.no⟩
theorem pf_lc2 {elt tg iter tg1 iter1 : Expr} {ifs ifs1 : List Expr} {scope : Scope} {own : List (Str × Nat)} {ts ts1 : List Nat} {pos : Pos} {w w1 : TI'} {g g1 : TG'} {c c1 : TT'} {e : TE'} (hc : X.calm = true) (hN : X.N.Nodup) (hi : PDI X G B tg iter w) (bk : BlkOk X.N X.env.scope scope own)
    (hg : ∀ (s : Shared) (H : Hp) (C : Addr) (cl : List (Str × Addr)) (fp : List Addr), PDG (X.blk s H scope (compEnvC scope cl C X.env) fp) G B tg ts g) (ht : ∀ (s : Shared) (H : Hp) (C : Addr) (cl : List (Str × Addr)) (fp : List Addr), PDTs (X.blk s H scope (compEnvC scope cl C X.env) fp) G B ifs c)
    (hi1 : ∀ (s : Shared) (H : Hp) (C : Addr) (cl : List (Str × Addr)) (fp : List Addr), PDI (X.blk s H scope (compEnvC scope cl C X.env) fp) G B tg1 iter1 w1)
    (hg1 : ∀ (s : Shared) (H : Hp) (C : Addr) (cl : List (Str × Addr)) (fp : List Addr), PDG (X.blk s H scope (compEnvC scope cl C X.env) fp) G B tg1 ts1 g1) (ht1 : ∀ (s : Shared) (H : Hp) (C : Addr) (cl : List (Str × Addr)) (fp : List Addr), PDTs (X.blk s H scope (compEnvC scope cl C X.env) fp) G B ifs1 c1)
    (he : ∀ (s : Shared) (H : Hp) (C : Addr) (cl : List (Str × Addr)) (fp : List Addr), PD (X.blk s H scope (compEnvC scope cl C X.env) fp) G B elt e) (hts : ∀ j, j ∈ ts → j ∈ own.map (·.2) := by decide) (hts1 : ∀ j, j ∈ ts1 → j ∈ own.map (·.2) := by decide) (hs : ∀ x, foldedSetIterable iter X.env x = pure x := by intro _; rfl) (hs1 : ∀ env x, foldedSetIterable iter1 env x = pure x := by intro _ _; rfl) :
    PF X G B (.ListComp elt [⟨tg, iter, ifs, 0⟩, ⟨tg1, iter1, ifs1, 0⟩] scope pos) (lc2 w g c w1 g1 c1 e (own.map (·.2)) ts1) := by
  refine pe_imp (pe_lc2 (vs1 := ts1) hc hN hi bk hts1 hg ht hi1 hg1 ht1 he hs hs1) fun σ H Q ⟨F, ρ, P, S, h, k⟩ => ?_
  refine ⟨F, ρ, _, S, h, fun ds ρ1 h1 J H1 F1 S1 e1 Wk Dd hD => ?_⟩
  generalize own.map (·.2) = vs at h1 hts hts1 ⊢
  have hDs : H Dd = none := by
    cases q : H Dd with
    | none => rfl
    | some o =>
      obtain ⟨o', q'⟩ := e1.tk Dd o q
      rw [hD] at q'; cases q'
  have h0 : B.H0 Dd = none := S1.h0 hD
  have S1w := S1.wipe vs
  have n0 := New.tup (o := .lst []) S1w.trk hD
  have a0 : At G B (ownA (wipe σ vs) (nos ρ1 vs)) F1 H1 (wipe σ vs) Dd F1 (upd H1 Dd (.lst [])) (nos ρ1 vs) [] := ⟨S1w.new n0, (Ext.refl _ _ _).side hD, ⟨[], upd_same, .nil⟩, S1.nof hD, S1w.noown hD⟩
  refine ⟨fun i m H2 => m = ds.length - i ∧ i ≤ ds.length ∧ ∃ (F2 : Addr → Prop) (ρ2 : Rho) (acc : List D), At G B (ownA (wipe σ vs) (nos ρ1 vs)) F1 H1 (wipe σ vs) Dd F2 H2 ρ2 acc ∧
    lc2Go g c w1 g1 c1 e vs ts1 (fun acc ρ' => P acc (back ρ1 ρ' vs)) (ds.drop i) acc ρ2, ⟨ds.length, rfl, Nat.zero_le _, F1, nos ρ1 vs, [], a0, h1⟩, ?_⟩
  rintro i m H2 ⟨rfl, hl, F2, ρ2, acc, a2, h2⟩
  obtain ⟨w1', w2⟩ := Wk i F2 H2 a2.e.k a2.S.trk
  by_cases hlt : i < ds.length
  · have ed : ds[i]? = some ds[i] := List.getElem?_eq_getElem hlt
    rw [List.drop_eq_getElem_cons hlt] at h2
    obtain ⟨hgo, hy⟩ := w1' _ ed
    refine .inr ⟨hgo, fun H3 => ∃ (F2 : Addr → Prop) (ρ2 : Rho) (acc : List D), At G B (ownA (wipe σ vs) (nos ρ1 vs)) F1 H1 (wipe σ vs) Dd F2 H3 ρ2 acc ∧
      lc2Go g c w1 g1 c1 e vs ts1 (fun acc ρ' => P acc (back ρ1 ρ' vs)) (ds.drop (i + 1)) acc ρ2, fun H3 h3 => ⟨ds.length - (i + 1), by omega, rfl, hlt, h3⟩, fun x H3 y3 => ?_⟩
    obtain ⟨F3, n3, r3⟩ := hy x H3 y3
    have a3 := a2.new n3
    refine ⟨F3, ρ2, _, _, a3.S, r3, h2, fun ρ4 h4 σ4 S4 o4 t4 => ⟨wipe_eq t4 hts |>.trans (wipe_wipe σ vs), F3, ρ4, _, S4, h4, fun b ρ5 h5 H5 F5 S5 e5 => ?_⟩⟩
    have wq : wipe σ4 vs = wipe σ vs := (wipe_eq t4 hts).trans (wipe_wipe σ vs)
    have a5 := (a3.st S4 o4).ext S5 e5
    cases b with
    | true =>
      rw [if_pos rfl] at h5
      refine iteT ⟨F5, ρ5, _, S5, h5, fun es ρ6 h6 J1 H6 F6 S6 e6 Wk1 => ?_⟩
      have a6 := (a5.ext S6 e6)
      have a6w := a6.wipe ts1
      refine ⟨fun j m H7 => m = es.length - j ∧ j ≤ es.length ∧ ∃ (F7 : Addr → Prop) (ρ7 : Rho) (acc7 : List D), At G B (ownA (wipe σ vs) (nos ρ1 vs)) F1 H1 (wipe σ4 ts1) Dd F7 H7 ρ7 acc7 ∧ Keep F6 H6 F7 H7 ∧
        lcGo g1 c1 e ts1 (fun acc' ρ4 => lc2Go g c w1 g1 c1 e vs ts1 (fun acc ρ' => P acc (back ρ1 ρ' vs)) (ds.drop (i + 1)) acc' (nos ρ4 vs)) (es.drop j) acc7 ρ7, ⟨es.length, rfl, Nat.zero_le _, F6, nos ρ6 ts1, acc, a6w, Keep.refl _ _, h6⟩, ?_⟩
      rintro j m H7 ⟨rfl, hl7, F7, ρ7, acc7, a7, k7, h7⟩
      obtain ⟨v1, v2⟩ := Wk1 j F7 H7 k7 a7.S.trk
      by_cases hlt7 : j < es.length
      · have ed7 : es[j]? = some es[j] := List.getElem?_eq_getElem hlt7
        rw [List.drop_eq_getElem_cons hlt7] at h7
        obtain ⟨hgo7, hy7⟩ := v1 _ ed7
        refine .inr ⟨hgo7, fun H8 => ∃ (F7 : Addr → Prop) (ρ7 : Rho) (acc7 : List D), At G B (ownA (wipe σ vs) (nos ρ1 vs)) F1 H1 (wipe σ4 ts1) Dd F7 H8 ρ7 acc7 ∧ Keep F6 H6 F7 H8 ∧
          lcGo g1 c1 e ts1 (fun acc' ρ4 => lc2Go g c w1 g1 c1 e vs ts1 (fun acc ρ' => P acc (back ρ1 ρ' vs)) (ds.drop (i + 1)) acc' (nos ρ4 vs)) (es.drop (j + 1)) acc7 ρ7, fun H8 h8 => ⟨es.length - (j + 1), by omega, rfl, hlt7, h8⟩, fun x H8 y8 => ?_⟩
        obtain ⟨F8, n8, r8⟩ := hy7 x H8 y8
        have a8 := a7.new n8
        refine ⟨F8, ρ7, _, _, a8.S, r8, h7, fun ρ9 h9 σ9 S9 o9 t9 => ⟨(wipe_eq t9 fun _ h => h).trans (wipe_wipe σ4 ts1), F8, ρ9, _, S9, h9, fun b ρ10 h10 H10 F10 S10 e10 => ?_⟩⟩
        have wq9 : wipe σ9 ts1 = wipe σ4 ts1 := (wipe_eq t9 fun _ h => h).trans (wipe_wipe σ4 ts1)
        have a10 := (a8.st S9 o9).ext S10 e10
        have k10 := (k7.trans n8.keep).trans e10.k
        cases b with
        | true =>
          rw [if_pos rfl] at h10
          refine iteT ⟨F10, ρ10, _, S10, h10, fun x ρ11 h11 v H11 F11 S11 r11 e11 => ?_⟩
          cases x with
          | o j => exact h11.elim
          | d d =>
            obtain ⟨hz, h11⟩ := ite_ex h11
            have a11 := a10.ext S11 e11
            obtain ⟨xs, hx, rx⟩ := a11.x
            have a12 := (a11.app h0 hD r11 hx).wipe ts1
            rw [wq9] at a12
            exact ⟨xs, hx, by rw [rx.length]; exact hz, F11, nos ρ11 ts1, acc7 ++ [d], a12, (k10.trans e11.k).trans (keep_write a11.nf hx), h11⟩
        | false =>
          rw [if_neg Bool.false_ne_true] at h10
          have a12 := a10.wipe ts1
          rw [wq9] at a12
          exact iteF ⟨F10, nos ρ10 ts1, acc7, a12, k10, h10⟩
      · have ej : j = es.length := by omega
        subst ej
        rw [List.drop_length] at h7
        have a8 := a7.wipe vs
        rw [wipe_sub hts1, wq] at a8
        exact .inl ⟨v2 (Nat.le_refl _), F7, nos ρ7 vs, acc7, a8, h7⟩
    | false =>
      rw [if_neg Bool.false_ne_true] at h5
      have a6 := a5.wipe vs
      rw [wq] at a6
      exact iteF ⟨F5, nos ρ5 vs, acc, a6, h5⟩
  · have ei : i = ds.length := by omega
    subst ei
    rw [List.drop_length] at h2
    obtain ⟨xs, hx, rx⟩ := a2.x
    have e2 := a2.e
    refine .inl ⟨w2 (Nat.le_refl _), k _ _ h2 Dd H2 F2 xs (a2.S.back S1 e2.k) hx rx a2.nf hDs h0 (fun z => a2.no (own_back z)) ?_⟩
    refine (e1.trans ⟨e2.k, fun a o ha n => e2.oth a o ha fun m => n (own_wipe m), fun a m => (e2.own a m).imp own_wipe id, e2.tk, fun a f => (e2.nm a f).imp id (·.imp own_wipe id)⟩).owns fun a m => .inl (own_back m)
end
end DL
set_option Elab.async false
set_option linter.all false
set_option maxRecDepth 100000
set_option maxHeartbeats 4000000
namespace DL
open PySem PySem.Spec PyProof.Rows L2
/-! ### what is known of the classes, by data -/
section
variable (P : Program) (w : World) (K : PySem.W.Frag) (mg : Str → Option Value) (base : Heap) (G : Gm) (k : Nat)
structure KnOp (op : Operator) (S : DSp) : Prop where
  ex : ∃ f, PySem.W.selfFirst K (G.ca 0) = true ∧ PySem.W.findIn K (.ref (G.ca 0)) (PySem.dunder op.info.2) = some (some (.ref f)) ∧ PySem.W.isFn K (.ref f) = true ∧ FnR P w K mg base CX0 k f (spOf G S)
structure KnEq (S : DSp) : Prop where
  ex : ∃ f, PySem.W.notFirst K (G.ca 0) (.ref (G.ca 0)) = true ∧ PySem.W.findIn K (.ref (G.ca 0)) "__eq__" = some (some (.ref f)) ∧ PySem.W.isFn K (.ref f) = true ∧ FnR P w K mg base CX0 k f (spOf G S)
structure KnP (f : Str) (S : DSp) : Prop where
  ex : ∃ (p g : Addr) (fd : FuncData) (ps : List Str), Cls K (G.ca 0) ∧ PropOf K (G.ca 0) f p g ∧ FnOk P w K mg base CX0 k g fd ps (spOf G S) ∧ Binds K fd ps []
structure KnMt (m : Str) (S : DSp) : Prop where
  ex : ∃ (f : Addr) (fd : FuncData) (ps : List Str), Cls K (G.ca 0) ∧ Meth K (G.ca 0) m f ∧ FnOk P w K mg base CX0 k f fd ps (spOf G S) ∧ Binds K fd ps []
structure KnCl (S : DSp) : Prop where
  ex : ∃ f, StX.CallO K (G.ca 0) f ∧ FnR P w K mg base CX0 k f (spOf G S)
structure KnMk (c : Nat) (x : Str) (S : DIn) : Prop where
  ex : ∃ f, mg x = some (.ref (G.ca c)) ∧ Mk K (G.ca c) f ∧ FnR P w K mg base CX0 k f (spMk G c S)
/-- a field of a class -/
structure KnFl (c : Nat) (f : Str) : Prop where
  cl : Cls K (G.ca c)
  na : NoAttr K (G.ca c) f
  ef : G.cf c = f
end
section
variable {X : Cx} {G : Gm} {B : Bs}
theorem pd_opK {op : Operator} {S : DSp} {k : Nat} {a b : Expr} {ta tb : TE'} {pos : Pos} (F : KnOp X.prog X.w X.K X.mg X.base G k op S) (hr : Room k X.A) (ha : PD X G B a ta) (hb : PD X G B b tb) : PD X G B (.BinOp a op b pos) (own2 S ta tb) := by
  obtain ⟨f, h1, h2, h3, h4⟩ := F.ex
  exact pd_own2 h1 h2 h3 h4 hr ha hb
theorem pd_eqK {S : DSp} {k : Nat} {a b : Expr} {ta tb : TE'} {pos : Pos} (F : KnEq X.prog X.w X.K X.mg X.base G k S) (hr : Room k X.A) (ha : PD X G B a ta) (hb : PD X G B b tb) : PD X G B (.Compare a [.Eq] [b] pos) (own2 S ta tb) := by
  obtain ⟨f, h1, h2, h3, h4⟩ := F.ex
  exact pd_ownEq h1 h2 h3 h4 hr ha hb
theorem pdt_eqK {S : DSp} {k : Nat} {a b : Expr} {ta tb : TE'} {pos : Pos} (F : KnEq X.prog X.w X.K X.mg X.base G k S) (hr : Room k X.A) (ha : PD X G B a ta) (hb : PD X G B b tb) : PDT X G B (.Compare a [.Eq] [b] pos) (tst (own2 S ta tb)) := by
  obtain ⟨f, h1, h2, h3, h4⟩ := F.ex
  exact pdt_ownEq h1 h2 h3 h4 hr ha hb
theorem pd_prpK {f : Str} {S : DSp} {k : Nat} {e : Expr} {ta : TE'} {pos : Pos} (F : KnP X.prog X.w X.K X.mg X.base G k f S) (hr : Room (k + 1) X.A) (he : PD X G B e ta) (hab : attributeBase e f X.env (eval e X.env) = eval e X.env := by rfl) : PD X G B (.Attribute e f pos) (prp S ta) := by
  obtain ⟨p, g, fd, ps, h1, h2, h3, h4⟩ := F.ex
  exact pd_prp he h1 h2 h3 hr h4 hab
theorem pd_mthK {m : Str} {S : DSp} {k : Nat} {o e : Expr} {es : List Expr} {ta : TE'} {t : TA'} {apos pos : Pos} {pl : Sem Bool} (F : KnMt X.prog X.w X.K X.mg X.base G k m S) (hne : (m == G.cf 0) = false) (hr : Room k X.A) (he : PD X G B o ta) (ha : PDA X G B (e :: es) t)
    (hst : starEach (e :: es) X.env = (false, eval e X.env) :: starEach es X.env := by rfl) (hpl : (backTo pos (starEach es X.env)).any (·.1) = false := by rfl)
    (ht : eval (.Call (.Attribute o m apos) (e :: es) [] pos) X.env = (do
      let ov ← eval o X.env
      standAt apos.atName
      let (f, first) ← holding [ov] (getMethod ov m pl)
      callWith pos f first (backTo pos (starEach (e :: es) X.env)) (backToKw pos (keywordEach [] X.env))) := by rfl) : PD X G B (.Call (.Attribute o m apos) (e :: es) [] pos) (mth S ta t) := by
  obtain ⟨f, fd, ps, h1, h2, h3, h4⟩ := F.ex
  exact pd_mth he h1 h2 (FnOk.r h3 h4) hr ha hne hst hpl ht
theorem pd_mthK0 {m : Str} {S : DSp} {k : Nat} {o : Expr} {ta : TE'} {apos pos : Pos} {pl : Sem Bool} (F : KnMt X.prog X.w X.K X.mg X.base G k m S) (hne : (m == G.cf 0) = false) (hr : Room k X.A) (he : PD X G B o ta)
    (ht : eval (.Call (.Attribute o m apos) [] [] pos) X.env = (do
      let ov ← eval o X.env
      standAt apos.atName
      let (f, first) ← holding [ov] (getMethod ov m pl)
      callWith pos f first (backTo pos (starEach [] X.env)) (backToKw pos (keywordEach [] X.env))) := by rfl) : PD X G B (.Call (.Attribute o m apos) [] [] pos) (mth S ta aN) := by
  obtain ⟨f, fd, ps, h1, h2, h3, h4⟩ := F.ex
  exact pd_mth0 he h1 h2 h3 h4 hr hne ht
theorem pd_callK {S : DSp} {k : Nat} {o e : Expr} {es : List Expr} {ta : TE'} {t : TA'} {pos : Pos} (F : KnCl X.prog X.w X.K X.mg X.base G k S) (hr : Room k X.A) (he : PD X G B o ta) (ha : PDA X G B (e :: es) t)
    (ht : eval (.Call o (e :: es) [] pos) X.env = (do callWith pos (← eval o X.env) [] (backTo pos (starEach (e :: es) X.env)) (backToKw pos (keywordEach [] X.env))) := by rfl)
    (hst : starEach (e :: es) X.env = (false, eval e X.env) :: starEach es X.env := by rfl) (hpl : (backTo pos (starEach es X.env)).any (·.1) = false := by rfl) : PD X G B (.Call o (e :: es) [] pos) (mth S ta t) := by
  obtain ⟨f, h1, h2⟩ := F.ex
  exact pd_callO he h1 h2 hr ha ht hst hpl
theorem pd_makeK {c : Nat} {S : DIn} {k : Nat} {x : Str} {e : Expr} {es : List Expr} {t : TA'} {p pos : Pos} (F : KnMk X.prog X.w X.K X.mg X.base G k c x S) (hr : Room (k + 1) X.A) (ha : PDA X G B (e :: es) t) (hg : Gl X x := by rfl) (hdb : (x == ("__debug__" : Str)) = false := by decide)
    (he : starEach (e :: es) X.env = (false, eval e X.env) :: starEach es X.env := by rfl) (hpl : (backTo pos (starEach es X.env)).any (·.1) = false := by rfl) : PD X G B (.Call (.Name x p) (e :: es) [] pos) (mk c S t) := by
  obtain ⟨f, h1, h2, h3⟩ := F.ex
  exact pd_make (C := G.ca c) h2 h3 hr h1 ha hg hdb he hpl
theorem pd_makeK0 {c : Nat} {S : DIn} {k : Nat} {x : Str} {p pos : Pos} (F : KnMk X.prog X.w X.K X.mg X.base G k c x S) (hr : Room (k + 1) X.A) (hg : Gl X x := by rfl) (hdb : (x == ("__debug__" : Str)) = false := by decide) : PD X G B (.Call (.Name x p) [] [] pos) (mk c S aN) := by
  obtain ⟨f, h1, h2, h3⟩ := F.ex
  exact pd_make0 h2 h3 hr h1 hg hdb
theorem pd_fldK {c : Nat} {e : Expr} {t : TE'} {f : Str} {pos : Pos} (F : KnFl X.K G c f) (he : PD X G B e t) (hb : attributeBase e f X.env (eval e X.env) = eval e X.env := by rfl) : PD X G B (.Attribute e f pos) (un (fldD c) t) := pd_fld he F.cl F.na F.ef hb
/-! what stands for the operators -/
theorem pd_add {a b : Expr} {ta tb : TE'} {pos : Pos} (ha : PD X G B a ta) (hb : PD X G B b tb) : PD X G B (.BinOp a .Add b pos) (bin addD ta tb) := pd_op opr_add opd_add ha hb
theorem pd_sub {a b : Expr} {ta tb : TE'} {pos : Pos} (ha : PD X G B a ta) (hb : PD X G B b tb) : PD X G B (.BinOp a .Sub b pos) (bin subI ta tb) := pd_op op_sub opd_subI ha hb
theorem pd_mul {a b : Expr} {ta tb : TE'} {pos : Pos} (ha : PD X G B a ta) (hb : PD X G B b tb) : PD X G B (.BinOp a .Mult b pos) (bin mulI ta tb) := pd_op op_mul opd_mulI ha hb
theorem pd_pow {a b : Expr} {ta tb : TE'} {pos : Pos} (ha : PD X G B a ta) (hb : PD X G B b tb) : PD X G B (.BinOp a .Pow b pos) (bin powI ta tb) := pd_op op_pow opd_powI ha hb
theorem pd_fdiv {a b : Expr} {ta tb : TE'} {pos : Pos} (ha : PD X G B a ta) (hb : PD X G B b tb) : PD X G B (.BinOp a .FloorDiv b pos) (bin divI ta tb) := pd_op op_fdivW opd_divI ha hb
theorem pd_mod {a b : Expr} {ta tb : TE'} {pos : Pos} (ha : PD X G B a ta) (hb : PD X G B b tb) : PD X G B (.BinOp a .Mod b pos) (bin modI ta tb) := pd_op op_mod opd_modI ha hb
theorem pd_neg {a : Expr} {ta : TE'} {pos : Pos} (ha : PD X G B a ta) : PD X G B (.UnaryOp .USub a pos) (un negI ta) := pd_un un_neg opd_neg ha
theorem pd_lt {a b : Expr} {ta tb : TE'} {pos : Pos} (ha : PD X G B a ta) (hb : PD X G B b tb) : PD X G B (.Compare a [.Lt] [b] pos) (bin ltI ta tb) := pd_cmp op_lt opd_ltI ha hb
theorem pd_le {a b : Expr} {ta tb : TE'} {pos : Pos} (ha : PD X G B a ta) (hb : PD X G B b tb) : PD X G B (.Compare a [.LtE] [b] pos) (bin leI ta tb) := pd_cmp op_le opd_leI ha hb
theorem pd_gt {a b : Expr} {ta tb : TE'} {pos : Pos} (ha : PD X G B a ta) (hb : PD X G B b tb) : PD X G B (.Compare a [.Gt] [b] pos) (bin gtI ta tb) := pd_cmp op_gt opd_gtI ha hb
theorem pd_ge {a b : Expr} {ta tb : TE'} {pos : Pos} (ha : PD X G B a ta) (hb : PD X G B b tb) : PD X G B (.Compare a [.GtE] [b] pos) (bin geI ta tb) := pd_cmp op_ge opd_geI ha hb
theorem pdt_lt {a b : Expr} {ta tb : TE'} {pos : Pos} (ha : PD X G B a ta) (hb : PD X G B b tb) : PDT X G B (.Compare a [.Lt] [b] pos) (tst (bin ltI ta tb)) := pdt_cmp op_lt opd_ltI ha hb
theorem pdt_le {a b : Expr} {ta tb : TE'} {pos : Pos} (ha : PD X G B a ta) (hb : PD X G B b tb) : PDT X G B (.Compare a [.LtE] [b] pos) (tst (bin leI ta tb)) := pdt_cmp op_le opd_leI ha hb
theorem pdt_gt {a b : Expr} {ta tb : TE'} {pos : Pos} (ha : PD X G B a ta) (hb : PD X G B b tb) : PDT X G B (.Compare a [.Gt] [b] pos) (tst (bin gtI ta tb)) := pdt_cmp op_gt opd_gtI ha hb
theorem pdt_ge {a b : Expr} {ta tb : TE'} {pos : Pos} (ha : PD X G B a ta) (hb : PD X G B b tb) : PDT X G B (.Compare a [.GtE] [b] pos) (tst (bin geI ta tb)) := pdt_cmp op_ge opd_geI ha hb
theorem room_eq {k : Nat} {A : Around} (hr : Room k A) : A.units + 64 < cLine := by
  have := hr.un
  omega
theorem pd_eq {k : Nat} {a b : Expr} {ta tb : TE'} {pos : Pos} (hG : X.K = G.K) (hr : Room k X.A) (ha : PD X G B a ta) (hb : PD X G B b tb) : PD X G B (.Compare a [.Eq] [b] pos) (bin eqD ta tb) := pd_cmp (r := rEqD G.K) (hG ▸ op_eqD (room_eq hr)) opd_eq ha hb
theorem pd_ne {k : Nat} {a b : Expr} {ta tb : TE'} {pos : Pos} (hG : X.K = G.K) (hr : Room k X.A) (ha : PD X G B a ta) (hb : PD X G B b tb) : PD X G B (.Compare a [.NotEq] [b] pos) (bin neD ta tb) := pd_cmp (r := rNeD G.K) (hG ▸ op_neD (room_eq hr)) opd_ne ha hb
theorem pdt_eq {k : Nat} {a b : Expr} {ta tb : TE'} {pos : Pos} (hG : X.K = G.K) (hr : Room k X.A) (ha : PD X G B a ta) (hb : PD X G B b tb) : PDT X G B (.Compare a [.Eq] [b] pos) (tst (bin eqD ta tb)) := pdt_cmp (r := rEqD G.K) (hG ▸ op_eqD (room_eq hr)) opd_eq ha hb
theorem pdt_ne {k : Nat} {a b : Expr} {ta tb : TE'} {pos : Pos} (hG : X.K = G.K) (hr : Room k X.A) (ha : PD X G B a ta) (hb : PD X G B b tb) : PDT X G B (.Compare a [.NotEq] [b] pos) (tst (bin neD ta tb)) := pdt_cmp (r := rNeD G.K) (hG ▸ op_neD (room_eq hr)) opd_ne ha hb
theorem pd_sx {a b : Expr} {ta tb : TE'} {pos : Pos} (ha : PD X G B a ta) (hb : PD X G B b tb) (hs : PlainIx b := by exact fun _ _ => rfl) : PD X G B (.Subscript a b pos) (bin ixD ta tb) := pd_ix ix_seq opd_ix ha hb hs
end
/-- what the builtins' names are: none of the text's own -/
structure Bi (mg : Str → Option Value) : Prop where
  len : mg "len" = none
  sum : mg "sum" = none
  max : mg "max" = none
  min : mg "min" = none
  abs : mg "abs" = none
  sorted : mg "sorted" = none
  set : mg "set" = none
  tuple : mg "tuple" = none
  list : mg "list" = none
  range : mg "range" = none
  zip : mg "zip" = none
  enumerate : mg "enumerate" = none
  isinstance : mg "isinstance" = none
  str : mg "str" = none
  int : mg "int" = none
  bool : mg "bool" = none
  all : mg "all" = none
  any : mg "any" = none
section
variable {X : Cx} {G : Gm} {B : Bs}
theorem pd_len {e : Expr} {t : TA'} {p pos : Pos} (b : Bi X.mg) (ha : PDA X G B [e] t) (hg : Gl X "len" := by rfl) (he : starEach [e] X.env = (false, eval e X.env) :: starEach [] X.env := by rfl) (hpl : (backTo pos (starEach [] X.env)).any (·.1) = false := by rfl) : PD X G B (.Call (.Name "len" p) [e] [] pos) (cal lenD t) := pd_callB call_len cald_len b.len (by decide +kernel) ha hg (by decide) (by decide) he hpl
theorem pd_abs {e : Expr} {t : TA'} {p pos : Pos} (b : Bi X.mg) (ha : PDA X G B [e] t) (hg : Gl X "abs" := by rfl) (he : starEach [e] X.env = (false, eval e X.env) :: starEach [] X.env := by rfl) (hpl : (backTo pos (starEach [] X.env)).any (·.1) = false := by rfl) : PD X G B (.Call (.Name "abs" p) [e] [] pos) (cal absI t) := pd_callB call_abs cald_abs b.abs PyProof.Rows.boot_abs ha hg (by decide) (by decide) he hpl
theorem pd_sum {e : Expr} {t : TA'} {p pos : Pos} (hc : X.calm = true) (b : Bi X.mg) (ha : PDA X G B [e] t) (hg : Gl X "sum" := by rfl) (he : starEach [e] X.env = (false, eval e X.env) :: starEach [] X.env := by rfl) (hpl : (backTo pos (starEach [] X.env)).any (·.1) = false := by rfl) : PD X G B (.Call (.Name "sum" p) [e] [] pos) (cal sumD t) := pd_callB (cr_sum hc) cald_sum b.sum PyProof.Rows.boot_sum ha hg (by decide) (by decide) he hpl
theorem pd_all {e : Expr} {t : TA'} {p pos : Pos} (hc : X.calm = true) (b : Bi X.mg) (ha : PDA X G B [e] t) (hg : Gl X "all" := by rfl) (he : starEach [e] X.env = (false, eval e X.env) :: starEach [] X.env := by rfl) (hpl : (backTo pos (starEach [] X.env)).any (·.1) = false := by rfl) : PD X G B (.Call (.Name "all" p) [e] [] pos) (cal allD t) := pd_callB (cr_all hc) cald_all b.all PyProof.Rows.boot_all ha hg (by decide) (by decide) he hpl
theorem pd_any {e : Expr} {t : TA'} {p pos : Pos} (hc : X.calm = true) (b : Bi X.mg) (ha : PDA X G B [e] t) (hg : Gl X "any" := by rfl) (he : starEach [e] X.env = (false, eval e X.env) :: starEach [] X.env := by rfl) (hpl : (backTo pos (starEach [] X.env)).any (·.1) = false := by rfl) : PD X G B (.Call (.Name "any" p) [e] [] pos) (cal anyD t) := pd_callB (cr_any hc) cald_any b.any PyProof.Rows.boot_any ha hg (by decide) (by decide) he hpl
theorem pd_max2 {e e2 : Expr} {t : TA'} {p pos : Pos} (hc : X.calm = true) (b : Bi X.mg) (ha : PDA X G B [e, e2] t) (hg : Gl X "max" := by rfl) (he : starEach [e, e2] X.env = (false, eval e X.env) :: starEach [e2] X.env := by rfl) (hpl : (backTo pos (starEach [e2] X.env)).any (·.1) = false := by rfl) : PD X G B (.Call (.Name "max" p) [e, e2] [] pos) (cal maxI t) := pd_callB (call_max2 hc) cald_i2 b.max PyProof.Rows.boot_max ha hg (by decide) (by decide) he hpl
theorem pd_min2 {e e2 : Expr} {t : TA'} {p pos : Pos} (hc : X.calm = true) (b : Bi X.mg) (ha : PDA X G B [e, e2] t) (hg : Gl X "min" := by rfl) (he : starEach [e, e2] X.env = (false, eval e X.env) :: starEach [e2] X.env := by rfl) (hpl : (backTo pos (starEach [e2] X.env)).any (·.1) = false := by rfl) : PD X G B (.Call (.Name "min" p) [e, e2] [] pos) (cal minI t) := pd_callB (call_min2 hc) cald_i2 b.min PyProof.Rows.boot_min ha hg (by decide) (by decide) he hpl
theorem pf_list {e : Expr} {t : TA'} {p pos : Pos} (b : Bi X.mg) (ha : PDA X G B [e] t) (hg : Gl X "list" := by rfl) (he : starEach [e] X.env = (false, eval e X.env) :: starEach [] X.env := by rfl) (hpl : (backTo pos (starEach [] X.env)).any (·.1) = false := by rfl) : PF X G B (.Call (.Name "list" p) [e] [] pos) (calF lstD t) := pf_callTy call_list_of calf_list b.list PyProof.Rows.boot_list ha hg (by decide) (by decide) he hpl
theorem pd_tuple {e : Expr} {t : TA'} {p pos : Pos} (b : Bi X.mg) (ha : PDA X G B [e] t) (hg : Gl X "tuple" := by rfl) (he : starEach [e] X.env = (false, eval e X.env) :: starEach [] X.env := by rfl) (hpl : (backTo pos (starEach [] X.env)).any (·.1) = false := by rfl) : PD X G B (.Call (.Name "tuple" p) [e] [] pos) (cal tupD t) := pd_callTy call_tuple_of cald_tuple b.tuple PyProof.Rows.boot_tuple ha hg (by decide) (by decide) he hpl
theorem pf_srtP {e : Expr} {t : TA'} {p pos : Pos} (b : Bi X.mg) (ha : PDA X G B [e] t) (hg : Gl X "sorted" := by rfl) (he : starEach [e] X.env = (false, eval e X.env) :: starEach [] X.env := by rfl) (hpl : (backTo pos (starEach [] X.env)).any (·.1) = false := by rfl) : PF X G B (.Call (.Name "sorted" p) [e] [] pos) (srtP t) := pf_sortedP rfl b.sorted PyProof.Rows.boot_sorted ha hg (by decide) (by decide) he hpl
theorem pf_srtS {e : Expr} {t : TA'} {p p2 pos pos2 : Pos} (hc : X.calm = true) (b : Bi X.mg) (ha : PDA X G B [e] t) (hg : Gl X "sorted" := by rfl) (hg2 : Gl X "set" := by rfl) (he : starEach [e] X.env = (false, eval e X.env) :: starEach [] X.env := by rfl) (hpl : (backTo pos2 (starEach [] X.env)).any (·.1) = false := by rfl)
    (he2 : starEach [.Call (.Name "set" p2) [e] [] pos2] X.env = (false, eval (.Call (.Name "set" p2) [e] [] pos2) X.env) :: starEach [] X.env := by rfl) (hpl2 : (backTo pos (starEach [] X.env)).any (·.1) = false := by rfl) : PF X G B (.Call (.Name "sorted" p) [.Call (.Name "set" p2) [e] [] pos2] [] pos) (srtS t) :=
  pf_sortedSet rfl rfl hc b.sorted b.set PyProof.Rows.boot_sorted PyProof.Rows.boot_set ha hg hg2 (by decide) (by decide) (by decide) (by decide) he hpl he2 hpl2
theorem pd_isT {T : String} {x : Str} {e : Expr} {t : TE'} {p pc pos : Pos} (hG : X.K = G.K) (b : Bi X.mg) (hx : X.mg x = none) (hv : bootBuiltins x = some (.type T)) (he : PD X G B e t) (hg : Gl X "isinstance" := by rfl) (hgx : Gl X x := by rfl) (hn : x ≠ "__name__" := by decide) (hd : (x == ("__debug__" : Str)) = false := by decide)
    (h1 : starEach [e, .Name x pc] X.env = (false, eval e X.env) :: starEach [.Name x pc] X.env := by rfl) (h2 : starEach [.Name x pc] X.env = (false, eval (.Name x pc) X.env) :: starEach [] X.env := by rfl) (hpl : (backTo pos (starEach [.Name x pc] X.env)).any (·.1) = false := by rfl) : PD X G B (.Call (.Name "isinstance" p) [e, .Name x pc] [] pos) (isi (tyT T) t) :=
  pd_isi hG isi_ty (.ty T) b.isinstance he (pe_tyName hx hv hgx hn hd) hg h1 h2 hpl
theorem pd_isC {c : Nat} {f : D → Option Bool} {x : Str} {e : Expr} {t : TE'} {p pc pos : Pos} (hG : X.K = G.K) (b : Bi X.mg) (hx : X.mg x = some (.ref (G.ca c))) (hI : IsiOk G (.ref (G.ca c)) f) (he : PD X G B e t) (hg : Gl X "isinstance" := by rfl) (hgx : Gl X x := by rfl) (hd : (x == ("__debug__" : Str)) = false := by decide)
    (h1 : starEach [e, .Name x pc] X.env = (false, eval e X.env) :: starEach [.Name x pc] X.env := by rfl) (h2 : starEach [.Name x pc] X.env = (false, eval (.Name x pc) X.env) :: starEach [] X.env := by rfl) (hpl : (backTo pos (starEach [.Name x pc] X.env)).any (·.1) = false := by rfl) : PD X G B (.Call (.Name "isinstance" p) [e, .Name x pc] [] pos) (isi f t) :=
  pd_isi hG hI (.own (G.ca c)) b.isinstance he (pe_clName hx hgx hd) hg h1 h2 hpl
end
end DL
set_option Elab.async false
set_option linter.all false
set_option maxRecDepth 100000
namespace CV
/-! covers as lists of spans, as functions of payments -/
def pay (l : List (Int × Int)) (x : Int) : Int := (l.map fun p => max 0 (min x p.2 - p.1)).sum
def Cov (l : List (Int × Int)) (t : Int) : Prop := ∃ p ∈ l, p.1 < t ∧ t ≤ p.2
def NormF : Int → List (Int × Int) → Prop
  | _, [] => True
  | a, p :: l => a < p.1 ∧ p.1 < p.2 ∧ NormF p.2 l
abbrev Norm (l : List (Int × Int)) : Prop := NormF (-1) l
def Bd (M : Int) (l : List (Int × Int)) : Prop := ∀ p ∈ l, p.2 ≤ M

theorem pay_nil (x : Int) : pay [] x = 0 := rfl
theorem pay_cons (p : Int × Int) (l : List (Int × Int)) (x : Int) : pay (p :: l) x = max 0 (min x p.2 - p.1) + pay l x := by
  unfold pay
  rw [List.map_cons, List.sum_cons]
theorem cov_nil {t : Int} : ¬ Cov [] t := fun ⟨_, h, _⟩ => by simp at h
theorem cov_cons {p : Int × Int} {l : List (Int × Int)} {t : Int} : Cov (p :: l) t ↔ (p.1 < t ∧ t ≤ p.2) ∨ Cov l t := by
  constructor
  · rintro ⟨q, h, h1, h2⟩
    rcases List.mem_cons.mp h with rfl | h
    · exact .inl ⟨h1, h2⟩
    · exact .inr ⟨q, h, h1, h2⟩
  · rintro (h | ⟨q, h, h1, h2⟩)
    · exact ⟨p, List.mem_cons_self, h⟩
    · exact ⟨q, List.mem_cons_of_mem _ h, h1, h2⟩
theorem cov_app {l m : List (Int × Int)} {t : Int} : Cov (l ++ m) t ↔ Cov l t ∨ Cov m t := by
  constructor
  · rintro ⟨q, h, z⟩
    rcases List.mem_append.mp h with h | h
    · exact .inl ⟨q, h, z⟩
    · exact .inr ⟨q, h, z⟩
  · rintro (⟨q, h, z⟩ | ⟨q, h, z⟩)
    · exact ⟨q, List.mem_append_left _ h, z⟩
    · exact ⟨q, List.mem_append_right _ h, z⟩
instance : ∀ l t, Decidable (Cov l t)
  | [], _ => isFalse cov_nil
  | p :: l, t => by
    have : Decidable (Cov l t) := instDecidableCov l t
    exact decidable_of_iff _ cov_cons.symm

theorem NormF.low : ∀ {l : List (Int × Int)} {a b : Int}, NormF a l → b ≤ a → NormF b l
  | [], _, _, _, _ => True.intro
  | _ :: _, _, _, h, k => ⟨by have := h.1; omega, h.2.1, h.2.2⟩
theorem cov_low : ∀ {l : List (Int × Int)} {a t : Int}, NormF a l → Cov l t → a + 1 < t
  | [], _, _, _, h => (cov_nil h).elim
  | p :: l, a, t, n, h => by
    obtain ⟨h1, h2, h3⟩ := n
    rcases cov_cons.mp h with ⟨z, _⟩ | h
    · omega
    · have := cov_low h3 h
      omega
theorem pay_low : ∀ {l : List (Int × Int)} {a x : Int}, NormF a l → x ≤ a + 1 → pay l x = 0
  | [], _, _, _, _ => rfl
  | p :: l, a, x, n, h => by
    obtain ⟨h1, h2, h3⟩ := n
    rw [pay_cons, pay_low h3 (by omega)]
    omega
theorem pay_step : ∀ {l : List (Int × Int)} {a : Int} (x : Int), NormF a l → pay l x = pay l (x - 1) + (if Cov l x then 1 else 0)
  | [], _, x, _ => by rw [pay_nil, pay_nil, if_neg cov_nil]; rfl
  | p :: l, a, x, n => by
    obtain ⟨h1, h2, h3⟩ := n
    have ih := pay_step x h3
    rw [pay_cons, pay_cons]
    by_cases c : Cov l x
    · have z := cov_low h3 c
      rw [if_pos c] at ih
      rw [if_pos (cov_cons.mpr (.inr c))]
      omega
    · rw [if_neg c] at ih
      by_cases d : p.1 < x ∧ x ≤ p.2
      · rw [if_pos (cov_cons.mpr (.inl d))]
        omega
      · rw [if_neg fun z => (cov_cons.mp z).elim d c]
        omega
theorem pay_nonneg (l : List (Int × Int)) (x : Int) : 0 ≤ pay l x := by
  induction l with
  | nil => exact Int.le_refl _
  | cons p l ih => rw [pay_cons]; omega
theorem pay_mono1 {l : List (Int × Int)} {a : Int} (n : NormF a l) (x : Int) : pay l (x - 1) ≤ pay l x ∧ pay l x ≤ pay l (x - 1) + 1 := by
  have := pay_step x n
  split at this <;> omega
theorem pay_mono {l : List (Int × Int)} {a : Int} (n : NormF a l) : ∀ (k : Nat) (x : Int), pay l x ≤ pay l (x + k) ∧ pay l (x + k) ≤ pay l x + k
  | 0, x => by simp
  | k + 1, x => by
    have ih := pay_mono n k x
    have s := pay_mono1 n (x + (k + 1 : Nat))
    have e : x + (k + 1 : Nat) - 1 = x + k := by omega
    rw [e] at s
    omega
theorem pay_le {l : List (Int × Int)} {a x y : Int} (n : NormF a l) (h : x ≤ y) : pay l x ≤ pay l y ∧ pay l y ≤ pay l x + (y - x) := by
  have := pay_mono n (y - x).toNat x
  have e : x + ((y - x).toNat : Nat) = y := by omega
  rw [e] at this
  omega
/-- functions with the same steps -/
theorem step_eq {f g : Int → Int} (h0 : ∀ x, x ≤ 0 → f x = g x) (hs : ∀ x, 0 < x → f x - f (x - 1) = g x - g (x - 1)) (x : Int) : f x = g x := by
  have go : ∀ n : Nat, f n = g n := by
    intro n
    induction n with
    | zero => exact h0 _ (Int.le_refl _)
    | succ n ih =>
      have z := hs ((n + 1 : Nat) : Int) (by omega)
      have e : ((n + 1 : Nat) : Int) - 1 = (n : Int) := by omega
      rw [e] at z
      omega
  by_cases h : x ≤ 0
  · exact h0 x h
  · have z := go x.toNat
    have e : ((x.toNat : Nat) : Int) = x := by omega
    rwa [e] at z
/-- what is covered tells the payments -/
theorem pay_of_cov {l m : List (Int × Int)} (hl : Norm l) (hm : Norm m) (h : ∀ t, Cov l t ↔ Cov m t) (x : Int) : pay l x = pay m x := by
  refine step_eq (f := pay l) (g := pay m) (fun x hx => ?_) (fun x _ => ?_) x
  · rw [pay_low hl (by omega), pay_low hm (by omega)]
  · have e1 := pay_step x hl
    have e2 := pay_step x hm
    by_cases c : Cov l x
    · rw [if_pos c] at e1
      rw [if_pos ((h x).mp c)] at e2
      omega
    · rw [if_neg c] at e1
      rw [if_neg fun z => c ((h x).mpr z)] at e2
      omega
theorem cov_of_pay {l m : List (Int × Int)} (hl : Norm l) (hm : Norm m) (h : ∀ x, pay l x = pay m x) (t : Int) : Cov l t ↔ Cov m t := by
  have e1 := pay_step t hl
  have e2 := pay_step t hm
  rw [h t, h (t - 1)] at e1
  by_cases c : Cov l t <;> by_cases d : Cov m t
  · exact ⟨fun _ => d, fun _ => c⟩
  · rw [if_pos c] at e1; rw [if_neg d] at e2; omega
  · rw [if_neg c] at e1; rw [if_pos d] at e2; omega
  · exact ⟨fun z => (c z).elim, fun z => (d z).elim⟩
/-- .. and the spans themselves -/
theorem norm_uniq : ∀ {l m : List (Int × Int)} {a b : Int}, NormF a l → NormF b m → (∀ t, Cov l t ↔ Cov m t) → l = m
  | [], [], _, _, _, _, _ => rfl
  | [], p :: m, _, _, _, hm, h => (cov_nil ((h p.2).mpr (cov_cons.mpr (.inl ⟨hm.2.1, Int.le_refl _⟩)))).elim
  | p :: l, [], _, _, hl, _, h => (cov_nil ((h p.2).mp (cov_cons.mpr (.inl ⟨hl.2.1, Int.le_refl _⟩)))).elim
  | p :: l, q :: m, a, b, hl, hm, h => by
    obtain ⟨h1, h2, h3⟩ := hl
    obtain ⟨k1, k2, k3⟩ := hm
    have b1 : p.1 = q.1 := by
      have x1 := cov_low (l := q :: m) (a := q.1 - 1) ⟨by omega, k2, k3⟩ ((h (p.1 + 1)).mp (cov_cons.mpr (.inl ⟨by omega, by omega⟩)))
      have x2 := cov_low (l := p :: l) (a := p.1 - 1) ⟨by omega, h2, h3⟩ ((h (q.1 + 1)).mpr (cov_cons.mpr (.inl ⟨by omega, by omega⟩)))
      omega
    have b2 : p.2 = q.2 := by
      have n1 : ¬ Cov (p :: l) (p.2 + 1) := fun z => by
        rcases cov_cons.mp z with z | z
        · omega
        · have := cov_low h3 z; omega
      have n2 : ¬ Cov (q :: m) (q.2 + 1) := fun z => by
        rcases cov_cons.mp z with z | z
        · omega
        · have := cov_low k3 z; omega
      have m1 : ¬ (p.2 < q.2) := fun z => n1 ((h _).mpr (cov_cons.mpr (.inl ⟨by omega, by omega⟩)))
      have m2 : ¬ (q.2 < p.2) := fun z => n2 ((h _).mp (cov_cons.mpr (.inl ⟨by omega, by omega⟩)))
      omega
    have e : p = q := by
      obtain ⟨p1, p2⟩ := p
      obtain ⟨q1, q2⟩ := q
      cases b1
      cases b2
      rfl
    subst e
    rw [norm_uniq h3 k3 fun t => ?_]
    constructor
    · intro z
      have := cov_low h3 z
      rcases cov_cons.mp ((h t).mp (cov_cons.mpr (.inr z))) with y | y
      · omega
      · exact y
    · intro z
      have := cov_low k3 z
      rcases cov_cons.mp ((h t).mpr (cov_cons.mpr (.inr z))) with y | y
      · omega
      · exact y
theorem pay_uniq {l m : List (Int × Int)} (hl : Norm l) (hm : Norm m) (h : ∀ x, pay l x = pay m x) : l = m := norm_uniq hl hm (cov_of_pay hl hm h)

/-! ### lifted -/
def lift1 (f : Int) (p : Int × Int) : Int := if p.1 ≤ f then f + p.2 - p.1 else f
def lift (l : List (Int × Int)) (r : Int) : Int := l.foldl lift1 r
theorem lift_spec : ∀ {l : List (Int × Int)} {a : Int} (r y : Int), NormF a l → (y ≤ lift l r ↔ y - pay l y ≤ r)
  | [], _, r, y, _ => by
    show y ≤ r ↔ y - pay [] y ≤ r
    rw [pay_nil]; omega
  | p :: l, a, r, y, n => by
    obtain ⟨h1, h2, h3⟩ := n
    have ih := lift_spec (lift1 r p) y h3
    show y ≤ lift l (lift1 r p) ↔ _
    rw [ih, pay_cons]
    unfold lift1
    by_cases c : p.1 ≤ r
    · rw [if_pos c]
      by_cases d : p.2 ≤ y
      · omega
      · have := pay_low h3 (x := y) (by omega)
        omega
    · rw [if_neg c]
      by_cases d : y ≤ p.1
      · omega
      · by_cases e : y ≤ p.2
        · have := pay_low h3 (x := y) (by omega)
          omega
        · have z := pay_le h3 (x := p.2) (y := y) (by omega)
          have := pay_low h3 (x := p.2) (by omega)
          omega

/-! ### joined -/
def join1 (acc : List (Int × Int)) (p : Int × Int) : List (Int × Int) :=
  if p.2 > p.1 then
    match acc.getLast? with
    | some q => if p.1 ≤ q.2 then acc.dropLast ++ [(q.1, max p.2 q.2)] else acc ++ [p]
    | none => acc ++ [p]
  else acc
def join (l : List (Int × Int)) : List (Int × Int) := l.foldl join1 []
/-- the last one of spans -/
def lastE (a : Int) (l : List (Int × Int)) : Int := match l.getLast? with
  | some q => q.2
  | none => a
theorem norm_snoc : ∀ {l : List (Int × Int)} {a : Int} {p : Int × Int}, NormF a l → lastE a l < p.1 → p.1 < p.2 → NormF a (l ++ [p])
  | [], a, p, _, h, k => ⟨h, k, True.intro⟩
  | [q], a, p, n, h, k => ⟨n.1, n.2.1, h, k, True.intro⟩
  | q :: r :: l, a, p, n, h, k => ⟨n.1, n.2.1, norm_snoc (l := r :: l) n.2.2 (by
      unfold lastE at h ⊢
      rw [List.getLast?_cons_cons] at h
      cases z : (r :: l).getLast? with
      | none => simp at z
      | some y => rw [z] at h; exact h) k⟩
theorem norm_front : ∀ {l : List (Int × Int)} {a : Int} {p : Int × Int}, NormF a (l ++ [p]) → NormF a l ∧ lastE a l < p.1 ∧ p.1 < p.2
  | [], a, p, n => ⟨True.intro, n.1, n.2.1⟩
  | q :: l, a, p, n => by
    obtain ⟨h1, h2, h3⟩ := norm_front (l := l) n.2.2
    refine ⟨⟨n.1, n.2.1, h1⟩, ?_, h3⟩
    cases l with
    | nil => exact h2
    | cons r l =>
      unfold lastE at h2 ⊢
      rw [List.getLast?_cons_cons]
      cases z : (r :: l).getLast? with
      | none => simp at z
      | some y => rw [z] at h2; exact h2
theorem join1_ok {acc : List (Int × Int)} {a : Int} {p : Int × Int} (n : NormF a acc) (hp : a < p.1) (hs : ∀ q ∈ acc, q.1 ≤ p.1) :
    NormF a (join1 acc p) ∧ (∀ t, Cov (join1 acc p) t ↔ Cov acc t ∨ (p.1 < t ∧ t ≤ p.2)) ∧ (join1 acc p).length ≤ acc.length + 1 ∧ (∀ q ∈ join1 acc p, q.1 ≤ p.1) := by
  unfold join1
  by_cases c : p.2 > p.1
  · rw [if_pos c]
    cases z : acc.getLast? with
    | none =>
      have e : acc = [] := List.getLast?_eq_none_iff.mp z
      subst e
      refine ⟨⟨hp, c, True.intro⟩, fun t => ?_, by simp, fun q hq => ?_⟩
      · rw [List.nil_append, cov_cons]
        exact ⟨fun h => h.elim .inr fun h => (cov_nil h).elim, fun h => h.elim (fun h => (cov_nil h).elim) .inl⟩
      · have : q = p := by simpa using hq
        rw [this]
        exact Int.le_refl _
    | some q =>
      obtain ⟨l, rfl⟩ : ∃ l, acc = l ++ [q] := by
        obtain ⟨l, h⟩ := List.getLast?_eq_some_iff.mp z
        exact ⟨l, h⟩
      obtain ⟨n1, n2, n3⟩ := norm_front n
      have hq := hs q (by simp)
      dsimp only
      by_cases d : p.1 ≤ q.2
      · rw [if_pos d, List.dropLast_concat]
        refine ⟨norm_snoc n1 n2 (show q.1 < max p.2 q.2 by omega), fun t => ?_, by simp, fun r hr => ?_⟩
        · rw [cov_app, cov_app, cov_cons, cov_cons]
          have e : ¬ Cov [] t := cov_nil
          constructor
          · rintro (h | h | h)
            · exact .inl (.inl h)
            · have h' : q.1 < t ∧ t ≤ max p.2 q.2 := h
              by_cases k : t ≤ q.2
              · exact .inl (.inr (.inl ⟨h'.1, k⟩))
              · exact .inr ⟨by omega, by omega⟩
            · exact (e h).elim
          · rintro ((h | h | h) | h)
            · exact .inl h
            · exact .inr (.inl (show q.1 < t ∧ t ≤ max p.2 q.2 by omega))
            · exact (e h).elim
            · exact .inr (.inl (show q.1 < t ∧ t ≤ max p.2 q.2 by omega))
        · rcases List.mem_append.mp hr with hr | hr
          · exact hs r (List.mem_append_left _ hr)
          · have : r = (q.1, max p.2 q.2) := by simpa using hr
            rw [this]; exact hq
      · rw [if_neg d]
        refine ⟨norm_snoc n (by unfold lastE; rw [z]; show q.2 < p.1; omega) c, fun t => ?_, by simp, fun r hr => ?_⟩
        · rw [cov_app, cov_cons]
          exact ⟨fun h => h.imp id fun h => h.elim id fun h => (cov_nil h).elim, fun h => h.imp id .inl⟩
        · rcases List.mem_append.mp hr with hr | hr
          · exact hs r hr
          · have : r = p := by simpa using hr
            rw [this]; exact Int.le_refl _
  · rw [if_neg c]
    refine ⟨n, fun t => ⟨.inl, fun h => h.elim id fun h => by omega⟩, by omega, hs⟩
theorem joinF_ok : ∀ {l acc : List (Int × Int)} {a : Int}, NormF a acc → (∀ p ∈ l, a < p.1) → l.Pairwise (fun p q => p.1 ≤ q.1) → (∀ p ∈ l, ∀ q ∈ acc, q.1 ≤ p.1) →
    NormF a (l.foldl join1 acc) ∧ (∀ t, Cov (l.foldl join1 acc) t ↔ Cov acc t ∨ Cov l t) ∧ (l.foldl join1 acc).length ≤ acc.length + l.length
  | [], acc, a, n, _, _, _ => ⟨n, fun t => ⟨.inl, fun h => h.elim id fun h => (cov_nil h).elim⟩, by simp⟩
  | p :: l, acc, a, n, hp, hw, hs => by
    obtain ⟨w1, w2⟩ := List.pairwise_cons.mp hw
    obtain ⟨j1, j2, j3, j4⟩ := join1_ok n (hp p List.mem_cons_self) (hs p List.mem_cons_self)
    obtain ⟨k1, k2, k3⟩ := joinF_ok (l := l) j1 (fun q hq => hp q (List.mem_cons_of_mem _ hq)) w2 (fun q hq r hr => Int.le_trans (j4 r hr) (w1 q hq))
    refine ⟨k1, fun t => ?_, by rw [List.length_cons]; show (l.foldl join1 (join1 acc p)).length ≤ _; omega⟩
    show Cov (l.foldl join1 (join1 acc p)) t ↔ _
    rw [k2 t, j2 t, cov_cons]
    constructor
    · rintro ((h | h) | h)
      · exact .inl h
      · exact .inr (.inl h)
      · exact .inr (.inr h)
    · rintro (h | h | h)
      · exact .inl (.inl h)
      · exact .inl (.inr h)
      · exact .inr h
theorem join_ok {l : List (Int × Int)} (hp : ∀ p ∈ l, 0 ≤ p.1) (hw : l.Pairwise (fun p q => p.1 ≤ q.1)) : Norm (join l) ∧ (∀ t, Cov (join l) t ↔ Cov l t) ∧ (join l).length ≤ l.length := by
  obtain ⟨k1, k2, k3⟩ := joinF_ok (l := l) (acc := []) (a := -1) True.intro (fun p h => by have := hp p h; omega) hw (fun _ _ q hq => by simp at hq)
  exact ⟨k1, fun t => by
    unfold join
    rw [k2 t]
    exact ⟨fun h => h.elim (fun h => (cov_nil h).elim) id, .inr⟩, by
    rw [List.length_nil, Nat.zero_add] at k3
    exact k3⟩
theorem cov_perm {l m : List (Int × Int)} (h : l.Perm m) {t : Int} : Cov l t ↔ Cov m t := ⟨fun ⟨p, a, b⟩ => ⟨p, h.mem_iff.mp a, b⟩, fun ⟨p, a, b⟩ => ⟨p, h.mem_iff.mpr a, b⟩⟩

/-! ### chained -/
def chainL (l m : List (Int × Int)) : List (Int × Int) := l ++ m.map fun p => (lift l p.1, lift l (p.2 - 1) + 1)
theorem lift_ge : ∀ {l : List (Int × Int)} {a : Int} (r : Int), NormF a l → r ≤ lift l r
  | [], _, r, _ => Int.le_refl _
  | p :: l, a, r, n => by
    have := lift_ge (lift1 r p) n.2.2
    show r ≤ lift l (lift1 r p)
    unfold lift1 at this ⊢
    have := n.2.1
    split <;> rename_i h <;> simp only [h, if_true, if_false] at * <;> omega
theorem norm_mem : ∀ {l : List (Int × Int)} {a : Int} {p : Int × Int}, NormF a l → p ∈ l → a < p.1 ∧ p.1 < p.2
  | q :: l, a, p, n, h => by
    rcases List.mem_cons.mp h with rfl | h
    · exact ⟨n.1, n.2.1⟩
    · have := norm_mem n.2.2 h
      have := n.1
      have := n.2.1
      omega
theorem chain_ok {l m r : List (Int × Int)} (hl : Norm l) (hm : Norm m) (hr : Norm r) (h : ∀ t, Cov r t ↔ Cov (chainL l m) t) (x : Int) : pay r x = pay l x + pay m (x - pay l x) := by
  refine step_eq (f := pay r) (g := fun x => pay l x + pay m (x - pay l x)) (fun x hx => ?_) (fun x hx => ?_) x
  · show pay r x = pay l x + pay m (x - pay l x)
    have := pay_low hl (x := x) (by omega)
    rw [pay_low hr (by omega), this, pay_low hm (by omega)]
    rfl
  · show pay r x - pay r (x - 1) = (pay l x + pay m (x - pay l x)) - (pay l (x - 1) + pay m ((x - 1) - pay l (x - 1)))
    have e1 := pay_step x hr
    have e2 := pay_step x hl
    have mem : (Cov (m.map fun p => (lift l p.1, lift l (p.2 - 1) + 1)) x) ↔ ∃ p ∈ m, p.1 < x - pay l x ∧ (x - 1) - pay l (x - 1) ≤ p.2 - 1 := by
      constructor
      · rintro ⟨q, hq, h1, h2⟩
        obtain ⟨p, hp, rfl⟩ := List.mem_map.mp hq
        have a := lift_spec p.1 x hl
        have b := lift_spec (p.2 - 1) (x - 1) hl
        refine ⟨p, hp, ?_, b.mp (by omega)⟩
        have h1' : lift l p.1 < x := h1
        omega
      · rintro ⟨p, hp, h1, h2⟩
        have a := lift_spec p.1 x hl
        have b := lift_spec (p.2 - 1) (x - 1) hl
        refine ⟨_, List.mem_map.mpr ⟨p, hp, rfl⟩, ?_, ?_⟩
        · show lift l p.1 < x
          omega
        · show x ≤ lift l (p.2 - 1) + 1
          have := b.mpr h2
          omega
    by_cases c : Cov l x
    · rw [if_pos c] at e2
      rw [if_pos ((h x).mpr (cov_app.mpr (.inl c)))] at e1
      have e : x - pay l x = (x - 1) - pay l (x - 1) := by omega
      rw [e]
      omega
    · rw [if_neg c] at e2
      have e3 := pay_step (x - pay l x) hm
      have e : (x - 1) - pay l (x - 1) = x - pay l x - 1 := by omega
      rw [e]
      by_cases d : Cov m (x - pay l x)
      · rw [if_pos d] at e3
        have : Cov r x := (h x).mpr (cov_app.mpr (.inr (mem.mpr (by
          obtain ⟨p, hp, h1, h2⟩ := d
          exact ⟨p, hp, h1, by omega⟩))))
        rw [if_pos this] at e1
        omega
      · rw [if_neg d] at e3
        have : ¬ Cov r x := fun z => by
          rcases cov_app.mp ((h x).mp z) with z | z
          · exact c z
          · obtain ⟨p, hp, h1, h2⟩ := mem.mp z
            exact d ⟨p, hp, h1, by omega⟩
        rw [if_neg this] at e1
        omega
end CV
set_option Elab.async false
set_option linter.all false
set_option maxRecDepth 100000
namespace CV
/-! ### points between which all is straight -/
def Str1 (f : Int → Int) (lo hi : Int) : Prop := (∀ x, lo ≤ x → x ≤ hi → f x = f lo) ∨ (∀ x, lo ≤ x → x ≤ hi → f x = f lo + (x - lo))
theorem str_of {l : List (Int × Int)} (n : Norm l) {lo hi : Int} (hlt : lo < hi) (h : ∀ p ∈ l, ¬ (lo < p.1 ∧ p.1 < hi) ∧ ¬ (lo < p.2 ∧ p.2 < hi)) : Str1 (pay l) lo hi := by
  have same : ∀ x, lo < x → x ≤ hi → (Cov l x ↔ Cov l hi) := fun x h1 h2 => by
    constructor
    · rintro ⟨p, hp, a, b⟩
      obtain ⟨q1, q2⟩ := h p hp
      exact ⟨p, hp, by omega, by omega⟩
    · rintro ⟨p, hp, a, b⟩
      obtain ⟨q1, q2⟩ := h p hp
      exact ⟨p, hp, by omega, by omega⟩
  by_cases c : Cov l hi
  · right
    have go : ∀ k : Nat, lo + k ≤ hi → pay l (lo + k) = pay l lo + k := by
      intro k
      induction k with
      | zero => intro _; simp
      | succ k ih =>
        intro hk
        have s := pay_step (lo + (k + 1 : Nat)) n
        rw [if_pos ((same _ (by omega) hk).mpr c)] at s
        have e : lo + ((k + 1 : Nat) : Int) - 1 = lo + k := by omega
        rw [e, ih (by omega)] at s
        omega
    intro x h1 h2
    have z := go (x - lo).toNat (by omega)
    have e : lo + (((x - lo).toNat : Nat) : Int) = x := by omega
    rw [e] at z
    omega
  · left
    have go : ∀ k : Nat, lo + k ≤ hi → pay l (lo + k) = pay l lo := by
      intro k
      induction k with
      | zero => intro _; simp
      | succ k ih =>
        intro hk
        have s := pay_step (lo + (k + 1 : Nat)) n
        rw [if_neg fun z => c ((same _ (by omega) hk).mp z)] at s
        have e : lo + ((k + 1 : Nat) : Int) - 1 = lo + k := by omega
        rw [e, ih (by omega)] at s
        omega
    intro x h1 h2
    have z := go (x - lo).toNat (by omega)
    have e : lo + (((x - lo).toNat : Nat) : Int) = x := by omega
    rw [e] at z
    exact z
def Grid (P : Int → Int → Prop) : Int → List Int → Prop
  | _, [] => True
  | lo, hi :: r => lo < hi ∧ P lo hi ∧ Grid P hi r
theorem Grid.imp {P Q : Int → Int → Prop} (h : ∀ lo hi, lo < hi → P lo hi → Q lo hi) : ∀ {lo : Int} {r : List Int}, Grid P lo r → Grid Q lo r
  | _, [], _ => True.intro
  | _, _ :: _, ⟨a, b, c⟩ => ⟨a, h _ _ a b, Grid.imp h c⟩
/-- no one of the marks stands between two neighbours of a rising list that has them all -/
theorem grid_of {M : Int → Prop} : ∀ {r : List Int} {lo : Int}, (lo :: r).Pairwise (· < ·) → (∀ q, M q → q ∈ lo :: r ∨ q ≤ lo) → Grid (fun lo hi => ∀ q, M q → ¬ (lo < q ∧ q < hi)) lo r
  | [], _, _, _ => True.intro
  | hi :: r, lo, w, h => by
    obtain ⟨w1, w2⟩ := List.pairwise_cons.mp w
    obtain ⟨w3, _⟩ := List.pairwise_cons.mp w2
    have w0 := w1 hi List.mem_cons_self
    refine ⟨w0, fun q hq ⟨a, b⟩ => ?_, grid_of w2 fun q hq => ?_⟩
    · rcases h q hq with z | z
      · rcases List.mem_cons.mp z with rfl | z
        · omega
        · rcases List.mem_cons.mp z with rfl | z
          · omega
          · have := w3 q z; omega
      · omega
    · rcases h q hq with z | z
      · rcases List.mem_cons.mp z with rfl | z
        · exact .inr (by omega)
        · exact .inl z
      · exact .inr (by omega)

def seg (f g : Int → Int) (lo hi : Int) : List Int := if (f lo - g lo) * (f hi - g hi) < 0 then [lo + (if f lo - g lo < 0 then -(f lo - g lo) else f lo - g lo), hi] else [hi]
def corn (f g : Int → Int) : Int → List Int → List Int
  | _, [] => []
  | lo, hi :: r => seg f g lo hi ++ corn f g hi r
structure Two (f g : Int → Int) (lo hi : Int) : Prop where
  sf : Str1 f lo hi
  sg : Str1 g lo hi
  ss : (g lo ≤ f lo ∧ g hi ≤ f hi) ∨ (f lo ≤ g lo ∧ f hi ≤ g hi)
theorem Str1.sub {f : Int → Int} {lo hi a b : Int} (h : Str1 f lo hi) (h1 : lo ≤ a) (h2 : a ≤ b) (h3 : b ≤ hi) : Str1 f a b := by
  rcases h with h | h
  · left
    intro x p q
    rw [h x (by omega) (by omega), h a h1 (by omega)]
  · right
    intro x p q
    rw [h x (by omega) (by omega), h a h1 (by omega)]
    omega
theorem sgn {a b : Int} (h : a * b < 0) : (a < 0 ∧ 0 < b) ∨ (0 < a ∧ b < 0) := by
  rcases Int.lt_trichotomy a 0 with ha | ha | ha
  · left
    refine ⟨ha, ?_⟩
    rcases Int.lt_trichotomy b 0 with hb | hb | hb
    · have := Int.mul_pos_of_neg_of_neg ha hb; omega
    · rw [hb, Int.mul_zero] at h; omega
    · exact hb
  · rw [ha, Int.zero_mul] at h; omega
  · right
    refine ⟨ha, ?_⟩
    rcases Int.lt_trichotomy b 0 with hb | hb | hb
    · exact hb
    · rw [hb, Int.mul_zero] at h; omega
    · have := Int.mul_pos ha hb; omega
theorem sgn' {a b : Int} (h : ¬ a * b < 0) : (0 ≤ a ∧ 0 ≤ b) ∨ (a ≤ 0 ∧ b ≤ 0) := by
  rcases Int.lt_trichotomy a 0 with ha | ha | ha
  · rcases Int.lt_trichotomy b 0 with hb | hb | hb
    · exact .inr ⟨by omega, by omega⟩
    · exact .inr ⟨by omega, by omega⟩
    · have := Int.mul_neg_of_neg_of_pos ha hb; omega
  · rcases Int.lt_trichotomy b 0 with hb | hb | hb
    · exact .inr ⟨by omega, by omega⟩
    · exact .inr ⟨by omega, by omega⟩
    · exact .inl ⟨by omega, by omega⟩
  · rcases Int.lt_trichotomy b 0 with hb | hb | hb
    · have := Int.mul_neg_of_pos_of_neg ha hb; omega
    · exact .inl ⟨by omega, by omega⟩
    · exact .inl ⟨by omega, by omega⟩
theorem seg_ok {f g : Int → Int} {lo hi : Int} (hlt : lo < hi) (hf : Str1 f lo hi) (hg : Str1 g lo hi) {r : List Int} (h : Grid (Two f g) hi r) : Grid (Two f g) lo (seg f g lo hi ++ r) := by
  unfold seg
  by_cases c : (f lo - g lo) * (f hi - g hi) < 0
  · rw [if_pos c]
    have s := sgn c
    have key : ∀ m : Int, m = lo + (if f lo - g lo < 0 then -(f lo - g lo) else f lo - g lo) → lo < m ∧ m < hi ∧ f m = g m := fun m hm => by
      rcases hf with hf | hf <;> rcases hg with hg | hg
      · have := hf hi (by omega) (Int.le_refl _); have := hg hi (by omega) (Int.le_refl _); omega
      · have a := hf hi (by omega) (Int.le_refl _); have b := hg hi (by omega) (Int.le_refl _)
        have z : lo < m ∧ m < hi := by split at hm <;> omega
        have a' := hf m (by omega) (by omega); have b' := hg m (by omega) (by omega)
        split at hm <;> omega
      · have a := hf hi (by omega) (Int.le_refl _); have b := hg hi (by omega) (Int.le_refl _)
        have z : lo < m ∧ m < hi := by split at hm <;> omega
        have a' := hf m (by omega) (by omega); have b' := hg m (by omega) (by omega)
        split at hm <;> omega
      · have := hf hi (by omega) (Int.le_refl _); have := hg hi (by omega) (Int.le_refl _); omega
    obtain ⟨k1, k2, k3⟩ := key _ rfl
    refine ⟨k1, ⟨hf.sub (Int.le_refl _) (by omega) (by omega), hg.sub (Int.le_refl _) (by omega) (by omega), by omega⟩, k2, ⟨hf.sub (by omega) (by omega) (Int.le_refl _), hg.sub (by omega) (by omega) (Int.le_refl _), by omega⟩, h⟩
  · rw [if_neg c]
    have s := sgn' c
    exact ⟨hlt, ⟨hf, hg, by omega⟩, h⟩
theorem corn_ok {f g : Int → Int} : ∀ {r : List Int} {lo : Int}, Grid (fun lo hi => Str1 f lo hi ∧ Str1 g lo hi) lo r → Grid (Two f g) lo (corn f g lo r)
  | [], _, _ => True.intro
  | hi :: r, lo, ⟨a, ⟨b1, b2⟩, c⟩ => seg_ok a b1 b2 (corn_ok c)
theorem two_max {f g : Int → Int} {lo hi : Int} (h : Two f g lo hi) : Str1 (fun x => max (f x) (g x)) lo hi := by
  obtain ⟨hf, hg, s⟩ := h
  by_cases c : lo ≤ hi
  · have e1 : Str1 (fun x => max (f x) (g x)) lo hi ↔ (∀ x, lo ≤ x → x ≤ hi → max (f x) (g x) = max (f lo) (g lo)) ∨ (∀ x, lo ≤ x → x ≤ hi → max (f x) (g x) = max (f lo) (g lo) + (x - lo)) := Iff.rfl
    rw [e1]
    rcases hf with hf | hf <;> rcases hg with hg | hg
    · left; intro x p q; have := hf x p q; have := hg x p q; omega
    · have a := hf hi c (Int.le_refl _); have b := hg hi c (Int.le_refl _)
      by_cases d : f lo ≤ g lo
      · right; intro x p q; have := hf x p q; have := hg x p q; omega
      · left; intro x p q; have := hf x p q; have := hg x p q; omega
    · have a := hf hi c (Int.le_refl _); have b := hg hi c (Int.le_refl _)
      by_cases d : g lo ≤ f lo
      · right; intro x p q; have := hf x p q; have := hg x p q; omega
      · left; intro x p q; have := hf x p q; have := hg x p q; omega
    · right; intro x p q; have := hf x p q; have := hg x p q; omega
  · left; intro x p q; omega
theorem two_min {f g : Int → Int} {lo hi : Int} (h : Two f g lo hi) : Str1 (fun x => min (f x) (g x)) lo hi := by
  obtain ⟨hf, hg, s⟩ := h
  by_cases c : lo ≤ hi
  · have e1 : Str1 (fun x => min (f x) (g x)) lo hi ↔ (∀ x, lo ≤ x → x ≤ hi → min (f x) (g x) = min (f lo) (g lo)) ∨ (∀ x, lo ≤ x → x ≤ hi → min (f x) (g x) = min (f lo) (g lo) + (x - lo)) := Iff.rfl
    rw [e1]
    rcases hf with hf | hf <;> rcases hg with hg | hg
    · left; intro x p q; have := hf x p q; have := hg x p q; omega
    · have a := hf hi c (Int.le_refl _); have b := hg hi c (Int.le_refl _)
      by_cases d : g lo ≤ f lo ∧ g hi ≤ f hi
      · right; intro x p q; have := hf x p q; have := hg x p q; omega
      · left; intro x p q; have := hf x p q; have := hg x p q; omega
    · have a := hf hi c (Int.le_refl _); have b := hg hi c (Int.le_refl _)
      by_cases d : f lo ≤ g lo ∧ f hi ≤ g hi
      · right; intro x p q; have := hf x p q; have := hg x p q; omega
      · left; intro x p q; have := hf x p q; have := hg x p q; omega
    · right; intro x p q; have := hf x p q; have := hg x p q; omega
  · left; intro x p q; omega
theorem two_le {f g : Int → Int} {lo hi x : Int} (h : Two f g lo hi) (h1 : f lo ≤ g lo) (h2 : f hi ≤ g hi) (p : lo ≤ x) (q : x ≤ hi) : f x ≤ g x := by
  obtain ⟨hf, hg, s⟩ := h
  rcases hf with hf | hf <;> rcases hg with hg | hg <;>
  · have := hf x p q; have := hg x p q; have := hf hi (by omega) (Int.le_refl _); have := hg hi (by omega) (Int.le_refl _); omega
/-! the marks of spans -/
def ends (l : List (Int × Int)) : List Int := l.flatMap fun p => [p.1, p.2]
theorem mem_ends {l : List (Int × Int)} {q : Int} : q ∈ ends l ↔ ∃ p ∈ l, q = p.1 ∨ q = p.2 := by
  unfold ends
  rw [List.mem_flatMap]
  exact ⟨fun ⟨p, h, k⟩ => ⟨p, h, by simpa using k⟩, fun ⟨p, h, k⟩ => ⟨p, h, by simpa using k⟩⟩
/-- what sorted(set([0] + all ends)) gives -/
structure Pts (l m : List (Int × Int)) (pts : List Int) : Prop where
  w : pts.Pairwise (· < ·)
  m : ∀ q, q ∈ pts ↔ q = 0 ∨ q ∈ ends l ∨ q ∈ ends m
theorem Pts.head {l m : List (Int × Int)} {pts : List Int} (hl : Norm l) (hm : Norm m) (h : Pts l m pts) : ∃ r, pts = 0 :: r := by
  have h0 := (h.m 0).mpr (.inl rfl)
  cases pts with
  | nil => simp at h0
  | cons a r =>
    refine ⟨r, ?_⟩
    obtain ⟨w1, _⟩ := List.pairwise_cons.mp h.w
    have ha := (h.m a).mp List.mem_cons_self
    have nn : 0 ≤ a := by
      rcases ha with z | z | z
      · omega
      · obtain ⟨p, hp, k⟩ := mem_ends.mp z
        have := norm_mem hl hp; omega
      · obtain ⟨p, hp, k⟩ := mem_ends.mp z
        have := norm_mem hm hp; omega
    rcases List.mem_cons.mp h0 with z | z
    · rw [z]
    · have := w1 0 z; omega
theorem Pts.grid {l m : List (Int × Int)} {r : List Int} (hl : Norm l) (hm : Norm m) (h : Pts l m (0 :: r)) : Grid (fun lo hi => Str1 (pay l) lo hi ∧ Str1 (pay m) lo hi) 0 r := by
  refine Grid.imp (fun lo hi hlt k => ?_) (grid_of (M := fun q => q ∈ ends l ∨ q ∈ ends m) h.w fun q hq => .inl ((h.m q).mpr (.inr hq)))
  exact ⟨str_of hl hlt fun p hp => ⟨k p.1 (.inl (mem_ends.mpr ⟨p, hp, .inl rfl⟩)), k p.2 (.inl (mem_ends.mpr ⟨p, hp, .inr rfl⟩))⟩,
    str_of hm hlt fun p hp => ⟨k p.1 (.inr (mem_ends.mpr ⟨p, hp, .inl rfl⟩)), k p.2 (.inr (mem_ends.mpr ⟨p, hp, .inr rfl⟩))⟩⟩
def lastD (lo : Int) : List Int → Int
  | [] => lo
  | hi :: r => lastD hi r
theorem lastD_app (lo : Int) : ∀ (a : List Int) (b : List Int), lastD lo (a ++ b) = lastD (lastD lo a) b := by
  intro a
  induction a generalizing lo with
  | nil => intro b; rfl
  | cons x a ih => intro b; exact ih x b
theorem lastD_seg (f g : Int → Int) (lo hi : Int) : lastD lo (seg f g lo hi) = hi := by
  unfold seg; split <;> rfl
theorem lastD_corn (f g : Int → Int) : ∀ (r : List Int) (lo : Int), lastD lo (corn f g lo r) = lastD lo r
  | [], _ => rfl
  | hi :: r, lo => by
    show lastD lo (seg f g lo hi ++ corn f g hi r) = lastD hi r
    rw [lastD_app, lastD_seg, lastD_corn]
theorem lastD_ge : ∀ {r : List Int} {lo : Int}, (lo :: r).Pairwise (· < ·) → ∀ q ∈ lo :: r, q ≤ lastD lo r
  | [], lo, _, q, h => by
    have : q = lo := by simpa using h
    rw [this]; exact Int.le_refl _
  | hi :: r, lo, w, q, h => by
    obtain ⟨w1, w2⟩ := List.pairwise_cons.mp w
    have ih := lastD_ge w2
    show q ≤ lastD hi r
    rcases List.mem_cons.mp h with rfl | h
    · have := w1 hi List.mem_cons_self
      have := ih hi List.mem_cons_self
      omega
    · exact ih q h
theorem grid_le {P : Int → Int → Prop} : ∀ {r : List Int} {lo : Int}, Grid P lo r → lo ≤ lastD lo r
  | [], _, _ => Int.le_refl _
  | hi :: r, lo, ⟨a, _, c⟩ => by
    have := grid_le c
    show lo ≤ lastD hi r
    omega
theorem pay_flat {l : List (Int × Int)} (n : Norm l) {z : Int} (h : ∀ p ∈ l, p.2 ≤ z) : ∀ x, z ≤ x → pay l x = pay l z := by
  intro x hx
  have go : ∀ k : Nat, pay l (z + k) = pay l z := by
    intro k
    induction k with
    | zero => simp
    | succ k ih =>
      have s := pay_step (z + (k + 1 : Nat)) n
      rw [if_neg fun ⟨p, hp, a, b⟩ => by have := h p hp; omega] at s
      have e : z + ((k + 1 : Nat) : Int) - 1 = z + k := by omega
      rw [e, ih] at s
      omega
  have e := go (x - z).toNat
  have e2 : z + (((x - z).toNat : Nat) : Int) = x := by omega
  rwa [e2] at e
/-! larger, smaller -/
def segs (h : Int → Int) : Int → List Int → List (Int × Int)
  | _, [] => []
  | lo, hi :: r => (if h hi > h lo then [(lo, hi)] else []) ++ segs h hi r
theorem segs_mem {h : Int → Int} : ∀ {r : List Int} {lo : Int} {P : Int → Int → Prop}, Grid P lo r → ∀ p ∈ segs h lo r, lo ≤ p.1 ∧ p.1 < p.2 ∧ p.2 ≤ lastD lo r
  | [], _, _, _, p, hp => by simp [segs] at hp
  | hi :: r, lo, P, ⟨a, _, c⟩, p, hp => by
    have g := grid_le c
    show lo ≤ p.1 ∧ p.1 < p.2 ∧ p.2 ≤ lastD hi r
    rcases List.mem_append.mp hp with hp | hp
    · split at hp
      · have : p = (lo, hi) := by simpa using hp
        rw [this]
        exact ⟨Int.le_refl _, a, g⟩
      · simp at hp
    · have := segs_mem c p hp
      omega
theorem segs_sorted {h : Int → Int} : ∀ {r : List Int} {lo : Int} {P : Int → Int → Prop}, Grid P lo r → (segs h lo r).Pairwise (fun p q => p.1 ≤ q.1)
  | [], _, _, _ => List.Pairwise.nil
  | hi :: r, lo, P, ⟨a, _, c⟩ => by
    show ((if h hi > h lo then [(lo, hi)] else []) ++ segs h hi r).Pairwise _
    split
    · refine List.pairwise_cons.mpr ⟨fun q hq => ?_, segs_sorted c⟩
      have := segs_mem c q hq
      show lo ≤ q.1
      omega
    · exact segs_sorted c
theorem segs_len {h : Int → Int} : ∀ {r : List Int} {lo : Int}, (segs h lo r).length ≤ r.length
  | [], _ => Nat.le_refl _
  | hi :: r, lo => by
    have ih := segs_len (h := h) (r := r) (lo := hi)
    show ((if h hi > h lo then [(lo, hi)] else []) ++ segs h hi r).length ≤ r.length + 1
    rw [List.length_append]
    split
    · rw [List.length_singleton]; omega
    · rw [List.length_nil]; omega
theorem segs_step {h : Int → Int} : ∀ {r : List Int} {lo : Int}, Grid (Str1 h) lo r → ∀ t, lo < t → t ≤ lastD lo r → h t = h (t - 1) + (if Cov (segs h lo r) t then 1 else 0)
  | [], lo, _, t, h1, h2 => by
    have h2' : t ≤ lo := h2
    omega
  | hi :: r, lo, ⟨a, b, c⟩, t, h1, h2 => by
    have h2' : t ≤ lastD hi r := h2
    have cv : Cov (segs h lo (hi :: r)) t ↔ (h hi > h lo ∧ lo < t ∧ t ≤ hi) ∨ Cov (segs h hi r) t := by
      show Cov ((if h hi > h lo then [(lo, hi)] else []) ++ segs h hi r) t ↔ _
      rw [cov_app]
      by_cases k : h hi > h lo
      · rw [if_pos k, cov_cons]
        exact ⟨fun z => z.imp (fun z => z.elim (fun z => ⟨k, z⟩) fun z => (cov_nil z).elim) id, fun z => z.imp (fun z => .inl z.2) id⟩
      · rw [if_neg k]
        exact ⟨fun z => z.elim (fun z => (cov_nil z).elim) .inr, fun z => z.elim (fun z => (k z.1).elim) .inr⟩
    by_cases d : t ≤ hi
    · have nc : ¬ Cov (segs h hi r) t := fun ⟨p, hp, q1, q2⟩ => by
        have := segs_mem c p hp
        omega
      rcases b with b | b
      · have e1 := b t (by omega) d
        have e2 := b (t - 1) (by omega) (by omega)
        have e3 := b hi (by omega) (Int.le_refl _)
        rw [if_neg fun z => (cv.mp z).elim (fun z => by omega) nc]
        omega
      · have e1 := b t (by omega) d
        have e2 := b (t - 1) (by omega) (by omega)
        have e3 := b hi (by omega) (Int.le_refl _)
        rw [if_pos (cv.mpr (.inl ⟨by omega, h1, d⟩))]
        omega
    · have ih := segs_step c t (by omega) h2'
      rw [ih]
      by_cases k : Cov (segs h hi r) t
      · rw [if_pos k, if_pos (cv.mpr (.inr k))]
      · rw [if_neg k, if_neg fun z => (cv.mp z).elim (fun z => by omega) k]
/-- a join of the rising pieces pays what the function says -/
theorem segs_pay {h : Int → Int} {r : List Int} {s : List (Int × Int)} (g : Grid (Str1 h) 0 r) (hs : Norm s) (hc : ∀ t, Cov s t ↔ Cov (segs h 0 r) t) (h0 : ∀ x, x ≤ 0 → h x = 0) (hz : ∀ x, lastD 0 r ≤ x → h x = h (lastD 0 r)) (x : Int) : pay s x = h x := by
  refine step_eq (f := pay s) (g := h) (fun x hx => ?_) (fun x hx => ?_) x
  · rw [pay_low hs (by omega), h0 x hx]
  · have e := pay_step x hs
    by_cases d : x ≤ lastD 0 r
    · have e2 := segs_step g x hx d
      by_cases c : Cov (segs h 0 r) x
      · rw [if_pos c] at e2
        rw [if_pos ((hc x).mpr c)] at e
        omega
      · rw [if_neg c] at e2
        rw [if_neg fun z => c ((hc x).mp z)] at e
        omega
    · have n : ¬ Cov s x := fun z => by
        obtain ⟨p, hp, q1, q2⟩ := (hc x).mp z
        have := segs_mem g p hp
        omega
      rw [if_neg n] at e
      have z1 := hz x (by omega)
      have z2 := hz (x - 1) (by omega)
      omega
section
variable {l m : List (Int × Int)} {r : List Int} (hl : Norm l) (hm : Norm m) (h : Pts l m (0 :: r))
include hl hm h
theorem last_flat : (∀ x, lastD 0 r ≤ x → pay l x = pay l (lastD 0 r)) ∧ ∀ x, lastD 0 r ≤ x → pay m x = pay m (lastD 0 r) := by
  have ge := lastD_ge h.w
  exact ⟨pay_flat hl fun p hp => ge _ ((h.m _).mpr (.inr (.inl (mem_ends.mpr ⟨p, hp, .inr rfl⟩)))), pay_flat hm fun p hp => ge _ ((h.m _).mpr (.inr (.inr (mem_ends.mpr ⟨p, hp, .inr rfl⟩))))⟩
theorem larger_ok {s : List (Int × Int)} (hs : Norm s) (hc : ∀ t, Cov s t ↔ Cov (segs (fun x => max (pay l x) (pay m x)) 0 (corn (pay l) (pay m) 0 r)) t) (x : Int) : pay s x = max (pay l x) (pay m x) := by
  have g := Grid.imp (fun lo hi _ k => two_max k) (corn_ok (h.grid hl hm))
  obtain ⟨z1, z2⟩ := last_flat hl hm h
  refine segs_pay (h := fun x => max (pay l x) (pay m x)) g hs hc (fun x hx => ?_) (fun x hx => ?_) x
  · show max (pay l x) (pay m x) = 0
    rw [pay_low hl (by omega), pay_low hm (by omega)]; rfl
  · rw [lastD_corn] at hx ⊢
    show max (pay l x) (pay m x) = max (pay l (lastD 0 r)) (pay m (lastD 0 r))
    rw [z1 x hx, z2 x hx]
theorem smaller_ok {s : List (Int × Int)} (hs : Norm s) (hc : ∀ t, Cov s t ↔ Cov (segs (fun x => min (pay l x) (pay m x)) 0 (corn (pay l) (pay m) 0 r)) t) (x : Int) : pay s x = min (pay l x) (pay m x) := by
  have g := Grid.imp (fun lo hi _ k => two_min k) (corn_ok (h.grid hl hm))
  obtain ⟨z1, z2⟩ := last_flat hl hm h
  refine segs_pay (h := fun x => min (pay l x) (pay m x)) g hs hc (fun x hx => ?_) (fun x hx => ?_) x
  · show min (pay l x) (pay m x) = 0
    rw [pay_low hl (by omega), pay_low hm (by omega)]; rfl
  · rw [lastD_corn] at hx ⊢
    show min (pay l x) (pay m x) = min (pay l (lastD 0 r)) (pay m (lastD 0 r))
    rw [z1 x hx, z2 x hx]
theorem never_ok : (∀ q ∈ 0 :: corn (pay l) (pay m) 0 r, pay l q ≤ pay m q) ↔ ∀ x, pay l x ≤ pay m x := by
  refine ⟨fun k x => ?_, fun k q _ => k q⟩
  have g := corn_ok (h.grid hl hm)
  obtain ⟨z1, z2⟩ := last_flat hl hm h
  have walk : ∀ {r : List Int} {lo : Int}, Grid (Two (pay l) (pay m)) lo r → (∀ q ∈ lo :: r, pay l q ≤ pay m q) → ∀ x, lo ≤ x → x ≤ lastD lo r → pay l x ≤ pay m x := by
    intro r
    induction r with
    | nil =>
      intro lo _ k x h1 h2
      have : x = lo := by have h2' : x ≤ lo := h2; omega
      rw [this]; exact k lo List.mem_cons_self
    | cons hi r ih =>
      intro lo ⟨a, b, c⟩ k x h1 h2
      by_cases d : x ≤ hi
      · exact two_le b (k lo List.mem_cons_self) (k hi (List.mem_cons_of_mem _ List.mem_cons_self)) h1 d
      · exact ih c (fun q hq => k q (List.mem_cons_of_mem _ hq)) x (by omega) h2
  by_cases c : x ≤ 0
  · rw [pay_low hl (by omega), pay_low hm (by omega)]
    exact Int.le_refl _
  · by_cases d : x ≤ lastD 0 r
    · exact walk g k x (by omega) (by rw [lastD_corn]; exact d)
    · have e := walk g k (lastD 0 r) (grid_le (h.grid hl hm)) (by rw [lastD_corn]; exact Int.le_refl _)
      rw [z1 x (by omega), z2 x (by omega)]
      exact e
end
/-! how many ranges -/
theorem len_sub : ∀ {a b : List Int}, a.Nodup → (∀ x ∈ a, x ∈ b) → a.length ≤ b.length
  | [], _, _, _ => Nat.zero_le _
  | x :: a, b, nd, h => by
    obtain ⟨n1, n2⟩ := List.nodup_cons.mp nd
    have hx := h x List.mem_cons_self
    have ih := len_sub (a := a) (b := b.erase x) n2 fun y hy => (List.mem_erase_of_ne (fun e : y = x => n1 (by rw [← e]; exact hy))).mpr (h y (List.mem_cons_of_mem _ hy))
    rw [List.length_erase_of_mem hx] at ih
    have := List.length_pos_of_mem hx
    rw [List.length_cons]
    omega
theorem norm_nodup2 : ∀ {l : List (Int × Int)} {a : Int}, NormF a l → (l.map (·.2)).Nodup ∧ (∀ x ∈ l.map (·.2), a < x)
  | [], _, _ => ⟨List.nodup_nil, fun _ h => by simp at h⟩
  | p :: l, a, ⟨h1, h2, h3⟩ => by
    obtain ⟨i1, i2⟩ := norm_nodup2 h3
    refine ⟨List.nodup_cons.mpr ⟨fun z => by have w : p.2 < p.2 := i2 _ z; omega, i1⟩, fun x hx => ?_⟩
    rcases List.mem_cons.mp hx with e | hx
    · have e' : x = p.2 := e
      omega
    · have := i2 x hx; omega
theorem norm_nodup1 : ∀ {l : List (Int × Int)} {a : Int}, NormF a l → (l.map (·.1)).Nodup ∧ (∀ x ∈ l.map (·.1), a < x)
  | [], _, _ => ⟨List.nodup_nil, fun _ h => by simp at h⟩
  | p :: l, a, ⟨h1, h2, h3⟩ => by
    obtain ⟨i1, i2⟩ := norm_nodup1 h3
    refine ⟨List.nodup_cons.mpr ⟨fun z => by have w : p.2 < p.1 := i2 _ z; omega, i1⟩, fun x hx => ?_⟩
    rcases List.mem_cons.mp hx with e | hx
    · have e' : x = p.1 := e
      omega
    · have := i2 x hx; omega
/-- an end of the spans: covered, the next one is not -/
theorem end_iff : ∀ {l : List (Int × Int)} {a : Int} (n : NormF a l) (x : Int), x ∈ l.map (·.2) ↔ Cov l x ∧ ¬ Cov l (x + 1)
  | [], _, _, x => ⟨fun h => by simp at h, fun h => (cov_nil h.1).elim⟩
  | p :: l, a, ⟨h1, h2, h3⟩, x => by
    have ih := end_iff h3 x
    rw [List.map_cons, List.mem_cons, ih, cov_cons, cov_cons]
    constructor
    · rintro (rfl | ⟨c, d⟩)
      · exact ⟨.inl ⟨h2, Int.le_refl _⟩, fun z => z.elim (fun z => by omega) fun z => by have := cov_low h3 z; omega⟩
      · have := cov_low h3 c
        exact ⟨.inr c, fun z => z.elim (fun z => by omega) d⟩
    · rintro ⟨c | c, d⟩
      · left
        have : ¬ (p.1 < x + 1 ∧ x + 1 ≤ p.2) := fun z => d (.inl z)
        omega
      · exact .inr ⟨c, fun z => d (.inr z)⟩
/-- a begin: the next one is covered, it is not -/
theorem beg_iff : ∀ {l : List (Int × Int)} {a : Int} (n : NormF a l) (x : Int), x ∈ l.map (·.1) ↔ Cov l (x + 1) ∧ ¬ Cov l x
  | [], _, _, x => ⟨fun h => by simp at h, fun h => (cov_nil h.1).elim⟩
  | p :: l, a, ⟨h1, h2, h3⟩, x => by
    have ih := beg_iff h3 x
    rw [List.map_cons, List.mem_cons, ih, cov_cons, cov_cons]
    constructor
    · rintro (rfl | ⟨c, d⟩)
      · exact ⟨.inl ⟨by omega, by omega⟩, fun z => z.elim (fun z => by omega) fun z => by have := cov_low h3 z; omega⟩
      · have := cov_low h3 c
        exact ⟨.inr c, fun z => z.elim (fun z => by omega) d⟩
    · rintro ⟨c | c, d⟩
      · left
        have : ¬ (p.1 < x ∧ x ≤ p.2) := fun z => d (.inl z)
        omega
      · exact .inr ⟨c, fun z => d (.inr z)⟩
theorem cov_pay {l : List (Int × Int)} (n : Norm l) (x : Int) : Cov l x ↔ pay l x = pay l (x - 1) + 1 := by
  have e := pay_step x n
  by_cases c : Cov l x
  · rw [if_pos c] at e; exact ⟨fun _ => e, fun _ => c⟩
  · rw [if_neg c] at e; exact ⟨fun z => (c z).elim, fun z => by omega⟩
theorem max_len {l m s : List (Int × Int)} (hl : Norm l) (hm : Norm m) (hs : Norm s) (h : ∀ x, pay s x = max (pay l x) (pay m x)) : s.length ≤ l.length + m.length := by
  have z := len_sub (a := s.map (·.2)) (b := l.map (·.2) ++ m.map (·.2)) (norm_nodup2 hs).1 fun x hx => by
    obtain ⟨c, d⟩ := (end_iff hs x).mp hx
    rw [cov_pay hs, h, h] at c
    rw [cov_pay hs, h, h] at d
    have e : x + 1 - 1 = x := by omega
    rw [e] at d
    have l1 := pay_mono1 hl x
    have l2 := pay_mono1 hl (x + 1)
    have m1 := pay_mono1 hm x
    have m2 := pay_mono1 hm (x + 1)
    rw [e] at l2 m2
    rw [List.mem_append, end_iff hl, end_iff hm, cov_pay hl, cov_pay hl, cov_pay hm, cov_pay hm, e]
    omega
  simpa using z
theorem min_len {l m s : List (Int × Int)} (hl : Norm l) (hm : Norm m) (hs : Norm s) (h : ∀ x, pay s x = min (pay l x) (pay m x)) : s.length ≤ l.length + m.length := by
  have z := len_sub (a := s.map (·.1)) (b := l.map (·.1) ++ m.map (·.1)) (norm_nodup1 hs).1 fun x hx => by
    obtain ⟨c, d⟩ := (beg_iff hs x).mp hx
    rw [cov_pay hs, h, h] at c
    rw [cov_pay hs, h, h] at d
    have e : x + 1 - 1 = x := by omega
    rw [e] at c
    have l1 := pay_mono1 hl x
    have l2 := pay_mono1 hl (x + 1)
    have m1 := pay_mono1 hm x
    have m2 := pay_mono1 hm (x + 1)
    rw [e] at l2 m2
    rw [List.mem_append, beg_iff hl, beg_iff hm, cov_pay hl, cov_pay hl, cov_pay hm, cov_pay hm, e]
    omega
  simpa using z
/-- bounds by the payments -/
theorem bd_pay {l : List (Int × Int)} (n : Norm l) {M : Int} : Bd M l ↔ ∀ x, M ≤ x → pay l x = pay l M := by
  constructor
  · intro h x hx
    exact pay_flat n h x hx
  · intro h p hp
    by_cases c : p.2 ≤ M
    · exact c
    · have k := norm_mem n hp
      have s := (cov_pay n p.2).mp ⟨p, hp, by omega, Int.le_refl _⟩
      have z1 := h p.2 (by omega)
      have z2 := h (p.2 - 1) (by omega)
      omega
end CV
set_option Elab.async false
set_option linter.all false
set_option maxRecDepth 100000
namespace DL
open CV
/-! ### what the defs promise -/
/-- the spans as a value; a cover; its ranges -/
def spD (l : List (Int × Int)) : D := .tup (l.map eP)
def cov (l : List (Int × Int)) : D := .ob 0 (spD l)
def rgP (p : Int × Int) : D := eP (p.1 + 1, p.2)
def rgD (l : List (Int × Int)) : D := .tup (l.map rgP)
def intsD (l : List Int) : D := .lst (l.map D.int)
/-- few spans, none of them far away -/
def Few (l : List (Int × Int)) : Prop := Norm l ∧ l.length ≤ 200 ∧ Bd (2 ^ 60) l
def S_is_from : DSp := fun as K => ∃ v lo hi, as = [.val (.int v), .val (.int lo), .val (.int hi)] ∧ K (.bl (decide (lo ≤ v ∧ v ≤ hi))) []
def S_need_bill : DSp := fun as K => ∃ v : Int, as = [.val (.int v)] ∧ 0 ≤ v ∧ v ≤ 1000000000 ∧ K .non []
def okPol (p : Int × Int) : Prop := 0 ≤ p.1 ∧ p.1 ≤ 1000000 ∧ 1 ≤ p.2 ∧ p.2 ≤ 1000000
instance (p : Int × Int) : Decidable (okPol p) := by unfold okPol; infer_instance
def S_is_policy : DSp := fun as K => ∃ p : Int × Int, as = [.val (eP p)] ∧ K (.bl (decide (okPol p))) []
def S_paid : DSp := fun as K => ∃ l x, as = [.val (spD l), .val (.int x)] ∧ l.length ≤ 1000 ∧ K (.int (pay l x)) []
def S_lifted : DSp := fun as K => ∃ l r, as = [.val (spD l), .val (.int r)] ∧ K (.int (lift l r)) []
def S_joined : DSp := fun as K => ∃ l : List (Int × Int), as = [.val (.lst (l.map eP))] ∧ l.length ≤ 1000 ∧ (∀ p ∈ l, 0 ≤ p.1) ∧ ∀ r, Norm r → (∀ t, Cov r t ↔ Cov l t) → r.length ≤ l.length → K (spD r) []
/-- two covers one behind the other -/
def Chn (l m r : List (Int × Int)) : Prop := Norm r ∧ (∀ x, pay r x = pay l x + pay m (x - pay l x)) ∧ r.length ≤ l.length + m.length
def Mx (l m r : List (Int × Int)) : Prop := Norm r ∧ (∀ x, pay r x = max (pay l x) (pay m x)) ∧ r.length ≤ l.length + m.length
def Mn (l m r : List (Int × Int)) : Prop := Norm r ∧ (∀ x, pay r x = min (pay l x) (pay m x)) ∧ r.length ≤ l.length + m.length
def Lo (l m : List (Int × Int)) : Prop := ∀ x, pay l x ≤ pay m x
def two (a b : D) : List Sl := [.val a, .val b]
def S_chained : DSp := fun as K => ∃ l m, as = two (spD l) (spD m) ∧ Few l ∧ Few m ∧ ∀ r, Chn l m r → K (spD r) []
/-- not too many ends for sorted(set(..)) -/
def Sm (l m : List (Int × Int)) : Prop := Few l ∧ Few m ∧ ∀ e : List Int, e.Nodup → (∀ q, q ∈ e ↔ q = 0 ∨ q ∈ ends l ∨ q ∈ ends m) → e.length < 64
def S_corners : DSp := fun as K => ∃ l m, as = two (spD l) (spD m) ∧ Sm l m ∧ ∀ r, Pts l m (0 :: r) → r.length < 64 → K (intsD (0 :: corn (pay l) (pay m) 0 r)) []
def S_larger : DSp := fun as K => ∃ l m, as = two (spD l) (spD m) ∧ Sm l m ∧ ∀ r, Mx l m r → K (spD r) []
def S_smaller : DSp := fun as K => ∃ l m, as = two (spD l) (spD m) ∧ Sm l m ∧ ∀ r, Mn l m r → K (spD r) []
def S_never_more : DSp := fun as K => ∃ l m, as = two (spD l) (spD m) ∧ Sm l m ∧ ∀ b : Bool, (b = true ↔ Lo l m) → K (.bl b) []
def is_Shape : D → Option Bool := tyC (fun n => if n = "tuple" then some false else none) (fun c => if c = 1 then some true else none)
def is_Cover : D → Option Bool := tyC (fun n => if n = "tuple" then some false else none) (fun c => if c = 0 then some true else none)
def S_ShapeX_initX : DIn := fun ds K => ∃ d, ds = [d] ∧ K d
/-- what is left of a bill behind policies -/
def polS (p : Int × Int) : List (Int × Int) := [(p.1, p.1 + p.2)]
def restP (ps : List (Int × Int)) (x : Int) : Int := ps.foldl (fun r p => r - pay (polS p) r) x
def S_CoverX_initX : DIn := fun ds K => (∃ l, ds = [.ob 1 (spD l)] ∧ K (spD l)) ∨ ∃ ps : List (Int × Int), ds = ps.map eP ∧ ps.length ≤ 8 ∧ (∀ p ∈ ps, okPol p) ∧ ∀ r, Norm r → (∀ x, pay r x = x - restP ps x) → r.length ≤ ps.length → K (spD r)
def S_CoverX_addX : DSp := fun as K => ∃ l m, as = two (cov l) (cov m) ∧ Few l ∧ Few m ∧ ∀ r, Chn l m r → K (cov r) []
def S_CoverX_orX : DSp := fun as K => ∃ l m, as = two (cov l) (cov m) ∧ Sm l m ∧ ∀ r, Mx l m r → K (cov r) []
def S_CoverX_andX : DSp := fun as K => ∃ l m, as = two (cov l) (cov m) ∧ Sm l m ∧ ∀ r, Mn l m r → K (cov r) []
def S_CoverX_eqX : DSp := fun as K => ∃ l m, as = two (cov l) (cov m) ∧ K (.bl (decide (l = m))) []
def S_CoverX_callX : DSp := fun as K => ∃ l x, as = two (cov l) (.int x) ∧ l.length ≤ 1000 ∧ 0 ≤ x ∧ x ≤ 1000000000 ∧ K (.int (pay l x)) []
def S_Cover_ranges : DSp := fun as K => ∃ l, as = [.val (cov l)] ∧ l.length ≤ 1000 ∧ K (rgD l) []
def total (l : List (Int × Int)) : Int := (l.map fun p => p.2 - p.1).sum
def S_Cover_total : DSp := fun as K => ∃ l, as = [.val (cov l)] ∧ l.length ≤ 1000 ∧ K (.int (total l)) []
def S_Cover_at_most : DSp := fun as K => ∃ l m, as = two (cov l) (cov m) ∧ Sm l m ∧ ∀ b : Bool, (b = true ↔ Lo l m) → K (.bl b) []
/-! the law's own -/
/-- a deck that was asked n times at most -/
def Dk (n : Int) (ds : List D) : Prop := ∃ a b c : Int, ds = [.int a, .int b, .int c] ∧ 0 ≤ a ∧ 0 ≤ b ∧ b < 2 ^ 31 ∧ 0 ≤ c ∧ c ≤ n
def S__law_deck : DSpF := fun as K => ∃ c t : Int, as = two (.int c) (.int t) ∧ 0 ≤ t ∧ ∀ ds, Dk t ds → K ds []
def S__law_pick : DSp := fun as K => ∃ n ds lim, as = [.own true ds, .val (.int lim)] ∧ Dk n ds ∧ n < 2 ^ 38 ∧ 0 < lim ∧ lim < 2 ^ 62 ∧ ∀ r ds', 0 ≤ r → r < lim → Dk (n + 1) ds' → K (.int r) [ds']
/-- a list or a tuple -/
def Sq (d : D) (es : List D) : Prop := d = .lst es ∨ d = .tup es
def S__law_one : DSp := fun as K => ∃ n ds d es, as = [.own true ds, .val d] ∧ Sq d es ∧ Dk n ds ∧ n < 2 ^ 38 ∧ es ≠ [] ∧ es.length ≤ 2 ^ 24 ∧ ∀ e ds', e ∈ es → Dk (n + 1) ds' → K e [ds']
def sortN : D → Int
  | .bl _ => 1
  | .int _ => 2
  | .str _ => 3
  | .lst _ => 4
  | .tup _ => 5
  | _ => 6
def S__law_sort : DSp := fun as K => ∃ d, as = [.val d] ∧ (tyN d).isSome ∧ K (.int (sortN d)) []
def S__law_same : DSp := fun as K => ∃ a b : D, as = two a b ∧ ((∃ i j : Int, a = .int i ∧ b = .int j ∧ K (.bl (decide (i = j))) []) ∨ ∃ i j : Bool, a = .bl i ∧ b = .bl j ∧ K (.bl (decide (i = j))) [])
def S__law_pays : DSp := fun as K => ∃ l x, as = [.val (rgD l), .val (.int x)] ∧ l.length ≤ 1000 ∧ K (.int (pay l x)) []
def S__law_chain : DSp := fun as K => ∃ (ps : List (Int × Int)) (x : Int), as = [.val (.tup (ps.map eP)), .val (.int x)] ∧ (∀ p ∈ ps, okPol p) ∧ K (.int (x - restP ps x)) []
/-- a list of things that == tells from the empty list -/
def EqNil (es : List D) : Prop := ∀ fs : List D, (∀ e ∈ fs, e ∈ es) → neD (.lst fs) (.lst []) = some (.bl (!decide (fs.length = 0)))
def S__law_mixed : DSp := fun as K => ∃ (n : Int) (ds es : List D) (d : D), as = [.own true ds, .val d] ∧ Sq d es ∧ EqNil es ∧ Dk n ds ∧ n + 1000 < 2 ^ 38 ∧ es.length ≤ 1000 ∧ ∀ es' ds', es'.Perm es → Dk (n + es.length) ds' → K (.tup es') [ds']
/-- payments from 0 on, told as ranges -/
def Prs (f : Nat → Int) (n : Nat) (r : List (Int × Int)) : Prop := Norm r ∧ (∀ t : Int, Cov r t ↔ ∃ k : Nat, 1 ≤ k ∧ k < n ∧ t = k ∧ f k > f (k - 1)) ∧ r.length ≤ n
def S__law_pairs : DSp := fun as K => ∃ (f : Nat → Int) (n : Nat), as = [.val (intsD ((List.range n).map f))] ∧ 1 ≤ n ∧ n ≤ 1000 ∧ ∀ r, Prs f n r → K (rgD r) []
def S__law_policies : DSp := fun as K => ∃ (n : Int) (ds : List D) (m w : Int), as = [.own true ds, .val (.int m), .val (.int w)] ∧ Dk n ds ∧ n + 100 < 2 ^ 38 ∧ 0 ≤ m ∧ m ≤ 10 ∧ 2 ≤ w ∧ w ≤ 1000000 ∧
  ∀ (ps : List (Int × Int)) ds', (ps.length : Int) ≤ m → (∀ p ∈ ps, okPol p ∧ p.1 < w ∧ p.2 ≤ w) → Dk (n + 100) ds' → K (.tup (ps.map eP)) [ds']
def S__law_made : DSp := fun as K => ∃ ps : List (Int × Int), as = [.val (.tup (ps.map eP))] ∧ ps.length ≤ 100 ∧ (∀ p ∈ ps, okPol p) ∧ ∀ r, Norm r → (∀ x, pay r x = x - restP ps x) → r.length ≤ ps.length → K (cov r) []
def S__law_sets : DSp := fun as K => ∃ top : Int, as = [.val (.int top)] ∧ 0 ≤ top ∧ top ≤ 8 ∧ ∀ rs : List (List (Int × Int)), rs ≠ [] → rs.length ≤ 256 → (∀ r ∈ rs, Norm r ∧ Bd top r ∧ (r.length : Int) ≤ top + 1) → K (.lst (rs.map rgD)) []
def S__law_cover : DSp := fun as K => ∃ l, as = [.val (rgD l)] ∧ Norm l ∧ l.length ≤ 100 ∧ Bd 1000000 l ∧ K (cov l) []
def S__law_behind : DSp := fun as K => ∃ l m x, as = [.val (rgD l), .val (rgD m), .val (.int x)] ∧ l.length ≤ 1000 ∧ m.length ≤ 1000 ∧ K (.int (pay l x + pay m (x - pay l x))) []
def S__law_sum_right : DSp := fun as K => ∃ l m, as = two (cov l) (cov m) ∧ Norm l ∧ Norm m ∧ l.length ≤ 8 ∧ m.length ≤ 8 ∧ Bd 100000000 l ∧ Bd 100000000 m ∧ K (.bl true) []
end DL
set_option Elab.async false
set_option linter.all false
set_option maxRecDepth 100000
set_option maxHeartbeats 4000000
/-! the script: a list that is read, wherever it stands -/
namespace DL
open PySem PySem.Spec PyProof.Rows L2
def rCatS (K : PySem.W.Frag) : R2 := fun x y H Q => ∃ l b xs zs, x = .ref l ∧ y = .ref b ∧ SqL K H l xs ∧ SqL K H b zs ∧ xs.length + zs.length ≤ sizeLine ∧ ∀ p, H p = none → Q (.ref p) (upd H p (.lst (xs ++ zs)))
theorem op_catS {X : Cx} : OpR X (binaryOp .Add) (rCatS X.K) := by
  intro pins s σ H x y v u Q I rx ry h
  obtain ⟨l, b, xs, zs, rfl, rfl, hH, hB, hz, q⟩ := h
  cases rx
  cases ry
  obtain ⟨its, r, pl, _⟩ := I.list hH
  obtain ⟨its2, r2, pl2, _⟩ := I.list hB
  obtain ⟨⟨cls, dd, data, sl⟩, ho, hc, n, hd⟩ := pl.isList
  obtain ⟨⟨cls2, dd2, data2, sl2⟩, ho2, hc2, n2, hd2⟩ := pl2.isList
  simp only at hc hd hc2 hd2
  subst hc hd hc2 hd2
  have ea : its.toArray ++ its2.toArray = (its ++ its2).toArray := by simp
  refine concat_meets ⟨_, ho, rfl⟩ ⟨_, ho2, rfl⟩ noFill_list_add seq_list_add PySem.F.slot_list_add PySem.F.entry_list_add (PySem.F.args_list_add_2 _ _) (list_addW l b its.toArray its2.toArray n n2 dd dd2 sl sl2 (by rw [List.size_toArray, List.size_toArray, ← r.length, ← r2.length]; exact hz)) ⟨ho, ho2, ?_⟩
  rw [ea]
  exact ⟨.ref _, _, I.lnew (t' := s.toks) (r.append r2) (by rw [List.length_append]; exact hz), rfl, q _ I.fresh⟩
/-- [0] + script -/
def scr (a : Addr) (ns : List Int) : TE' := fun ρ Q => ρ[0]? = some (.raw a) ∧ Q (.d (.lst ((0 :: ns).map D.int))) ρ
theorem pd_scr {X : Cx} {G : Gm} {B : Bs} {a : Addr} {ns : List Int} {x : Str} {i j pos p2 p3} (hB : SqL X.K B.H0 a (ns.map V.int)) (hF : ∀ u, B.H0 a = some u → a ∉ B.io) (hl : ns.length ≤ 63) (hN : X.N[0]? = some x := by rfl) (hv : Vis X.env.scope x := by first | exact Or.inl rfl | exact Or.inr (Or.inl rfl) | exact Or.inr (Or.inr rfl)) (hd : (x == ("__debug__" : Str)) = false := by decide)
    (hcd : (x == ("__classdict__" : Str)) = false := by decide) (hs : starEach [.Constant (.int 0) i p2] X.env = (false, eval (.Constant (.int 0) i p2) X.env) :: starEach [] X.env := by rfl) : PD X G B (.BinOp (.List [.Constant (.int 0) i p2] j) .Add (.Name x p3) pos) (scr a ns) := by
  refine pe_imp (pe_op op_catS (pe_lst (pa_cons pe_int pa_nil hs)) (pe_var (i := 0) hN hv hd hcd)) fun σ H Q ⟨F, ρ, P, S, ⟨h0, h⟩, k⟩ => ?_
  refine ⟨by decide, fun p hp => ⟨.ref a, S.sl 0 _ h0, p, a, [.int 0], ns.map V.int, rfl, rfl, .inl (.inl upd_same), ?_, by rw [List.length_map]; show 1 + ns.length ≤ 16777216; omega, fun q hq => ?_⟩⟩
  · have n := New.tup (o := .lst [.int 0]) S.trk hp
    rcases hB with (hB | ⟨o, hB⟩) | hB
    · exact .inl (.inl (n.kp _ _ (S.frame _ _ hB (hF _ hB))))
    · exact .inl (.inr ⟨o, n.kp _ _ (S.frame _ _ hB (hF _ hB))⟩)
    · exact .inr hB
  · have n := New.tup (o := .lst [.int 0]) S.trk hp
    have S1 := S.new n
    have n2 := New.lst (o := .lst ([.int 0] ++ ns.map V.int)) S1.trk hq
    exact k _ _ h _ _ _ (S1.new n2) (.lst (.inl upd_same) (.inr rfl) (RepA.ofInts (0 :: ns))) (n.ext.trans n2.ext)
end DL
set_option Elab.async false
set_option linter.all false
set_option maxRecDepth 100000
set_option maxHeartbeats 4000000
/-! max, min of a list or a tuple of ints -/
namespace DL
open PySem PySem.Spec PyProof.Rows L2
section
variable {prog : Program} {w : World} {A : Around} {E : Value → Shared → Prop} {s : Shared} {l : Addr} {xs : Array (Int × Tok)}
theorem iter_intTup {Q : Value → Shared → Prop} (hl : s.heap.IsTuple l (intItems xs))
    (h : ∀ s₂ : Shared, s₂ = { s with heap := s.heap.push { cls := .type "tuple_iterator", data := .fields #[.ref l, .int 0 0] } } →
      (s₂.heap.IsTupleIter s.heap.objs.size l 0 ∧ s₂.heap.IsTuple l (intItems xs)) → (∀ b ∈ [s.heap.objs.size, l], b < s₂.heap.objs.size) → l ≠ s.heap.objs.size → Q (.ref s.heap.objs.size) s₂) :
    wpAny (model prog w) A (pyIter (.ref l)) Q E s := by
  have hlt : l < s.heap.objs.size := by obtain ⟨_, e, _⟩ := hl; exact Heap.lt_size e
  refine wpAny_pyIter_tuple hl (h _ rfl ⟨⟨_, Heap.get?_push_size _ rfl, rfl, rfl⟩, hl.push _⟩ (fun b hb => ?_) (Nat.ne_of_lt hlt))
  show b < (s.heap.push _).objs.size
  rw [Heap.size_push]
  rcases List.mem_cons.mp hb with rfl | hb
  · exact Nat.lt_succ_self _
  · rcases List.mem_cons.mp hb with rfl | hb
    · exact Nat.lt_succ_of_lt hlt
    · cases hb
theorem old_keptT {h' : Heap} (hk : ∀ b o, b ∉ [s.heap.objs.size] → (s.heap.push { cls := .type "tuple_iterator", data := .fields #[.ref l, .int 0 0] }).get? b = some o → h'.get? b = some o) :
    ∀ b o, s.heap.get? b = some o → h'.get? b = some o := fun b o e => by
  refine hk b o (fun hm => ?_) (Heap.get?_push_of_some _ e)
  rcases List.mem_cons.mp hm with e1 | hm
  · exact absurd (e1 ▸ Heap.lt_size e) (Nat.lt_irrefl _)
  · cases hm
theorem max_intTup {Q : Value → Shared → Prop} (hh : A.handled = none) (hl : s.heap.IsTuple l (intItems xs)) (hne : 0 < xs.size)
    (h : ∀ v h' tk, (intItems xs)[argBest (fun i j => decide (numAt xs i > numAt xs j)) (xs.size - 1)]? = some v → (∀ b o, s.heap.get? b = some o → h'.get? b = some o) → Q v { s with heap := h', toks := tk }) :
    wpAny (model prog w) A (call (.builtin "max") [.ref l]) Q E s := by
  refine call_max_walk (iter_intTup hl fun s₂ e st hfp hlI => ?_)
  subst e
  refine ⟨_, _, _, _, _, _, _, rfl, Walks.tuple (A := A.in1) hh _ l hlI (intItems xs), st, hfp, by simpa [intItems] using hne, CmpOf.ints_gt (numAt xs) (fun _ _ => intItems_at), fun v h' tk hP hk => ?_⟩
  exact h v h' tk (by simpa [intItems] using hP) (old_keptT hk)
theorem min_intTup {Q : Value → Shared → Prop} (hh : A.handled = none) (hl : s.heap.IsTuple l (intItems xs)) (hne : 0 < xs.size)
    (h : ∀ v h' tk, (intItems xs)[argBest (fun i j => decide (numAt xs i < numAt xs j)) (xs.size - 1)]? = some v → (∀ b o, s.heap.get? b = some o → h'.get? b = some o) → Q v { s with heap := h', toks := tk }) :
    wpAny (model prog w) A (call (.builtin "min") [.ref l]) Q E s := by
  refine call_min_walk (iter_intTup hl fun s₂ e st hfp hlI => ?_)
  subst e
  refine ⟨_, _, _, _, _, _, _, rfl, Walks.tuple (A := A.in1) hh _ l hlI (intItems xs), st, hfp, by simpa [intItems] using hne, CmpOf.ints_lt (numAt xs) (fun _ _ => intItems_at), fun v h' tk hP hk => ?_⟩
  exact h v h' tk (by simpa [intItems] using hP) (old_keptT hk)
end
section
variable {prog : Program} {w : World} {A : Around} {E : Value → Shared → Prop} {s : Shared} {l : Addr} {its : List Value} {ns : List Int} {Q : Value → Shared → Prop}
theorem max_rawT (hh : A.handled = none) (hl : s.heap.IsTuple l its.toArray) (hi : IntsAre its ns) (hne : 0 < ns.length)
    (h : ∀ h' tk M t', (∀ b o, s.heap.get? b = some o → h'.get? b = some o) → M ∈ ns → (∀ a, a ∈ ns → a ≤ M) → Q (.int M t') { s with heap := h', toks := tk }) : wpAny (model prog w) A (call (.builtin "max") [.ref l]) Q E s := by
  obtain ⟨xs, e⟩ := hi.allInts.items
  have hn : numsOf (intItems xs).toList = ns := by rw [← e]; exact hi.numsOf
  rw [nums_intItems] at hn
  subst hn
  rw [e] at hl
  have hsz : 0 < xs.size := by simpa using hne
  refine max_intTup hh hl hsz fun v h' tk hv hk => ?_
  obtain ⟨t, rfl⟩ := intItems_at hv
  obtain ⟨h1, h2⟩ := argBest_gt (numAt xs) (xs.size - 1)
  refine h h' tk _ t hk ?_ fun a ha => ?_
  · rw [numAt_eq]; exact PySem.getD_mem (by rw [List.length_map, Array.length_toList]; omega)
  · obtain ⟨j, hj, rfl⟩ := mem_getD ha
    rw [List.length_map, Array.length_toList] at hj
    rw [← numAt_eq]; exact h2 j (by omega)
theorem min_rawT (hh : A.handled = none) (hl : s.heap.IsTuple l its.toArray) (hi : IntsAre its ns) (hne : 0 < ns.length)
    (h : ∀ h' tk M t', (∀ b o, s.heap.get? b = some o → h'.get? b = some o) → M ∈ ns → (∀ a, a ∈ ns → M ≤ a) → Q (.int M t') { s with heap := h', toks := tk }) : wpAny (model prog w) A (call (.builtin "min") [.ref l]) Q E s := by
  obtain ⟨xs, e⟩ := hi.allInts.items
  have hn : numsOf (intItems xs).toList = ns := by rw [← e]; exact hi.numsOf
  rw [nums_intItems] at hn
  subst hn
  rw [e] at hl
  have hsz : 0 < xs.size := by simpa using hne
  refine min_intTup hh hl hsz fun v h' tk hv hk => ?_
  obtain ⟨t, rfl⟩ := intItems_at hv
  obtain ⟨h1, h2⟩ := argBest_lt (numAt xs) (xs.size - 1)
  refine h h' tk _ t hk ?_ fun a ha => ?_
  · rw [numAt_eq]; exact PySem.getD_mem (by rw [List.length_map, Array.length_toList]; omega)
  · obtain ⟨j, hj, rfl⟩ := mem_getD ha
    rw [List.length_map, Array.length_toList] at hj
    rw [← numAt_eq]; exact h2 j (by omega)
end
def rMaxT (K : PySem.W.Frag) : List V → Hp → VK → Prop := fun vs H Q => ∃ (a : Addr) (ns : List Int), vs = [V.ref a] ∧ (SqL K H a (ns.map V.int) ∨ SqT K H a (ns.map V.int)) ∧ 0 < ns.length ∧ ∀ m, m ∈ ns → (∀ y, y ∈ ns → y ≤ m) → Q (.int m) H
def rMinT (K : PySem.W.Frag) : List V → Hp → VK → Prop := fun vs H Q => ∃ (a : Addr) (ns : List Int), vs = [V.ref a] ∧ (SqL K H a (ns.map V.int) ∨ SqT K H a (ns.map V.int)) ∧ 0 < ns.length ∧ ∀ m, m ∈ ns → (∀ y, y ∈ ns → m ≤ y) → Q (.int m) H
theorem cr_maxT {X : Cx} (hc : X.calm = true) : CallR X (.builtin "max") (rMaxT X.K) := by
  intro pins s σ H vs us Q I r h
  obtain ⟨a, ns, rfl, hs, hne, q⟩ := h
  rcases hs with hs | hs
  · obtain ⟨its, rv, hl, _⟩ := I.list hs
    rw [Vals.ref1 r]
    exact max_raw (I.ok.hd hc) hl.isList rv.ints hne fun h' tk m t' hk h1 h2 => ⟨.int _, H, I.kept hk, ⟨_, rfl⟩, q m h1 h2⟩
  · obtain ⟨its, rv, hl, _⟩ := I.tuple hs
    rw [Vals.ref1 r]
    exact max_rawT (I.ok.hd hc) hl rv.ints hne fun h' tk m t' hk h1 h2 => ⟨.int _, H, I.kept hk, ⟨_, rfl⟩, q m h1 h2⟩
theorem cr_minT {X : Cx} (hc : X.calm = true) : CallR X (.builtin "min") (rMinT X.K) := by
  intro pins s σ H vs us Q I r h
  obtain ⟨a, ns, rfl, hs, hne, q⟩ := h
  rcases hs with hs | hs
  · obtain ⟨its, rv, hl, _⟩ := I.list hs
    rw [Vals.ref1 r]
    exact min_raw (I.ok.hd hc) hl.isList rv.ints hne fun h' tk m t' hk h1 h2 => ⟨.int _, H, I.kept hk, ⟨_, rfl⟩, q m h1 h2⟩
  · obtain ⟨its, rv, hl, _⟩ := I.tuple hs
    rw [Vals.ref1 r]
    exact min_rawT (I.ok.hd hc) hl rv.ints hne fun h' tk m t' hk h1 h2 => ⟨.int _, H, I.kept hk, ⟨_, rfl⟩, q m h1 h2⟩
/-- by data -/
def maxLs : List Int → Option Int
  | [] => none
  | n :: ns => some (ns.foldl max n)
def minLs : List Int → Option Int
  | [] => none
  | n :: ns => some (ns.foldl min n)
theorem foldl_max : ∀ (ns : List Int) (n : Int), (n :: ns).foldl max n = ns.foldl max n ∧ ns.foldl max n ∈ n :: ns ∧ (∀ y ∈ n :: ns, y ≤ ns.foldl max n)
  | [], n => ⟨by show max n n = n; omega, List.mem_cons_self, fun y hy => by
      have : y = n := by simpa using hy
      show y ≤ n
      omega⟩
  | m :: ns, n => by
    obtain ⟨_, h2, h3⟩ := foldl_max ns (max n m)
    refine ⟨by show (m :: ns).foldl max (max n n) = _; rw [show max n n = n by omega], ?_, fun y hy => ?_⟩
    · show ns.foldl max (max n m) ∈ _
      rcases List.mem_cons.mp h2 with e | h
      · rw [e]
        by_cases c : n ≤ m
        · rw [show max n m = m by omega]; exact List.mem_cons_of_mem _ List.mem_cons_self
        · rw [show max n m = n by omega]; exact List.mem_cons_self
      · exact List.mem_cons_of_mem _ (List.mem_cons_of_mem _ h)
    · show y ≤ ns.foldl max (max n m)
      have hb := h3 (max n m) List.mem_cons_self
      rcases List.mem_cons.mp hy with e | hy
      · omega
      · rcases List.mem_cons.mp hy with e | hy
        · omega
        · exact h3 y (List.mem_cons_of_mem _ hy)
theorem foldl_min : ∀ (ns : List Int) (n : Int), ns.foldl min n ∈ n :: ns ∧ (∀ y ∈ n :: ns, ns.foldl min n ≤ y)
  | [], n => ⟨List.mem_cons_self, fun y hy => by
      have : y = n := by simpa using hy
      show n ≤ y
      omega⟩
  | m :: ns, n => by
    obtain ⟨h2, h3⟩ := foldl_min ns (min n m)
    refine ⟨?_, fun y hy => ?_⟩
    · show ns.foldl min (min n m) ∈ _
      rcases List.mem_cons.mp h2 with e | h
      · rw [e]
        by_cases c : n ≤ m
        · rw [show min n m = n by omega]; exact List.mem_cons_self
        · rw [show min n m = m by omega]; exact List.mem_cons_of_mem _ List.mem_cons_self
      · exact List.mem_cons_of_mem _ (List.mem_cons_of_mem _ h)
    · show ns.foldl min (min n m) ≤ y
      have hb := h3 (min n m) List.mem_cons_self
      rcases List.mem_cons.mp hy with e | hy
      · omega
      · rcases List.mem_cons.mp hy with e | hy
        · omega
        · exact h3 y (List.mem_cons_of_mem _ hy)
def max1D : List D → Option D
  | [.lst ds] => ((toInts ds).bind maxLs).map D.int
  | [.tup ds] => ((toInts ds).bind maxLs).map D.int
  | _ => none
def min1D : List D → Option D
  | [.lst ds] => ((toInts ds).bind minLs).map D.int
  | [.tup ds] => ((toInts ds).bind minLs).map D.int
  | _ => none
section
variable {G : Gm}
theorem mx_ex {o : List D} {f : List Int → Option Int} {c : D} (h : ((toInts o).bind f).map D.int = some c) : ∃ ns m, toInts o = some ns ∧ f ns = some m ∧ c = .int m := by
  cases e : toInts o with
  | none => rw [e] at h; cases h
  | some ns =>
    rw [e] at h
    have h' : (f ns).map D.int = some c := h
    cases e2 : f ns with
    | none => rw [e2] at h'; cases h'
    | some m =>
      rw [e2] at h'
      exact ⟨ns, m, rfl, e2, (Option.some.inj h').symm⟩
theorem maxLs_u {ns : List Int} {m : Int} (h : maxLs ns = some m) : 0 < ns.length ∧ ∀ m', m' ∈ ns → (∀ y, y ∈ ns → y ≤ m') → m' = m := by
  cases ns with
  | nil => cases h
  | cons n ns =>
    have e : ns.foldl max n = m := Option.some.inj h
    subst e
    obtain ⟨_, h2, h3⟩ := foldl_max ns n
    exact ⟨Nat.succ_pos _, fun m' h h4 => by have a := h3 m' h; have b := h4 _ h2; omega⟩
theorem minLs_u {ns : List Int} {m : Int} (h : minLs ns = some m) : 0 < ns.length ∧ ∀ m', m' ∈ ns → (∀ y, y ∈ ns → m' ≤ y) → m' = m := by
  cases ns with
  | nil => cases h
  | cons n ns =>
    have e : ns.foldl min n = m := Option.some.inj h
    subst e
    obtain ⟨h2, h3⟩ := foldl_min ns n
    exact ⟨Nat.succ_pos _, fun m' h h4 => by have a := h3 m' h; have b := h4 _ h2; omega⟩
theorem cald_max1 {K : PySem.W.Frag} : CalD G (rMaxT K) max1D := by
  intro F H vs ds c Q t ts h q
  match ds, ts, h with
  | [.lst ds], ts, h =>
    obtain ⟨v, rfl, r1⟩ := ts.one
    obtain ⟨l, xs, rfl, r, w⟩ := r1.lst
    obtain ⟨ns, m, e, e2, rfl⟩ := mx_ex h
    have e1 := toInts_eq e
    subst e1
    have e3 := w.ints
    subst e3
    obtain ⟨hl, hu⟩ := maxLs_u e2
    exact ⟨l, ns, rfl, .inl (sqL_rd r), hl, fun m' a b => by rw [hu m' a b]; exact q.flat t rfl⟩
  | [.tup ds], ts, h =>
    obtain ⟨v, rfl, r1⟩ := ts.one
    obtain ⟨l, xs, rfl, r, w⟩ := r1.tup
    obtain ⟨ns, m, e, e2, rfl⟩ := mx_ex h
    have e1 := toInts_eq e
    subst e1
    have e3 := w.ints
    subst e3
    obtain ⟨hl, hu⟩ := maxLs_u e2
    exact ⟨l, ns, rfl, .inr (SqT.of r), hl, fun m' a b => by rw [hu m' a b]; exact q.flat t rfl⟩
theorem cald_min1 {K : PySem.W.Frag} : CalD G (rMinT K) min1D := by
  intro F H vs ds c Q t ts h q
  match ds, ts, h with
  | [.lst ds], ts, h =>
    obtain ⟨v, rfl, r1⟩ := ts.one
    obtain ⟨l, xs, rfl, r, w⟩ := r1.lst
    obtain ⟨ns, m, e, e2, rfl⟩ := mx_ex h
    have e1 := toInts_eq e
    subst e1
    have e3 := w.ints
    subst e3
    obtain ⟨hl, hu⟩ := minLs_u e2
    exact ⟨l, ns, rfl, .inl (sqL_rd r), hl, fun m' a b => by rw [hu m' a b]; exact q.flat t rfl⟩
  | [.tup ds], ts, h =>
    obtain ⟨v, rfl, r1⟩ := ts.one
    obtain ⟨l, xs, rfl, r, w⟩ := r1.tup
    obtain ⟨ns, m, e, e2, rfl⟩ := mx_ex h
    have e1 := toInts_eq e
    subst e1
    have e3 := w.ints
    subst e3
    obtain ⟨hl, hu⟩ := minLs_u e2
    exact ⟨l, ns, rfl, .inr (SqT.of r), hl, fun m' a b => by rw [hu m' a b]; exact q.flat t rfl⟩
end
section
variable {X : Cx} {G : Gm} {B : Bs}
theorem pd_max1 {e : Expr} {t : TA'} {p pos : Pos} (hc : X.calm = true) (b : Bi X.mg) (ha : PDA X G B [e] t) (hg : Gl X "max" := by rfl) (he : starEach [e] X.env = (false, eval e X.env) :: starEach [] X.env := by rfl) (hpl : (backTo pos (starEach [] X.env)).any (·.1) = false := by rfl) : PD X G B (.Call (.Name "max" p) [e] [] pos) (cal max1D t) := pd_callB (cr_maxT hc) cald_max1 b.max PyProof.Rows.boot_max ha hg (by decide) (by decide) he hpl
theorem pd_min1 {e : Expr} {t : TA'} {p pos : Pos} (hc : X.calm = true) (b : Bi X.mg) (ha : PDA X G B [e] t) (hg : Gl X "min" := by rfl) (he : starEach [e] X.env = (false, eval e X.env) :: starEach [] X.env := by rfl) (hpl : (backTo pos (starEach [] X.env)).any (·.1) = false := by rfl) : PD X G B (.Call (.Name "min" p) [e] [] pos) (cal min1D t) := pd_callB (cr_minT hc) cald_min1 b.min PyProof.Rows.boot_min ha hg (by decide) (by decide) he hpl
end
end DL
set_option Elab.async false
set_option linter.all false
set_option maxRecDepth 100000
set_option maxHeartbeats 4000000
namespace DL
open PySem PySem.Spec PyProof.Rows L2
section
variable {X : Cx} {G : Gm} {B : Bs}
/-- a, b, c = three expressions -/
def par3 (i j l : Nat) (t : TA') : TS' := fun P ρ => t ρ fun xs ρ1 => match xs with
  | [.d a, .d b, .d c] => P.nx (((ρ1.set i (.val a)).set j (.val b)).set l (.val c))
  | _ => False
theorem pds_par3 {i j l : Nat} {x y z : Str} {a b c : Expr} {t : TA'} {px py pz pt pos : Pos} {kt k2 pt2} (hc : X.calm = true) (hN : X.N.Nodup) (ha : PDA X G B [a, b, c] t) (hi : X.N[i]? = some x := by rfl) (hj : X.N[j]? = some y := by rfl) (hl : X.N[l]? = some z := by rfl) (hij : i ≠ j := by decide) (hil : i ≠ l := by decide) (hjl : j ≠ l := by decide)
    (hx : X.env.scope.names.lookup x = some .local := by rfl) (hy : X.env.scope.names.lookup y = some .local := by rfl) (hz : X.env.scope.names.lookup z = some .local := by rfl)
    (hw : swappedStores [.Tuple [.Name x px, .Name y py, .Name z pz] kt pt] (.Tuple [a, b, c] k2 pt2) X.env = pure (some [x, y, z]) := by rfl)
    (hs : swapsWithSole [.Tuple [.Name x px, .Name y py, .Name z pz] kt pt] (.Tuple [a, b, c] k2 pt2) pos.line X.env = pure false := by rfl) :
    PDS X G B (.Assign [.Tuple [.Name x px, .Name y py, .Name z pz] kt pt] (.Tuple [a, b, c] k2 pt2) pos) (par3 i j l t) := by
  refine ps_imp (ps_par3 hc hN hi hj hl hij hil hjl hx hy hz ha hw hs) fun D σ H ⟨F, ρ, P, S, h, R⟩ => ?_
  refine ⟨F, ρ, _, S, h, fun xs ρ1 h1 vs H1 F1 S1 r1 e1 => ?_⟩
  match xs, vs, r1, h1 with
  | [.d a, .d b, .d c], _, .cons ra (.cons rb (.cons rc .nil)), h1 => exact ⟨_, _, _, rfl, R.nx _ h1 _ H1 F1 (((S1.set i ra).set j rb).set l rc) (((e1.trans (ext_set val_ne)).trans (ext_set val_ne)).trans (ext_set val_ne))⟩
/-- a, b = a value, a new list that is b's own -/
def parDO (i j : Nat) (t : TE') (u : TF') : TS' := fun P ρ => t ρ fun x ρ1 => u ρ1 fun es ρ2 => match x with
  | .d a => P.nx ((ρ2.set i (.val a)).set j (.own false es))
  | .o _ => False
theorem pds_parDO {i j : Nat} {x y : Str} {a b : Expr} {t : TE'} {u : TF'} {px py pt pos : Pos} {kt k2 pt2} (hc : X.calm = true) (hN : X.N.Nodup) (ha : PD X G B a t) (hb : PF X G B b u) (hi : X.N[i]? = some x := by rfl) (hj : X.N[j]? = some y := by rfl) (hij : i ≠ j := by decide)
    (hx : X.env.scope.names.lookup x = some .local := by rfl) (hy : X.env.scope.names.lookup y = some .local := by rfl)
    (hs1 : starEach [a, b] X.env = (false, eval a X.env) :: starEach [b] X.env := by rfl) (hs2 : starEach [b] X.env = (false, eval b X.env) :: starEach [] X.env := by rfl)
    (hw : swappedStores [.Tuple [.Name x px, .Name y py] kt pt] (.Tuple [a, b] k2 pt2) X.env = pure (some [x, y]) := by rfl)
    (hs : swapsWithSole [.Tuple [.Name x px, .Name y py] kt pt] (.Tuple [a, b] k2 pt2) pos.line X.env = pure false := by rfl) :
    PDS X G B (.Assign [.Tuple [.Name x px, .Name y py] kt pt] (.Tuple [a, b] k2 pt2) pos) (parDO i j t u) := by
  refine ps_imp (ps_par hc hN hi hj hij hx hy (pa_cons ha (pa_cons hb pa_nil hs2) hs1) hw hs) fun D σ H ⟨F, ρ, P, S, h, R⟩ => ?_
  refine ⟨F, ρ, _, S, h, fun x ρ1 h1 v H1 F1 S1 r1 e1 => ⟨F1, ρ1, _, S1, h1, fun es ρ2 h2 b H2 F2 ys S2 hb r2 nf2 hn2 h02 no2 e2 => ⟨_, _, rfl, ?_⟩⟩⟩
  cases x with
  | o k => exact h2.elim
  | d d =>
    have r1' : Rep G F2 H2 v d := Rep.ext e2.k (show Rep G F1 H1 v d from r1)
    have Sa := S2.set i r1'
    have nob : ¬ ownA (σ.set i (some v)) (ρ2.set i (.val d)) b := fun m => no2 (own_set (by intro t ds z; cases z) m)
    have Sb := Sa.setOwn j nf2 hb r2 h02 nob
    have hnb : H b = none := by
      cases q : H b with
      | none => rfl
      | some o =>
        obtain ⟨o', q'⟩ := e1.tk b o q
        rw [hn2] at q'; cases q'
    exact R.nx _ h2 _ H2 F2 Sb ((e1.trans e2).owns fun c m => by
      rcases own_setO m with m | m
      · exact .inl (own_set (by intro t ds z; cases z) m)
      · exact .inr (m ▸ hnb))
/-- .. a new list that is a's own, a value -/
def parOD (i j : Nat) (t : TF') (u : TE') : TS' := fun P ρ => t ρ fun ds ρ1 => u ρ1 fun y ρ2 => match y with
  | .d b => P.nx ((ρ2.set i (.own false ds)).set j (.val b))
  | .o _ => False
theorem pds_parOD {i j : Nat} {x y : Str} {a b : Expr} {t : TF'} {u : TE'} {px py pt pos : Pos} {kt k2 pt2} (hc : X.calm = true) (hN : X.N.Nodup) (ha : PF X G B a t) (hb : PD X G B b u) (hi : X.N[i]? = some x := by rfl) (hj : X.N[j]? = some y := by rfl) (hij : i ≠ j := by decide)
    (hx : X.env.scope.names.lookup x = some .local := by rfl) (hy : X.env.scope.names.lookup y = some .local := by rfl)
    (hs1 : starEach [a, b] X.env = (false, eval a X.env) :: starEach [b] X.env := by rfl) (hs2 : starEach [b] X.env = (false, eval b X.env) :: starEach [] X.env := by rfl)
    (hw : swappedStores [.Tuple [.Name x px, .Name y py] kt pt] (.Tuple [a, b] k2 pt2) X.env = pure (some [x, y]) := by rfl)
    (hs : swapsWithSole [.Tuple [.Name x px, .Name y py] kt pt] (.Tuple [a, b] k2 pt2) pos.line X.env = pure false := by rfl) :
    PDS X G B (.Assign [.Tuple [.Name x px, .Name y py] kt pt] (.Tuple [a, b] k2 pt2) pos) (parOD i j t u) := by
  refine ps_imp (ps_par hc hN hi hj hij hx hy (pa_cons ha (pa_cons hb pa_nil hs2) hs1) hw hs) fun D σ H ⟨F, ρ, P, S, h, R⟩ => ?_
  refine ⟨F, ρ, _, S, h, fun ds ρ1 h1 a H1 F1 xs S1 ha r1 nf hn h0 no e1 => ⟨F1, ρ1, _, S1, h1, fun y ρ2 h2 v H2 F2 S2 r2 e2 => ⟨_, _, rfl, ?_⟩⟩⟩
  cases y with
  | o k => exact h2.elim
  | d d =>
    have r2' : Rep G F2 H2 v d := r2
    have ha2 := e2.oth _ _ ha no
    have nfa : ¬ F2 a := e2.nof nf no ha
    have noa : ¬ ownA σ ρ2 a := fun m => (e2.own a m).elim no fun z => by rw [ha] at z; cases z
    have Sa := S2.setOwn i nfa ha2 (RepA.ext e2.k r1) h0 noa
    have Sb := Sa.set j r2'
    exact R.nx _ h2 _ H2 F2 Sb ((e1.trans e2).owns fun c m => by
      rcases own_setO (own_set (by intro t ds z; cases z) m) with m | m
      · exact .inl m
      · exact .inr (m ▸ hn))
end
end DL
namespace DL
open PySem PySem.Spec PyProof.Rows L2
section
variable {X : Cx} {G : Gm} {B : Bs}
def tIfT (t u v : TT) : TT := fun σ H Q => t σ H fun c H1 => if c = true then u σ H1 Q else v σ H1 Q
theorem pt_ifExp {c a b : Expr} {pos : Pos} {t u v : TT} (hc : PT X c t) (ha : PT X a u) (hb : PT X b v) : PT X (.IfExp c a b pos) (tIfT t u v) := by
  refine ⟨fun pins s σ H Q I h => ?_⟩
  show wpAny (model X.prog X.w) X.A (isTrue c X.env (eval c X.env) >>= fun r => if r = true then isTrue a X.env (eval a X.env) else isTrue b X.env (eval b X.env)) (TP X pins σ Q) X.xe s
  refine wpAny_bind (thn (hc.run pins s σ H _ I h) fun d s1 ⟨H1, I1, q1⟩ => ?_)
  cases d with
  | true => exact ha.run pins s1 σ H1 Q I1 q1
  | false => exact hb.run pins s1 σ H1 Q I1 q1
def iteT' (c t u : TT') : TT' := fun ρ Q => c ρ fun b ρ1 => if b = true then t ρ1 Q else u ρ1 Q
theorem pdt_if {c a b : Expr} {tc ta tb : TT'} {pos : Pos} (hc : PDT X G B c tc) (ha : PDT X G B a ta) (hb : PDT X G B b tb) : PDT X G B (.IfExp c a b pos) (iteT' tc ta tb) := by
  refine pt_imp (pt_ifExp hc ha hb) fun σ H Q q => ?_
  obtain ⟨F, ρ, P, S, q, k⟩ := q
  refine ⟨F, ρ, _, S, q, fun b ρ1 h1 H1 F1 S1 e1 => ?_⟩
  cases b with
  | true =>
    rw [if_pos rfl] at h1 ⊢
    exact ⟨F1, ρ1, P, S1, h1, fun x ρ2 h2 H2 F2 S2 e2 => k x ρ2 h2 H2 F2 S2 (e1.trans e2)⟩
  | false =>
    rw [if_neg Bool.false_ne_true] at h1 ⊢
    exact ⟨F1, ρ1, P, S1, h1, fun x ρ2 h2 H2 F2 S2 e2 => k x ρ2 h2 H2 F2 S2 (e1.trans e2)⟩
end
end DL
set_option Elab.async false
set_option linter.all false
set_option maxRecDepth 100000
set_option maxHeartbeats 4000000
/-! xs * k; enumerate -/
namespace DL
open PySem PySem.Spec PyProof.Rows L2
section
variable {X : Cx} {G : Gm}
def rRepR : R2 := fun x y H Q => ∃ l k xs, x = .ref l ∧ y = .int k ∧ Rd H l (.lst xs) ∧ -(2 ^ 63) ≤ k ∧ k < 2 ^ 63 ∧ xs.length * k.toNat ≤ sizeLine ∧
  ∀ p, H p = none → Q (.ref p) (upd H p (.lst (List.replicate k.toNat xs).flatten))
theorem op_repR : OpR X (binaryOp .Mult) rRepR := by
  intro pins s σ H x y v u Q I rx ry h
  obtain ⟨l, k, xs, rfl, rfl, hH, h1, h2, hz, q⟩ := h
  cases rx
  obtain ⟨t, rfl⟩ := ry
  obtain ⟨z, its, n, r, e⟩ := hH.ok I.hok
  have hl := r.length
  have hlen : its.toArray.size * k.toNat ≤ sizeLine := by rw [List.size_toArray, ← hl]; exact hz
  have hcap : ¬ its.toArray.size * k.toNat > (2 ^ 63 - 1) / 8 := by
    have : (sizeLine : Nat) ≤ (2 ^ 63 - 1) / 8 := by decide
    omega
  have hfit : ¬ (!Builtin.List.listFitsIndex k) = true := by
    rw [fitsIndex_both h1 h2]
    exact Bool.false_ne_true
  have hlong : ¬ Builtin.List.listTooLong (its.toArray.size * k.toNat) = true := by
    rw [notLongL hlen]
    exact Bool.false_ne_true
  have hnew : List.foldl (fun x1 x2 => x1 ++ x2) #[] (List.replicate (if its.toArray.isEmpty = true then 0 else k.toNat) its.toArray) = (List.replicate k.toNat its).flatten.toArray := by
    have f0 : ∀ m : Nat, List.foldl (fun x1 x2 => x1 ++ x2) #[] (List.replicate m its.toArray) = (List.replicate m its).flatten.toArray := fun m => by
      have := foldl_rep its m []
      rw [List.nil_append] at this
      exact this
    rw [f0]
    cases its with
    | nil => simp
    | cons a r' => rw [if_neg (by simp)]
  refine wpAny_binaryOp_repeat_ref (T := "list") (U := "int") (by decide) ⟨_, e, rfl⟩ (fun s' => typeIs_int s' k t) noFill_list_mul F.fills_int_mul F.slot_int_rmul repeat_list F.slot_int_index.lookup
    (call_meets F.slot_int_rmul (typeIs_int s k t) F.entry_int_rmul (F.args_int_rmul_2 _ _) (int___rmul___int_list k t l its.toArray n)
      ⟨e, rfl, ⟨_, e, rfl⟩, call_meets F.slot_list_mul ⟨_, e, rfl⟩ F.entry_list_mul (F.args_list_mul_2 _ _) (AutoListH.list___mul___list_int_3 l its.toArray n k t hfit hcap hlong) ⟨e, ?_⟩⟩)
  rw [hnew]
  exact ⟨.ref _, _, I.lnew (t' := s.toks) (r.rep k.toNat) (by rw [PyProof.Rows.lm_len_rep_flat, Nat.mul_comm]; exact hz), rfl, q _ I.fresh⟩
theorem RepA.rep {F : Addr → Prop} {H : Hp} {xs : List V} {ds : List D} (r : RepA G F H xs ds) : ∀ k, RepA G F H (List.replicate k xs).flatten (List.replicate k ds).flatten
  | 0 => .nil
  | k + 1 => by
    rw [List.replicate_succ, List.replicate_succ, List.flatten_cons, List.flatten_cons]
    exact r.append (RepA.rep r k)
def repL : D → D → Option (List D) := fun a b => match a, b with
  | .lst as, .int k => if 0 ≤ k ∧ k ≤ 1000 ∧ as.length ≤ 1000 then some (List.replicate k.toNat as).flatten else none
  | _, _ => none
theorem opf_rep : OpF G rRepR repL := by
  intro F H x y a b c Q t ta tb h q
  match a, b, ta, tb, h with
  | .lst as, .int k, ta, tb, h =>
    obtain ⟨l, xs, rfl, r1, w1⟩ := ta.lst
    have e := tb.int
    subst e
    have h' : (if 0 ≤ k ∧ k ≤ 1000 ∧ as.length ≤ 1000 then some (List.replicate k.toNat as).flatten else none) = some c := h
    by_cases hc : 0 ≤ k ∧ k ≤ 1000 ∧ as.length ≤ 1000
    · rw [if_pos hc] at h'
      cases (show (List.replicate k.toNat as).flatten = c from Option.some.inj h')
      refine ⟨l, k, xs, rfl, rfl, r1, by omega, by omega, ?_, fun p hp => q p _ hp (w1.rep k.toNat)⟩
      rw [w1.length]
      have h1 : k.toNat ≤ 1000 := by omega
      have := Nat.mul_le_mul hc.2.2 h1
      have : (1000 * 1000 : Nat) ≤ sizeLine := by decide
      omega
    · rw [if_neg hc] at h'
      cases h'
def repT : D → D → Option D := fun a b => match a, b with
  | .tup as, .int k => if 2 ≤ k ∧ k ≤ 1000 ∧ as.length ≤ 1000 ∧ as ≠ [] then some (.tup (List.replicate k.toNat as).flatten) else none
  | _, _ => none
theorem opd_repT {K : PySem.W.Frag} : OpD G (rRepT K) repT := by
  intro F H x y a b c Q t ta tb h q
  match a, b, ta, tb, h with
  | .tup as, .int k, ta, tb, h =>
    obtain ⟨l, xs, rfl, r1, w1⟩ := ta.tup
    have e := tb.int
    subst e
    have h' : (if 2 ≤ k ∧ k ≤ 1000 ∧ as.length ≤ 1000 ∧ as ≠ [] then some (D.tup (List.replicate k.toNat as).flatten) else none) = some c := h
    by_cases hc : 2 ≤ k ∧ k ≤ 1000 ∧ as.length ≤ 1000 ∧ as ≠ []
    · rw [if_pos hc] at h'
      cases (show D.tup (List.replicate k.toNat as).flatten = c from Option.some.inj h')
      refine ⟨l, k, xs, rfl, rfl, SqT.of r1, fun e => hc.2.2.2 (w1.nil_iff.mp e), hc.1, hc.2.1, by rw [w1.length]; exact hc.2.2.1, fun p hp => ?_⟩
      have n := New.tup (o := .tup (List.replicate k.toNat xs).flatten) t hp
      exact q _ _ F n (.tup upd_same (RepA.ext n.keep (w1.rep k.toNat)))
    · rw [if_neg hc] at h'
      cases h'
end
section
variable {X : Cx} {G : Gm} {B : Bs}
theorem pf_rep {a b : Expr} {ta tb : TE'} {pos : Pos} (ha : PD X G B a ta) (hb : PD X G B b tb) : PF X G B (.BinOp a .Mult b pos) (binF repL ta tb) := pf_op op_repR opf_rep ha hb
theorem pd_repT {a b : Expr} {ta tb : TE'} {pos : Pos} (ha : PD X G B a ta) (hb : PD X G B b tb) : PD X G B (.BinOp a .Mult b pos) (bin repT ta tb) := pd_op op_repT opd_repT ha hb
end
/-! enumerate of a list -/
def enumD (i : Nat) : List D → List D
  | [] => []
  | d :: ds => .tup [.int (i : Int), d] :: enumD (i + 1) ds
theorem enumD_len : ∀ (ds : List D) (i : Nat), (enumD i ds).length = ds.length
  | [], _ => rfl
  | d :: ds, i => by show (enumD (i + 1) ds).length + 1 = _; rw [enumD_len ds]; rfl
theorem enumD_get : ∀ (ds : List D) (k i : Nat) {d : D}, (enumD k ds)[i]? = some d → ∃ a, ds[i]? = some a ∧ d = .tup [.int ((k + i : Nat) : Int), a]
  | [], k, i, d, e => by simp [enumD] at e
  | a :: ds, k, 0, d, e => by
    have e' : some (D.tup [.int (k : Int), a]) = some d := e
    cases e'
    exact ⟨a, rfl, rfl⟩
  | a :: ds, k, i + 1, d, e => by
    obtain ⟨b, h1, h2⟩ := enumD_get ds (k + 1) i (d := d) (by simpa [enumD] using e)
    exact ⟨b, by simpa using h1, by rw [h2]; have : k + 1 + i = k + (i + 1) := by omega
                                    rw [this]⟩
def enmI (t : TE') : TI' := fun ρ Q => t ρ fun x ρ1 => match x with
  | .d (.lst ds) => Q (enumD 0 ds) ρ1
  | _ => False
section
variable {X : Cx} {G : Gm} {B : Bs}
theorem pdi_enum {e : Expr} {t : TE'} {p pos tpos : Pos} {elts : List Expr} {kk : Nat} (hm : X.mg "enumerate" = none) (ha : PD X G B e t) (hg : Gl X "enumerate" := by rfl) (hs : starEach [e] X.env = [(false, eval e X.env)] := by rfl) :
    PDI X G B (.Tuple elts kk tpos) (.Call (.Name "enumerate" p) [e] [] pos) (enmI t) := by
  refine pi_imp (pi_enum hg hm (pa_cons ha pa_nil hs) hs) fun σ H R ⟨F, ρ, P, S, h, k⟩ => ?_
  refine ⟨F, ρ, _, S, h, fun x ρ1 h1 v H1 F1 S1 r1 e1 => ?_⟩
  cases x with
  | o j => exact h1.elim
  | d d =>
    cases d with
    | lst ds =>
      cases r1 with
      | lst r f ra =>
        refine ⟨_, _, rfl, .inl r, k _ _ h1 _ H1 F1 S1 e1 fun i F' H' kk t => ?_⟩
        have r' := kk.rdL r f
        have ra' := RepA.ext kk ra
        refine ⟨fun d ed => ?_, fun hl => ⟨_, .inl r', ?_⟩⟩
        · obtain ⟨a, ea, rfl⟩ := enumD_get _ _ _ ed
          obtain ⟨x, ex, rx⟩ := ra'.get ea
          refine ⟨⟨_, x, .inl r', ex⟩, fun v H2 ⟨T, x', e1, hT, e2, f1⟩ => ?_⟩
          subst e1
          subst e2
          have g1 := f1 _ (.inl r')
          rw [ex] at g1
          cases g1
          have e0 : ((0 + i : Nat) : Int) = (i : Int) := by omega
          rw [e0]
          exact rep_pair t hT (.int (i : Int)) rx
        · rw [enumD_len] at hl
          rw [ra'.length]
          exact hl
    | _ => exact h1.elim
end
end DL
set_option Elab.async false
set_option linter.all false
set_option maxRecDepth 100000
set_option maxHeartbeats 4000000
namespace DL
open PySem PySem.Spec PyProof.Rows L2
/-! _law_pairs -/
def N__law_pairs : List Str := ["payments", "found", "euro"]
def b__law_pairs : TS' := seq (setO 1 (lstF (aN))) (seq (for' (rng2 (cC (.int 1)) (cal lenD (aC (cV 0) (aN)))) (gn 2) (ifs (tst (bin gtI (bin ixD (cV 0) (cV 2)) (bin ixD (cV 0) (bin subI (cV 2) (cC (.int 1)))))) (ifs (tand (tst (bin neD (cV 1) (frz (lstF (aN))))) (tst (bin eqD (bin ixD (bin ixD (cV 1) (un negI (cC (.int 1)))) (cC (.int 1))) (bin subI (cV 2) (cC (.int 1)))))) (sti 1 (tup (aC (bin ixD (bin ixD (cV 1) (un negI (cC (.int 1)))) (cC (.int 0))) (aC (cV 2) (aN)))) (un negI (cC (.int 1)))) (drp (app 1 (tup (aC (cV 2) (aC (cV 2) (aN))))))) (nxt))) (ret (cal tupD (aC (cV 1) (aN)))))
/-! _law_sets -/
def N__law_sets : List Str := ["top", "rows", "euro", "longer", "row"]
def b__law_sets : TS' := seq (set 1 (frz (lstF (aC (frz (lstF (aC (cC (.int 0)) (aN)))) (aN))))) (seq (for' (rng1 (cV 0)) (gn 2) (seq (set 3 (frz (lstF (aN)))) (seq (for' (itm (cV 1)) (gn 4) (set 3 (bin addD (cV 3) (frz (lstF (aC (bin addD (cV 4) (frz (lstF (aC (bin ixD (cV 4) (un negI (cC (.int 1)))) (aN))))) (aC (bin addD (cV 4) (frz (lstF (aC (bin addD (bin ixD (cV 4) (un negI (cC (.int 1)))) (cC (.int 1))) (aN))))) (aN)))))))) (set 1 (cV 3))))) (ret (frz (lc (itm (cV 1)) (gn 4) (yes') (call' S__law_pairs (aC (cV 4) (aN))) [4]))))
/-! _law_deck -/
def N__law_deck : List Str := ["cell", "turn"]
def b__law_deck : TS' := seq (ifs (tst (bin geI (cV 0) (bin powI (cC (.int 10)) (cC (.int 18))))) (retF (lstF (aC (bin subI (cV 0) (bin powI (cC (.int 10)) (cC (.int 18)))) (aC (bin modI (cV 0) (cC (.int 2147483579))) (aC (cV 1) (aN)))))) (nxt)) (retF (lstF (aC (cC (.int 0)) (aC (bin modI (cV 0) (cC (.int 2147483579))) (aC (cV 1) (aN))))))
/-! _law_pick -/
def N__law_pick : List Str := ["deck", "limit", "found", "number"]
def b__law_pick : TS' := seq (ifs (tst (bin gtI (bin ixD (cV 0) (cC (.int 0))) (cC (.int 1)))) (seq (set 2 (bin modI (bin ixD (cV 0) (cC (.int 0))) (cV 1))) (seq (sti 0 (bin divI (bin ixD (cV 0) (cC (.int 0))) (cV 1)) (cC (.int 0))) (ret (cV 2)))) (nxt)) (seq (sti 0 (bin addD (bin ixD (cV 0) (cC (.int 2))) (cC (.int 1))) (cC (.int 2))) (seq (set 3 (bin modI (bin powI (bin addD (bin ixD (cV 0) (cC (.int 1))) (bin mulI (cC (.int 15485867)) (bin ixD (cV 0) (cC (.int 2))))) (cC (.int 5))) (cC (.int 2147483647)))) (seq (set 2 (bin divI (bin modI (bin powI (bin addD (cV 3) (bin mulI (cC (.int 7919)) (bin ixD (cV 0) (cC (.int 2))))) (cC (.int 3))) (cC (.int 2147483629))) (cC (.int 32)))) (seq (ifs (tst (bin gtI (cV 1) (cC (.int 1000000)))) (ret (bin modI (bin addD (bin mulI (cV 2) (cC (.int 2147483563))) (cV 3)) (cV 1))) (nxt)) (ret (bin modI (cV 2) (cV 1)))))))
/-! _law_one -/
def N__law_one : List Str := ["deck", "some"]
def b__law_one : TS' := ret (bin ixD (cV 1) (call' S__law_pick (aC (cV 0) (aC (cal lenD (aC (cV 1) (aN))) (aN)))))
/-! is_from -/
def N_is_from : List Str := ["value", "low", "high"]
def b_is_from : TS' := ret (vand (isi (tyT "int") (cV 0)) (vand (vnot (isi (tyT "bool") (cV 0))) (chn leI leI (cV 1) (cV 0) (cV 2))))
/-! is_policy -/
def N_is_policy : List Str := ["value"]
def b_is_policy : TS' := seq (ifs (tor (tnot (tst (isi (tyT "tuple") (cV 0)))) (tst (bin neD (cal lenD (aC (cV 0) (aN))) (cC (.int 2))))) (ret (cC (.bl false))) (nxt)) (ret (vand (call' S_is_from (aC (bin ixD (cV 0) (cC (.int 0))) (aC (cC (.int 0)) (aC (cC (.int 1000000)) (aN))))) (call' S_is_from (aC (bin ixD (cV 0) (cC (.int 1))) (aC (cC (.int 1)) (aC (cC (.int 1000000)) (aN)))))))
/-! lifted -/
def N_lifted : List Str := ["spans", "rank", "found", "begin", "end"]
def b_lifted : TS' := seq (set 2 (cV 1)) (seq (for' (itm (cV 0)) (gt 2 (gc (gn 3) (gc (gn 4) (g0)))) (ifs (tst (bin leI (cV 3) (cV 2))) (set 2 (bin subI (bin addD (cV 2) (cV 4)) (cV 3))) (nxt))) (ret (cV 2)))
/-! joined -/
def N_joined : List Str := ["spans", "found", "begin", "end"]
def b_joined : TS' := seq (set 1 (frz (lstF (aN)))) (seq (for' (itm (frz (srtP (aC (cV 0) (aN))))) (gt 2 (gc (gn 2) (gc (gn 3) (g0)))) (ifs (tst (bin gtI (cV 3) (cV 2))) (ifs (tand (tst (bin neD (cV 1) (frz (lstF (aN))))) (tst (bin leI (cV 2) (bin ixD (bin ixD (cV 1) (un negI (cC (.int 1)))) (cC (.int 1)))))) (set 1 (bin addD (slc (cV 1) (pNo) (pSo (un negI (cC (.int 1))))) (frz (lstF (aC (tup (aC (bin ixD (bin ixD (cV 1) (un negI (cC (.int 1)))) (cC (.int 0))) (aC (cal maxI (aC (cV 3) (aC (bin ixD (bin ixD (cV 1) (un negI (cC (.int 1)))) (cC (.int 1))) (aN)))) (aN)))) (aN)))))) (set 1 (bin addD (cV 1) (frz (lstF (aC (tup (aC (cV 2) (aC (cV 3) (aN)))) (aN))))))) (nxt))) (ret (cal tupD (aC (cV 1) (aN)))))
/-! chained -/
def N_chained : List Str := ["first", "second", "begin", "end"]
def b_chained : TS' := ret (call' S_joined (aC (bin addD (frz (calF lstD (aC (cV 0) (aN)))) (frz (lc (itm (cV 1)) (gt 2 (gc (gn 2) (gc (gn 3) (g0)))) (yes') (tup (aC (call' S_lifted (aC (cV 0) (aC (cV 2) (aN)))) (aC (bin addD (call' S_lifted (aC (cV 0) (aC (bin subI (cV 3) (cC (.int 1))) (aN)))) (cC (.int 1))) (aN)))) [2, 3]))) (aN)))
/-! Cover.__init__ -/
def N_CoverX_initX : List Str := ["self", "policies", "spans", "policy", "deductible", "limit"]
def b1_CoverX_initX : TS' := set 2 (tup (aN))
def b2_CoverX_initX : TS' := ifs (tand (tst (bin eqD (cal lenD (aC (cV 1) (aN))) (cC (.int 1)))) (tst (isi is_Shape (bin ixD (cV 1) (cC (.int 0)))))) (set 2 (un (fldD 1) (bin ixD (cV 1) (cC (.int 0))))) (seq (ifs (tnot (tst (cal allD (aC (frz (lc (itm (cV 1)) (gn 3) (yes') (call' S_is_policy (aC (cV 3) (aN))) [3])) (aN))))) ((fun _ _ => False)) (nxt)) (seq (ifs (tst (bin gtI (cal lenD (aC (cV 1) (aN))) (cC (.int 8)))) ((fun _ _ => False)) (nxt)) (for' (itm (cV 1)) (gt 2 (gc (gn 4) (gc (gn 5) (g0)))) (set 2 (call' S_chained (aC (cV 2) (aC (tup (aC (tup (aC (cV 4) (aC (bin addD (cV 4) (cV 5)) (aN)))) (aN))) (aN))))))))
def b_CoverX_initX : TE' := cV 2
/-! Shape.__init__ -/
def N_ShapeX_initX : List Str := ["self", "spans"]
def b_ShapeX_initX : TE' := cV 1
/-! Cover.__add__ -/
def N_CoverX_addX : List Str := ["self", "other"]
def b_CoverX_addX : TS' := ret (mk 0 S_CoverX_initX (aC (mk 1 S_ShapeX_initX (aC (call' S_chained (aC (un (fldD 0) (cV 0)) (aC (un (fldD 0) (cV 1)) (aN)))) (aN))) (aN)))
/-! _law_cover -/
def N__law_cover : List Str := ["pairs", "found", "first", "last"]
def b__law_cover : TS' := seq (set 1 (mk 0 S_CoverX_initX aN)) (seq (for' (itm (rev (cV 0))) (gt 2 (gc (gn 2) (gc (gn 3) (g0)))) (set 1 (own2 S_CoverX_addX (cV 1) (mk 0 S_CoverX_initX (aC (tup (aC (bin subI (cV 2) (cC (.int 1))) (aC (bin addD (bin subI (cV 3) (cV 2)) (cC (.int 1))) (aN)))) (aN)))))) (ret (cV 1)))
/-! Cover.ranges -/
def N_Cover_ranges : List Str := ["self", "begin", "end"]
def b_Cover_ranges : TS' := ret (cal tupD (aC (frz (lc (itm (un (fldD 0) (cV 0))) (gt 2 (gc (gn 1) (gc (gn 2) (g0)))) (yes') (tup (aC (bin addD (cV 1) (cC (.int 1))) (aC (cV 2) (aN)))) [1, 2])) (aN)))
/-! _law_pays -/
def N__law_pays : List Str := ["pairs", "bill", "first", "last"]
def b__law_pays : TS' := ret (cal sumD (aC (frz (lc (itm (cV 0)) (gt 2 (gc (gn 2) (gc (gn 3) (g0)))) (yes') (cal maxI (aC (cC (.int 0)) (aC (bin addD (bin subI (cal minI (aC (cV 1) (aC (cV 3) (aN)))) (cV 2)) (cC (.int 1))) (aN)))) [2, 3])) (aN)))
/-! _law_behind -/
def N__law_behind : List Str := ["ahead", "behind", "bill", "one"]
def b__law_behind : TS' := seq (set 3 (call' S__law_pays (aC (cV 0) (aC (cV 2) (aN))))) (ret (bin addD (cV 3) (call' S__law_pays (aC (cV 1) (aC (bin subI (cV 2) (cV 3)) (aN))))))
/-! _law_policies -/
def N__law_policies : List Str := ["deck", "most_so", "wide", "found", "turn", "free", "pair"]
def b__law_policies : TS' := seq (setO 3 (lstF (aN))) (seq (for' (rng1 (call' S__law_pick (aC (cV 0) (aC (bin addD (cV 1) (cC (.int 1))) (aN))))) (gn 4) (seq (set 5 (call' S__law_one (aC (cV 0) (aC (bin addD (frz (lstF (aC (cC (.int 0)) (aC (call' S__law_pick (aC (cV 0) (aC (cV 2) (aN)))) (aC (call' S__law_pick (aC (cV 0) (aC (cV 2) (aN)))) (aN)))))) (frz (lc (itm (slc (cV 3) (pNo) (pSo (cC (.int 1))))) (gn 6) (yes') (bin ixD (cV 6) (cC (.int 0))) [6]))) (aN))))) (drp (app 3 (tup (aC (cV 5) (aC (bin addD (cC (.int 1)) (call' S__law_pick (aC (cV 0) (aC (call' S__law_one (aC (cV 0) (aC (frz (lstF (aC (cC (.int 2)) (aC (cV 2) (aN))))) (aN)))) (aN))))) (aN)))))))) (ret (cal tupD (aC (cV 3) (aN)))))
/-! _law_made -/
def N__law_made : List Str := ["some", "found", "policy"]
def b__law_made : TS' := seq (set 1 (mk 0 S_CoverX_initX aN)) (seq (for' (itm (cV 0)) (gn 2) (set 1 (own2 S_CoverX_addX (cV 1) (mk 0 S_CoverX_initX (aC (cV 2) (aN)))))) (ret (cV 1)))
/-! need_bill -/
def N_need_bill : List Str := ["bill"]
def b_need_bill : TS' := ifs (tnot (tst (call' S_is_from (aC (cV 0) (aC (cC (.int 0)) (aC (cC (.int 1000000000)) (aN))))))) ((fun _ _ => False)) (nxt)
/-! paid -/
def N_paid : List Str := ["spans", "bill", "begin", "end"]
def b_paid : TS' := ret (cal sumD (aC (frz (lc (itm (cV 0)) (gt 2 (gc (gn 2) (gc (gn 3) (g0)))) (yes') (cal maxI (aC (cC (.int 0)) (aC (bin subI (cal minI (aC (cV 1) (aC (cV 3) (aN)))) (cV 2)) (aN)))) [2, 3])) (aN)))
/-! Cover.__call__ -/
def N_CoverX_callX : List Str := ["self", "bill"]
def b_CoverX_callX : TS' := seq (drp (call' S_need_bill (aC (cV 1) (aN)))) (ret (call' S_paid (aC (un (fldD 0) (cV 0)) (aC (cV 1) (aN)))))
/-! _law_sort -/
def N__law_sort : List Str := ["thing"]
def b__law_sort : TS' := seq (ifs (tst (isi (tyT "bool") (cV 0))) (ret (cC (.int 1))) (nxt)) (seq (ifs (tst (isi (tyT "int") (cV 0))) (ret (cC (.int 2))) (nxt)) (seq (ifs (tst (isi (tyT "str") (cV 0))) (ret (cC (.int 3))) (nxt)) (seq (ifs (tst (isi (tyT "list") (cV 0))) (ret (cC (.int 4))) (nxt)) (ret (ite' (tst (isi (tyT "tuple") (cV 0))) (cC (.int 5)) (cC (.int 6)))))))
/-! _law_same -/
def N__law_same : List Str := ["told", "due", "k", "part"]
def b__law_same : TS' := seq (ifs (tst (bin neD (call' S__law_sort (aC (cV 0) (aN))) (call' S__law_sort (aC (cV 1) (aN))))) (ret (cC (.bl false))) (nxt)) (seq (ifs (tand (tst (bin gtI (call' S__law_sort (aC (cV 0) (aN))) (cC (.int 3)))) (tst (bin ltI (call' S__law_sort (aC (cV 0) (aN))) (cC (.int 6))))) (fun _ _ => False) (nxt)) (ret (bin eqD (cV 0) (cV 1))))
/-! Cover.total -/
def N_Cover_total : List Str := ["self", "begin", "end"]
def b_Cover_total : TS' := ret (cal sumD (aC (frz (lc (itm (un (fldD 0) (cV 0))) (gt 2 (gc (gn 1) (gc (gn 2) (g0)))) (yes') (bin subI (cV 2) (cV 1)) [1, 2])) (aN)))
/-! corners -/
def N_corners : List Str := ["first", "second", "points", "pair", "end", "found", "low", "high", "before", "after"]
def b_corners : TS' := seq (set 2 (bin addD (bin addD (frz (lstF (aC (cC (.int 0)) (aN)))) (frz (lc2 (itm (cV 0)) (gn 3) (yes') (itm (cV 3)) (gn 4) (yes') (cV 4) [3, 4] [4]))) (frz (lc2 (itm (cV 1)) (gn 3) (yes') (itm (cV 3)) (gn 4) (yes') (cV 4) [3, 4] [4])))) (seq (par 5 2 (aC (frz (lstF (aC (cC (.int 0)) (aN)))) (aC (frz (srtS (aC (cV 2) (aN)))) (aN)))) (seq (for' (zpI (aC (cV 2) (aC (slc (cV 2) (pSo (cC (.int 1))) (pNo)) (aN)))) (gt 2 (gc (gn 6) (gc (gn 7) (g0)))) (seq (par 8 9 (aC (bin subI (call' S_paid (aC (cV 0) (aC (cV 6) (aN)))) (call' S_paid (aC (cV 1) (aC (cV 6) (aN))))) (aC (bin subI (call' S_paid (aC (cV 0) (aC (cV 7) (aN)))) (call' S_paid (aC (cV 1) (aC (cV 7) (aN))))) (aN)))) (seq (ifs (tst (bin ltI (bin mulI (cV 8) (cV 9)) (cC (.int 0)))) (set 5 (bin addD (cV 5) (frz (lstF (aC (bin addD (cV 6) (cal absI (aC (cV 8) (aN)))) (aN)))))) (nxt)) (set 5 (bin addD (cV 5) (frz (lstF (aC (cV 7) (aN))))))))) (ret (cV 5))))
/-! never_more -/
def N_never_more : List Str := ["first", "second", "point"]
def b_never_more : TS' := ret (cal allD (aC (frz (lc (itm (call' S_corners (aC (cV 0) (aC (cV 1) (aN))))) (gn 2) (yes') (bin leI (call' S_paid (aC (cV 0) (aC (cV 2) (aN)))) (call' S_paid (aC (cV 1) (aC (cV 2) (aN))))) [2])) (aN)))
/-! Cover.at_most -/
def N_Cover_at_most : List Str := ["self", "other"]
def b_Cover_at_most : TS' := ret (call' S_never_more (aC (un (fldD 0) (cV 0)) (aC (un (fldD 0) (cV 1)) (aN))))
/-! Cover.__eq__ -/
def N_CoverX_eqX : List Str := ["self", "other"]
def b_CoverX_eqX : TS' := ret (vand (isi is_Cover (cV 1)) (bin eqD (un (fldD 0) (cV 0)) (un (fldD 0) (cV 1))))
/-! larger -/
def N_larger : List Str := ["first", "second", "points", "found", "low", "high"]
def b_larger : TS' := seq (par 2 3 (aC (call' S_corners (aC (cV 0) (aC (cV 1) (aN)))) (aC (frz (lstF (aN))) (aN)))) (seq (for' (zpI (aC (cV 2) (aC (slc (cV 2) (pSo (cC (.int 1))) (pNo)) (aN)))) (gt 2 (gc (gn 4) (gc (gn 5) (g0)))) (ifs (tst (bin gtI (cal maxI (aC (call' S_paid (aC (cV 0) (aC (cV 5) (aN)))) (aC (call' S_paid (aC (cV 1) (aC (cV 5) (aN)))) (aN)))) (cal maxI (aC (call' S_paid (aC (cV 0) (aC (cV 4) (aN)))) (aC (call' S_paid (aC (cV 1) (aC (cV 4) (aN)))) (aN)))))) (set 3 (bin addD (cV 3) (frz (lstF (aC (tup (aC (cV 4) (aC (cV 5) (aN)))) (aN)))))) (nxt))) (ret (call' S_joined (aC (cV 3) (aN)))))
/-! Cover.__or__ -/
def N_CoverX_orX : List Str := ["self", "other"]
def b_CoverX_orX : TS' := ret (mk 0 S_CoverX_initX (aC (mk 1 S_ShapeX_initX (aC (call' S_larger (aC (un (fldD 0) (cV 0)) (aC (un (fldD 0) (cV 1)) (aN)))) (aN))) (aN)))
/-! smaller -/
def N_smaller : List Str := ["first", "second", "points", "found", "low", "high"]
def b_smaller : TS' := seq (par 2 3 (aC (call' S_corners (aC (cV 0) (aC (cV 1) (aN)))) (aC (frz (lstF (aN))) (aN)))) (seq (for' (zpI (aC (cV 2) (aC (slc (cV 2) (pSo (cC (.int 1))) (pNo)) (aN)))) (gt 2 (gc (gn 4) (gc (gn 5) (g0)))) (ifs (tst (bin gtI (cal minI (aC (call' S_paid (aC (cV 0) (aC (cV 5) (aN)))) (aC (call' S_paid (aC (cV 1) (aC (cV 5) (aN)))) (aN)))) (cal minI (aC (call' S_paid (aC (cV 0) (aC (cV 4) (aN)))) (aC (call' S_paid (aC (cV 1) (aC (cV 4) (aN)))) (aN)))))) (set 3 (bin addD (cV 3) (frz (lstF (aC (tup (aC (cV 4) (aC (cV 5) (aN)))) (aN)))))) (nxt))) (ret (call' S_joined (aC (cV 3) (aN)))))
/-! Cover.__and__ -/
def N_CoverX_andX : List Str := ["self", "other"]
def b_CoverX_andX : TS' := ret (mk 0 S_CoverX_initX (aC (mk 1 S_ShapeX_initX (aC (call' S_smaller (aC (un (fldD 0) (cV 0)) (aC (un (fldD 0) (cV 1)) (aN)))) (aN))) (aN)))
/-! _law_mixed -/
def N__law_mixed : List Str := ["deck", "some", "left", "found"]
def b__law_mixed : TS' := seq (parOO 2 3 (calF lstD (aC (cV 1) (aN))) (lstF (aN))) (seq (whl (tst (bin neD (cV 2) (frz (lstF (aN))))) (drp (app 3 (popA 2 (call' S__law_pick (aC (cV 0) (aC (cal lenD (aC (cV 2) (aN))) (aN)))))))) (ret (cal tupD (aC (cV 3) (aN)))))
/-! _law_chain -/
def N__law_chain : List Str := ["some", "bill", "rest", "free", "limit"]
def b__law_chain : TS' := seq (set 2 (cV 1)) (seq (for' (itm (cV 0)) (gt 2 (gc (gn 3) (gc (gn 4) (g0)))) (set 2 (bin subI (cV 2) (cal minI (aC (cV 4) (aC (cal maxI (aC (cC (.int 0)) (aC (bin subI (cV 2) (cV 3)) (aN)))) (aN))))))) (ret (bin subI (cV 1) (cV 2))))
end DL
set_option Elab.async false
set_option linter.all false
set_option maxRecDepth 100000
set_option maxHeartbeats 1000000
namespace DL
open PySem PySem.Spec PyProof.Rows L2 CV
theorem ty_int_int (v : Int) : tyT "int" (.int v) = some true := by show kitB "int" "int" = some true; decide +kernel
theorem ty_bool_int (v : Int) : tyT "bool" (.int v) = some false := by show kitB "int" "bool" = some false; decide +kernel
theorem ty_tuple_tup (v : List D) : tyT "tuple" (.tup v) = some true := by show kitB "tuple" "tuple" = some true; decide +kernel
theorem sl_line : PySem.sizeLine = 16777216 := by decide
theorem atI_nat {α : Type} {l : List α} {k : Nat} (h : k < l.length) : atI l (k : Int) = l[k]? := by
  unfold atI
  have e : ixN l.length (k : Int) = some k := by
    unfold ixN
    rw [if_pos (by omega), if_pos (by omega)]
    rfl
  rw [e]
  rfl
theorem atI_0 {α : Type} (a : α) (l : List α) : atI (a :: l) 0 = some a := atI_nat (l := a :: l) (k := 0) (by simp)
theorem atI_1 {α : Type} (a b : α) (l : List α) : atI (a :: b :: l) 1 = some b := atI_nat (l := a :: b :: l) (k := 1) (by simp)
theorem atI_2 {α : Type} (a b c : α) (l : List α) : atI (a :: b :: c :: l) 2 = some c := atI_nat (l := a :: b :: c :: l) (k := 2) (by simp)
theorem atI_last {α : Type} (l : List α) (a : α) : atI (l ++ [a]) (-1) = some a := by
  unfold atI
  have e : ixN (l ++ [a]).length (-1) = some l.length := by
    unfold ixN
    rw [List.length_append, List.length_singleton, if_neg (by omega), if_pos (by omega)]
    congr 1
    omega
  rw [e]
  simp
theorem cutG_init {α : Type} (l : List α) (a : α) : cutG (l ++ [a]) none (some (-1)) = l := by
  unfold cutG HT.sIx
  rw [List.length_append, List.length_singleton]
  have e : (-1 + ((l.length + 1 : Nat) : Int)).toNat = l.length := by omega
  simp only [show ((-1 : Int) < 0) from by decide, if_true, e, List.drop_zero, Nat.sub_zero]
  simp
theorem cutG_tail {α : Type} (l : List α) (a : α) : cutG (a :: l) (some 1) none = l := by
  unfold cutG HT.sIx
  simp
/-! == over data -/
structure Nice (n : Nat) (d : D) (p : PyData) : Prop where
  t : toPy d = some p
  c : p.canLay0 = true
  d : p.depth ≤ n
theorem Nice.mono {n m : Nat} {d : D} {p : PyData} (h : Nice n d p) (k : n ≤ m) : Nice m d p := ⟨h.t, h.c, Nat.le_trans h.d k⟩
theorem nice_int (i : Int) : Nice 0 (.int i) (.int i) := ⟨by rw [toPy], by simp [PyData.canLay0], by simp [PyData.depth]⟩
theorem nice_all {α : Type} {n : Nat} {f : α → D} {g : α → PyData} : ∀ {l : List α}, (∀ x ∈ l, Nice n (f x) (g x)) → toPyA (l.map f) = some (l.map g) ∧ PyData.canLayAll0 (l.map g) = true ∧ PyData.depthAll (l.map g) ≤ n
  | [], _ => ⟨by simp [toPyA], by simp [PyData.canLayAll0], by simp [PyData.depthAll]⟩
  | x :: l, h => by
    obtain ⟨i1, i2, i3⟩ := nice_all (l := l) fun y hy => h y (List.mem_cons_of_mem _ hy)
    obtain ⟨h1, h2, h3⟩ := h x List.mem_cons_self
    refine ⟨?_, ?_, ?_⟩
    · rw [List.map_cons, List.map_cons, toPyA, h1, i1]
    · rw [List.map_cons, PyData.canLayAll0, h2, i2]; rfl
    · rw [List.map_cons, PyData.depthAll]; omega
theorem nice_tup {α : Type} {n : Nat} {f : α → D} {g : α → PyData} {l : List α} (h : ∀ x ∈ l, Nice n (f x) (g x)) : Nice (n + 1) (.tup (l.map f)) (.tuple (l.map g)) := by
  obtain ⟨i1, i2, i3⟩ := nice_all h
  exact ⟨by rw [toPy, i1]; rfl, by rw [PyData.canLay0]; exact i2, by rw [PyData.depth]; omega⟩
theorem nice_lst {α : Type} {n : Nat} {f : α → D} {g : α → PyData} {l : List α} (h : ∀ x ∈ l, Nice n (f x) (g x)) : Nice (n + 1) (.lst (l.map f)) (.list (l.map g)) := by
  obtain ⟨i1, i2, i3⟩ := nice_all h
  exact ⟨by rw [toPy, i1]; rfl, by rw [PyData.canLay0]; exact i2, by rw [PyData.depth]; omega⟩
def pyP (p : Int × Int) : PyData := .tuple [.int p.1, .int p.2]
theorem nice_pair (p : Int × Int) : Nice 1 (eP p) (pyP p) := by
  have z := nice_tup (n := 0) (f := D.int) (g := PyData.int) (l := [p.1, p.2]) fun x _ => nice_int x
  exact z
theorem eqD_nice {n : Nat} {a b : D} {p q : PyData} (ha : Nice n a p) (hb : Nice n b q) (hn : n ≤ 64) : eqD a b = some (.bl (PyData.eqv p q)) ∧ neD a b = some (.bl (!PyData.eqv p q)) := by
  have s1 : SeqAt.shaped p = true := by unfold SeqAt.shaped; rw [ha.c, decide_eq_true (Nat.le_trans ha.d hn)]; rfl
  have s2 : SeqAt.shaped q = true := by unfold SeqAt.shaped; rw [hb.c, decide_eq_true (Nat.le_trans hb.d hn)]; rfl
  unfold eqD neD
  rw [ha.t, hb.t]
  exact ⟨if_pos ⟨s1, s2⟩, if_pos ⟨s1, s2⟩⟩
theorem eqv_map {α : Type} [DecidableEq α] {g : α → PyData} (h : ∀ x y, PyData.eqv (g x) (g y) = decide (x = y)) : ∀ l m : List α, PyData.eqvAll (l.map g) (m.map g) = decide (l = m)
  | [], [] => by simp [PyData.eqvAll]
  | [], y :: m => by simp [PyData.eqvAll]
  | x :: l, [] => by simp [PyData.eqvAll]
  | x :: l, y :: m => by
    rw [List.map_cons, List.map_cons, PyData.eqvAll, h, eqv_map h l m]
    by_cases c : x = y <;> by_cases d : l = m <;> simp [c, d]
theorem eqv_int (i j : Int) : PyData.eqv (.int i) (.int j) = decide (i = j) := by
  rw [PyData.eqv]
  by_cases c : i = j <;> simp [c]
theorem eqv_pair (p q : Int × Int) : PyData.eqv (pyP p) (pyP q) = decide (p = q) := by
  unfold pyP
  rw [PyData.eqv]
  have z := eqv_map (g := PyData.int) eqv_int [p.1, p.2] [q.1, q.2]
  have e : ([p.1, p.2].map PyData.int) = [.int p.1, .int p.2] := rfl
  have e2 : ([q.1, q.2].map PyData.int) = [.int q.1, .int q.2] := rfl
  rw [e, e2] at z
  rw [z]
  obtain ⟨a, b⟩ := p
  obtain ⟨c, d⟩ := q
  by_cases h1 : a = c <;> by_cases h2 : b = d <;> simp [h1, h2]
theorem eq_int (i j : Int) : eqD (.int i) (.int j) = some (.bl (decide (i = j))) ∧ neD (.int i) (.int j) = some (.bl (!decide (i = j))) := by
  have z := eqD_nice (nice_int i) (nice_int j) (by decide)
  rwa [eqv_int] at z
theorem eq_spD (l m : List (Int × Int)) : eqD (spD l) (spD m) = some (.bl (decide (l = m))) ∧ neD (spD l) (spD m) = some (.bl (!decide (l = m))) := by
  have z := eqD_nice (nice_tup (l := l) fun x _ => nice_pair x) (nice_tup (l := m) fun x _ => nice_pair x) (by decide)
  rw [PyData.eqv, eqv_map eqv_pair] at z
  exact z
theorem eq_lst (l m : List (Int × Int)) : eqD (.lst (l.map eP)) (.lst (m.map eP)) = some (.bl (decide (l = m))) ∧ neD (.lst (l.map eP)) (.lst (m.map eP)) = some (.bl (!decide (l = m))) := by
  have z := eqD_nice (nice_lst (l := l) fun x _ => nice_pair x) (nice_lst (l := m) fun x _ => nice_pair x) (by decide)
  rw [PyData.eqv, eqv_map eqv_pair] at z
  exact z
theorem add_ii (i j : Int) : addD (.int i) (.int j) = some (.int (i + j)) := rfl
theorem add_ll (a b : List D) (h : a.length + b.length ≤ PySem.sizeLine) : addD (.lst a) (.lst b) = some (.lst (a ++ b)) := by
  have e : catL (.lst a) (.lst b) = some (a ++ b) := if_pos h
  show orD addI (orD (fun a b => (catL a b).map D.lst) (orD catT addS)) (.lst a) (.lst b) = _
  unfold orD
  show (match (catL (.lst a) (.lst b)).map D.lst with | some c => some c | none => _) = _
  rw [e]
  rfl
theorem d_is_from : ∀ as K, S_is_from as K → b_is_from (enOf as K) (as ++ List.replicate (N_is_from.length - as.length) .no) := by
  rintro as K ⟨v, lo, hi, rfl, h⟩
  show b_is_from _ [.val (.int v), .val (.int lo), .val (.int hi)]
  simp only [b_is_from, ret, retF, retN, seq, nxt, set, setO, par, parOO, ifs, drp, tst, bin, un, cal, calF, call', callF, mth, own2, prp, mk, tup, lst, lstF, frz, aN, aC, cV, cC, tand, tor, tnot, vand, vor, vnot, ite', chn, isi, asg, gn, g0, gc, gt, gl, itm, rng1, rng2, zpI, for', slc, pNo, pSo, rev, app, sti, popL, popA, addI, subI, mulI, powI, divI, modI, ltI, leI, gtI, geI, negI, iop, iopC, maxI, minI, i2, absI, ok, rs, rss, fzs, toSl, owns, putOs, putOwn, ownAt, fldD, yes', lc, nos, back, keepV, lcStep, sumD, lenD, tupD, lstD, two, cov, spD, rgD, eP, rgP, enOf, enOfF, outsG, srtP, srtS, List.getElem?_cons_zero, List.getElem?_cons_succ, List.set_cons_zero, List.set_cons_succ, List.map_cons, List.map_nil, Option.map_some, Option.map_none, List.nodup_nil, if_true, if_false, ite_true, ite_false, reduceIte, decide_eq_true_eq, List.cons_append, List.nil_append, List.append_nil, reduceCtorEq, List.length_cons, List.length_nil, Nat.reduceAdd, Nat.reduceLeDiff, Nat.reduceSub, List.replicate, Bool.not_true, Bool.not_false, ty_int_int, ty_bool_int]
  by_cases c : lo ≤ v
  · simp only [c, decide_true, true_and] at h ⊢
    exact h
  · simp only [c, decide_false, false_and] at h ⊢
    exact h
theorem d_need_bill : ∀ as K, S_need_bill as K → b_need_bill (enOf as K) (as ++ List.replicate (N_need_bill.length - as.length) .no) := by
  rintro as K ⟨v, rfl, h0, h1, h⟩
  show b_need_bill _ [.val (.int v)]
  simp only [b_need_bill, ret, retF, retN, seq, nxt, set, setO, par, parOO, ifs, drp, tst, bin, un, cal, calF, call', callF, mth, own2, prp, mk, tup, lst, lstF, frz, aN, aC, cV, cC, tand, tor, tnot, vand, vor, vnot, ite', chn, isi, asg, gn, g0, gc, gt, gl, itm, rng1, rng2, zpI, for', slc, pNo, pSo, rev, app, sti, popL, popA, addI, subI, mulI, powI, divI, modI, ltI, leI, gtI, geI, negI, iop, iopC, maxI, minI, i2, absI, ok, rs, rss, fzs, toSl, owns, putOs, putOwn, ownAt, fldD, yes', lc, nos, back, keepV, lcStep, sumD, lenD, tupD, lstD, two, cov, spD, rgD, eP, rgP, enOf, enOfF, outsG, srtP, srtS, List.getElem?_cons_zero, List.getElem?_cons_succ, List.set_cons_zero, List.set_cons_succ, List.map_cons, List.map_nil, Option.map_some, Option.map_none, List.nodup_nil, if_true, if_false, ite_true, ite_false, reduceIte, decide_eq_true_eq, List.cons_append, List.nil_append, List.append_nil, reduceCtorEq, List.length_cons, List.length_nil, Nat.reduceAdd, Nat.reduceLeDiff, Nat.reduceSub, List.replicate, Bool.not_true, Bool.not_false]
  refine ⟨_, _, _, rfl, ?_⟩
  have e : decide (0 ≤ v ∧ v ≤ 1000000000) = true := decide_eq_true ⟨h0, h1⟩
  rw [e]
  exact h
theorem d_is_policy : ∀ as K, S_is_policy as K → b_is_policy (enOf as K) (as ++ List.replicate (N_is_policy.length - as.length) .no) := by
  rintro as K ⟨p, rfl, h⟩
  obtain ⟨a, b⟩ := p
  show b_is_policy _ [.val (eP (a, b))]
  have e2 : (neD (.int 2) (.int 2)) = some (.bl false) := by rfl
  simp only [b_is_policy, ret, retF, retN, seq, nxt, set, setO, par, parOO, ifs, drp, tst, bin, un, cal, calF, call', callF, mth, own2, prp, mk, tup, lst, lstF, frz, aN, aC, cV, cC, tand, tor, tnot, vand, vor, vnot, ite', chn, isi, asg, gn, g0, gc, gt, gl, itm, rng1, rng2, zpI, for', slc, pNo, pSo, rev, app, sti, popL, popA, addI, subI, mulI, powI, divI, modI, ltI, leI, gtI, geI, negI, iop, iopC, maxI, minI, i2, absI, ok, rs, rss, fzs, toSl, owns, putOs, putOwn, ownAt, fldD, yes', lc, nos, back, keepV, lcStep, sumD, lenD, tupD, lstD, two, cov, spD, rgD, eP, rgP, enOf, enOfF, outsG, srtP, srtS, List.getElem?_cons_zero, List.getElem?_cons_succ, List.set_cons_zero, List.set_cons_succ, List.map_cons, List.map_nil, Option.map_some, Option.map_none, List.nodup_nil, if_true, if_false, ite_true, ite_false, reduceIte, decide_eq_true_eq, List.cons_append, List.nil_append, List.append_nil, reduceCtorEq, List.length_cons, List.length_nil, Nat.reduceAdd, Nat.reduceLeDiff, Nat.reduceSub, List.replicate, Bool.not_true, Bool.not_false, ty_tuple_tup]
  show match neD (.int 2) (.int 2) with | some a => _ | none => False
  rw [e2]
  simp only [ret, retF, retN, seq, nxt, set, setO, par, parOO, ifs, drp, tst, bin, un, cal, calF, call', callF, mth, own2, prp, mk, tup, lst, lstF, frz, aN, aC, cV, cC, tand, tor, tnot, vand, vor, vnot, ite', chn, isi, asg, gn, g0, gc, gt, gl, itm, rng1, rng2, zpI, for', slc, pNo, pSo, rev, app, sti, popL, popA, addI, subI, mulI, powI, divI, modI, ltI, leI, gtI, geI, negI, iop, iopC, maxI, minI, i2, absI, ok, rs, rss, fzs, toSl, owns, putOs, putOwn, ownAt, fldD, yes', lc, nos, back, keepV, lcStep, sumD, lenD, tupD, lstD, two, cov, spD, rgD, eP, rgP, enOf, enOfF, outsG, srtP, srtS, List.getElem?_cons_zero, List.getElem?_cons_succ, List.set_cons_zero, List.set_cons_succ, List.map_cons, List.map_nil, Option.map_some, Option.map_none, List.nodup_nil, if_true, if_false, ite_true, ite_false, reduceIte, decide_eq_true_eq, List.cons_append, List.nil_append, List.append_nil, reduceCtorEq, List.length_cons, List.length_nil, Nat.reduceAdd, Nat.reduceLeDiff, Nat.reduceSub, List.replicate, Bool.not_true, Bool.not_false, ixD, atI_0, atI_1]
  refine ⟨_, _, _, rfl, ?_⟩
  simp only [okPol] at h
  by_cases c : 0 ≤ a ∧ a ≤ 1000000
  · simp only [c, decide_true, and_self]
    simp only [ret, retF, retN, seq, nxt, set, setO, par, parOO, ifs, drp, tst, bin, un, cal, calF, call', callF, mth, own2, prp, mk, tup, lst, lstF, frz, aN, aC, cV, cC, tand, tor, tnot, vand, vor, vnot, ite', chn, isi, asg, gn, g0, gc, gt, gl, itm, rng1, rng2, zpI, for', slc, pNo, pSo, rev, app, sti, popL, popA, addI, subI, mulI, powI, divI, modI, ltI, leI, gtI, geI, negI, iop, iopC, maxI, minI, i2, absI, ok, rs, rss, fzs, toSl, owns, putOs, putOwn, ownAt, fldD, yes', lc, nos, back, keepV, lcStep, sumD, lenD, tupD, lstD, two, cov, spD, rgD, eP, rgP, enOf, enOfF, outsG, srtP, srtS, List.getElem?_cons_zero, List.getElem?_cons_succ, List.set_cons_zero, List.set_cons_succ, List.map_cons, List.map_nil, Option.map_some, Option.map_none, List.nodup_nil, if_true, if_false, ite_true, ite_false, reduceIte, decide_eq_true_eq, List.cons_append, List.nil_append, List.append_nil, reduceCtorEq, List.length_cons, List.length_nil, Nat.reduceAdd, Nat.reduceLeDiff, Nat.reduceSub, List.replicate, Bool.not_true, Bool.not_false]
    refine ⟨_, _, _, rfl, ?_⟩
    have e : decide (0 ≤ a ∧ a ≤ 1000000 ∧ 1 ≤ b ∧ b ≤ 1000000) = decide (1 ≤ b ∧ b ≤ 1000000) := decide_eq_decide.mpr ⟨fun z => z.2.2, fun z => ⟨c.1, c.2, z⟩⟩
    rw [e] at h
    exact h
  · have e : decide (0 ≤ a ∧ a ≤ 1000000 ∧ 1 ≤ b ∧ b ≤ 1000000) = false := decide_eq_false fun z => c ⟨z.1, z.2.1⟩
    rw [e] at h
    simp only [c, decide_false]
    exact h
theorem d_paid : ∀ as K, S_paid as K → b_paid (enOf as K) (as ++ List.replicate (N_paid.length - as.length) .no) := by
  rintro as K ⟨l, x, rfl, hl, h⟩
  show b_paid _ [.val (spD l), .val (.int x), .no, .no]
  simp only [b_paid, ret, retF, retN, seq, nxt, set, setO, par, parOO, ifs, drp, tst, bin, un, cal, calF, call', callF, mth, own2, prp, mk, tup, lst, lstF, frz, aN, aC, cV, cC, tand, tor, tnot, vand, vor, vnot, ite', chn, isi, asg, gn, g0, gc, gt, gl, itm, rng1, rng2, zpI, for', slc, pNo, pSo, rev, app, sti, popL, popA, addI, subI, mulI, powI, divI, modI, ltI, leI, gtI, geI, negI, iop, iopC, maxI, minI, i2, absI, ok, rs, rss, fzs, toSl, owns, putOs, putOwn, ownAt, fldD, yes', lc, nos, back, keepV, lcStep, sumD, lenD, tupD, lstD, two, cov, spD, rgD, eP, rgP, enOf, enOfF, outsG, srtP, srtS, List.getElem?_cons_zero, List.getElem?_cons_succ, List.set_cons_zero, List.set_cons_succ, List.map_cons, List.map_nil, Option.map_some, Option.map_none, List.nodup_nil, if_true, if_false, ite_true, ite_false, reduceIte, decide_eq_true_eq, List.cons_append, List.nil_append, List.append_nil, reduceCtorEq, List.length_cons, List.length_nil, Nat.reduceAdd, Nat.reduceLeDiff, Nat.reduceSub, List.replicate, Bool.not_true, Bool.not_false]
  refine lcGo_map (enc := eP) (val := fun p => .int (max 0 (min x p.2 - p.1))) l (fun p hp k hk => ?_) (by rw [sl_line]; omega) ?_
  · simp only [ret, retF, retN, seq, nxt, set, setO, par, parOO, ifs, drp, tst, bin, un, cal, calF, call', callF, mth, own2, prp, mk, tup, lst, lstF, frz, aN, aC, cV, cC, tand, tor, tnot, vand, vor, vnot, ite', chn, isi, asg, gn, g0, gc, gt, gl, itm, rng1, rng2, zpI, for', slc, pNo, pSo, rev, app, sti, popL, popA, addI, subI, mulI, powI, divI, modI, ltI, leI, gtI, geI, negI, iop, iopC, maxI, minI, i2, absI, ok, rs, rss, fzs, toSl, owns, putOs, putOwn, ownAt, fldD, yes', lc, nos, back, keepV, lcStep, sumD, lenD, tupD, lstD, two, cov, spD, rgD, eP, rgP, enOf, enOfF, outsG, srtP, srtS, List.getElem?_cons_zero, List.getElem?_cons_succ, List.set_cons_zero, List.set_cons_succ, List.map_cons, List.map_nil, Option.map_some, Option.map_none, List.nodup_nil, if_true, if_false, ite_true, ite_false, reduceIte, decide_eq_true_eq, List.cons_append, List.nil_append, List.append_nil, reduceCtorEq, List.length_cons, List.length_nil, Nat.reduceAdd, Nat.reduceLeDiff, Nat.reduceSub, List.replicate, Bool.not_true, Bool.not_false]
    have e : (if (if p.2 < x then p.2 else x) - p.1 > 0 then (if p.2 < x then p.2 else x) - p.1 else 0) = max 0 (min x p.2 - p.1) := by
      split <;> split at * <;> omega
    rw [e]
    exact hk
  · show ok (Option.map _ (toInts (l.map fun p => D.int (max 0 (min x p.2 - p.1))))) _
    have e : (l.map fun p => D.int (max 0 (min x p.2 - p.1))) = (l.map fun p => max 0 (min x p.2 - p.1)).map D.int := by
      rw [List.map_map]; rfl
    rw [e, toInts_map]
    exact h
theorem d_lifted : ∀ as K, S_lifted as K → b_lifted (enOf as K) (as ++ List.replicate (N_lifted.length - as.length) .no) := by
  rintro as K ⟨l, r, rfl, h⟩
  show b_lifted _ [.val (spD l), .val (.int r), .no, .no, .no]
  simp only [b_lifted, ret, retF, retN, seq, nxt, set, setO, par, parOO, ifs, drp, tst, bin, un, cal, calF, call', callF, mth, own2, prp, mk, tup, lst, lstF, frz, aN, aC, cV, cC, tand, tor, tnot, vand, vor, vnot, ite', chn, isi, asg, gn, g0, gc, gt, gl, itm, rng1, rng2, zpI, for', slc, pNo, pSo, rev, app, sti, popL, popA, addI, subI, mulI, powI, divI, modI, ltI, leI, gtI, geI, negI, iop, iopC, maxI, minI, i2, absI, ok, rs, rss, fzs, toSl, owns, putOs, putOwn, ownAt, fldD, yes', lc, nos, back, keepV, lcStep, sumD, lenD, tupD, lstD, two, cov, spD, rgD, eP, rgP, enOf, enOfF, outsG, srtP, srtS, List.getElem?_cons_zero, List.getElem?_cons_succ, List.set_cons_zero, List.set_cons_succ, List.map_cons, List.map_nil, Option.map_some, Option.map_none, List.nodup_nil, if_true, if_false, ite_true, ite_false, reduceIte, decide_eq_true_eq, List.cons_append, List.nil_append, List.append_nil, reduceCtorEq, List.length_cons, List.length_nil, Nat.reduceAdd, Nat.reduceLeDiff, Nat.reduceSub, List.replicate, Bool.not_true, Bool.not_false]
  refine forGo_fold (enc := eP) (R := fun (f : Int) ρ => ∃ a b, ρ = [.val (spD l), .val (.int r), .val (.int f), a, b]) lift1 l r _ ⟨_, _, rfl⟩ (fun p s ρ hp ⟨a, b, e⟩ nx hnx => ?_) (fun ρ ⟨a, b, e⟩ => ?_)
  · subst e
    simp only [ret, retF, retN, seq, nxt, set, setO, par, parOO, ifs, drp, tst, bin, un, cal, calF, call', callF, mth, own2, prp, mk, tup, lst, lstF, frz, aN, aC, cV, cC, tand, tor, tnot, vand, vor, vnot, ite', chn, isi, asg, gn, g0, gc, gt, gl, itm, rng1, rng2, zpI, for', slc, pNo, pSo, rev, app, sti, popL, popA, addI, subI, mulI, powI, divI, modI, ltI, leI, gtI, geI, negI, iop, iopC, maxI, minI, i2, absI, ok, rs, rss, fzs, toSl, owns, putOs, putOwn, ownAt, fldD, yes', lc, nos, back, keepV, lcStep, sumD, lenD, tupD, lstD, two, cov, spD, rgD, eP, rgP, enOf, enOfF, outsG, srtP, srtS, List.getElem?_cons_zero, List.getElem?_cons_succ, List.set_cons_zero, List.set_cons_succ, List.map_cons, List.map_nil, Option.map_some, Option.map_none, List.nodup_nil, if_true, if_false, ite_true, ite_false, reduceIte, decide_eq_true_eq, List.cons_append, List.nil_append, List.append_nil, reduceCtorEq, List.length_cons, List.length_nil, Nat.reduceAdd, Nat.reduceLeDiff, Nat.reduceSub, List.replicate, Bool.not_true, Bool.not_false, add_ii]
    by_cases c : p.1 ≤ s
    · simp only [c, decide_true, if_true]
      have e : lift1 s p = s + p.2 - p.1 := if_pos c
      exact hnx _ ⟨.val (.int p.1), .val (.int p.2), by rw [e]; rfl⟩
    · simp only [c, decide_false, if_false, Bool.false_eq_true]
      have e : lift1 s p = s := if_neg c
      exact hnx _ ⟨.val (.int p.1), .val (.int p.2), by rw [e]; rfl⟩
  · subst e
    simp only [ret, retF, retN, seq, nxt, set, setO, par, parOO, ifs, drp, tst, bin, un, cal, calF, call', callF, mth, own2, prp, mk, tup, lst, lstF, frz, aN, aC, cV, cC, tand, tor, tnot, vand, vor, vnot, ite', chn, isi, asg, gn, g0, gc, gt, gl, itm, rng1, rng2, zpI, for', slc, pNo, pSo, rev, app, sti, popL, popA, addI, subI, mulI, powI, divI, modI, ltI, leI, gtI, geI, negI, iop, iopC, maxI, minI, i2, absI, ok, rs, rss, fzs, toSl, owns, putOs, putOwn, ownAt, fldD, yes', lc, nos, back, keepV, lcStep, sumD, lenD, tupD, lstD, two, cov, spD, rgD, eP, rgP, enOf, enOfF, outsG, srtP, srtS, List.getElem?_cons_zero, List.getElem?_cons_succ, List.set_cons_zero, List.set_cons_succ, List.map_cons, List.map_nil, Option.map_some, Option.map_none, List.nodup_nil, if_true, if_false, ite_true, ite_false, reduceIte, decide_eq_true_eq, List.cons_append, List.nil_append, List.append_nil, reduceCtorEq, List.length_cons, List.length_nil, Nat.reduceAdd, Nat.reduceLeDiff, Nat.reduceSub, List.replicate, Bool.not_true, Bool.not_false]
    exact h
theorem leP_1 {m : List (Int × Int)} (h : m.Pairwise leP) : m.Pairwise (fun p q => p.1 ≤ q.1) := h.imp fun z => by unfold leP at z; omega
theorem ne_nil (acc : List (Int × Int)) : neD (.lst (acc.map eP)) (.lst []) = some (.bl (!decide (acc = []))) := (eq_lst acc []).2
theorem d_joined : ∀ as K, S_joined as K → b_joined (enOf as K) (as ++ List.replicate (N_joined.length - as.length) .no) := by
  rintro as K ⟨l, rfl, hl, hp, h⟩
  show b_joined _ [.val (.lst (l.map eP)), .no, .no, .no]
  simp only [b_joined, ret, retF, retN, seq, nxt, set, setO, par, parOO, ifs, drp, tst, bin, un, cal, calF, call', callF, mth, own2, prp, mk, tup, lst, lstF, frz, aN, aC, cV, cC, tand, tor, tnot, vand, vor, vnot, ite', chn, isi, asg, gn, g0, gc, gt, gl, itm, rng1, rng2, zpI, for', slc, pNo, pSo, rev, app, sti, popL, popA, addI, subI, mulI, powI, divI, modI, ltI, leI, gtI, geI, negI, iop, iopC, maxI, minI, i2, absI, ok, rs, rss, fzs, toSl, owns, putOs, putOwn, ownAt, fldD, yes', lc, nos, back, keepV, lcStep, sumD, lenD, tupD, lstD, two, cov, spD, rgD, eP, rgP, enOf, enOfF, outsG, srtP, srtS, List.getElem?_cons_zero, List.getElem?_cons_succ, List.set_cons_zero, List.set_cons_succ, List.map_cons, List.map_nil, Option.map_some, Option.map_none, List.nodup_nil, if_true, if_false, ite_true, ite_false, reduceIte, decide_eq_true_eq, List.cons_append, List.nil_append, List.append_nil, reduceCtorEq, List.length_cons, List.length_nil, Nat.reduceAdd, Nat.reduceLeDiff, Nat.reduceSub, List.replicate, Bool.not_true, Bool.not_false, toPs_map]
  intro m pm pw
  have jo := join_ok (l := m) (fun p h => hp p (pm.mem_iff.mp h)) (leP_1 pw)
  have lm := pm.length_eq
  refine forGo_inv (enc := eP) (R := fun i ρ => ∃ (acc : List (Int × Int)) (a b : Sl), acc = (m.take i).foldl join1 [] ∧ acc.length ≤ i ∧ ρ = [.val (.lst (l.map eP)), .val (.lst (acc.map eP)), a, b]) m 0 _ ⟨[], _, _, rfl, Nat.le_refl _, rfl⟩ (fun j p ρ hj ⟨acc, a, b, ea, el, e⟩ nx hnx => ?_) (fun ρ ⟨acc, a, b, ea, el, e⟩ => ?_)
  · subst e
    have hjl : j < m.length := (List.getElem?_eq_some_iff.mp hj).1
    have step : ∀ acc', acc' = join1 acc p → acc'.length ≤ acc.length + 1 → nx [.val (.lst (l.map eP)), .val (.lst (acc'.map eP)), .val (.int p.1), .val (.int p.2)] := fun acc' e1 e2 => hnx _ ⟨acc', _, _, by
      have et : m.take (0 + j + 1) = m.take (0 + j) ++ [p] := by
        rw [List.take_add_one, Nat.zero_add, hj]; rfl
      rw [et, List.foldl_append, ← ea, e1]; rfl, by omega, rfl⟩
    simp only [ret, retF, retN, seq, nxt, set, setO, par, parOO, ifs, drp, tst, bin, un, cal, calF, call', callF, mth, own2, prp, mk, tup, lst, lstF, frz, aN, aC, cV, cC, tand, tor, tnot, vand, vor, vnot, ite', chn, isi, asg, gn, g0, gc, gt, gl, itm, rng1, rng2, zpI, for', slc, pNo, pSo, rev, app, sti, popL, popA, addI, subI, mulI, powI, divI, modI, ltI, leI, gtI, geI, negI, iop, iopC, maxI, minI, i2, absI, ok, rs, rss, fzs, toSl, owns, putOs, putOwn, ownAt, fldD, yes', lc, nos, back, keepV, lcStep, sumD, lenD, tupD, lstD, two, cov, spD, rgD, eP, rgP, enOf, enOfF, outsG, srtP, srtS, List.getElem?_cons_zero, List.getElem?_cons_succ, List.set_cons_zero, List.set_cons_succ, List.map_cons, List.map_nil, Option.map_some, Option.map_none, List.nodup_nil, if_true, if_false, ite_true, ite_false, reduceIte, decide_eq_true_eq, List.cons_append, List.nil_append, List.append_nil, reduceCtorEq, List.length_cons, List.length_nil, Nat.reduceAdd, Nat.reduceLeDiff, Nat.reduceSub, List.replicate, Bool.not_true, Bool.not_false]
    by_cases c : p.2 > p.1
    · have c' : p.1 < p.2 := c
      simp only [c', decide_true, if_true, ne_nil]
      rcases List.eq_nil_or_concat acc with e0 | ⟨ac, q, e0⟩
      · subst e0
        simp only [ret, retF, retN, seq, nxt, set, setO, par, parOO, ifs, drp, tst, bin, un, cal, calF, call', callF, mth, own2, prp, mk, tup, lst, lstF, frz, aN, aC, cV, cC, tand, tor, tnot, vand, vor, vnot, ite', chn, isi, asg, gn, g0, gc, gt, gl, itm, rng1, rng2, zpI, for', slc, pNo, pSo, rev, app, sti, popL, popA, addI, subI, mulI, powI, divI, modI, ltI, leI, gtI, geI, negI, iop, iopC, maxI, minI, i2, absI, ok, rs, rss, fzs, toSl, owns, putOs, putOwn, ownAt, fldD, yes', lc, nos, back, keepV, lcStep, sumD, lenD, tupD, lstD, two, cov, spD, rgD, eP, rgP, enOf, enOfF, outsG, srtP, srtS, List.getElem?_cons_zero, List.getElem?_cons_succ, List.set_cons_zero, List.set_cons_succ, List.map_cons, List.map_nil, Option.map_some, Option.map_none, List.nodup_nil, if_true, if_false, ite_true, ite_false, reduceIte, decide_eq_true_eq, List.cons_append, List.nil_append, List.append_nil, reduceCtorEq, List.length_cons, List.length_nil, Nat.reduceAdd, Nat.reduceLeDiff, Nat.reduceSub, List.replicate, Bool.not_true, Bool.not_false, decide_true]
        have ad := add_ll [] [D.tup [.int p.1, .int p.2]] (by rw [sl_line]; simp)
        simp only [List.map_nil, ad, ret, retF, retN, seq, nxt, set, setO, par, parOO, ifs, drp, tst, bin, un, cal, calF, call', callF, mth, own2, prp, mk, tup, lst, lstF, frz, aN, aC, cV, cC, tand, tor, tnot, vand, vor, vnot, ite', chn, isi, asg, gn, g0, gc, gt, gl, itm, rng1, rng2, zpI, for', slc, pNo, pSo, rev, app, sti, popL, popA, addI, subI, mulI, powI, divI, modI, ltI, leI, gtI, geI, negI, iop, iopC, maxI, minI, i2, absI, ok, rs, rss, fzs, toSl, owns, putOs, putOwn, ownAt, fldD, yes', lc, nos, back, keepV, lcStep, sumD, lenD, tupD, lstD, two, cov, spD, rgD, eP, rgP, enOf, enOfF, outsG, srtP, srtS, List.getElem?_cons_zero, List.getElem?_cons_succ, List.set_cons_zero, List.set_cons_succ, List.map_cons, List.map_nil, Option.map_some, Option.map_none, List.nodup_nil, if_true, if_false, ite_true, ite_false, reduceIte, decide_eq_true_eq, List.cons_append, List.nil_append, List.append_nil, reduceCtorEq, List.length_cons, List.length_nil, Nat.reduceAdd, Nat.reduceLeDiff, Nat.reduceSub, List.replicate, Bool.not_true, Bool.not_false]
        exact step [p] (by unfold join1; rw [if_pos c]; rfl) (by simp)
      · rw [List.concat_eq_append] at e0
        subst e0
        have nn : decide (ac ++ [q] = []) = false := decide_eq_false (by simp)
        have em : (ac ++ [q]).map eP = ac.map eP ++ [eP q] := by simp
        have at1 : atI ((ac ++ [q]).map eP) (-1) = some (eP q) := by rw [em]; exact atI_last _ _
        simp only [nn, ret, retF, retN, seq, nxt, set, setO, par, parOO, ifs, drp, tst, bin, un, cal, calF, call', callF, mth, own2, prp, mk, tup, lst, lstF, frz, aN, aC, cV, cC, tand, tor, tnot, vand, vor, vnot, ite', chn, isi, asg, gn, g0, gc, gt, gl, itm, rng1, rng2, zpI, for', slc, pNo, pSo, rev, app, sti, popL, popA, addI, subI, mulI, powI, divI, modI, ltI, leI, gtI, geI, negI, iop, iopC, maxI, minI, i2, absI, ok, rs, rss, fzs, toSl, owns, putOs, putOwn, ownAt, fldD, yes', lc, nos, back, keepV, lcStep, sumD, lenD, tupD, lstD, two, cov, spD, rgD, eP, rgP, enOf, enOfF, outsG, srtP, srtS, List.getElem?_cons_zero, List.getElem?_cons_succ, List.set_cons_zero, List.set_cons_succ, List.map_cons, List.map_nil, Option.map_some, Option.map_none, List.nodup_nil, if_true, if_false, ite_true, ite_false, reduceIte, decide_eq_true_eq, List.cons_append, List.nil_append, List.append_nil, reduceCtorEq, List.length_cons, List.length_nil, Nat.reduceAdd, Nat.reduceLeDiff, Nat.reduceSub, List.replicate, Bool.not_true, Bool.not_false, ixD, at1, atI_0, atI_1]
        by_cases d : p.1 ≤ q.2
        · simp only [d, decide_true, if_true, ret, retF, retN, seq, nxt, set, setO, par, parOO, ifs, drp, tst, bin, un, cal, calF, call', callF, mth, own2, prp, mk, tup, lst, lstF, frz, aN, aC, cV, cC, tand, tor, tnot, vand, vor, vnot, ite', chn, isi, asg, gn, g0, gc, gt, gl, itm, rng1, rng2, zpI, for', slc, pNo, pSo, rev, app, sti, popL, popA, addI, subI, mulI, powI, divI, modI, ltI, leI, gtI, geI, negI, iop, iopC, maxI, minI, i2, absI, ok, rs, rss, fzs, toSl, owns, putOs, putOwn, ownAt, fldD, yes', lc, nos, back, keepV, lcStep, sumD, lenD, tupD, lstD, two, cov, spD, rgD, eP, rgP, enOf, enOfF, outsG, srtP, srtS, List.getElem?_cons_zero, List.getElem?_cons_succ, List.set_cons_zero, List.set_cons_succ, List.map_cons, List.map_nil, Option.map_some, Option.map_none, List.nodup_nil, if_true, if_false, ite_true, ite_false, reduceIte, decide_eq_true_eq, List.cons_append, List.nil_append, List.append_nil, reduceCtorEq, List.length_cons, List.length_nil, Nat.reduceAdd, Nat.reduceLeDiff, Nat.reduceSub, List.replicate, Bool.not_true, Bool.not_false, slD]
          have ec : cutG ((ac ++ [q]).map eP) none (some (-1)) = ac.map eP := by rw [em]; exact cutG_init _ _
          rw [ec]
          have hm : (if q.2 > p.2 then q.2 else p.2) = max p.2 q.2 := by split <;> omega
          rw [hm]
          have ad := add_ll (ac.map eP) [D.tup [.int q.1, .int (max p.2 q.2)]] (by rw [sl_line, List.length_map]; simp at el ⊢; omega)
          simp only [ad, ret, retF, retN, seq, nxt, set, setO, par, parOO, ifs, drp, tst, bin, un, cal, calF, call', callF, mth, own2, prp, mk, tup, lst, lstF, frz, aN, aC, cV, cC, tand, tor, tnot, vand, vor, vnot, ite', chn, isi, asg, gn, g0, gc, gt, gl, itm, rng1, rng2, zpI, for', slc, pNo, pSo, rev, app, sti, popL, popA, addI, subI, mulI, powI, divI, modI, ltI, leI, gtI, geI, negI, iop, iopC, maxI, minI, i2, absI, ok, rs, rss, fzs, toSl, owns, putOs, putOwn, ownAt, fldD, yes', lc, nos, back, keepV, lcStep, sumD, lenD, tupD, lstD, two, cov, spD, rgD, eP, rgP, enOf, enOfF, outsG, srtP, srtS, List.getElem?_cons_zero, List.getElem?_cons_succ, List.set_cons_zero, List.set_cons_succ, List.map_cons, List.map_nil, Option.map_some, Option.map_none, List.nodup_nil, if_true, if_false, ite_true, ite_false, reduceIte, decide_eq_true_eq, List.cons_append, List.nil_append, List.append_nil, reduceCtorEq, List.length_cons, List.length_nil, Nat.reduceAdd, Nat.reduceLeDiff, Nat.reduceSub, List.replicate, Bool.not_true, Bool.not_false]
          have es : ac.map eP ++ [D.tup [.int q.1, .int (max p.2 q.2)]] = (ac ++ [(q.1, max p.2 q.2)]).map eP := by simp [eP]
          rw [es]
          refine step _ ?_ (by simp)
          unfold join1
          rw [if_pos c, List.getLast?_concat]
          simp only [d, if_true, List.dropLast_concat]
        · simp only [d, decide_false, if_false, Bool.false_eq_true]
          have ad := add_ll ((ac ++ [q]).map eP) [D.tup [.int p.1, .int p.2]] (by rw [sl_line, List.length_map]; simp at el ⊢; omega)
          simp only [ad, ret, retF, retN, seq, nxt, set, setO, par, parOO, ifs, drp, tst, bin, un, cal, calF, call', callF, mth, own2, prp, mk, tup, lst, lstF, frz, aN, aC, cV, cC, tand, tor, tnot, vand, vor, vnot, ite', chn, isi, asg, gn, g0, gc, gt, gl, itm, rng1, rng2, zpI, for', slc, pNo, pSo, rev, app, sti, popL, popA, addI, subI, mulI, powI, divI, modI, ltI, leI, gtI, geI, negI, iop, iopC, maxI, minI, i2, absI, ok, rs, rss, fzs, toSl, owns, putOs, putOwn, ownAt, fldD, yes', lc, nos, back, keepV, lcStep, sumD, lenD, tupD, lstD, two, cov, spD, rgD, eP, rgP, enOf, enOfF, outsG, srtP, srtS, List.getElem?_cons_zero, List.getElem?_cons_succ, List.set_cons_zero, List.set_cons_succ, List.map_cons, List.map_nil, Option.map_some, Option.map_none, List.nodup_nil, if_true, if_false, ite_true, ite_false, reduceIte, decide_eq_true_eq, List.cons_append, List.nil_append, List.append_nil, reduceCtorEq, List.length_cons, List.length_nil, Nat.reduceAdd, Nat.reduceLeDiff, Nat.reduceSub, List.replicate, Bool.not_true, Bool.not_false]
          have es : (ac ++ [q]).map eP ++ [D.tup [.int p.1, .int p.2]] = (ac ++ [q] ++ [p]).map eP := by simp [eP]
          rw [es]
          refine step _ ?_ (by simp)
          unfold join1
          rw [if_pos c, List.getLast?_concat]
          simp only [d, if_false]
    · have c' : ¬ p.1 < p.2 := c
      simp only [c', decide_false, if_false, Bool.false_eq_true]
      exact step acc (by unfold join1; rw [if_neg c]) (by omega)
  · subst e
    have ef : acc = join m := by
      rw [ea, Nat.zero_add, List.take_length]; rfl
    subst ef
    simp only [ret, retF, retN, seq, nxt, set, setO, par, parOO, ifs, drp, tst, bin, un, cal, calF, call', callF, mth, own2, prp, mk, tup, lst, lstF, frz, aN, aC, cV, cC, tand, tor, tnot, vand, vor, vnot, ite', chn, isi, asg, gn, g0, gc, gt, gl, itm, rng1, rng2, zpI, for', slc, pNo, pSo, rev, app, sti, popL, popA, addI, subI, mulI, powI, divI, modI, ltI, leI, gtI, geI, negI, iop, iopC, maxI, minI, i2, absI, ok, rs, rss, fzs, toSl, owns, putOs, putOwn, ownAt, fldD, yes', lc, nos, back, keepV, lcStep, sumD, lenD, tupD, lstD, two, cov, spD, rgD, eP, rgP, enOf, enOfF, outsG, srtP, srtS, List.getElem?_cons_zero, List.getElem?_cons_succ, List.set_cons_zero, List.set_cons_succ, List.map_cons, List.map_nil, Option.map_some, Option.map_none, List.nodup_nil, if_true, if_false, ite_true, ite_false, reduceIte, decide_eq_true_eq, List.cons_append, List.nil_append, List.append_nil, reduceCtorEq, List.length_cons, List.length_nil, Nat.reduceAdd, Nat.reduceLeDiff, Nat.reduceSub, List.replicate, Bool.not_true, Bool.not_false]
    exact h _ jo.1 (fun t => (jo.2.1 t).trans (cov_perm pm)) (by omega)
end DL
set_option Elab.async false
set_option linter.all false
set_option maxRecDepth 100000
set_option maxHeartbeats 1000000
namespace DL
open PySem PySem.Spec PyProof.Rows L2 CV
theorem pay_le_last {l : List (Int × Int)} (n : Norm l) {M : Int} (h : Bd M l) (h0 : 0 ≤ M) (x : Int) : pay l x ≤ M := by
  by_cases c : M ≤ x
  · rw [(bd_pay n).mp h x c]
    have := pay_le n (x := 0) (y := M) h0
    rw [pay_low n (x := 0) (by omega)] at this
    omega
  · have := pay_le n (x := x) (y := M) (by omega)
    have z := pay_le n (x := 0) (y := M) h0
    rw [pay_low n (x := 0) (by omega)] at z
    omega
theorem lift_hi {l : List (Int × Int)} (n : Norm l) {M : Int} (h : Bd M l) (h0 : 0 ≤ M) (r : Int) : lift l r ≤ r + M := by
  have := (lift_spec r (lift l r) n).mp (Int.le_refl _)
  have := pay_le_last n h h0 (lift l r)
  omega
theorem d_chained : ∀ as K, S_chained as K → b_chained (enOf as K) (as ++ List.replicate (N_chained.length - as.length) .no) := by
  rintro as K ⟨l, m, rfl, ⟨nl, ll, bl⟩, ⟨nm, lm, bm⟩, h⟩
  show b_chained _ [.val (spD l), .val (spD m), .no, .no]
  simp only [b_chained, ret, retF, retN, seq, nxt, set, setO, par, parOO, ifs, drp, tst, bin, un, cal, calF, call', callF, mth, own2, prp, mk, tup, lst, lstF, frz, aN, aC, cV, cC, tand, tor, tnot, vand, vor, vnot, ite', chn, isi, asg, gn, g0, gc, gt, gl, itm, rng1, rng2, zpI, for', slc, pNo, pSo, rev, app, sti, popL, popA, addI, subI, mulI, powI, divI, modI, ltI, leI, gtI, geI, negI, iop, iopC, maxI, minI, i2, absI, ok, rs, rss, fzs, toSl, owns, putOs, putOwn, ownAt, fldD, yes', lc, nos, back, keepV, lcStep, sumD, lenD, tupD, lstD, two, cov, spD, rgD, eP, rgP, enOf, enOfF, outsG, srtP, srtS, List.getElem?_cons_zero, List.getElem?_cons_succ, List.set_cons_zero, List.set_cons_succ, List.map_cons, List.map_nil, Option.map_some, Option.map_none, List.nodup_nil, if_true, if_false, ite_true, ite_false, reduceIte, decide_eq_true_eq, List.cons_append, List.nil_append, List.append_nil, reduceCtorEq, List.length_cons, List.length_nil, Nat.reduceAdd, Nat.reduceLeDiff, Nat.reduceSub, List.replicate, Bool.not_true, Bool.not_false]
  refine lcGo_map (enc := eP) (val := fun p => eP (lift l p.1, lift l (p.2 - 1) + 1)) m (fun p hp k hk => ?_) (by rw [sl_line]; omega) ?_
  · simp only [ret, retF, retN, seq, nxt, set, setO, par, parOO, ifs, drp, tst, bin, un, cal, calF, call', callF, mth, own2, prp, mk, tup, lst, lstF, frz, aN, aC, cV, cC, tand, tor, tnot, vand, vor, vnot, ite', chn, isi, asg, gn, g0, gc, gt, gl, itm, rng1, rng2, zpI, for', slc, pNo, pSo, rev, app, sti, popL, popA, addI, subI, mulI, powI, divI, modI, ltI, leI, gtI, geI, negI, iop, iopC, maxI, minI, i2, absI, ok, rs, rss, fzs, toSl, owns, putOs, putOwn, ownAt, fldD, yes', lc, nos, back, keepV, lcStep, sumD, lenD, tupD, lstD, two, cov, spD, rgD, eP, rgP, enOf, enOfF, outsG, srtP, srtS, List.getElem?_cons_zero, List.getElem?_cons_succ, List.set_cons_zero, List.set_cons_succ, List.map_cons, List.map_nil, Option.map_some, Option.map_none, List.nodup_nil, if_true, if_false, ite_true, ite_false, reduceIte, decide_eq_true_eq, List.cons_append, List.nil_append, List.append_nil, reduceCtorEq, List.length_cons, List.length_nil, Nat.reduceAdd, Nat.reduceLeDiff, Nat.reduceSub, List.replicate, Bool.not_true, Bool.not_false]
    refine ⟨_, _, rfl, ?_⟩
    simp only [ret, retF, retN, seq, nxt, set, setO, par, parOO, ifs, drp, tst, bin, un, cal, calF, call', callF, mth, own2, prp, mk, tup, lst, lstF, frz, aN, aC, cV, cC, tand, tor, tnot, vand, vor, vnot, ite', chn, isi, asg, gn, g0, gc, gt, gl, itm, rng1, rng2, zpI, for', slc, pNo, pSo, rev, app, sti, popL, popA, addI, subI, mulI, powI, divI, modI, ltI, leI, gtI, geI, negI, iop, iopC, maxI, minI, i2, absI, ok, rs, rss, fzs, toSl, owns, putOs, putOwn, ownAt, fldD, yes', lc, nos, back, keepV, lcStep, sumD, lenD, tupD, lstD, two, cov, spD, rgD, eP, rgP, enOf, enOfF, outsG, srtP, srtS, List.getElem?_cons_zero, List.getElem?_cons_succ, List.set_cons_zero, List.set_cons_succ, List.map_cons, List.map_nil, Option.map_some, Option.map_none, List.nodup_nil, if_true, if_false, ite_true, ite_false, reduceIte, decide_eq_true_eq, List.cons_append, List.nil_append, List.append_nil, reduceCtorEq, List.length_cons, List.length_nil, Nat.reduceAdd, Nat.reduceLeDiff, Nat.reduceSub, List.replicate, Bool.not_true, Bool.not_false]
    refine ⟨_, _, rfl, ?_⟩
    simp only [ret, retF, retN, seq, nxt, set, setO, par, parOO, ifs, drp, tst, bin, un, cal, calF, call', callF, mth, own2, prp, mk, tup, lst, lstF, frz, aN, aC, cV, cC, tand, tor, tnot, vand, vor, vnot, ite', chn, isi, asg, gn, g0, gc, gt, gl, itm, rng1, rng2, zpI, for', slc, pNo, pSo, rev, app, sti, popL, popA, addI, subI, mulI, powI, divI, modI, ltI, leI, gtI, geI, negI, iop, iopC, maxI, minI, i2, absI, ok, rs, rss, fzs, toSl, owns, putOs, putOwn, ownAt, fldD, yes', lc, nos, back, keepV, lcStep, sumD, lenD, tupD, lstD, two, cov, spD, rgD, eP, rgP, enOf, enOfF, outsG, srtP, srtS, List.getElem?_cons_zero, List.getElem?_cons_succ, List.set_cons_zero, List.set_cons_succ, List.map_cons, List.map_nil, Option.map_some, Option.map_none, List.nodup_nil, if_true, if_false, ite_true, ite_false, reduceIte, decide_eq_true_eq, List.cons_append, List.nil_append, List.append_nil, reduceCtorEq, List.length_cons, List.length_nil, Nat.reduceAdd, Nat.reduceLeDiff, Nat.reduceSub, List.replicate, Bool.not_true, Bool.not_false, add_ii]
    rw [sl_line]
    exact hk
  · have ad := add_ll (l.map eP) (m.map fun p => eP (lift l p.1, lift l (p.2 - 1) + 1)) (by rw [sl_line, List.length_map, List.length_map]; omega)
    simp only [ret, retF, retN, seq, nxt, set, setO, par, parOO, ifs, drp, tst, bin, un, cal, calF, call', callF, mth, own2, prp, mk, tup, lst, lstF, frz, aN, aC, cV, cC, tand, tor, tnot, vand, vor, vnot, ite', chn, isi, asg, gn, g0, gc, gt, gl, itm, rng1, rng2, zpI, for', slc, pNo, pSo, rev, app, sti, popL, popA, addI, subI, mulI, powI, divI, modI, ltI, leI, gtI, geI, negI, iop, iopC, maxI, minI, i2, absI, ok, rs, rss, fzs, toSl, owns, putOs, putOwn, ownAt, fldD, yes', lc, nos, back, keepV, lcStep, sumD, lenD, tupD, lstD, two, cov, spD, rgD, eP, rgP, enOf, enOfF, outsG, srtP, srtS, List.getElem?_cons_zero, List.getElem?_cons_succ, List.set_cons_zero, List.set_cons_succ, List.map_cons, List.map_nil, Option.map_some, Option.map_none, List.nodup_nil, if_true, if_false, ite_true, ite_false, reduceIte, decide_eq_true_eq, List.cons_append, List.nil_append, List.append_nil, reduceCtorEq, List.length_cons, List.length_nil, Nat.reduceAdd, Nat.reduceLeDiff, Nat.reduceSub, List.replicate, Bool.not_true, Bool.not_false, eP] at ad ⊢
    rw [ad]
    simp only [ret, retF, retN, seq, nxt, set, setO, par, parOO, ifs, drp, tst, bin, un, cal, calF, call', callF, mth, own2, prp, mk, tup, lst, lstF, frz, aN, aC, cV, cC, tand, tor, tnot, vand, vor, vnot, ite', chn, isi, asg, gn, g0, gc, gt, gl, itm, rng1, rng2, zpI, for', slc, pNo, pSo, rev, app, sti, popL, popA, addI, subI, mulI, powI, divI, modI, ltI, leI, gtI, geI, negI, iop, iopC, maxI, minI, i2, absI, ok, rs, rss, fzs, toSl, owns, putOs, putOwn, ownAt, fldD, yes', lc, nos, back, keepV, lcStep, sumD, lenD, tupD, lstD, two, cov, spD, rgD, eP, rgP, enOf, enOfF, outsG, srtP, srtS, List.getElem?_cons_zero, List.getElem?_cons_succ, List.set_cons_zero, List.set_cons_succ, List.map_cons, List.map_nil, Option.map_some, Option.map_none, List.nodup_nil, if_true, if_false, ite_true, ite_false, reduceIte, decide_eq_true_eq, List.cons_append, List.nil_append, List.append_nil, reduceCtorEq, List.length_cons, List.length_nil, Nat.reduceAdd, Nat.reduceLeDiff, Nat.reduceSub, List.replicate, Bool.not_true, Bool.not_false]
    refine ⟨chainL l m, ?_, ?_, ?_, ?_⟩
    · unfold chainL
      simp [eP]
    · unfold chainL
      rw [List.length_append, List.length_map]
      omega
    · intro p hp
      rcases List.mem_append.mp hp with hp | hp
      · have := norm_mem nl hp; omega
      · obtain ⟨q, hq, rfl⟩ := List.mem_map.mp hp
        have := norm_mem nm hq
        have := lift_ge q.1 nl
        show 0 ≤ lift l q.1
        omega
    · intro r nr cr lr
      refine h r ⟨nr, chain_ok nl nm nr cr, ?_⟩
      unfold chainL at lr
      rw [List.length_append, List.length_map] at lr
      exact lr
theorem shape_init : ∀ d (K : D → Prop), K d → S_ShapeX_initX [d] K := fun d K h => ⟨d, rfl, h⟩
theorem cover_init_shape : ∀ l (K : D → Prop), K (spD l) → S_CoverX_initX [.ob 1 (spD l)] K := fun l K h => .inl ⟨l, rfl, h⟩
theorem d_Cover_add : ∀ as K, S_CoverX_addX as K → b_CoverX_addX (enOf as K) (as ++ List.replicate (N_CoverX_addX.length - as.length) .no) := by
  rintro as K ⟨l, m, rfl, fl, fm, h⟩
  show b_CoverX_addX _ [.val (cov l), .val (cov m)]
  simp only [b_CoverX_addX, ret, retF, retN, seq, nxt, set, setO, par, parOO, ifs, drp, tst, bin, un, cal, calF, call', callF, mth, own2, prp, mk, tup, lst, lstF, frz, aN, aC, cV, cC, tand, tor, tnot, vand, vor, vnot, ite', chn, isi, asg, gn, g0, gc, gt, gl, itm, rng1, rng2, zpI, for', slc, pNo, pSo, rev, app, sti, popL, popA, addI, subI, mulI, powI, divI, modI, ltI, leI, gtI, geI, negI, iop, iopC, maxI, minI, i2, absI, ok, rs, rss, fzs, toSl, owns, putOs, putOwn, ownAt, fldD, yes', lc, nos, back, keepV, lcStep, sumD, lenD, tupD, lstD, two, cov, spD, rgD, eP, rgP, enOf, enOfF, outsG, srtP, srtS, List.getElem?_cons_zero, List.getElem?_cons_succ, List.set_cons_zero, List.set_cons_succ, List.map_cons, List.map_nil, Option.map_some, Option.map_none, List.nodup_nil, if_true, if_false, ite_true, ite_false, reduceIte, decide_eq_true_eq, List.cons_append, List.nil_append, List.append_nil, reduceCtorEq, List.length_cons, List.length_nil, Nat.reduceAdd, Nat.reduceLeDiff, Nat.reduceSub, List.replicate, Bool.not_true, Bool.not_false]
  refine ⟨l, m, rfl, fl, fm, fun r hr => ?_⟩
  simp only [ret, retF, retN, seq, nxt, set, setO, par, parOO, ifs, drp, tst, bin, un, cal, calF, call', callF, mth, own2, prp, mk, tup, lst, lstF, frz, aN, aC, cV, cC, tand, tor, tnot, vand, vor, vnot, ite', chn, isi, asg, gn, g0, gc, gt, gl, itm, rng1, rng2, zpI, for', slc, pNo, pSo, rev, app, sti, popL, popA, addI, subI, mulI, powI, divI, modI, ltI, leI, gtI, geI, negI, iop, iopC, maxI, minI, i2, absI, ok, rs, rss, fzs, toSl, owns, putOs, putOwn, ownAt, fldD, yes', lc, nos, back, keepV, lcStep, sumD, lenD, tupD, lstD, two, cov, spD, rgD, eP, rgP, enOf, enOfF, outsG, srtP, srtS, List.getElem?_cons_zero, List.getElem?_cons_succ, List.set_cons_zero, List.set_cons_succ, List.map_cons, List.map_nil, Option.map_some, Option.map_none, List.nodup_nil, if_true, if_false, ite_true, ite_false, reduceIte, decide_eq_true_eq, List.cons_append, List.nil_append, List.append_nil, reduceCtorEq, List.length_cons, List.length_nil, Nat.reduceAdd, Nat.reduceLeDiff, Nat.reduceSub, List.replicate, Bool.not_true, Bool.not_false]
  refine shape_init _ _ ?_
  exact cover_init_shape r _ (h r hr)
theorem d_Cover_ranges : ∀ as K, S_Cover_ranges as K → b_Cover_ranges (enOf as K) (as ++ List.replicate (N_Cover_ranges.length - as.length) .no) := by
  rintro as K ⟨l, rfl, hl, h⟩
  show b_Cover_ranges _ [.val (cov l), .no, .no]
  simp only [b_Cover_ranges, ret, retF, retN, seq, nxt, set, setO, par, parOO, ifs, drp, tst, bin, un, cal, calF, call', callF, mth, own2, prp, mk, tup, lst, lstF, frz, aN, aC, cV, cC, tand, tor, tnot, vand, vor, vnot, ite', chn, isi, asg, gn, g0, gc, gt, gl, itm, rng1, rng2, zpI, for', slc, pNo, pSo, rev, app, sti, popL, popA, addI, subI, mulI, powI, divI, modI, ltI, leI, gtI, geI, negI, iop, iopC, maxI, minI, i2, absI, ok, rs, rss, fzs, toSl, owns, putOs, putOwn, ownAt, fldD, yes', lc, nos, back, keepV, lcStep, sumD, lenD, tupD, lstD, two, cov, spD, rgD, eP, rgP, enOf, enOfF, outsG, srtP, srtS, List.getElem?_cons_zero, List.getElem?_cons_succ, List.set_cons_zero, List.set_cons_succ, List.map_cons, List.map_nil, Option.map_some, Option.map_none, List.nodup_nil, if_true, if_false, ite_true, ite_false, reduceIte, decide_eq_true_eq, List.cons_append, List.nil_append, List.append_nil, reduceCtorEq, List.length_cons, List.length_nil, Nat.reduceAdd, Nat.reduceLeDiff, Nat.reduceSub, List.replicate, Bool.not_true, Bool.not_false]
  refine lcGo_map (enc := eP) (val := rgP) l (fun p hp k hk => ?_) (by rw [sl_line]; omega) ?_
  · simp only [ret, retF, retN, seq, nxt, set, setO, par, parOO, ifs, drp, tst, bin, un, cal, calF, call', callF, mth, own2, prp, mk, tup, lst, lstF, frz, aN, aC, cV, cC, tand, tor, tnot, vand, vor, vnot, ite', chn, isi, asg, gn, g0, gc, gt, gl, itm, rng1, rng2, zpI, for', slc, pNo, pSo, rev, app, sti, popL, popA, addI, subI, mulI, powI, divI, modI, ltI, leI, gtI, geI, negI, iop, iopC, maxI, minI, i2, absI, ok, rs, rss, fzs, toSl, owns, putOs, putOwn, ownAt, fldD, yes', lc, nos, back, keepV, lcStep, sumD, lenD, tupD, lstD, two, cov, spD, rgD, eP, rgP, enOf, enOfF, outsG, srtP, srtS, List.getElem?_cons_zero, List.getElem?_cons_succ, List.set_cons_zero, List.set_cons_succ, List.map_cons, List.map_nil, Option.map_some, Option.map_none, List.nodup_nil, if_true, if_false, ite_true, ite_false, reduceIte, decide_eq_true_eq, List.cons_append, List.nil_append, List.append_nil, reduceCtorEq, List.length_cons, List.length_nil, Nat.reduceAdd, Nat.reduceLeDiff, Nat.reduceSub, List.replicate, Bool.not_true, Bool.not_false, add_ii]
    rw [sl_line]
    exact hk
  · exact h
theorem d_Cover_total : ∀ as K, S_Cover_total as K → b_Cover_total (enOf as K) (as ++ List.replicate (N_Cover_total.length - as.length) .no) := by
  rintro as K ⟨l, rfl, hl, h⟩
  show b_Cover_total _ [.val (cov l), .no, .no]
  simp only [b_Cover_total, ret, retF, retN, seq, nxt, set, setO, par, parOO, ifs, drp, tst, bin, un, cal, calF, call', callF, mth, own2, prp, mk, tup, lst, lstF, frz, aN, aC, cV, cC, tand, tor, tnot, vand, vor, vnot, ite', chn, isi, asg, gn, g0, gc, gt, gl, itm, rng1, rng2, zpI, for', slc, pNo, pSo, rev, app, sti, popL, popA, addI, subI, mulI, powI, divI, modI, ltI, leI, gtI, geI, negI, iop, iopC, maxI, minI, i2, absI, ok, rs, rss, fzs, toSl, owns, putOs, putOwn, ownAt, fldD, yes', lc, nos, back, keepV, lcStep, sumD, lenD, tupD, lstD, two, cov, spD, rgD, eP, rgP, enOf, enOfF, outsG, srtP, srtS, List.getElem?_cons_zero, List.getElem?_cons_succ, List.set_cons_zero, List.set_cons_succ, List.map_cons, List.map_nil, Option.map_some, Option.map_none, List.nodup_nil, if_true, if_false, ite_true, ite_false, reduceIte, decide_eq_true_eq, List.cons_append, List.nil_append, List.append_nil, reduceCtorEq, List.length_cons, List.length_nil, Nat.reduceAdd, Nat.reduceLeDiff, Nat.reduceSub, List.replicate, Bool.not_true, Bool.not_false]
  refine lcGo_map (enc := eP) (val := fun p => .int (p.2 - p.1)) l (fun p hp k hk => ?_) (by rw [sl_line]; omega) ?_
  · simp only [ret, retF, retN, seq, nxt, set, setO, par, parOO, ifs, drp, tst, bin, un, cal, calF, call', callF, mth, own2, prp, mk, tup, lst, lstF, frz, aN, aC, cV, cC, tand, tor, tnot, vand, vor, vnot, ite', chn, isi, asg, gn, g0, gc, gt, gl, itm, rng1, rng2, zpI, for', slc, pNo, pSo, rev, app, sti, popL, popA, addI, subI, mulI, powI, divI, modI, ltI, leI, gtI, geI, negI, iop, iopC, maxI, minI, i2, absI, ok, rs, rss, fzs, toSl, owns, putOs, putOwn, ownAt, fldD, yes', lc, nos, back, keepV, lcStep, sumD, lenD, tupD, lstD, two, cov, spD, rgD, eP, rgP, enOf, enOfF, outsG, srtP, srtS, List.getElem?_cons_zero, List.getElem?_cons_succ, List.set_cons_zero, List.set_cons_succ, List.map_cons, List.map_nil, Option.map_some, Option.map_none, List.nodup_nil, if_true, if_false, ite_true, ite_false, reduceIte, decide_eq_true_eq, List.cons_append, List.nil_append, List.append_nil, reduceCtorEq, List.length_cons, List.length_nil, Nat.reduceAdd, Nat.reduceLeDiff, Nat.reduceSub, List.replicate, Bool.not_true, Bool.not_false]
    exact hk
  · show ok (Option.map _ (toInts (l.map fun p => D.int (p.2 - p.1)))) _
    have e : (l.map fun p => D.int (p.2 - p.1)) = (l.map fun p => p.2 - p.1).map D.int := by
      rw [List.map_map]; rfl
    rw [e, toInts_map]
    exact h
theorem d_Cover_call : ∀ as K, S_CoverX_callX as K → b_CoverX_callX (enOf as K) (as ++ List.replicate (N_CoverX_callX.length - as.length) .no) := by
  rintro as K ⟨l, x, rfl, hl, h0, h1, h⟩
  show b_CoverX_callX _ [.val (cov l), .val (.int x)]
  simp only [b_CoverX_callX, ret, retF, retN, seq, nxt, set, setO, par, parOO, ifs, drp, tst, bin, un, cal, calF, call', callF, mth, own2, prp, mk, tup, lst, lstF, frz, aN, aC, cV, cC, tand, tor, tnot, vand, vor, vnot, ite', chn, isi, asg, gn, g0, gc, gt, gl, itm, rng1, rng2, zpI, for', slc, pNo, pSo, rev, app, sti, popL, popA, addI, subI, mulI, powI, divI, modI, ltI, leI, gtI, geI, negI, iop, iopC, maxI, minI, i2, absI, ok, rs, rss, fzs, toSl, owns, putOs, putOwn, ownAt, fldD, yes', lc, nos, back, keepV, lcStep, sumD, lenD, tupD, lstD, two, cov, spD, rgD, eP, rgP, enOf, enOfF, outsG, srtP, srtS, List.getElem?_cons_zero, List.getElem?_cons_succ, List.set_cons_zero, List.set_cons_succ, List.map_cons, List.map_nil, Option.map_some, Option.map_none, List.nodup_nil, if_true, if_false, ite_true, ite_false, reduceIte, decide_eq_true_eq, List.cons_append, List.nil_append, List.append_nil, reduceCtorEq, List.length_cons, List.length_nil, Nat.reduceAdd, Nat.reduceLeDiff, Nat.reduceSub, List.replicate, Bool.not_true, Bool.not_false]
  refine ⟨x, rfl, h0, h1, ?_⟩
  simp only [ret, retF, retN, seq, nxt, set, setO, par, parOO, ifs, drp, tst, bin, un, cal, calF, call', callF, mth, own2, prp, mk, tup, lst, lstF, frz, aN, aC, cV, cC, tand, tor, tnot, vand, vor, vnot, ite', chn, isi, asg, gn, g0, gc, gt, gl, itm, rng1, rng2, zpI, for', slc, pNo, pSo, rev, app, sti, popL, popA, addI, subI, mulI, powI, divI, modI, ltI, leI, gtI, geI, negI, iop, iopC, maxI, minI, i2, absI, ok, rs, rss, fzs, toSl, owns, putOs, putOwn, ownAt, fldD, yes', lc, nos, back, keepV, lcStep, sumD, lenD, tupD, lstD, two, cov, spD, rgD, eP, rgP, enOf, enOfF, outsG, srtP, srtS, List.getElem?_cons_zero, List.getElem?_cons_succ, List.set_cons_zero, List.set_cons_succ, List.map_cons, List.map_nil, Option.map_some, Option.map_none, List.nodup_nil, if_true, if_false, ite_true, ite_false, reduceIte, decide_eq_true_eq, List.cons_append, List.nil_append, List.append_nil, reduceCtorEq, List.length_cons, List.length_nil, Nat.reduceAdd, Nat.reduceLeDiff, Nat.reduceSub, List.replicate, Bool.not_true, Bool.not_false]
  exact ⟨l, x, rfl, hl, h⟩
theorem is_cover_cov (l : List (Int × Int)) : is_Cover (.ob 0 (.tup (l.map eP))) = some true := by
  show (if (0 : Nat) = 0 then some true else none) = some true
  rfl
theorem d_Cover_eq : ∀ as K, S_CoverX_eqX as K → b_CoverX_eqX (enOf as K) (as ++ List.replicate (N_CoverX_eqX.length - as.length) .no) := by
  rintro as K ⟨l, m, rfl, h⟩
  show b_CoverX_eqX _ [.val (cov l), .val (cov m)]
  have e := (eq_spD l m).1
  simp only [spD] at e
  simp only [b_CoverX_eqX, ret, retF, retN, seq, nxt, set, setO, par, parOO, ifs, drp, tst, bin, un, cal, calF, call', callF, mth, own2, prp, mk, tup, lst, lstF, frz, aN, aC, cV, cC, tand, tor, tnot, vand, vor, vnot, ite', chn, isi, asg, gn, g0, gc, gt, gl, itm, rng1, rng2, zpI, for', slc, pNo, pSo, rev, app, sti, popL, popA, addI, subI, mulI, powI, divI, modI, ltI, leI, gtI, geI, negI, iop, iopC, maxI, minI, i2, absI, ok, rs, rss, fzs, toSl, owns, putOs, putOwn, ownAt, fldD, yes', lc, nos, back, keepV, lcStep, sumD, lenD, tupD, lstD, two, cov, spD, rgD, eP, rgP, enOf, enOfF, outsG, srtP, srtS, List.getElem?_cons_zero, List.getElem?_cons_succ, List.set_cons_zero, List.set_cons_succ, List.map_cons, List.map_nil, Option.map_some, Option.map_none, List.nodup_nil, if_true, if_false, ite_true, ite_false, reduceIte, decide_eq_true_eq, List.cons_append, List.nil_append, List.append_nil, reduceCtorEq, List.length_cons, List.length_nil, Nat.reduceAdd, Nat.reduceLeDiff, Nat.reduceSub, List.replicate, Bool.not_true, Bool.not_false, is_cover_cov]
  rw [e]
  exact h
/-! corners -/
theorem toInts_app (a b : List Int) : toInts ((a.map D.int) ++ (b.map D.int)) = some (a ++ b) := by rw [← List.map_append]; exact toInts_map _
theorem lc2_ends {c0 : Nat} {l : List (Int × Int)} {Q : List D → Rho → Prop} {a b : Sl} {t : List Sl} {x1 x2 x3 : Sl} (hl : l.length ≤ 1000) :
    ∀ (acc : List D), acc.length + 2 * l.length ≤ 10000 → Q (acc ++ (ends l).map D.int) (x1 :: x2 :: x3 :: .no :: .no :: t) → lc2Go (gn 3) yes' (itm (cV 3)) (gn 4) yes' (cV 4) [3, 4] [4] Q (l.map eP) acc (x1 :: x2 :: x3 :: .no :: .no :: t) := by
  induction l with
  | nil =>
    intro acc _ q
    have e : acc ++ (ends []).map D.int = acc := by simp [ends]
    rw [e] at q
    exact q
  | cons p l ih =>
    intro acc ha q
    rw [List.length_cons] at ha hl
    simp only [lc2Go, lcGo, ret, retF, retN, seq, nxt, set, setO, par, parOO, ifs, drp, tst, bin, un, cal, calF, call', callF, mth, own2, prp, mk, tup, lst, lstF, frz, aN, aC, cV, cC, tand, tor, tnot, vand, vor, vnot, ite', chn, isi, asg, gn, g0, gc, gt, gl, itm, rng1, rng2, zpI, for', slc, pNo, pSo, rev, app, sti, popL, popA, addI, subI, mulI, powI, divI, modI, ltI, leI, gtI, geI, negI, iop, iopC, maxI, minI, i2, absI, ok, rs, rss, fzs, toSl, owns, putOs, putOwn, ownAt, fldD, yes', lc, nos, back, keepV, lcStep, sumD, lenD, tupD, lstD, two, cov, spD, rgD, eP, rgP, enOf, enOfF, outsG, srtP, srtS, List.getElem?_cons_zero, List.getElem?_cons_succ, List.set_cons_zero, List.set_cons_succ, List.map_cons, List.map_nil, Option.map_some, Option.map_none, List.nodup_nil, if_true, if_false, ite_true, ite_false, reduceIte, decide_eq_true_eq, List.cons_append, List.nil_append, List.append_nil, reduceCtorEq, List.length_cons, List.length_nil, Nat.reduceAdd, Nat.reduceLeDiff, Nat.reduceSub, List.replicate, Bool.not_true, Bool.not_false]
    rw [if_pos (by rw [sl_line]; omega), if_pos (by rw [sl_line, List.length_append, List.length_singleton]; omega)]
    refine ih (by omega) _ (by rw [List.length_append, List.length_append, List.length_singleton, List.length_singleton]; omega) ?_
    have e : acc ++ (ends (p :: l)).map D.int = acc ++ [D.int p.1] ++ [D.int p.2] ++ (ends l).map D.int := by simp [ends]
    rw [e] at q
    exact q
theorem ends_len (l : List (Int × Int)) : (ends l).length = 2 * l.length := by
  induction l with
  | nil => rfl
  | cons p l ih =>
    have e : ends (p :: l) = p.1 :: p.2 :: ends l := rfl
    rw [e]
    simp only [List.length_cons, ih]
    omega
def stepC (f g : Int → Int) (found : List Int) (p : Int × Int) : List Int := found ++ seg f g p.1 p.2
theorem corn_fold (f g : Int → Int) : ∀ (r : List Int) (lo : Int) (acc : List Int), ((lo :: r).zip r).foldl (stepC f g) acc = acc ++ corn f g lo r
  | [], lo, acc => by simp [corn]
  | hi :: r, lo, acc => by
    show (((hi :: r).zip r)).foldl (stepC f g) (stepC f g acc (lo, hi)) = acc ++ (seg f g lo hi ++ corn f g hi r)
    rw [corn_fold f g r hi]
    unfold stepC
    rw [List.append_assoc]
theorem zipD_ints (a b : List Int) : zipD (a.map D.int) (b.map D.int) = (a.zip b).map eP := by
  unfold zipD
  rw [List.zip_map, List.map_map]
  rfl
theorem d_corners : ∀ as K, S_corners as K → b_corners (enOf as K) (as ++ List.replicate (N_corners.length - as.length) .no) := by
  rintro as K ⟨l, m, rfl, ⟨⟨nl, ll, bl⟩, ⟨nm, lm, bm⟩, h64⟩, h⟩
  show b_corners _ [.val (spD l), .val (spD m), .no, .no, .no, .no, .no, .no, .no, .no]
  simp only [b_corners, lc2, ret, retF, retN, seq, nxt, set, setO, par, parOO, ifs, drp, tst, bin, un, cal, calF, call', callF, mth, own2, prp, mk, tup, lst, lstF, frz, aN, aC, cV, cC, tand, tor, tnot, vand, vor, vnot, ite', chn, isi, asg, gn, g0, gc, gt, gl, itm, rng1, rng2, zpI, for', slc, pNo, pSo, rev, app, sti, popL, popA, addI, subI, mulI, powI, divI, modI, ltI, leI, gtI, geI, negI, iop, iopC, maxI, minI, i2, absI, ok, rs, rss, fzs, toSl, owns, putOs, putOwn, ownAt, fldD, yes', lc, nos, back, keepV, lcStep, sumD, lenD, tupD, lstD, two, cov, spD, rgD, eP, rgP, enOf, enOfF, outsG, srtP, srtS, List.getElem?_cons_zero, List.getElem?_cons_succ, List.set_cons_zero, List.set_cons_succ, List.map_cons, List.map_nil, Option.map_some, Option.map_none, List.nodup_nil, if_true, if_false, ite_true, ite_false, reduceIte, decide_eq_true_eq, List.cons_append, List.nil_append, List.append_nil, reduceCtorEq, List.length_cons, List.length_nil, Nat.reduceAdd, Nat.reduceLeDiff, Nat.reduceSub, List.replicate, Bool.not_true, Bool.not_false]
  refine lc2_ends (c0 := 0) (a := .no) (b := .no) (by omega) [] (by simp; omega) ?_
  simp only [ret, retF, retN, seq, nxt, set, setO, par, parOO, ifs, drp, tst, bin, un, cal, calF, call', callF, mth, own2, prp, mk, tup, lst, lstF, frz, aN, aC, cV, cC, tand, tor, tnot, vand, vor, vnot, ite', chn, isi, asg, gn, g0, gc, gt, gl, itm, rng1, rng2, zpI, for', slc, pNo, pSo, rev, app, sti, popL, popA, addI, subI, mulI, powI, divI, modI, ltI, leI, gtI, geI, negI, iop, iopC, maxI, minI, i2, absI, ok, rs, rss, fzs, toSl, owns, putOs, putOwn, ownAt, fldD, yes', lc, nos, back, keepV, lcStep, sumD, lenD, tupD, lstD, two, cov, spD, rgD, eP, rgP, enOf, enOfF, outsG, srtP, srtS, List.getElem?_cons_zero, List.getElem?_cons_succ, List.set_cons_zero, List.set_cons_succ, List.map_cons, List.map_nil, Option.map_some, Option.map_none, List.nodup_nil, if_true, if_false, ite_true, ite_false, reduceIte, decide_eq_true_eq, List.cons_append, List.nil_append, List.append_nil, reduceCtorEq, List.length_cons, List.length_nil, Nat.reduceAdd, Nat.reduceLeDiff, Nat.reduceSub, List.replicate, Bool.not_true, Bool.not_false]
  have a1 := add_ll [D.int 0] ((ends l).map D.int) (by rw [sl_line, List.length_map, ends_len]; simp; omega)
  simp only [ret, retF, retN, seq, nxt, set, setO, par, parOO, ifs, drp, tst, bin, un, cal, calF, call', callF, mth, own2, prp, mk, tup, lst, lstF, frz, aN, aC, cV, cC, tand, tor, tnot, vand, vor, vnot, ite', chn, isi, asg, gn, g0, gc, gt, gl, itm, rng1, rng2, zpI, for', slc, pNo, pSo, rev, app, sti, popL, popA, addI, subI, mulI, powI, divI, modI, ltI, leI, gtI, geI, negI, iop, iopC, maxI, minI, i2, absI, ok, rs, rss, fzs, toSl, owns, putOs, putOwn, ownAt, fldD, yes', lc, nos, back, keepV, lcStep, sumD, lenD, tupD, lstD, two, cov, spD, rgD, eP, rgP, enOf, enOfF, outsG, srtP, srtS, List.getElem?_cons_zero, List.getElem?_cons_succ, List.set_cons_zero, List.set_cons_succ, List.map_cons, List.map_nil, Option.map_some, Option.map_none, List.nodup_nil, if_true, if_false, ite_true, ite_false, reduceIte, decide_eq_true_eq, List.cons_append, List.nil_append, List.append_nil, reduceCtorEq, List.length_cons, List.length_nil, Nat.reduceAdd, Nat.reduceLeDiff, Nat.reduceSub, List.replicate, Bool.not_true, Bool.not_false] at a1
  rw [a1]
  simp only [ret, retF, retN, seq, nxt, set, setO, par, parOO, ifs, drp, tst, bin, un, cal, calF, call', callF, mth, own2, prp, mk, tup, lst, lstF, frz, aN, aC, cV, cC, tand, tor, tnot, vand, vor, vnot, ite', chn, isi, asg, gn, g0, gc, gt, gl, itm, rng1, rng2, zpI, for', slc, pNo, pSo, rev, app, sti, popL, popA, addI, subI, mulI, powI, divI, modI, ltI, leI, gtI, geI, negI, iop, iopC, maxI, minI, i2, absI, ok, rs, rss, fzs, toSl, owns, putOs, putOwn, ownAt, fldD, yes', lc, nos, back, keepV, lcStep, sumD, lenD, tupD, lstD, two, cov, spD, rgD, eP, rgP, enOf, enOfF, outsG, srtP, srtS, List.getElem?_cons_zero, List.getElem?_cons_succ, List.set_cons_zero, List.set_cons_succ, List.map_cons, List.map_nil, Option.map_some, Option.map_none, List.nodup_nil, if_true, if_false, ite_true, ite_false, reduceIte, decide_eq_true_eq, List.cons_append, List.nil_append, List.append_nil, reduceCtorEq, List.length_cons, List.length_nil, Nat.reduceAdd, Nat.reduceLeDiff, Nat.reduceSub, List.replicate, Bool.not_true, Bool.not_false]
  refine lc2_ends (c0 := 0) (a := .no) (b := .no) (by omega) [] (by simp; omega) ?_
  simp only [ret, retF, retN, seq, nxt, set, setO, par, parOO, ifs, drp, tst, bin, un, cal, calF, call', callF, mth, own2, prp, mk, tup, lst, lstF, frz, aN, aC, cV, cC, tand, tor, tnot, vand, vor, vnot, ite', chn, isi, asg, gn, g0, gc, gt, gl, itm, rng1, rng2, zpI, for', slc, pNo, pSo, rev, app, sti, popL, popA, addI, subI, mulI, powI, divI, modI, ltI, leI, gtI, geI, negI, iop, iopC, maxI, minI, i2, absI, ok, rs, rss, fzs, toSl, owns, putOs, putOwn, ownAt, fldD, yes', lc, nos, back, keepV, lcStep, sumD, lenD, tupD, lstD, two, cov, spD, rgD, eP, rgP, enOf, enOfF, outsG, srtP, srtS, List.getElem?_cons_zero, List.getElem?_cons_succ, List.set_cons_zero, List.set_cons_succ, List.map_cons, List.map_nil, Option.map_some, Option.map_none, List.nodup_nil, if_true, if_false, ite_true, ite_false, reduceIte, decide_eq_true_eq, List.cons_append, List.nil_append, List.append_nil, reduceCtorEq, List.length_cons, List.length_nil, Nat.reduceAdd, Nat.reduceLeDiff, Nat.reduceSub, List.replicate, Bool.not_true, Bool.not_false]
  have a2 := add_ll (D.int 0 :: (ends l).map D.int) ((ends m).map D.int) (by rw [sl_line, List.length_cons, List.length_map, List.length_map, ends_len, ends_len]; omega)
  rw [a2]
  simp only [ret, retF, retN, seq, nxt, set, setO, par, parOO, ifs, drp, tst, bin, un, cal, calF, call', callF, mth, own2, prp, mk, tup, lst, lstF, frz, aN, aC, cV, cC, tand, tor, tnot, vand, vor, vnot, ite', chn, isi, asg, gn, g0, gc, gt, gl, itm, rng1, rng2, zpI, for', slc, pNo, pSo, rev, app, sti, popL, popA, addI, subI, mulI, powI, divI, modI, ltI, leI, gtI, geI, negI, iop, iopC, maxI, minI, i2, absI, ok, rs, rss, fzs, toSl, owns, putOs, putOwn, ownAt, fldD, yes', lc, nos, back, keepV, lcStep, sumD, lenD, tupD, lstD, two, cov, spD, rgD, eP, rgP, enOf, enOfF, outsG, srtP, srtS, List.getElem?_cons_zero, List.getElem?_cons_succ, List.set_cons_zero, List.set_cons_succ, List.map_cons, List.map_nil, Option.map_some, Option.map_none, List.nodup_nil, if_true, if_false, ite_true, ite_false, reduceIte, decide_eq_true_eq, List.cons_append, List.nil_append, List.append_nil, reduceCtorEq, List.length_cons, List.length_nil, Nat.reduceAdd, Nat.reduceLeDiff, Nat.reduceSub, List.replicate, Bool.not_true, Bool.not_false]
  have e3 : D.int 0 :: ((ends l).map D.int ++ (ends m).map D.int) = (0 :: (ends l ++ ends m)).map D.int := by simp
  rw [e3, toInts_map]
  simp only [ret, retF, retN, seq, nxt, set, setO, par, parOO, ifs, drp, tst, bin, un, cal, calF, call', callF, mth, own2, prp, mk, tup, lst, lstF, frz, aN, aC, cV, cC, tand, tor, tnot, vand, vor, vnot, ite', chn, isi, asg, gn, g0, gc, gt, gl, itm, rng1, rng2, zpI, for', slc, pNo, pSo, rev, app, sti, popL, popA, addI, subI, mulI, powI, divI, modI, ltI, leI, gtI, geI, negI, iop, iopC, maxI, minI, i2, absI, ok, rs, rss, fzs, toSl, owns, putOs, putOwn, ownAt, fldD, yes', lc, nos, back, keepV, lcStep, sumD, lenD, tupD, lstD, two, cov, spD, rgD, eP, rgP, enOf, enOfF, outsG, srtP, srtS, List.getElem?_cons_zero, List.getElem?_cons_succ, List.set_cons_zero, List.set_cons_succ, List.map_cons, List.map_nil, Option.map_some, Option.map_none, List.nodup_nil, if_true, if_false, ite_true, ite_false, reduceIte, decide_eq_true_eq, List.cons_append, List.nil_append, List.append_nil, reduceCtorEq, List.length_cons, List.length_nil, Nat.reduceAdd, Nat.reduceLeDiff, Nat.reduceSub, List.replicate, Bool.not_true, Bool.not_false]
  have mem : ∀ q, q ∈ 0 :: (ends l ++ ends m) ↔ q = 0 ∨ q ∈ ends l ∨ q ∈ ends m := fun q => by simp
  refine ⟨by rw [List.length_append, ends_len, ends_len]; omega, fun e ne me => h64 e ne fun q => by rw [me q, mem q], fun pts hw hm => ?_⟩
  have hp : Pts l m pts := ⟨hw, fun q => by rw [hm q, mem q]⟩
  obtain ⟨r, rfl⟩ := hp.head nl nm
  have hr : r.length < 64 := by
    have z := h64 (0 :: r) (hw.imp fun h => by omega) hp.m
    rw [List.length_cons] at z
    omega
  have grid := hp.grid nl nm
  have es : slD (D.lst (List.map D.int (0 :: r))) (some 1) none = some (.lst (r.map D.int)) := by
    show some (D.lst (cutG (D.int 0 :: r.map D.int) (some 1) none)) = _
    rw [cutG_tail]
  rw [es]
  show forGo _ _ _ (zipD (List.map D.int (0 :: r)) (List.map D.int r)) _
  rw [zipD_ints]
  have bd : ∀ x, -(2 ^ 64) < pay l x - pay m x ∧ pay l x - pay m x < 2 ^ 64 := fun x => by
    have := pay_le_last nl bl (by decide) x
    have := pay_le_last nm bm (by decide) x
    have := pay_nonneg l x
    have := pay_nonneg m x
    omega
  refine forGo_inv (enc := eP) (R := fun i ρ => ∃ (acc : List Int) (a b c d e f : Sl), acc = (((0 :: r).zip r).take i).foldl (stepC (pay l) (pay m)) [0] ∧ acc.length ≤ 1 + 2 * i ∧ ρ = [.val (.tup (l.map eP)), .val (.tup (m.map eP)), .val (.lst ((0 :: r).map D.int)), a, b, .val (.lst (acc.map D.int)), c, d, e, f]) _ 0 _ ⟨[0], _, _, _, _, _, _, rfl, by simp, rfl⟩ (fun j p ρ hj ⟨acc, a, b, c, d, e, f, ea, el, er⟩ nx hnx => ?_) (fun ρ ⟨acc, a, b, c, d, e, f, ea, el, er⟩ => ?_)
  · subst er
    have hjl : j < ((0 :: r).zip r).length := (List.getElem?_eq_some_iff.mp hj).1
    have hj64 : j < 64 := by
      rw [List.length_zip, List.length_cons] at hjl
      omega
    have et : ((0 :: r).zip r).take (0 + j + 1) = ((0 :: r).zip r).take (0 + j) ++ [p] := by
      rw [List.take_add_one, Nat.zero_add, hj]; rfl
    simp only [ret, retF, retN, seq, nxt, set, setO, par, parOO, ifs, drp, tst, bin, un, cal, calF, call', callF, mth, own2, prp, mk, tup, lst, lstF, frz, aN, aC, cV, cC, tand, tor, tnot, vand, vor, vnot, ite', chn, isi, asg, gn, g0, gc, gt, gl, itm, rng1, rng2, zpI, for', slc, pNo, pSo, rev, app, sti, popL, popA, addI, subI, mulI, powI, divI, modI, ltI, leI, gtI, geI, negI, iop, iopC, maxI, minI, i2, absI, ok, rs, rss, fzs, toSl, owns, putOs, putOwn, ownAt, fldD, yes', lc, nos, back, keepV, lcStep, sumD, lenD, tupD, lstD, two, cov, spD, rgD, eP, rgP, enOf, enOfF, outsG, srtP, srtS, List.getElem?_cons_zero, List.getElem?_cons_succ, List.set_cons_zero, List.set_cons_succ, List.map_cons, List.map_nil, Option.map_some, Option.map_none, List.nodup_nil, if_true, if_false, ite_true, ite_false, reduceIte, decide_eq_true_eq, List.cons_append, List.nil_append, List.append_nil, reduceCtorEq, List.length_cons, List.length_nil, Nat.reduceAdd, Nat.reduceLeDiff, Nat.reduceSub, List.replicate, Bool.not_true, Bool.not_false, mulI, iopC]
    refine ⟨l, p.1, rfl, by omega, ?_⟩
    simp only [ret, retF, retN, seq, nxt, set, setO, par, parOO, ifs, drp, tst, bin, un, cal, calF, call', callF, mth, own2, prp, mk, tup, lst, lstF, frz, aN, aC, cV, cC, tand, tor, tnot, vand, vor, vnot, ite', chn, isi, asg, gn, g0, gc, gt, gl, itm, rng1, rng2, zpI, for', slc, pNo, pSo, rev, app, sti, popL, popA, addI, subI, mulI, powI, divI, modI, ltI, leI, gtI, geI, negI, iop, iopC, maxI, minI, i2, absI, ok, rs, rss, fzs, toSl, owns, putOs, putOwn, ownAt, fldD, yes', lc, nos, back, keepV, lcStep, sumD, lenD, tupD, lstD, two, cov, spD, rgD, eP, rgP, enOf, enOfF, outsG, srtP, srtS, List.getElem?_cons_zero, List.getElem?_cons_succ, List.set_cons_zero, List.set_cons_succ, List.map_cons, List.map_nil, Option.map_some, Option.map_none, List.nodup_nil, if_true, if_false, ite_true, ite_false, reduceIte, decide_eq_true_eq, List.cons_append, List.nil_append, List.append_nil, reduceCtorEq, List.length_cons, List.length_nil, Nat.reduceAdd, Nat.reduceLeDiff, Nat.reduceSub, List.replicate, Bool.not_true, Bool.not_false]
    refine ⟨m, p.1, rfl, by omega, ?_⟩
    simp only [ret, retF, retN, seq, nxt, set, setO, par, parOO, ifs, drp, tst, bin, un, cal, calF, call', callF, mth, own2, prp, mk, tup, lst, lstF, frz, aN, aC, cV, cC, tand, tor, tnot, vand, vor, vnot, ite', chn, isi, asg, gn, g0, gc, gt, gl, itm, rng1, rng2, zpI, for', slc, pNo, pSo, rev, app, sti, popL, popA, addI, subI, mulI, powI, divI, modI, ltI, leI, gtI, geI, negI, iop, iopC, maxI, minI, i2, absI, ok, rs, rss, fzs, toSl, owns, putOs, putOwn, ownAt, fldD, yes', lc, nos, back, keepV, lcStep, sumD, lenD, tupD, lstD, two, cov, spD, rgD, eP, rgP, enOf, enOfF, outsG, srtP, srtS, List.getElem?_cons_zero, List.getElem?_cons_succ, List.set_cons_zero, List.set_cons_succ, List.map_cons, List.map_nil, Option.map_some, Option.map_none, List.nodup_nil, if_true, if_false, ite_true, ite_false, reduceIte, decide_eq_true_eq, List.cons_append, List.nil_append, List.append_nil, reduceCtorEq, List.length_cons, List.length_nil, Nat.reduceAdd, Nat.reduceLeDiff, Nat.reduceSub, List.replicate, Bool.not_true, Bool.not_false]
    refine ⟨l, p.2, rfl, by omega, ?_⟩
    simp only [ret, retF, retN, seq, nxt, set, setO, par, parOO, ifs, drp, tst, bin, un, cal, calF, call', callF, mth, own2, prp, mk, tup, lst, lstF, frz, aN, aC, cV, cC, tand, tor, tnot, vand, vor, vnot, ite', chn, isi, asg, gn, g0, gc, gt, gl, itm, rng1, rng2, zpI, for', slc, pNo, pSo, rev, app, sti, popL, popA, addI, subI, mulI, powI, divI, modI, ltI, leI, gtI, geI, negI, iop, iopC, maxI, minI, i2, absI, ok, rs, rss, fzs, toSl, owns, putOs, putOwn, ownAt, fldD, yes', lc, nos, back, keepV, lcStep, sumD, lenD, tupD, lstD, two, cov, spD, rgD, eP, rgP, enOf, enOfF, outsG, srtP, srtS, List.getElem?_cons_zero, List.getElem?_cons_succ, List.set_cons_zero, List.set_cons_succ, List.map_cons, List.map_nil, Option.map_some, Option.map_none, List.nodup_nil, if_true, if_false, ite_true, ite_false, reduceIte, decide_eq_true_eq, List.cons_append, List.nil_append, List.append_nil, reduceCtorEq, List.length_cons, List.length_nil, Nat.reduceAdd, Nat.reduceLeDiff, Nat.reduceSub, List.replicate, Bool.not_true, Bool.not_false]
    refine ⟨m, p.2, rfl, by omega, ?_⟩
    simp only [ret, retF, retN, seq, nxt, set, setO, par, parOO, ifs, drp, tst, bin, un, cal, calF, call', callF, mth, own2, prp, mk, tup, lst, lstF, frz, aN, aC, cV, cC, tand, tor, tnot, vand, vor, vnot, ite', chn, isi, asg, gn, g0, gc, gt, gl, itm, rng1, rng2, zpI, for', slc, pNo, pSo, rev, app, sti, popL, popA, addI, subI, mulI, powI, divI, modI, ltI, leI, gtI, geI, negI, iop, iopC, maxI, minI, i2, absI, ok, rs, rss, fzs, toSl, owns, putOs, putOwn, ownAt, fldD, yes', lc, nos, back, keepV, lcStep, sumD, lenD, tupD, lstD, two, cov, spD, rgD, eP, rgP, enOf, enOfF, outsG, srtP, srtS, List.getElem?_cons_zero, List.getElem?_cons_succ, List.set_cons_zero, List.set_cons_succ, List.map_cons, List.map_nil, Option.map_some, Option.map_none, List.nodup_nil, if_true, if_false, ite_true, ite_false, reduceIte, decide_eq_true_eq, List.cons_append, List.nil_append, List.append_nil, reduceCtorEq, List.length_cons, List.length_nil, Nat.reduceAdd, Nat.reduceLeDiff, Nat.reduceSub, List.replicate, Bool.not_true, Bool.not_false, add_ii]
    rw [if_pos (show CMul _ _ from .inl (bd p.1))]
    simp only [ret, retF, retN, seq, nxt, set, setO, par, parOO, ifs, drp, tst, bin, un, cal, calF, call', callF, mth, own2, prp, mk, tup, lst, lstF, frz, aN, aC, cV, cC, tand, tor, tnot, vand, vor, vnot, ite', chn, isi, asg, gn, g0, gc, gt, gl, itm, rng1, rng2, zpI, for', slc, pNo, pSo, rev, app, sti, popL, popA, addI, subI, mulI, powI, divI, modI, ltI, leI, gtI, geI, negI, iop, iopC, maxI, minI, i2, absI, ok, rs, rss, fzs, toSl, owns, putOs, putOwn, ownAt, fldD, yes', lc, nos, back, keepV, lcStep, sumD, lenD, tupD, lstD, two, cov, spD, rgD, eP, rgP, enOf, enOfF, outsG, srtP, srtS, List.getElem?_cons_zero, List.getElem?_cons_succ, List.set_cons_zero, List.set_cons_succ, List.map_cons, List.map_nil, Option.map_some, Option.map_none, List.nodup_nil, if_true, if_false, ite_true, ite_false, reduceIte, decide_eq_true_eq, List.cons_append, List.nil_append, List.append_nil, reduceCtorEq, List.length_cons, List.length_nil, Nat.reduceAdd, Nat.reduceLeDiff, Nat.reduceSub, List.replicate, Bool.not_true, Bool.not_false]
    by_cases k : (pay l p.1 - pay m p.1) * (pay l p.2 - pay m p.2) < 0
    · simp only [k, decide_true, if_true]
      have a1 := add_ll (acc.map D.int) [D.int (p.1 + (if pay l p.1 - pay m p.1 < 0 then -(pay l p.1 - pay m p.1) else pay l p.1 - pay m p.1))] (by rw [sl_line, List.length_map, List.length_singleton]; omega)
      rw [a1]
      simp only [ret, retF, retN, seq, nxt, set, setO, par, parOO, ifs, drp, tst, bin, un, cal, calF, call', callF, mth, own2, prp, mk, tup, lst, lstF, frz, aN, aC, cV, cC, tand, tor, tnot, vand, vor, vnot, ite', chn, isi, asg, gn, g0, gc, gt, gl, itm, rng1, rng2, zpI, for', slc, pNo, pSo, rev, app, sti, popL, popA, addI, subI, mulI, powI, divI, modI, ltI, leI, gtI, geI, negI, iop, iopC, maxI, minI, i2, absI, ok, rs, rss, fzs, toSl, owns, putOs, putOwn, ownAt, fldD, yes', lc, nos, back, keepV, lcStep, sumD, lenD, tupD, lstD, two, cov, spD, rgD, eP, rgP, enOf, enOfF, outsG, srtP, srtS, List.getElem?_cons_zero, List.getElem?_cons_succ, List.set_cons_zero, List.set_cons_succ, List.map_cons, List.map_nil, Option.map_some, Option.map_none, List.nodup_nil, if_true, if_false, ite_true, ite_false, reduceIte, decide_eq_true_eq, List.cons_append, List.nil_append, List.append_nil, reduceCtorEq, List.length_cons, List.length_nil, Nat.reduceAdd, Nat.reduceLeDiff, Nat.reduceSub, List.replicate, Bool.not_true, Bool.not_false]
      have a2 := add_ll (acc.map D.int ++ [D.int (p.1 + (if pay l p.1 - pay m p.1 < 0 then -(pay l p.1 - pay m p.1) else pay l p.1 - pay m p.1))]) [D.int p.2] (by rw [sl_line, List.length_append, List.length_map, List.length_singleton, List.length_singleton]; omega)
      rw [a2]
      simp only [ret, retF, retN, seq, nxt, set, setO, par, parOO, ifs, drp, tst, bin, un, cal, calF, call', callF, mth, own2, prp, mk, tup, lst, lstF, frz, aN, aC, cV, cC, tand, tor, tnot, vand, vor, vnot, ite', chn, isi, asg, gn, g0, gc, gt, gl, itm, rng1, rng2, zpI, for', slc, pNo, pSo, rev, app, sti, popL, popA, addI, subI, mulI, powI, divI, modI, ltI, leI, gtI, geI, negI, iop, iopC, maxI, minI, i2, absI, ok, rs, rss, fzs, toSl, owns, putOs, putOwn, ownAt, fldD, yes', lc, nos, back, keepV, lcStep, sumD, lenD, tupD, lstD, two, cov, spD, rgD, eP, rgP, enOf, enOfF, outsG, srtP, srtS, List.getElem?_cons_zero, List.getElem?_cons_succ, List.set_cons_zero, List.set_cons_succ, List.map_cons, List.map_nil, Option.map_some, Option.map_none, List.nodup_nil, if_true, if_false, ite_true, ite_false, reduceIte, decide_eq_true_eq, List.cons_append, List.nil_append, List.append_nil, reduceCtorEq, List.length_cons, List.length_nil, Nat.reduceAdd, Nat.reduceLeDiff, Nat.reduceSub, List.replicate, Bool.not_true, Bool.not_false]
      refine hnx _ ⟨acc ++ seg (pay l) (pay m) p.1 p.2, a, b, .val (.int p.1), .val (.int p.2), .val (.int (pay l p.1 - pay m p.1)), .val (.int (pay l p.2 - pay m p.2)), ?_, ?_, ?_⟩
      · rw [et, List.foldl_append, ← ea]; rfl
      · unfold seg
        rw [if_pos k, List.length_append]
        show acc.length + 2 ≤ _
        omega
      · unfold seg
        rw [if_pos k]
        simp
    · simp only [k, decide_false, if_false, Bool.false_eq_true]
      have a1 := add_ll (acc.map D.int) [D.int p.2] (by rw [sl_line, List.length_map, List.length_singleton]; omega)
      rw [a1]
      simp only [ret, retF, retN, seq, nxt, set, setO, par, parOO, ifs, drp, tst, bin, un, cal, calF, call', callF, mth, own2, prp, mk, tup, lst, lstF, frz, aN, aC, cV, cC, tand, tor, tnot, vand, vor, vnot, ite', chn, isi, asg, gn, g0, gc, gt, gl, itm, rng1, rng2, zpI, for', slc, pNo, pSo, rev, app, sti, popL, popA, addI, subI, mulI, powI, divI, modI, ltI, leI, gtI, geI, negI, iop, iopC, maxI, minI, i2, absI, ok, rs, rss, fzs, toSl, owns, putOs, putOwn, ownAt, fldD, yes', lc, nos, back, keepV, lcStep, sumD, lenD, tupD, lstD, two, cov, spD, rgD, eP, rgP, enOf, enOfF, outsG, srtP, srtS, List.getElem?_cons_zero, List.getElem?_cons_succ, List.set_cons_zero, List.set_cons_succ, List.map_cons, List.map_nil, Option.map_some, Option.map_none, List.nodup_nil, if_true, if_false, ite_true, ite_false, reduceIte, decide_eq_true_eq, List.cons_append, List.nil_append, List.append_nil, reduceCtorEq, List.length_cons, List.length_nil, Nat.reduceAdd, Nat.reduceLeDiff, Nat.reduceSub, List.replicate, Bool.not_true, Bool.not_false]
      refine hnx _ ⟨acc ++ seg (pay l) (pay m) p.1 p.2, a, b, .val (.int p.1), .val (.int p.2), .val (.int (pay l p.1 - pay m p.1)), .val (.int (pay l p.2 - pay m p.2)), ?_, ?_, ?_⟩
      · rw [et, List.foldl_append, ← ea]; rfl
      · unfold seg
        rw [if_neg k, List.length_append]
        show acc.length + 1 ≤ _
        omega
      · unfold seg
        rw [if_neg k]
        simp
  · subst er
    have ef : acc = 0 :: corn (pay l) (pay m) 0 r := by
      rw [ea, Nat.zero_add, List.take_length, corn_fold]; rfl
    subst ef
    simp only [ret, retF, retN, seq, nxt, set, setO, par, parOO, ifs, drp, tst, bin, un, cal, calF, call', callF, mth, own2, prp, mk, tup, lst, lstF, frz, aN, aC, cV, cC, tand, tor, tnot, vand, vor, vnot, ite', chn, isi, asg, gn, g0, gc, gt, gl, itm, rng1, rng2, zpI, for', slc, pNo, pSo, rev, app, sti, popL, popA, addI, subI, mulI, powI, divI, modI, ltI, leI, gtI, geI, negI, iop, iopC, maxI, minI, i2, absI, ok, rs, rss, fzs, toSl, owns, putOs, putOwn, ownAt, fldD, yes', lc, nos, back, keepV, lcStep, sumD, lenD, tupD, lstD, two, cov, spD, rgD, eP, rgP, enOf, enOfF, outsG, srtP, srtS, List.getElem?_cons_zero, List.getElem?_cons_succ, List.set_cons_zero, List.set_cons_succ, List.map_cons, List.map_nil, Option.map_some, Option.map_none, List.nodup_nil, if_true, if_false, ite_true, ite_false, reduceIte, decide_eq_true_eq, List.cons_append, List.nil_append, List.append_nil, reduceCtorEq, List.length_cons, List.length_nil, Nat.reduceAdd, Nat.reduceLeDiff, Nat.reduceSub, List.replicate, Bool.not_true, Bool.not_false]
    exact h r hp hr
end DL
set_option Elab.async false
set_option linter.all false
set_option maxRecDepth 100000
set_option maxHeartbeats 1000000
namespace DL
open PySem PySem.Spec PyProof.Rows L2 CV
theorem i_max (a b : Int) : (if b > a then b else a) = max a b := by split <;> omega
theorem i_min (a b : Int) : (if b < a then b else a) = min a b := by split <;> omega
def stepS (h : Int → Int) (found : List (Int × Int)) (p : Int × Int) : List (Int × Int) := found ++ (if h p.2 > h p.1 then [p] else [])
theorem segs_fold (h : Int → Int) : ∀ (r : List Int) (lo : Int) (acc : List (Int × Int)), ((lo :: r).zip r).foldl (stepS h) acc = acc ++ segs h lo r
  | [], lo, acc => by simp [segs]
  | hi :: r, lo, acc => by
    show (((hi :: r).zip r)).foldl (stepS h) (stepS h acc (lo, hi)) = acc ++ ((if h hi > h lo then [(lo, hi)] else []) ++ segs h hi r)
    rw [segs_fold h r hi]
    unfold stepS
    rw [List.append_assoc]
theorem corn_len (f g : Int → Int) : ∀ (r : List Int) (lo : Int), (corn f g lo r).length ≤ 2 * r.length
  | [], _ => Nat.le_refl _
  | hi :: r, lo => by
    have ih := corn_len f g r hi
    show (seg f g lo hi ++ corn f g hi r).length ≤ 2 * (r.length + 1)
    rw [List.length_append]
    have : (seg f g lo hi).length ≤ 2 := by unfold seg; split <;> simp
    omega
theorem d_larger : ∀ as K, S_larger as K → b_larger (enOf as K) (as ++ List.replicate (N_larger.length - as.length) .no) := by
  rintro as K ⟨l, m, rfl, sm, h⟩
  have sm' := sm
  obtain ⟨⟨nl, ll, bl⟩, ⟨nm, lm, bm⟩, h64⟩ := sm'
  show b_larger _ [.val (spD l), .val (spD m), .no, .no, .no, .no]
  simp only [b_larger, ret, retF, retN, seq, nxt, set, setO, par, parOO, ifs, drp, tst, bin, un, cal, calF, call', callF, mth, own2, prp, mk, tup, lst, lstF, frz, aN, aC, cV, cC, tand, tor, tnot, vand, vor, vnot, ite', chn, isi, asg, gn, g0, gc, gt, gl, itm, rng1, rng2, zpI, for', slc, pNo, pSo, rev, app, sti, popL, popA, addI, subI, mulI, powI, divI, modI, ltI, leI, gtI, geI, negI, iop, iopC, maxI, minI, i2, absI, ok, rs, rss, fzs, toSl, owns, putOs, putOwn, ownAt, fldD, yes', lc, nos, back, keepV, lcStep, sumD, lenD, tupD, lstD, two, cov, spD, rgD, eP, rgP, enOf, enOfF, outsG, srtP, srtS, List.getElem?_cons_zero, List.getElem?_cons_succ, List.set_cons_zero, List.set_cons_succ, List.map_cons, List.map_nil, Option.map_some, Option.map_none, List.nodup_nil, if_true, if_false, ite_true, ite_false, reduceIte, decide_eq_true_eq, List.cons_append, List.nil_append, List.append_nil, reduceCtorEq, List.length_cons, List.length_nil, Nat.reduceAdd, Nat.reduceLeDiff, Nat.reduceSub, List.replicate, Bool.not_true, Bool.not_false]
  refine ⟨l, m, rfl, sm, fun r hp hr => ?_⟩
  have g := corn_ok (hp.grid nl nm)
  have cl := corn_len (pay l) (pay m) r 0
  simp only [intsD, ret, retF, retN, seq, nxt, set, setO, par, parOO, ifs, drp, tst, bin, un, cal, calF, call', callF, mth, own2, prp, mk, tup, lst, lstF, frz, aN, aC, cV, cC, tand, tor, tnot, vand, vor, vnot, ite', chn, isi, asg, gn, g0, gc, gt, gl, itm, rng1, rng2, zpI, for', slc, pNo, pSo, rev, app, sti, popL, popA, addI, subI, mulI, powI, divI, modI, ltI, leI, gtI, geI, negI, iop, iopC, maxI, minI, i2, absI, ok, rs, rss, fzs, toSl, owns, putOs, putOwn, ownAt, fldD, yes', lc, nos, back, keepV, lcStep, sumD, lenD, tupD, lstD, two, cov, spD, rgD, eP, rgP, enOf, enOfF, outsG, srtP, srtS, List.getElem?_cons_zero, List.getElem?_cons_succ, List.set_cons_zero, List.set_cons_succ, List.map_cons, List.map_nil, Option.map_some, Option.map_none, List.nodup_nil, if_true, if_false, ite_true, ite_false, reduceIte, decide_eq_true_eq, List.cons_append, List.nil_append, List.append_nil, reduceCtorEq, List.length_cons, List.length_nil, Nat.reduceAdd, Nat.reduceLeDiff, Nat.reduceSub, List.replicate, Bool.not_true, Bool.not_false]
  have es : slD (D.lst (D.int 0 :: List.map D.int (corn (pay l) (pay m) 0 r))) (some 1) none = some (.lst ((corn (pay l) (pay m) 0 r).map D.int)) := by
    show some (D.lst (cutG (D.int 0 :: (corn (pay l) (pay m) 0 r).map D.int) (some 1) none)) = _
    rw [cutG_tail]
  rw [es]
  show forGo _ _ _ (zipD (List.map D.int (0 :: corn (pay l) (pay m) 0 r)) (List.map D.int (corn (pay l) (pay m) 0 r))) _
  rw [zipD_ints]
  generalize hc : corn (pay l) (pay m) 0 r = c at *
  refine forGo_inv (enc := eP) (R := fun i ρ => ∃ (acc : List (Int × Int)) (a b : Sl), acc = (((0 :: c).zip c).take i).foldl (stepS (fun x => max (pay l x) (pay m x))) [] ∧ acc.length ≤ i ∧ ρ = [.val (.tup (l.map eP)), .val (.tup (m.map eP)), .val (.lst ((0 :: c).map D.int)), .val (.lst (acc.map eP)), a, b]) _ 0 _ ⟨[], _, _, rfl, by simp, rfl⟩ (fun j p ρ hj ⟨acc, a, b, ea, el, er⟩ nx hnx => ?_) (fun ρ ⟨acc, a, b, ea, el, er⟩ => ?_)
  · subst er
    have hjl : j < ((0 :: c).zip c).length := (List.getElem?_eq_some_iff.mp hj).1
    have hj64 : j < 128 := by
      rw [List.length_zip, List.length_cons] at hjl
      omega
    have et : ((0 :: c).zip c).take (0 + j + 1) = ((0 :: c).zip c).take (0 + j) ++ [p] := by
      rw [List.take_add_one, Nat.zero_add, hj]; rfl
    simp only [ret, retF, retN, seq, nxt, set, setO, par, parOO, ifs, drp, tst, bin, un, cal, calF, call', callF, mth, own2, prp, mk, tup, lst, lstF, frz, aN, aC, cV, cC, tand, tor, tnot, vand, vor, vnot, ite', chn, isi, asg, gn, g0, gc, gt, gl, itm, rng1, rng2, zpI, for', slc, pNo, pSo, rev, app, sti, popL, popA, addI, subI, mulI, powI, divI, modI, ltI, leI, gtI, geI, negI, iop, iopC, maxI, minI, i2, absI, ok, rs, rss, fzs, toSl, owns, putOs, putOwn, ownAt, fldD, yes', lc, nos, back, keepV, lcStep, sumD, lenD, tupD, lstD, two, cov, spD, rgD, eP, rgP, enOf, enOfF, outsG, srtP, srtS, List.getElem?_cons_zero, List.getElem?_cons_succ, List.set_cons_zero, List.set_cons_succ, List.map_cons, List.map_nil, Option.map_some, Option.map_none, List.nodup_nil, if_true, if_false, ite_true, ite_false, reduceIte, decide_eq_true_eq, List.cons_append, List.nil_append, List.append_nil, reduceCtorEq, List.length_cons, List.length_nil, Nat.reduceAdd, Nat.reduceLeDiff, Nat.reduceSub, List.replicate, Bool.not_true, Bool.not_false]
    refine ⟨l, p.2, rfl, by omega, ?_⟩
    simp only [ret, retF, retN, seq, nxt, set, setO, par, parOO, ifs, drp, tst, bin, un, cal, calF, call', callF, mth, own2, prp, mk, tup, lst, lstF, frz, aN, aC, cV, cC, tand, tor, tnot, vand, vor, vnot, ite', chn, isi, asg, gn, g0, gc, gt, gl, itm, rng1, rng2, zpI, for', slc, pNo, pSo, rev, app, sti, popL, popA, addI, subI, mulI, powI, divI, modI, ltI, leI, gtI, geI, negI, iop, iopC, maxI, minI, i2, absI, ok, rs, rss, fzs, toSl, owns, putOs, putOwn, ownAt, fldD, yes', lc, nos, back, keepV, lcStep, sumD, lenD, tupD, lstD, two, cov, spD, rgD, eP, rgP, enOf, enOfF, outsG, srtP, srtS, List.getElem?_cons_zero, List.getElem?_cons_succ, List.set_cons_zero, List.set_cons_succ, List.map_cons, List.map_nil, Option.map_some, Option.map_none, List.nodup_nil, if_true, if_false, ite_true, ite_false, reduceIte, decide_eq_true_eq, List.cons_append, List.nil_append, List.append_nil, reduceCtorEq, List.length_cons, List.length_nil, Nat.reduceAdd, Nat.reduceLeDiff, Nat.reduceSub, List.replicate, Bool.not_true, Bool.not_false]
    refine ⟨m, p.2, rfl, by omega, ?_⟩
    simp only [ret, retF, retN, seq, nxt, set, setO, par, parOO, ifs, drp, tst, bin, un, cal, calF, call', callF, mth, own2, prp, mk, tup, lst, lstF, frz, aN, aC, cV, cC, tand, tor, tnot, vand, vor, vnot, ite', chn, isi, asg, gn, g0, gc, gt, gl, itm, rng1, rng2, zpI, for', slc, pNo, pSo, rev, app, sti, popL, popA, addI, subI, mulI, powI, divI, modI, ltI, leI, gtI, geI, negI, iop, iopC, maxI, minI, i2, absI, ok, rs, rss, fzs, toSl, owns, putOs, putOwn, ownAt, fldD, yes', lc, nos, back, keepV, lcStep, sumD, lenD, tupD, lstD, two, cov, spD, rgD, eP, rgP, enOf, enOfF, outsG, srtP, srtS, List.getElem?_cons_zero, List.getElem?_cons_succ, List.set_cons_zero, List.set_cons_succ, List.map_cons, List.map_nil, Option.map_some, Option.map_none, List.nodup_nil, if_true, if_false, ite_true, ite_false, reduceIte, decide_eq_true_eq, List.cons_append, List.nil_append, List.append_nil, reduceCtorEq, List.length_cons, List.length_nil, Nat.reduceAdd, Nat.reduceLeDiff, Nat.reduceSub, List.replicate, Bool.not_true, Bool.not_false]
    refine ⟨l, p.1, rfl, by omega, ?_⟩
    simp only [ret, retF, retN, seq, nxt, set, setO, par, parOO, ifs, drp, tst, bin, un, cal, calF, call', callF, mth, own2, prp, mk, tup, lst, lstF, frz, aN, aC, cV, cC, tand, tor, tnot, vand, vor, vnot, ite', chn, isi, asg, gn, g0, gc, gt, gl, itm, rng1, rng2, zpI, for', slc, pNo, pSo, rev, app, sti, popL, popA, addI, subI, mulI, powI, divI, modI, ltI, leI, gtI, geI, negI, iop, iopC, maxI, minI, i2, absI, ok, rs, rss, fzs, toSl, owns, putOs, putOwn, ownAt, fldD, yes', lc, nos, back, keepV, lcStep, sumD, lenD, tupD, lstD, two, cov, spD, rgD, eP, rgP, enOf, enOfF, outsG, srtP, srtS, List.getElem?_cons_zero, List.getElem?_cons_succ, List.set_cons_zero, List.set_cons_succ, List.map_cons, List.map_nil, Option.map_some, Option.map_none, List.nodup_nil, if_true, if_false, ite_true, ite_false, reduceIte, decide_eq_true_eq, List.cons_append, List.nil_append, List.append_nil, reduceCtorEq, List.length_cons, List.length_nil, Nat.reduceAdd, Nat.reduceLeDiff, Nat.reduceSub, List.replicate, Bool.not_true, Bool.not_false]
    refine ⟨m, p.1, rfl, by omega, ?_⟩
    simp only [ret, retF, retN, seq, nxt, set, setO, par, parOO, ifs, drp, tst, bin, un, cal, calF, call', callF, mth, own2, prp, mk, tup, lst, lstF, frz, aN, aC, cV, cC, tand, tor, tnot, vand, vor, vnot, ite', chn, isi, asg, gn, g0, gc, gt, gl, itm, rng1, rng2, zpI, for', slc, pNo, pSo, rev, app, sti, popL, popA, addI, subI, mulI, powI, divI, modI, ltI, leI, gtI, geI, negI, iop, iopC, maxI, minI, i2, absI, ok, rs, rss, fzs, toSl, owns, putOs, putOwn, ownAt, fldD, yes', lc, nos, back, keepV, lcStep, sumD, lenD, tupD, lstD, two, cov, spD, rgD, eP, rgP, enOf, enOfF, outsG, srtP, srtS, List.getElem?_cons_zero, List.getElem?_cons_succ, List.set_cons_zero, List.set_cons_succ, List.map_cons, List.map_nil, Option.map_some, Option.map_none, List.nodup_nil, if_true, if_false, ite_true, ite_false, reduceIte, decide_eq_true_eq, List.cons_append, List.nil_append, List.append_nil, reduceCtorEq, List.length_cons, List.length_nil, Nat.reduceAdd, Nat.reduceLeDiff, Nat.reduceSub, List.replicate, Bool.not_true, Bool.not_false, i_max]
    by_cases k : max (pay l p.1) (pay m p.1) < max (pay l p.2) (pay m p.2)
    · simp only [k, decide_true, if_true]
      have a1 := add_ll (acc.map eP) [D.tup [.int p.1, .int p.2]] (by rw [sl_line, List.length_map, List.length_singleton]; omega)
      rw [sl_line]
      rw [a1]
      simp only [ret, retF, retN, seq, nxt, set, setO, par, parOO, ifs, drp, tst, bin, un, cal, calF, call', callF, mth, own2, prp, mk, tup, lst, lstF, frz, aN, aC, cV, cC, tand, tor, tnot, vand, vor, vnot, ite', chn, isi, asg, gn, g0, gc, gt, gl, itm, rng1, rng2, zpI, for', slc, pNo, pSo, rev, app, sti, popL, popA, addI, subI, mulI, powI, divI, modI, ltI, leI, gtI, geI, negI, iop, iopC, maxI, minI, i2, absI, ok, rs, rss, fzs, toSl, owns, putOs, putOwn, ownAt, fldD, yes', lc, nos, back, keepV, lcStep, sumD, lenD, tupD, lstD, two, cov, spD, rgD, eP, rgP, enOf, enOfF, outsG, srtP, srtS, List.getElem?_cons_zero, List.getElem?_cons_succ, List.set_cons_zero, List.set_cons_succ, List.map_cons, List.map_nil, Option.map_some, Option.map_none, List.nodup_nil, if_true, if_false, ite_true, ite_false, reduceIte, decide_eq_true_eq, List.cons_append, List.nil_append, List.append_nil, reduceCtorEq, List.length_cons, List.length_nil, Nat.reduceAdd, Nat.reduceLeDiff, Nat.reduceSub, List.replicate, Bool.not_true, Bool.not_false]
      refine hnx _ ⟨acc ++ [p], .val (.int p.1), .val (.int p.2), ?_, ?_, ?_⟩
      · rw [et, List.foldl_append, ← ea]
        show acc ++ [p] = acc ++ (if max (pay l p.2) (pay m p.2) > max (pay l p.1) (pay m p.1) then [p] else [])
        rw [if_pos k]
      · rw [List.length_append, List.length_singleton]; omega
      · simp [eP]
    · simp only [k, decide_false, if_false, Bool.false_eq_true]
      refine hnx _ ⟨acc, .val (.int p.1), .val (.int p.2), ?_, by omega, ?_⟩
      · rw [et, List.foldl_append, ← ea]
        show acc = acc ++ (if max (pay l p.2) (pay m p.2) > max (pay l p.1) (pay m p.1) then [p] else [])
        rw [if_neg k, List.append_nil]
      · simp [eP]
  · subst er
    have ef : acc = segs (fun x => max (pay l x) (pay m x)) 0 c := by
      rw [ea, Nat.zero_add, List.take_length, segs_fold]; rfl
    subst ef
    simp only [ret, retF, retN, seq, nxt, set, setO, par, parOO, ifs, drp, tst, bin, un, cal, calF, call', callF, mth, own2, prp, mk, tup, lst, lstF, frz, aN, aC, cV, cC, tand, tor, tnot, vand, vor, vnot, ite', chn, isi, asg, gn, g0, gc, gt, gl, itm, rng1, rng2, zpI, for', slc, pNo, pSo, rev, app, sti, popL, popA, addI, subI, mulI, powI, divI, modI, ltI, leI, gtI, geI, negI, iop, iopC, maxI, minI, i2, absI, ok, rs, rss, fzs, toSl, owns, putOs, putOwn, ownAt, fldD, yes', lc, nos, back, keepV, lcStep, sumD, lenD, tupD, lstD, two, cov, spD, rgD, eP, rgP, enOf, enOfF, outsG, srtP, srtS, List.getElem?_cons_zero, List.getElem?_cons_succ, List.set_cons_zero, List.set_cons_succ, List.map_cons, List.map_nil, Option.map_some, Option.map_none, List.nodup_nil, if_true, if_false, ite_true, ite_false, reduceIte, decide_eq_true_eq, List.cons_append, List.nil_append, List.append_nil, reduceCtorEq, List.length_cons, List.length_nil, Nat.reduceAdd, Nat.reduceLeDiff, Nat.reduceSub, List.replicate, Bool.not_true, Bool.not_false]
    refine ⟨_, rfl, ?_, fun p hp => (segs_mem g p hp).1, fun s ns cs ls => ?_⟩
    · have z := segs_len (h := fun x => max (pay l x) (pay m x)) (r := c) (lo := 0)
      omega
    · have pe := larger_ok nl nm hp ns (by rw [hc]; exact cs)
      exact h s ⟨ns, pe, max_len nl nm ns pe⟩
theorem d_never_more : ∀ as K, S_never_more as K → b_never_more (enOf as K) (as ++ List.replicate (N_never_more.length - as.length) .no) := by
  rintro as K ⟨l, m, rfl, sm, h⟩
  have sm' := sm
  obtain ⟨⟨nl, ll, bl⟩, ⟨nm, lm, bm⟩, h64⟩ := sm'
  show b_never_more _ [.val (spD l), .val (spD m), .no]
  simp only [b_never_more, ret, retF, retN, seq, nxt, set, setO, par, parOO, ifs, drp, tst, bin, un, cal, calF, call', callF, mth, own2, prp, mk, tup, lst, lstF, frz, aN, aC, cV, cC, tand, tor, tnot, vand, vor, vnot, ite', chn, isi, asg, gn, g0, gc, gt, gl, itm, rng1, rng2, zpI, for', slc, pNo, pSo, rev, app, sti, popL, popA, addI, subI, mulI, powI, divI, modI, ltI, leI, gtI, geI, negI, iop, iopC, maxI, minI, i2, absI, ok, rs, rss, fzs, toSl, owns, putOs, putOwn, ownAt, fldD, yes', lc, nos, back, keepV, lcStep, sumD, lenD, tupD, lstD, two, cov, spD, rgD, eP, rgP, enOf, enOfF, outsG, srtP, srtS, List.getElem?_cons_zero, List.getElem?_cons_succ, List.set_cons_zero, List.set_cons_succ, List.map_cons, List.map_nil, Option.map_some, Option.map_none, List.nodup_nil, if_true, if_false, ite_true, ite_false, reduceIte, decide_eq_true_eq, List.cons_append, List.nil_append, List.append_nil, reduceCtorEq, List.length_cons, List.length_nil, Nat.reduceAdd, Nat.reduceLeDiff, Nat.reduceSub, List.replicate, Bool.not_true, Bool.not_false]
  refine ⟨l, m, rfl, sm, fun r hp hr => ?_⟩
  have cl := corn_len (pay l) (pay m) r 0
  simp only [intsD, ret, retF, retN, seq, nxt, set, setO, par, parOO, ifs, drp, tst, bin, un, cal, calF, call', callF, mth, own2, prp, mk, tup, lst, lstF, frz, aN, aC, cV, cC, tand, tor, tnot, vand, vor, vnot, ite', chn, isi, asg, gn, g0, gc, gt, gl, itm, rng1, rng2, zpI, for', slc, pNo, pSo, rev, app, sti, popL, popA, addI, subI, mulI, powI, divI, modI, ltI, leI, gtI, geI, negI, iop, iopC, maxI, minI, i2, absI, ok, rs, rss, fzs, toSl, owns, putOs, putOwn, ownAt, fldD, yes', lc, nos, back, keepV, lcStep, sumD, lenD, tupD, lstD, two, cov, spD, rgD, eP, rgP, enOf, enOfF, outsG, srtP, srtS, List.getElem?_cons_zero, List.getElem?_cons_succ, List.set_cons_zero, List.set_cons_succ, List.map_cons, List.map_nil, Option.map_some, Option.map_none, List.nodup_nil, if_true, if_false, ite_true, ite_false, reduceIte, decide_eq_true_eq, List.cons_append, List.nil_append, List.append_nil, reduceCtorEq, List.length_cons, List.length_nil, Nat.reduceAdd, Nat.reduceLeDiff, Nat.reduceSub, List.replicate, Bool.not_true, Bool.not_false]
  show lcGo _ _ _ _ _ (List.map D.int (0 :: corn (pay l) (pay m) 0 r)) _ _
  refine lcGo_map (enc := D.int) (val := fun q => .bl (decide (pay l q ≤ pay m q))) _ (fun q hq k hk => ?_) (by rw [sl_line, List.length_cons]; omega) ?_
  · simp only [ret, retF, retN, seq, nxt, set, setO, par, parOO, ifs, drp, tst, bin, un, cal, calF, call', callF, mth, own2, prp, mk, tup, lst, lstF, frz, aN, aC, cV, cC, tand, tor, tnot, vand, vor, vnot, ite', chn, isi, asg, gn, g0, gc, gt, gl, itm, rng1, rng2, zpI, for', slc, pNo, pSo, rev, app, sti, popL, popA, addI, subI, mulI, powI, divI, modI, ltI, leI, gtI, geI, negI, iop, iopC, maxI, minI, i2, absI, ok, rs, rss, fzs, toSl, owns, putOs, putOwn, ownAt, fldD, yes', lc, nos, back, keepV, lcStep, sumD, lenD, tupD, lstD, two, cov, spD, rgD, eP, rgP, enOf, enOfF, outsG, srtP, srtS, List.getElem?_cons_zero, List.getElem?_cons_succ, List.set_cons_zero, List.set_cons_succ, List.map_cons, List.map_nil, Option.map_some, Option.map_none, List.nodup_nil, if_true, if_false, ite_true, ite_false, reduceIte, decide_eq_true_eq, List.cons_append, List.nil_append, List.append_nil, reduceCtorEq, List.length_cons, List.length_nil, Nat.reduceAdd, Nat.reduceLeDiff, Nat.reduceSub, List.replicate, Bool.not_true, Bool.not_false]
    refine ⟨l, q, rfl, by omega, ?_⟩
    simp only [ret, retF, retN, seq, nxt, set, setO, par, parOO, ifs, drp, tst, bin, un, cal, calF, call', callF, mth, own2, prp, mk, tup, lst, lstF, frz, aN, aC, cV, cC, tand, tor, tnot, vand, vor, vnot, ite', chn, isi, asg, gn, g0, gc, gt, gl, itm, rng1, rng2, zpI, for', slc, pNo, pSo, rev, app, sti, popL, popA, addI, subI, mulI, powI, divI, modI, ltI, leI, gtI, geI, negI, iop, iopC, maxI, minI, i2, absI, ok, rs, rss, fzs, toSl, owns, putOs, putOwn, ownAt, fldD, yes', lc, nos, back, keepV, lcStep, sumD, lenD, tupD, lstD, two, cov, spD, rgD, eP, rgP, enOf, enOfF, outsG, srtP, srtS, List.getElem?_cons_zero, List.getElem?_cons_succ, List.set_cons_zero, List.set_cons_succ, List.map_cons, List.map_nil, Option.map_some, Option.map_none, List.nodup_nil, if_true, if_false, ite_true, ite_false, reduceIte, decide_eq_true_eq, List.cons_append, List.nil_append, List.append_nil, reduceCtorEq, List.length_cons, List.length_nil, Nat.reduceAdd, Nat.reduceLeDiff, Nat.reduceSub, List.replicate, Bool.not_true, Bool.not_false]
    refine ⟨m, q, rfl, by omega, ?_⟩
    simp only [ret, retF, retN, seq, nxt, set, setO, par, parOO, ifs, drp, tst, bin, un, cal, calF, call', callF, mth, own2, prp, mk, tup, lst, lstF, frz, aN, aC, cV, cC, tand, tor, tnot, vand, vor, vnot, ite', chn, isi, asg, gn, g0, gc, gt, gl, itm, rng1, rng2, zpI, for', slc, pNo, pSo, rev, app, sti, popL, popA, addI, subI, mulI, powI, divI, modI, ltI, leI, gtI, geI, negI, iop, iopC, maxI, minI, i2, absI, ok, rs, rss, fzs, toSl, owns, putOs, putOwn, ownAt, fldD, yes', lc, nos, back, keepV, lcStep, sumD, lenD, tupD, lstD, two, cov, spD, rgD, eP, rgP, enOf, enOfF, outsG, srtP, srtS, List.getElem?_cons_zero, List.getElem?_cons_succ, List.set_cons_zero, List.set_cons_succ, List.map_cons, List.map_nil, Option.map_some, Option.map_none, List.nodup_nil, if_true, if_false, ite_true, ite_false, reduceIte, decide_eq_true_eq, List.cons_append, List.nil_append, List.append_nil, reduceCtorEq, List.length_cons, List.length_nil, Nat.reduceAdd, Nat.reduceLeDiff, Nat.reduceSub, List.replicate, Bool.not_true, Bool.not_false]
    exact hk
  · have e : (List.map (fun q => D.bl (decide (pay l q ≤ pay m q))) (0 :: corn (pay l) (pay m) 0 r)) = ((0 :: corn (pay l) (pay m) 0 r).map fun q => decide (pay l q ≤ pay m q)).map D.bl := by
      rw [List.map_map]; rfl
    show ok (allD [.lst (List.map (fun q => D.bl (decide (pay l q ≤ pay m q))) (0 :: corn (pay l) (pay m) 0 r))]) _
    rw [e]
    show ok ((toBls (((0 :: corn (pay l) (pay m) 0 r).map fun q => decide (pay l q ≤ pay m q)).map D.bl)).map fun ns => D.bl (ns.all id)) _
    rw [toBls_map]
    refine h _ ?_
    rw [List.all_map, List.all_eq_true]
    have z := never_ok nl nm hp
    unfold Lo
    rw [← z]
    exact ⟨fun w q hq => of_decide_eq_true (w q hq), fun w q hq => decide_eq_true (w q hq)⟩
theorem d_Cover_or : ∀ as K, S_CoverX_orX as K → b_CoverX_orX (enOf as K) (as ++ List.replicate (N_CoverX_orX.length - as.length) .no) := by
  rintro as K ⟨l, m, rfl, sm, h⟩
  show b_CoverX_orX _ [.val (cov l), .val (cov m)]
  simp only [b_CoverX_orX, ret, retF, retN, seq, nxt, set, setO, par, parOO, ifs, drp, tst, bin, un, cal, calF, call', callF, mth, own2, prp, mk, tup, lst, lstF, frz, aN, aC, cV, cC, tand, tor, tnot, vand, vor, vnot, ite', chn, isi, asg, gn, g0, gc, gt, gl, itm, rng1, rng2, zpI, for', slc, pNo, pSo, rev, app, sti, popL, popA, addI, subI, mulI, powI, divI, modI, ltI, leI, gtI, geI, negI, iop, iopC, maxI, minI, i2, absI, ok, rs, rss, fzs, toSl, owns, putOs, putOwn, ownAt, fldD, yes', lc, nos, back, keepV, lcStep, sumD, lenD, tupD, lstD, two, cov, spD, rgD, eP, rgP, enOf, enOfF, outsG, srtP, srtS, List.getElem?_cons_zero, List.getElem?_cons_succ, List.set_cons_zero, List.set_cons_succ, List.map_cons, List.map_nil, Option.map_some, Option.map_none, List.nodup_nil, if_true, if_false, ite_true, ite_false, reduceIte, decide_eq_true_eq, List.cons_append, List.nil_append, List.append_nil, reduceCtorEq, List.length_cons, List.length_nil, Nat.reduceAdd, Nat.reduceLeDiff, Nat.reduceSub, List.replicate, Bool.not_true, Bool.not_false]
  refine ⟨l, m, rfl, sm, fun r hr => ?_⟩
  simp only [ret, retF, retN, seq, nxt, set, setO, par, parOO, ifs, drp, tst, bin, un, cal, calF, call', callF, mth, own2, prp, mk, tup, lst, lstF, frz, aN, aC, cV, cC, tand, tor, tnot, vand, vor, vnot, ite', chn, isi, asg, gn, g0, gc, gt, gl, itm, rng1, rng2, zpI, for', slc, pNo, pSo, rev, app, sti, popL, popA, addI, subI, mulI, powI, divI, modI, ltI, leI, gtI, geI, negI, iop, iopC, maxI, minI, i2, absI, ok, rs, rss, fzs, toSl, owns, putOs, putOwn, ownAt, fldD, yes', lc, nos, back, keepV, lcStep, sumD, lenD, tupD, lstD, two, cov, spD, rgD, eP, rgP, enOf, enOfF, outsG, srtP, srtS, List.getElem?_cons_zero, List.getElem?_cons_succ, List.set_cons_zero, List.set_cons_succ, List.map_cons, List.map_nil, Option.map_some, Option.map_none, List.nodup_nil, if_true, if_false, ite_true, ite_false, reduceIte, decide_eq_true_eq, List.cons_append, List.nil_append, List.append_nil, reduceCtorEq, List.length_cons, List.length_nil, Nat.reduceAdd, Nat.reduceLeDiff, Nat.reduceSub, List.replicate, Bool.not_true, Bool.not_false]
  refine shape_init _ _ ?_
  exact cover_init_shape r _ (h r hr)
theorem d_Cover_at_most : ∀ as K, S_Cover_at_most as K → b_Cover_at_most (enOf as K) (as ++ List.replicate (N_Cover_at_most.length - as.length) .no) := by
  rintro as K ⟨l, m, rfl, sm, h⟩
  show b_Cover_at_most _ [.val (cov l), .val (cov m)]
  simp only [b_Cover_at_most, ret, retF, retN, seq, nxt, set, setO, par, parOO, ifs, drp, tst, bin, un, cal, calF, call', callF, mth, own2, prp, mk, tup, lst, lstF, frz, aN, aC, cV, cC, tand, tor, tnot, vand, vor, vnot, ite', chn, isi, asg, gn, g0, gc, gt, gl, itm, rng1, rng2, zpI, for', slc, pNo, pSo, rev, app, sti, popL, popA, addI, subI, mulI, powI, divI, modI, ltI, leI, gtI, geI, negI, iop, iopC, maxI, minI, i2, absI, ok, rs, rss, fzs, toSl, owns, putOs, putOwn, ownAt, fldD, yes', lc, nos, back, keepV, lcStep, sumD, lenD, tupD, lstD, two, cov, spD, rgD, eP, rgP, enOf, enOfF, outsG, srtP, srtS, List.getElem?_cons_zero, List.getElem?_cons_succ, List.set_cons_zero, List.set_cons_succ, List.map_cons, List.map_nil, Option.map_some, Option.map_none, List.nodup_nil, if_true, if_false, ite_true, ite_false, reduceIte, decide_eq_true_eq, List.cons_append, List.nil_append, List.append_nil, reduceCtorEq, List.length_cons, List.length_nil, Nat.reduceAdd, Nat.reduceLeDiff, Nat.reduceSub, List.replicate, Bool.not_true, Bool.not_false]
  exact ⟨l, m, rfl, sm, h⟩
end DL
set_option Elab.async false
set_option linter.all false
set_option maxRecDepth 100000
set_option maxHeartbeats 1000000
namespace DL
open PySem PySem.Spec PyProof.Rows L2 CV
theorem chn_bd {l m r : List (Int × Int)} {M N : Int} (nl : Norm l) (nm : Norm m) (h : Chn l m r) (h0 : 0 ≤ M) (hN : 0 ≤ N) (bl : Bd M l) (bm : Bd N m) : Bd (M + N) r := by
  obtain ⟨nr, pr, lr⟩ := h
  refine (bd_pay nr).mpr fun x hx => ?_
  rw [pr, pr]
  have e1 := (bd_pay nl).mp bl x (by omega)
  have e2 := (bd_pay nl).mp bl (M + N) (by omega)
  have e3 := pay_le_last nl bl h0 M
  rw [e1, e2]
  rw [(bd_pay nm).mp bm (x - pay l M) (by omega), (bd_pay nm).mp bm (M + N - pay l M) (by omega)]
theorem mx_bd {l m r : List (Int × Int)} {M : Int} (nl : Norm l) (nm : Norm m) (nr : Norm r) (h : ∀ x, pay r x = max (pay l x) (pay m x)) (bl : Bd M l) (bm : Bd M m) : Bd M r := by
  refine (bd_pay nr).mpr fun x hx => ?_
  rw [h, h, (bd_pay nl).mp bl x hx, (bd_pay nm).mp bm x hx]
theorem polS_norm {p : Int × Int} (h : okPol p) : Norm (polS p) := ⟨by have := h.1; show (-1 : Int) < p.1; omega, by have := h.2.2.1; show p.1 < p.1 + p.2; omega, True.intro⟩
theorem polS_bd {p : Int × Int} (h : okPol p) : Bd 2000000 (polS p) := fun q hq => by
  have : q = (p.1, p.1 + p.2) := by simpa [polS] using hq
  rw [this]
  obtain ⟨h1, h2, h3, h4⟩ := h
  show p.1 + p.2 ≤ 2000000
  omega
theorem restP_snoc (ps : List (Int × Int)) (p : Int × Int) (x : Int) : restP (ps ++ [p]) x = restP ps x - pay (polS p) (restP ps x) := by
  unfold restP
  rw [List.foldl_append]
  rfl
theorem restP_app (ps qs : List (Int × Int)) (x : Int) : restP (ps ++ qs) x = restP qs (restP ps x) := by
  unfold restP
  rw [List.foldl_append]
/-- the cover of a chain of policies -/
structure OfP (ps s : List (Int × Int)) : Prop where
  n : Norm s
  p : ∀ x, pay s x = x - restP ps x
  l : s.length ≤ ps.length
  b : Bd (2000000 * ps.length) s
theorem ofP_nil : OfP [] [] := ⟨True.intro, fun x => by rw [pay_nil]; show 0 = x - x; omega, Nat.le_refl _, fun _ h => by simp at h⟩
theorem OfP.few {ps s : List (Int × Int)} (h : OfP ps s) (hl : ps.length ≤ 200) : Few s := ⟨h.n, Nat.le_trans h.l hl, fun p hp => by have := h.b p hp; omega⟩
theorem polS_few {p : Int × Int} (h : okPol p) : Few (polS p) := ⟨polS_norm h, by show (1 : Nat) ≤ 200; decide, fun q hq => by have := polS_bd h q hq; omega⟩
theorem OfP.snoc {ps s r m : List (Int × Int)} {p : Int × Int} (h : OfP ps s) (hp : okPol p) (nm : Norm m) (hm : ∀ x, pay m x = pay (polS p) x) (lm : m.length ≤ 1) (c : Chn s m r) : OfP (ps ++ [p]) r := by
  have em : m = polS p := pay_uniq nm (polS_norm hp) hm
  subst em
  refine ⟨c.1, fun x => ?_, ?_, ?_⟩
  · rw [c.2.1, restP_snoc, h.p]
    have : x - (x - restP ps x) = restP ps x := by omega
    rw [this]
    omega
  · have := c.2.2
    have := h.l
    rw [List.length_append, List.length_singleton]
    omega
  · have z := chn_bd h.n (polS_norm hp) c (by omega) (by decide) h.b (polS_bd hp)
    intro q hq
    have := z q hq
    rw [List.length_append, List.length_singleton]
    omega
theorem is_shape_pair (p : Int × Int) : is_Shape (eP p) = some false := rfl
theorem okPol_all (ps : List (Int × Int)) (h : ∀ p ∈ ps, okPol p) : (ps.map fun p => decide (okPol p)).all id = true := by
  rw [List.all_map, List.all_eq_true]
  exact fun p hp => decide_eq_true (h p hp)
theorem init_tail (x : Addr) (ps : List (Int × Int)) (K : D → Prop) (hl : ps.length ≤ 8) (hp : ∀ p ∈ ps, okPol p) (h : ∀ r, Norm r → (∀ x, pay r x = x - restP ps x) → r.length ≤ ps.length → K (spD r)) :
    (seq (ifs (tnot (tst (cal allD (aC (frz (lc (itm (cV 1)) (gn 3) (yes') (call' S_is_policy (aC (cV 3) (aN))) [3])) (aN))))) ((fun _ _ => False)) (nxt)) (seq (ifs (tst (bin gtI (cal lenD (aC (cV 1) (aN))) (cC (.int 8)))) ((fun _ _ => False)) (nxt)) (for' (itm (cV 1)) (gt 2 (gc (gn 4) (gc (gn 5) (g0)))) (set 2 (call' S_chained (aC (cV 2) (aC (tup (aC (tup (aC (cV 4) (aC (bin addD (cV 4) (cV 5)) (aN)))) (aN))) (aN)))))))) { nx := fin' x b_CoverX_initX K, rt := fun _ _ => False } [.raw x, .val (.tup (ps.map eP)), .val (.tup []), .no, .no, .no] := by
  simp only [ret, retF, retN, seq, nxt, set, setO, par, parOO, ifs, drp, tst, bin, un, cal, calF, call', callF, mth, own2, prp, mk, tup, lst, lstF, frz, aN, aC, cV, cC, tand, tor, tnot, vand, vor, vnot, ite', chn, isi, asg, gn, g0, gc, gt, gl, itm, rng1, rng2, zpI, for', slc, pNo, pSo, rev, app, sti, popL, popA, addI, subI, mulI, powI, divI, modI, ltI, leI, gtI, geI, negI, iop, iopC, maxI, minI, i2, absI, ok, rs, rss, fzs, toSl, owns, putOs, putOwn, ownAt, fldD, yes', lc, nos, back, keepV, lcStep, sumD, lenD, tupD, lstD, two, cov, spD, rgD, eP, rgP, enOf, enOfF, outsG, srtP, srtS, List.getElem?_cons_zero, List.getElem?_cons_succ, List.set_cons_zero, List.set_cons_succ, List.map_cons, List.map_nil, Option.map_some, Option.map_none, List.nodup_nil, if_true, if_false, ite_true, ite_false, reduceIte, decide_eq_true_eq, List.cons_append, List.nil_append, List.append_nil, reduceCtorEq, List.length_cons, List.length_nil, Nat.reduceAdd, Nat.reduceLeDiff, Nat.reduceSub, List.replicate, Bool.not_true, Bool.not_false]
  refine lcGo_map (enc := eP) (val := fun p => .bl (decide (okPol p))) ps (fun p hp k hk => ?_) (by rw [sl_line]; omega) ?_
  · simp only [ret, retF, retN, seq, nxt, set, setO, par, parOO, ifs, drp, tst, bin, un, cal, calF, call', callF, mth, own2, prp, mk, tup, lst, lstF, frz, aN, aC, cV, cC, tand, tor, tnot, vand, vor, vnot, ite', chn, isi, asg, gn, g0, gc, gt, gl, itm, rng1, rng2, zpI, for', slc, pNo, pSo, rev, app, sti, popL, popA, addI, subI, mulI, powI, divI, modI, ltI, leI, gtI, geI, negI, iop, iopC, maxI, minI, i2, absI, ok, rs, rss, fzs, toSl, owns, putOs, putOwn, ownAt, fldD, yes', lc, nos, back, keepV, lcStep, sumD, lenD, tupD, lstD, two, cov, spD, rgD, eP, rgP, enOf, enOfF, outsG, srtP, srtS, List.getElem?_cons_zero, List.getElem?_cons_succ, List.set_cons_zero, List.set_cons_succ, List.map_cons, List.map_nil, Option.map_some, Option.map_none, List.nodup_nil, if_true, if_false, ite_true, ite_false, reduceIte, decide_eq_true_eq, List.cons_append, List.nil_append, List.append_nil, reduceCtorEq, List.length_cons, List.length_nil, Nat.reduceAdd, Nat.reduceLeDiff, Nat.reduceSub, List.replicate, Bool.not_true, Bool.not_false]
    exact ⟨p, rfl, hk⟩
  · have e : (List.map (fun p => D.bl (decide (okPol p))) ps) = (ps.map fun p => decide (okPol p)).map D.bl := by
      rw [List.map_map]; rfl
    have ea : allD [.lst (List.map (fun p => D.bl (decide (okPol p))) ps)] = some (.bl true) := by
      rw [e]
      show ((toBls ((ps.map fun p => decide (okPol p)).map D.bl)).map fun ns => D.bl (ns.all id)) = _
      rw [toBls_map]
      show some (D.bl ((ps.map fun p => decide (okPol p)).all id)) = _
      rw [okPol_all ps hp]
    simp only [ret, retF, retN, seq, nxt, set, setO, par, parOO, ifs, drp, tst, bin, un, cal, calF, call', callF, mth, own2, prp, mk, tup, lst, lstF, frz, aN, aC, cV, cC, tand, tor, tnot, vand, vor, vnot, ite', chn, isi, asg, gn, g0, gc, gt, gl, itm, rng1, rng2, zpI, for', slc, pNo, pSo, rev, app, sti, popL, popA, addI, subI, mulI, powI, divI, modI, ltI, leI, gtI, geI, negI, iop, iopC, maxI, minI, i2, absI, ok, rs, rss, fzs, toSl, owns, putOs, putOwn, ownAt, fldD, yes', lc, nos, back, keepV, lcStep, sumD, lenD, tupD, lstD, two, cov, spD, rgD, eP, rgP, enOf, enOfF, outsG, srtP, srtS, List.getElem?_cons_zero, List.getElem?_cons_succ, List.set_cons_zero, List.set_cons_succ, List.map_cons, List.map_nil, Option.map_some, Option.map_none, List.nodup_nil, if_true, if_false, ite_true, ite_false, reduceIte, decide_eq_true_eq, List.cons_append, List.nil_append, List.append_nil, reduceCtorEq, List.length_cons, List.length_nil, Nat.reduceAdd, Nat.reduceLeDiff, Nat.reduceSub, List.replicate, Bool.not_true, Bool.not_false, ea]
    simp only [List.length_map]
    rw [if_neg (show ¬ (8 : Int) < (ps.length : Nat) by omega)]
    refine forGo_inv (enc := eP) (R := fun i ρ => ∃ (s : List (Int × Int)) (a b c : Sl), OfP (ps.take i) s ∧ ρ = [.raw x, .val (.tup (ps.map eP)), .val (spD s), a, b, c]) ps 0 _ ⟨[], _, _, _, ofP_nil, rfl⟩ (fun j p ρ hj ⟨s, a, b, c, os, e⟩ nx hnx => ?_) (fun ρ ⟨s, a, b, c, os, e⟩ => ?_)
    · subst e
      have hjl : j < ps.length := (List.getElem?_eq_some_iff.mp hj).1
      have et : ps.take (0 + j + 1) = ps.take (0 + j) ++ [p] := by
        rw [List.take_add_one, Nat.zero_add, hj]; rfl
      have hpp := hp p (List.mem_of_getElem? hj)
      simp only [ret, retF, retN, seq, nxt, set, setO, par, parOO, ifs, drp, tst, bin, un, cal, calF, call', callF, mth, own2, prp, mk, tup, lst, lstF, frz, aN, aC, cV, cC, tand, tor, tnot, vand, vor, vnot, ite', chn, isi, asg, gn, g0, gc, gt, gl, itm, rng1, rng2, zpI, for', slc, pNo, pSo, rev, app, sti, popL, popA, addI, subI, mulI, powI, divI, modI, ltI, leI, gtI, geI, negI, iop, iopC, maxI, minI, i2, absI, ok, rs, rss, fzs, toSl, owns, putOs, putOwn, ownAt, fldD, yes', lc, nos, back, keepV, lcStep, sumD, lenD, tupD, lstD, two, cov, spD, rgD, eP, rgP, enOf, enOfF, outsG, srtP, srtS, List.getElem?_cons_zero, List.getElem?_cons_succ, List.set_cons_zero, List.set_cons_succ, List.map_cons, List.map_nil, Option.map_some, Option.map_none, List.nodup_nil, if_true, if_false, ite_true, ite_false, reduceIte, decide_eq_true_eq, List.cons_append, List.nil_append, List.append_nil, reduceCtorEq, List.length_cons, List.length_nil, Nat.reduceAdd, Nat.reduceLeDiff, Nat.reduceSub, List.replicate, Bool.not_true, Bool.not_false, add_ii]
      rw [sl_line]
      refine ⟨s, polS p, rfl, os.few (by rw [List.length_take]; omega), polS_few hpp, fun r hr => ?_⟩
      simp only [ret, retF, retN, seq, nxt, set, setO, par, parOO, ifs, drp, tst, bin, un, cal, calF, call', callF, mth, own2, prp, mk, tup, lst, lstF, frz, aN, aC, cV, cC, tand, tor, tnot, vand, vor, vnot, ite', chn, isi, asg, gn, g0, gc, gt, gl, itm, rng1, rng2, zpI, for', slc, pNo, pSo, rev, app, sti, popL, popA, addI, subI, mulI, powI, divI, modI, ltI, leI, gtI, geI, negI, iop, iopC, maxI, minI, i2, absI, ok, rs, rss, fzs, toSl, owns, putOs, putOwn, ownAt, fldD, yes', lc, nos, back, keepV, lcStep, sumD, lenD, tupD, lstD, two, cov, spD, rgD, eP, rgP, enOf, enOfF, outsG, srtP, srtS, List.getElem?_cons_zero, List.getElem?_cons_succ, List.set_cons_zero, List.set_cons_succ, List.map_cons, List.map_nil, Option.map_some, Option.map_none, List.nodup_nil, if_true, if_false, ite_true, ite_false, reduceIte, decide_eq_true_eq, List.cons_append, List.nil_append, List.append_nil, reduceCtorEq, List.length_cons, List.length_nil, Nat.reduceAdd, Nat.reduceLeDiff, Nat.reduceSub, List.replicate, Bool.not_true, Bool.not_false]
      exact hnx _ ⟨r, a, .val (.int p.1), .val (.int p.2), by rw [et]; exact os.snoc hpp (polS_norm hpp) (fun _ => rfl) (Nat.le_refl _) hr, rfl⟩
    · subst e
      rw [Nat.zero_add, List.take_length] at os
      exact ⟨_, rfl, rfl, h s os.n os.p os.l⟩
theorem d_Cover_init : ∀ x ds (K : D → Prop), S_CoverX_initX ds K → ds.length ≤ PySem.sizeLine ∧ b1_CoverX_initX { nx := b2_CoverX_initX { nx := fin' x b_CoverX_initX K, rt := fun _ _ => False }, rt := fun _ _ => False } ([.raw x, .val (.tup ds)] ++ List.replicate (N_CoverX_initX.length - 2) .no) := by
  intro x ds K h
  rcases h with ⟨l, rfl, h⟩ | ⟨ps, rfl, hl, hp, h⟩
  · refine ⟨by rw [sl_line]; show (1 : Nat) ≤ 16777216; decide, ?_⟩
    show b1_CoverX_initX _ [.raw x, .val (.tup [.ob 1 (spD l)]), .no, .no, .no, .no]
    have e1 : eqD (.int ((1 : Nat) : Int)) (.int 1) = some (.bl (decide (((1 : Nat) : Int) = 1))) := (eq_int ((1 : Nat) : Int) 1).1
    have e2 : is_Shape (.ob 1 (.tup (l.map eP))) = some true := rfl
    have e0 : ixD (.tup [.ob 1 (.tup (l.map eP))]) (.int 0) = some (.ob 1 (.tup (l.map eP))) := atI_0 _ _
    have ed : decide (((1 : Nat) : Int) = 1) = true := rfl
    rw [ed] at e1
    simp only [b1_CoverX_initX, b2_CoverX_initX, ret, retF, retN, seq, nxt, set, setO, par, parOO, ifs, drp, tst, bin, un, cal, calF, call', callF, mth, own2, prp, mk, tup, lst, lstF, frz, aN, aC, cV, cC, tand, tor, tnot, vand, vor, vnot, ite', chn, isi, asg, gn, g0, gc, gt, gl, itm, rng1, rng2, zpI, for', slc, pNo, pSo, rev, app, sti, popL, popA, addI, subI, mulI, powI, divI, modI, ltI, leI, gtI, geI, negI, iop, iopC, maxI, minI, i2, absI, ok, rs, rss, fzs, toSl, owns, putOs, putOwn, ownAt, fldD, yes', lc, nos, back, keepV, lcStep, sumD, lenD, tupD, lstD, two, cov, spD, rgD, eP, rgP, enOf, enOfF, outsG, srtP, srtS, List.getElem?_cons_zero, List.getElem?_cons_succ, List.set_cons_zero, List.set_cons_succ, List.map_cons, List.map_nil, Option.map_some, Option.map_none, List.nodup_nil, if_true, if_false, ite_true, ite_false, reduceIte, decide_eq_true_eq, List.cons_append, List.nil_append, List.append_nil, reduceCtorEq, List.length_cons, List.length_nil, Nat.reduceAdd, Nat.reduceLeDiff, Nat.reduceSub, List.replicate, Bool.not_true, Bool.not_false, Nat.reduceAdd, Nat.zero_add]
    rw [if_pos (Nat.zero_le _), e1]
    simp only [e0, e2, ret, retF, retN, seq, nxt, set, setO, par, parOO, ifs, drp, tst, bin, un, cal, calF, call', callF, mth, own2, prp, mk, tup, lst, lstF, frz, aN, aC, cV, cC, tand, tor, tnot, vand, vor, vnot, ite', chn, isi, asg, gn, g0, gc, gt, gl, itm, rng1, rng2, zpI, for', slc, pNo, pSo, rev, app, sti, popL, popA, addI, subI, mulI, powI, divI, modI, ltI, leI, gtI, geI, negI, iop, iopC, maxI, minI, i2, absI, ok, rs, rss, fzs, toSl, owns, putOs, putOwn, ownAt, fldD, yes', lc, nos, back, keepV, lcStep, sumD, lenD, tupD, lstD, two, cov, spD, rgD, eP, rgP, enOf, enOfF, outsG, srtP, srtS, List.getElem?_cons_zero, List.getElem?_cons_succ, List.set_cons_zero, List.set_cons_succ, List.map_cons, List.map_nil, Option.map_some, Option.map_none, List.nodup_nil, if_true, if_false, ite_true, ite_false, reduceIte, decide_eq_true_eq, List.cons_append, List.nil_append, List.append_nil, reduceCtorEq, List.length_cons, List.length_nil, Nat.reduceAdd, Nat.reduceLeDiff, Nat.reduceSub, List.replicate, Bool.not_true, Bool.not_false]
    exact ⟨_, rfl, rfl, h⟩
  · refine ⟨by rw [sl_line, List.length_map]; omega, ?_⟩
    show b1_CoverX_initX _ [.raw x, .val (.tup (ps.map eP)), .no, .no, .no, .no]
    have t := init_tail x ps K hl hp h
    have e1 := (eq_int (ps.length : Int) 1).1
    have key : ∀ Q : Bool → Rho → Prop, Q false [.raw x, .val (.tup (ps.map eP)), .val (.tup []), .no, .no, .no] → (tand (tst (bin eqD (cal lenD (aC (cV 1) (aN))) (cC (.int 1)))) (tst (isi is_Shape (bin ixD (cV 1) (cC (.int 0)))))) [.raw x, .val (.tup (ps.map eP)), .val (.tup []), .no, .no, .no] Q := by
      intro Q q
      simp only [ret, retF, retN, seq, nxt, set, setO, par, parOO, ifs, drp, tst, bin, un, cal, calF, call', callF, mth, own2, prp, mk, tup, lst, lstF, frz, aN, aC, cV, cC, tand, tor, tnot, vand, vor, vnot, ite', chn, isi, asg, gn, g0, gc, gt, gl, itm, rng1, rng2, zpI, for', slc, pNo, pSo, rev, app, sti, popL, popA, addI, subI, mulI, powI, divI, modI, ltI, leI, gtI, geI, negI, iop, iopC, maxI, minI, i2, absI, ok, rs, rss, fzs, toSl, owns, putOs, putOwn, ownAt, fldD, yes', lc, nos, back, keepV, lcStep, sumD, lenD, tupD, lstD, two, cov, spD, rgD, eP, rgP, enOf, enOfF, outsG, srtP, srtS, List.getElem?_cons_zero, List.getElem?_cons_succ, List.set_cons_zero, List.set_cons_succ, List.map_cons, List.map_nil, Option.map_some, Option.map_none, List.nodup_nil, if_true, if_false, ite_true, ite_false, reduceIte, decide_eq_true_eq, List.cons_append, List.nil_append, List.append_nil, reduceCtorEq, List.length_cons, List.length_nil, Nat.reduceAdd, Nat.reduceLeDiff, Nat.reduceSub, List.replicate, Bool.not_true, Bool.not_false, List.length_map]
      rw [e1]
      cases ps with
      | nil => exact q
      | cons p ps =>
        have e0 : ixD (.tup ((p :: ps).map eP)) (.int 0) = some (eP p) := atI_0 _ _
        by_cases c : (((p :: ps).length : Nat) : Int) = 1
        · simp only [c, decide_true, if_true]
          rw [e0]
          exact q
        · simp only [c, decide_false, if_false, Bool.false_eq_true]
          exact q
    simp only [b1_CoverX_initX, b2_CoverX_initX]
    simp only [set, tup, aN, fzs, ok, List.length_nil, Nat.zero_le, if_true, List.set_cons_succ, List.set_cons_zero]
    exact key _ (iteF t)
end DL
set_option Elab.async false
set_option linter.all false
set_option maxRecDepth 100000
set_option maxHeartbeats 1000000
namespace DL
open PySem PySem.Spec PyProof.Rows L2 CV
theorem ixN_nat {n k : Nat} (h : k < n) : ixN n (k : Int) = some k := by
  unfold ixN
  rw [if_pos (by omega), if_pos (by omega)]
  rfl
theorem cpow {i : Int} {k : Int} (h0 : 0 ≤ k) (h1 : k ≤ 1000000) (h : -(2 ^ 64) < i) (h2 : i < 2 ^ 64) : CPow i k := ⟨h0, h1, by omega⟩
theorem d__law_deck : ∀ as K, S__law_deck as K → b__law_deck (enOfF as K) (as ++ List.replicate (N__law_deck.length - as.length) .no) := by
  rintro as K ⟨c, t, rfl, h0, h⟩
  show b__law_deck _ [.val (.int c), .val (.int t)]
  simp only [b__law_deck, ret, retF, retN, seq, nxt, set, setO, par, parOO, ifs, drp, tst, bin, un, cal, calF, call', callF, mth, own2, prp, mk, tup, lst, lstF, frz, aN, aC, cV, cC, tand, tor, tnot, vand, vor, vnot, ite', chn, isi, asg, gn, g0, gc, gt, gl, itm, rng1, rng2, zpI, for', slc, pNo, pSo, rev, app, sti, popL, popA, addI, subI, mulI, powI, divI, modI, ltI, leI, gtI, geI, negI, iop, iopC, maxI, minI, i2, absI, ok, rs, rss, fzs, toSl, owns, putOs, putOwn, ownAt, fldD, yes', lc, nos, back, keepV, lcStep, sumD, lenD, tupD, lstD, two, cov, spD, rgD, eP, rgP, enOf, enOfF, outsG, srtP, srtS, List.getElem?_cons_zero, List.getElem?_cons_succ, List.set_cons_zero, List.set_cons_succ, List.map_cons, List.map_nil, Option.map_some, Option.map_none, List.nodup_nil, if_true, if_false, ite_true, ite_false, reduceIte, decide_eq_true_eq, List.cons_append, List.nil_append, List.append_nil, reduceCtorEq, List.length_cons, List.length_nil, Nat.reduceAdd, Nat.reduceLeDiff, Nat.reduceSub, List.replicate, Bool.not_true, Bool.not_false]
  rw [if_pos (show CPow 10 18 from cpow (by decide) (by decide) (by decide) (by decide))]
  simp only [ret, retF, retN, seq, nxt, set, setO, par, parOO, ifs, drp, tst, bin, un, cal, calF, call', callF, mth, own2, prp, mk, tup, lst, lstF, frz, aN, aC, cV, cC, tand, tor, tnot, vand, vor, vnot, ite', chn, isi, asg, gn, g0, gc, gt, gl, itm, rng1, rng2, zpI, for', slc, pNo, pSo, rev, app, sti, popL, popA, addI, subI, mulI, powI, divI, modI, ltI, leI, gtI, geI, negI, iop, iopC, maxI, minI, i2, absI, ok, rs, rss, fzs, toSl, owns, putOs, putOwn, ownAt, fldD, yes', lc, nos, back, keepV, lcStep, sumD, lenD, tupD, lstD, two, cov, spD, rgD, eP, rgP, enOf, enOfF, outsG, srtP, srtS, List.getElem?_cons_zero, List.getElem?_cons_succ, List.set_cons_zero, List.set_cons_succ, List.map_cons, List.map_nil, Option.map_some, Option.map_none, List.nodup_nil, if_true, if_false, ite_true, ite_false, reduceIte, decide_eq_true_eq, List.cons_append, List.nil_append, List.append_nil, reduceCtorEq, List.length_cons, List.length_nil, Nat.reduceAdd, Nat.reduceLeDiff, Nat.reduceSub, List.replicate, Bool.not_true, Bool.not_false]
  by_cases k : (10 : Int) ^ (18 : Int).toNat ≤ c
  · simp only [k, decide_true, if_true]
    rw [if_pos (show (0 : Int) < 2147483579 by decide)]
    simp only [ret, retF, retN, seq, nxt, set, setO, par, parOO, ifs, drp, tst, bin, un, cal, calF, call', callF, mth, own2, prp, mk, tup, lst, lstF, frz, aN, aC, cV, cC, tand, tor, tnot, vand, vor, vnot, ite', chn, isi, asg, gn, g0, gc, gt, gl, itm, rng1, rng2, zpI, for', slc, pNo, pSo, rev, app, sti, popL, popA, addI, subI, mulI, powI, divI, modI, ltI, leI, gtI, geI, negI, iop, iopC, maxI, minI, i2, absI, ok, rs, rss, fzs, toSl, owns, putOs, putOwn, ownAt, fldD, yes', lc, nos, back, keepV, lcStep, sumD, lenD, tupD, lstD, two, cov, spD, rgD, eP, rgP, enOf, enOfF, outsG, srtP, srtS, List.getElem?_cons_zero, List.getElem?_cons_succ, List.set_cons_zero, List.set_cons_succ, List.map_cons, List.map_nil, Option.map_some, Option.map_none, List.nodup_nil, if_true, if_false, ite_true, ite_false, reduceIte, decide_eq_true_eq, List.cons_append, List.nil_append, List.append_nil, reduceCtorEq, List.length_cons, List.length_nil, Nat.reduceAdd, Nat.reduceLeDiff, Nat.reduceSub, List.replicate, Bool.not_true, Bool.not_false]
    rw [sl_line]
    refine h _ ⟨_, _, _, rfl, by omega, by omega, by omega, h0, Int.le_refl _⟩
  · simp only [k, decide_false, if_false, Bool.false_eq_true]
    rw [if_pos (show (0 : Int) < 2147483579 by decide)]
    simp only [ret, retF, retN, seq, nxt, set, setO, par, parOO, ifs, drp, tst, bin, un, cal, calF, call', callF, mth, own2, prp, mk, tup, lst, lstF, frz, aN, aC, cV, cC, tand, tor, tnot, vand, vor, vnot, ite', chn, isi, asg, gn, g0, gc, gt, gl, itm, rng1, rng2, zpI, for', slc, pNo, pSo, rev, app, sti, popL, popA, addI, subI, mulI, powI, divI, modI, ltI, leI, gtI, geI, negI, iop, iopC, maxI, minI, i2, absI, ok, rs, rss, fzs, toSl, owns, putOs, putOwn, ownAt, fldD, yes', lc, nos, back, keepV, lcStep, sumD, lenD, tupD, lstD, two, cov, spD, rgD, eP, rgP, enOf, enOfF, outsG, srtP, srtS, List.getElem?_cons_zero, List.getElem?_cons_succ, List.set_cons_zero, List.set_cons_succ, List.map_cons, List.map_nil, Option.map_some, Option.map_none, List.nodup_nil, if_true, if_false, ite_true, ite_false, reduceIte, decide_eq_true_eq, List.cons_append, List.nil_append, List.append_nil, reduceCtorEq, List.length_cons, List.length_nil, Nat.reduceAdd, Nat.reduceLeDiff, Nat.reduceSub, List.replicate, Bool.not_true, Bool.not_false]
    rw [sl_line]
    refine h _ ⟨_, _, _, rfl, by decide, by omega, by omega, h0, Int.le_refl _⟩
theorem d__law_one : ∀ as K, S__law_one as K → b__law_one (enOf as K) (as ++ List.replicate (N__law_one.length - as.length) .no) := by
  rintro as K ⟨n, ds, d, es, rfl, sq, dk, hn, ne, hz, h⟩
  show b__law_one _ [.own true ds, .val d]
  have hpos : 0 < es.length := List.length_pos_iff.mpr ne
  have hl : lenD [d] = some (.int es.length) := by rcases sq with rfl | rfl <;> rfl
  have hx : ∀ r : Int, 0 ≤ r → r < es.length → ∃ e, ixD d (.int r) = some e ∧ e ∈ es := fun r h0 h1 => by
    have e : ((r.toNat : Nat) : Int) = r := by omega
    have at1 : atI es r = es[r.toNat]? := by
      have z := atI_nat (l := es) (k := r.toNat) (by omega)
      rwa [e] at z
    have g : es[r.toNat]? = some (es[r.toNat]'(by omega)) := List.getElem?_eq_getElem (by omega)
    refine ⟨es[r.toNat]'(by omega), ?_, List.getElem_mem _⟩
    rcases sq with rfl | rfl
    · show atI es r = _
      rw [at1, g]
    · show atI es r = _
      rw [at1, g]
  simp only [b__law_one, bin, call', aC, aN, cV, cal, ret, rss, rs, ok, toSl, ownAt, owns, List.getElem?_cons_zero, List.getElem?_cons_succ, hl, Option.map_some, List.nodup_cons, List.not_mem_nil, List.nodup_nil, not_false_eq_true, and_self, if_true]
  refine ⟨n, ds, es.length, rfl, dk, hn, by omega, by omega, fun r ds' h0 h1 dk' => ?_⟩
  obtain ⟨e, he, me⟩ := hx r h0 h1
  simp only [ret, retF, retN, seq, nxt, set, setO, par, parOO, ifs, drp, tst, bin, un, cal, calF, call', callF, mth, own2, prp, mk, tup, lst, lstF, frz, aN, aC, cV, cC, tand, tor, tnot, vand, vor, vnot, ite', chn, isi, asg, gn, g0, gc, gt, gl, itm, rng1, rng2, zpI, for', slc, pNo, pSo, rev, app, sti, popL, popA, addI, subI, mulI, powI, divI, modI, ltI, leI, gtI, geI, negI, iop, iopC, maxI, minI, i2, absI, ok, rs, rss, fzs, toSl, owns, putOs, putOwn, ownAt, fldD, yes', lc, nos, back, keepV, lcStep, sumD, lenD, tupD, lstD, two, cov, spD, rgD, eP, rgP, enOf, enOfF, outsG, srtP, srtS, List.getElem?_cons_zero, List.getElem?_cons_succ, List.set_cons_zero, List.set_cons_succ, List.map_cons, List.map_nil, Option.map_some, Option.map_none, List.nodup_nil, if_true, if_false, ite_true, ite_false, reduceIte, decide_eq_true_eq, List.cons_append, List.nil_append, List.append_nil, reduceCtorEq, List.length_cons, List.length_nil, Nat.reduceAdd, Nat.reduceLeDiff, Nat.reduceSub, List.replicate, Bool.not_true, Bool.not_false, he]
  exact h e ds' me dk'
theorem d__law_sort : ∀ as K, S__law_sort as K → b__law_sort (enOf as K) (as ++ List.replicate (N__law_sort.length - as.length) .no) := by
  rintro as K ⟨d, rfl, hd, h⟩
  show b__law_sort _ [.val d]
  have all : ∀ n T, tyN d = some n → tyT T d = kitB n T := fun n T e => by unfold tyT; rw [e]
  cases d with
  | ob c d => cases hd
  | non =>
    have z := fun T => all "NoneType" T rfl
    have k1 : kitB "NoneType" "bool" = some false := by decide +kernel
    have k2 : kitB "NoneType" "int" = some false := by decide +kernel
    have k3 : kitB "NoneType" "str" = some false := by decide +kernel
    have k4 : kitB "NoneType" "list" = some false := by decide +kernel
    have k5 : kitB "NoneType" "tuple" = some false := by decide +kernel
    simp only [b__law_sort, ret, retF, retN, seq, nxt, set, setO, par, parOO, ifs, drp, tst, bin, un, cal, calF, call', callF, mth, own2, prp, mk, tup, lst, lstF, frz, aN, aC, cV, cC, tand, tor, tnot, vand, vor, vnot, ite', chn, isi, asg, gn, g0, gc, gt, gl, itm, rng1, rng2, zpI, for', slc, pNo, pSo, rev, app, sti, popL, popA, addI, subI, mulI, powI, divI, modI, ltI, leI, gtI, geI, negI, iop, iopC, maxI, minI, i2, absI, ok, rs, rss, fzs, toSl, owns, putOs, putOwn, ownAt, fldD, yes', lc, nos, back, keepV, lcStep, sumD, lenD, tupD, lstD, two, cov, spD, rgD, eP, rgP, enOf, enOfF, outsG, srtP, srtS, List.getElem?_cons_zero, List.getElem?_cons_succ, List.set_cons_zero, List.set_cons_succ, List.map_cons, List.map_nil, Option.map_some, Option.map_none, List.nodup_nil, if_true, if_false, ite_true, ite_false, reduceIte, decide_eq_true_eq, List.cons_append, List.nil_append, List.append_nil, reduceCtorEq, List.length_cons, List.length_nil, Nat.reduceAdd, Nat.reduceLeDiff, Nat.reduceSub, List.replicate, Bool.not_true, Bool.not_false, z, k1, k2, k3, k4, k5, Bool.false_eq_true]
    exact h
  | bl b =>
    have z := fun T => all "bool" T rfl
    have k1 : kitB "bool" "bool" = some true := by decide +kernel
    simp only [b__law_sort, ret, retF, retN, seq, nxt, set, setO, par, parOO, ifs, drp, tst, bin, un, cal, calF, call', callF, mth, own2, prp, mk, tup, lst, lstF, frz, aN, aC, cV, cC, tand, tor, tnot, vand, vor, vnot, ite', chn, isi, asg, gn, g0, gc, gt, gl, itm, rng1, rng2, zpI, for', slc, pNo, pSo, rev, app, sti, popL, popA, addI, subI, mulI, powI, divI, modI, ltI, leI, gtI, geI, negI, iop, iopC, maxI, minI, i2, absI, ok, rs, rss, fzs, toSl, owns, putOs, putOwn, ownAt, fldD, yes', lc, nos, back, keepV, lcStep, sumD, lenD, tupD, lstD, two, cov, spD, rgD, eP, rgP, enOf, enOfF, outsG, srtP, srtS, List.getElem?_cons_zero, List.getElem?_cons_succ, List.set_cons_zero, List.set_cons_succ, List.map_cons, List.map_nil, Option.map_some, Option.map_none, List.nodup_nil, if_true, if_false, ite_true, ite_false, reduceIte, decide_eq_true_eq, List.cons_append, List.nil_append, List.append_nil, reduceCtorEq, List.length_cons, List.length_nil, Nat.reduceAdd, Nat.reduceLeDiff, Nat.reduceSub, List.replicate, Bool.not_true, Bool.not_false, z, k1]
    exact h
  | int i =>
    have z := fun T => all "int" T rfl
    have k1 : kitB "int" "bool" = some false := by decide +kernel
    have k2 : kitB "int" "int" = some true := by decide +kernel
    simp only [b__law_sort, ret, retF, retN, seq, nxt, set, setO, par, parOO, ifs, drp, tst, bin, un, cal, calF, call', callF, mth, own2, prp, mk, tup, lst, lstF, frz, aN, aC, cV, cC, tand, tor, tnot, vand, vor, vnot, ite', chn, isi, asg, gn, g0, gc, gt, gl, itm, rng1, rng2, zpI, for', slc, pNo, pSo, rev, app, sti, popL, popA, addI, subI, mulI, powI, divI, modI, ltI, leI, gtI, geI, negI, iop, iopC, maxI, minI, i2, absI, ok, rs, rss, fzs, toSl, owns, putOs, putOwn, ownAt, fldD, yes', lc, nos, back, keepV, lcStep, sumD, lenD, tupD, lstD, two, cov, spD, rgD, eP, rgP, enOf, enOfF, outsG, srtP, srtS, List.getElem?_cons_zero, List.getElem?_cons_succ, List.set_cons_zero, List.set_cons_succ, List.map_cons, List.map_nil, Option.map_some, Option.map_none, List.nodup_nil, if_true, if_false, ite_true, ite_false, reduceIte, decide_eq_true_eq, List.cons_append, List.nil_append, List.append_nil, reduceCtorEq, List.length_cons, List.length_nil, Nat.reduceAdd, Nat.reduceLeDiff, Nat.reduceSub, List.replicate, Bool.not_true, Bool.not_false, z, k1, k2, Bool.false_eq_true]
    exact h
  | str i =>
    have z := fun T => all "str" T rfl
    have k1 : kitB "str" "bool" = some false := by decide +kernel
    have k2 : kitB "str" "int" = some false := by decide +kernel
    have k3 : kitB "str" "str" = some true := by decide +kernel
    simp only [b__law_sort, ret, retF, retN, seq, nxt, set, setO, par, parOO, ifs, drp, tst, bin, un, cal, calF, call', callF, mth, own2, prp, mk, tup, lst, lstF, frz, aN, aC, cV, cC, tand, tor, tnot, vand, vor, vnot, ite', chn, isi, asg, gn, g0, gc, gt, gl, itm, rng1, rng2, zpI, for', slc, pNo, pSo, rev, app, sti, popL, popA, addI, subI, mulI, powI, divI, modI, ltI, leI, gtI, geI, negI, iop, iopC, maxI, minI, i2, absI, ok, rs, rss, fzs, toSl, owns, putOs, putOwn, ownAt, fldD, yes', lc, nos, back, keepV, lcStep, sumD, lenD, tupD, lstD, two, cov, spD, rgD, eP, rgP, enOf, enOfF, outsG, srtP, srtS, List.getElem?_cons_zero, List.getElem?_cons_succ, List.set_cons_zero, List.set_cons_succ, List.map_cons, List.map_nil, Option.map_some, Option.map_none, List.nodup_nil, if_true, if_false, ite_true, ite_false, reduceIte, decide_eq_true_eq, List.cons_append, List.nil_append, List.append_nil, reduceCtorEq, List.length_cons, List.length_nil, Nat.reduceAdd, Nat.reduceLeDiff, Nat.reduceSub, List.replicate, Bool.not_true, Bool.not_false, z, k1, k2, k3, Bool.false_eq_true]
    exact h
  | lst i =>
    have z := fun T => all "list" T rfl
    have k1 : kitB "list" "bool" = some false := by decide +kernel
    have k2 : kitB "list" "int" = some false := by decide +kernel
    have k3 : kitB "list" "str" = some false := by decide +kernel
    have k4 : kitB "list" "list" = some true := by decide +kernel
    simp only [b__law_sort, ret, retF, retN, seq, nxt, set, setO, par, parOO, ifs, drp, tst, bin, un, cal, calF, call', callF, mth, own2, prp, mk, tup, lst, lstF, frz, aN, aC, cV, cC, tand, tor, tnot, vand, vor, vnot, ite', chn, isi, asg, gn, g0, gc, gt, gl, itm, rng1, rng2, zpI, for', slc, pNo, pSo, rev, app, sti, popL, popA, addI, subI, mulI, powI, divI, modI, ltI, leI, gtI, geI, negI, iop, iopC, maxI, minI, i2, absI, ok, rs, rss, fzs, toSl, owns, putOs, putOwn, ownAt, fldD, yes', lc, nos, back, keepV, lcStep, sumD, lenD, tupD, lstD, two, cov, spD, rgD, eP, rgP, enOf, enOfF, outsG, srtP, srtS, List.getElem?_cons_zero, List.getElem?_cons_succ, List.set_cons_zero, List.set_cons_succ, List.map_cons, List.map_nil, Option.map_some, Option.map_none, List.nodup_nil, if_true, if_false, ite_true, ite_false, reduceIte, decide_eq_true_eq, List.cons_append, List.nil_append, List.append_nil, reduceCtorEq, List.length_cons, List.length_nil, Nat.reduceAdd, Nat.reduceLeDiff, Nat.reduceSub, List.replicate, Bool.not_true, Bool.not_false, z, k1, k2, k3, k4, Bool.false_eq_true]
    exact h
  | tup i =>
    have z := fun T => all "tuple" T rfl
    have k1 : kitB "tuple" "bool" = some false := by decide +kernel
    have k2 : kitB "tuple" "int" = some false := by decide +kernel
    have k3 : kitB "tuple" "str" = some false := by decide +kernel
    have k4 : kitB "tuple" "list" = some false := by decide +kernel
    have k5 : kitB "tuple" "tuple" = some true := by decide +kernel
    simp only [b__law_sort, ret, retF, retN, seq, nxt, set, setO, par, parOO, ifs, drp, tst, bin, un, cal, calF, call', callF, mth, own2, prp, mk, tup, lst, lstF, frz, aN, aC, cV, cC, tand, tor, tnot, vand, vor, vnot, ite', chn, isi, asg, gn, g0, gc, gt, gl, itm, rng1, rng2, zpI, for', slc, pNo, pSo, rev, app, sti, popL, popA, addI, subI, mulI, powI, divI, modI, ltI, leI, gtI, geI, negI, iop, iopC, maxI, minI, i2, absI, ok, rs, rss, fzs, toSl, owns, putOs, putOwn, ownAt, fldD, yes', lc, nos, back, keepV, lcStep, sumD, lenD, tupD, lstD, two, cov, spD, rgD, eP, rgP, enOf, enOfF, outsG, srtP, srtS, List.getElem?_cons_zero, List.getElem?_cons_succ, List.set_cons_zero, List.set_cons_succ, List.map_cons, List.map_nil, Option.map_some, Option.map_none, List.nodup_nil, if_true, if_false, ite_true, ite_false, reduceIte, decide_eq_true_eq, List.cons_append, List.nil_append, List.append_nil, reduceCtorEq, List.length_cons, List.length_nil, Nat.reduceAdd, Nat.reduceLeDiff, Nat.reduceSub, List.replicate, Bool.not_true, Bool.not_false, z, k1, k2, k3, k4, k5, Bool.false_eq_true]
    exact h
theorem d__law_pays : ∀ as K, S__law_pays as K → b__law_pays (enOf as K) (as ++ List.replicate (N__law_pays.length - as.length) .no) := by
  rintro as K ⟨l, x, rfl, hl, h⟩
  show b__law_pays _ [.val (rgD l), .val (.int x), .no, .no]
  simp only [b__law_pays, ret, retF, retN, seq, nxt, set, setO, par, parOO, ifs, drp, tst, bin, un, cal, calF, call', callF, mth, own2, prp, mk, tup, lst, lstF, frz, aN, aC, cV, cC, tand, tor, tnot, vand, vor, vnot, ite', chn, isi, asg, gn, g0, gc, gt, gl, itm, rng1, rng2, zpI, for', slc, pNo, pSo, rev, app, sti, popL, popA, addI, subI, mulI, powI, divI, modI, ltI, leI, gtI, geI, negI, iop, iopC, maxI, minI, i2, absI, ok, rs, rss, fzs, toSl, owns, putOs, putOwn, ownAt, fldD, yes', lc, nos, back, keepV, lcStep, sumD, lenD, tupD, lstD, two, cov, spD, rgD, eP, rgP, enOf, enOfF, outsG, srtP, srtS, List.getElem?_cons_zero, List.getElem?_cons_succ, List.set_cons_zero, List.set_cons_succ, List.map_cons, List.map_nil, Option.map_some, Option.map_none, List.nodup_nil, if_true, if_false, ite_true, ite_false, reduceIte, decide_eq_true_eq, List.cons_append, List.nil_append, List.append_nil, reduceCtorEq, List.length_cons, List.length_nil, Nat.reduceAdd, Nat.reduceLeDiff, Nat.reduceSub, List.replicate, Bool.not_true, Bool.not_false]
  refine lcGo_map (enc := rgP) (val := fun p => .int (max 0 (min x p.2 - p.1))) l (fun p hp k hk => ?_) (by rw [sl_line]; omega) ?_
  · simp only [ret, retF, retN, seq, nxt, set, setO, par, parOO, ifs, drp, tst, bin, un, cal, calF, call', callF, mth, own2, prp, mk, tup, lst, lstF, frz, aN, aC, cV, cC, tand, tor, tnot, vand, vor, vnot, ite', chn, isi, asg, gn, g0, gc, gt, gl, itm, rng1, rng2, zpI, for', slc, pNo, pSo, rev, app, sti, popL, popA, addI, subI, mulI, powI, divI, modI, ltI, leI, gtI, geI, negI, iop, iopC, maxI, minI, i2, absI, ok, rs, rss, fzs, toSl, owns, putOs, putOwn, ownAt, fldD, yes', lc, nos, back, keepV, lcStep, sumD, lenD, tupD, lstD, two, cov, spD, rgD, eP, rgP, enOf, enOfF, outsG, srtP, srtS, List.getElem?_cons_zero, List.getElem?_cons_succ, List.set_cons_zero, List.set_cons_succ, List.map_cons, List.map_nil, Option.map_some, Option.map_none, List.nodup_nil, if_true, if_false, ite_true, ite_false, reduceIte, decide_eq_true_eq, List.cons_append, List.nil_append, List.append_nil, reduceCtorEq, List.length_cons, List.length_nil, Nat.reduceAdd, Nat.reduceLeDiff, Nat.reduceSub, List.replicate, Bool.not_true, Bool.not_false, add_ii]
    have e : (if (if p.2 < x then p.2 else x) - (p.1 + 1) + 1 > 0 then (if p.2 < x then p.2 else x) - (p.1 + 1) + 1 else 0) = max 0 (min x p.2 - p.1) := by
      split <;> split at * <;> omega
    rw [e]
    exact hk
  · show ok (Option.map _ (toInts (l.map fun p => D.int (max 0 (min x p.2 - p.1))))) _
    have e : (l.map fun p => D.int (max 0 (min x p.2 - p.1))) = (l.map fun p => max 0 (min x p.2 - p.1)).map D.int := by
      rw [List.map_map]; rfl
    rw [e, toInts_map]
    exact h
theorem d__law_behind : ∀ as K, S__law_behind as K → b__law_behind (enOf as K) (as ++ List.replicate (N__law_behind.length - as.length) .no) := by
  rintro as K ⟨l, m, x, rfl, hl, hm, h⟩
  show b__law_behind _ [.val (rgD l), .val (rgD m), .val (.int x), .no]
  simp only [b__law_behind, ret, retF, retN, seq, nxt, set, setO, par, parOO, ifs, drp, tst, bin, un, cal, calF, call', callF, mth, own2, prp, mk, tup, lst, lstF, frz, aN, aC, cV, cC, tand, tor, tnot, vand, vor, vnot, ite', chn, isi, asg, gn, g0, gc, gt, gl, itm, rng1, rng2, zpI, for', slc, pNo, pSo, rev, app, sti, popL, popA, addI, subI, mulI, powI, divI, modI, ltI, leI, gtI, geI, negI, iop, iopC, maxI, minI, i2, absI, ok, rs, rss, fzs, toSl, owns, putOs, putOwn, ownAt, fldD, yes', lc, nos, back, keepV, lcStep, sumD, lenD, tupD, lstD, two, cov, spD, rgD, eP, rgP, enOf, enOfF, outsG, srtP, srtS, List.getElem?_cons_zero, List.getElem?_cons_succ, List.set_cons_zero, List.set_cons_succ, List.map_cons, List.map_nil, Option.map_some, Option.map_none, List.nodup_nil, if_true, if_false, ite_true, ite_false, reduceIte, decide_eq_true_eq, List.cons_append, List.nil_append, List.append_nil, reduceCtorEq, List.length_cons, List.length_nil, Nat.reduceAdd, Nat.reduceLeDiff, Nat.reduceSub, List.replicate, Bool.not_true, Bool.not_false]
  refine ⟨l, x, rfl, hl, ?_⟩
  simp only [ret, retF, retN, seq, nxt, set, setO, par, parOO, ifs, drp, tst, bin, un, cal, calF, call', callF, mth, own2, prp, mk, tup, lst, lstF, frz, aN, aC, cV, cC, tand, tor, tnot, vand, vor, vnot, ite', chn, isi, asg, gn, g0, gc, gt, gl, itm, rng1, rng2, zpI, for', slc, pNo, pSo, rev, app, sti, popL, popA, addI, subI, mulI, powI, divI, modI, ltI, leI, gtI, geI, negI, iop, iopC, maxI, minI, i2, absI, ok, rs, rss, fzs, toSl, owns, putOs, putOwn, ownAt, fldD, yes', lc, nos, back, keepV, lcStep, sumD, lenD, tupD, lstD, two, cov, spD, rgD, eP, rgP, enOf, enOfF, outsG, srtP, srtS, List.getElem?_cons_zero, List.getElem?_cons_succ, List.set_cons_zero, List.set_cons_succ, List.map_cons, List.map_nil, Option.map_some, Option.map_none, List.nodup_nil, if_true, if_false, ite_true, ite_false, reduceIte, decide_eq_true_eq, List.cons_append, List.nil_append, List.append_nil, reduceCtorEq, List.length_cons, List.length_nil, Nat.reduceAdd, Nat.reduceLeDiff, Nat.reduceSub, List.replicate, Bool.not_true, Bool.not_false]
  refine ⟨m, _, rfl, hm, ?_⟩
  simp only [ret, retF, retN, seq, nxt, set, setO, par, parOO, ifs, drp, tst, bin, un, cal, calF, call', callF, mth, own2, prp, mk, tup, lst, lstF, frz, aN, aC, cV, cC, tand, tor, tnot, vand, vor, vnot, ite', chn, isi, asg, gn, g0, gc, gt, gl, itm, rng1, rng2, zpI, for', slc, pNo, pSo, rev, app, sti, popL, popA, addI, subI, mulI, powI, divI, modI, ltI, leI, gtI, geI, negI, iop, iopC, maxI, minI, i2, absI, ok, rs, rss, fzs, toSl, owns, putOs, putOwn, ownAt, fldD, yes', lc, nos, back, keepV, lcStep, sumD, lenD, tupD, lstD, two, cov, spD, rgD, eP, rgP, enOf, enOfF, outsG, srtP, srtS, List.getElem?_cons_zero, List.getElem?_cons_succ, List.set_cons_zero, List.set_cons_succ, List.map_cons, List.map_nil, Option.map_some, Option.map_none, List.nodup_nil, if_true, if_false, ite_true, ite_false, reduceIte, decide_eq_true_eq, List.cons_append, List.nil_append, List.append_nil, reduceCtorEq, List.length_cons, List.length_nil, Nat.reduceAdd, Nat.reduceLeDiff, Nat.reduceSub, List.replicate, Bool.not_true, Bool.not_false, add_ii]
  exact h
end DL
set_option Elab.async false
set_option linter.all false
set_option maxRecDepth 100000
set_option maxHeartbeats 1000000
namespace DL
open PySem PySem.Spec PyProof.Rows L2 CV
theorem mul_ii {i j : Int} (h : CMul i j) : mulI (.int i) (.int j) = some (.int (i * j)) := if_pos h
theorem pow_ex {i j : Int} (h : CPow i j) : ∃ w, powI (.int i) (.int j) = some (.int w) := ⟨_, if_pos h⟩
theorem mod_ii {i j : Int} (h : 0 < j) : modI (.int i) (.int j) = some (.int (i % j)) := if_pos h
theorem div_ii {i j : Int} (h : CDivW i j) : divI (.int i) (.int j) = some (.int (i / j)) := if_pos h
/-- a reading that gives d and changes nothing -/
def Ev (t : TE') (ρ : Rho) (d : D) : Prop := ∀ Q : Xv → Rho → Prop, Q (.d d) ρ → t ρ Q
theorem ev_c (d : D) (ρ : Rho) : Ev (cC d) ρ d := fun _ q => q
theorem ev_v {i : Nat} {ρ : Rho} {d : D} (h : ρ[i]? = some (.val d)) : Ev (cV i) ρ d := fun Q q => by
  unfold cV
  rw [h]
  exact q
theorem ev_bin {f : D → D → Option D} {ta tb : TE'} {ρ : Rho} {a b c : D} (ha : Ev ta ρ a) (hb : Ev tb ρ b) (e : f a b = some c) : Ev (bin f ta tb) ρ c := fun Q q => by
  refine ha _ (hb _ ?_)
  show ok (f a b) _
  rw [e]
  exact q
theorem ev_own {i : Nat} {ρ : Rho} {t : Bool} {ds : List D} {tb : TE'} {b c : D} {f : D → D → Option D} (h : ρ[i]? = some (.own t ds)) (hb : Ev tb ρ b) (e : f (.lst ds) b = some c) : Ev (bin f (cV i) tb) ρ c := fun Q q => by
  unfold bin cV
  rw [h]
  refine hb _ ?_
  have ho : ownAt ρ i = some ds := by unfold ownAt; rw [h]
  show ok ((ownAt ρ i).map D.lst) fun a => ok (some b) fun b => ok (f a b) fun c => Q (.d c) ρ
  rw [ho]
  show ok (f (.lst ds) b) _
  rw [e]
  exact q
theorem seq_set {i : Nat} {t : TE'} {u : TS'} {P : En} {ρ : Rho} {d : D} (h : Ev t ρ d) (k : u P (ρ.set i (.val d))) : seq (set i t) u P ρ := h _ k
theorem ret_ev {t : TE'} {P : En} {ρ : Rho} {d : D} (h : Ev t ρ d) (k : P.rt (.d d) ρ) : ret t P ρ := h _ k
theorem seq_ifs {t : TE'} {a b u : TS'} {P : En} {ρ : Rho} {c : Bool} (h : Ev t ρ (.bl c)) (k1 : c = true → a { P with nx := u P } ρ) (k2 : c = false → b { P with nx := u P } ρ) : seq (ifs (tst t) a b) u P ρ := by
  refine h _ ?_
  cases c with
  | true => exact iteT (k1 rfl)
  | false => exact iteF (k2 rfl)
theorem seq_ifn {t : TE'} {a u : TS'} {P : En} {ρ : Rho} {c : Bool} (h : Ev t ρ (.bl c)) (k1 : c = true → a { P with nx := u P } ρ) (k2 : c = false → u P ρ) : seq (ifs (tst t) a nxt) u P ρ := seq_ifs h k1 fun e => k2 e
theorem seq_sti {i : Nat} {t v : TE'} {u : TS'} {P : En} {ρ : Rho} {d : D} {tg : Bool} {ds : List D} {n : Int} {j : Nat} (h : Ev t ρ d) (hv : Ev v ρ (.int n)) (ho : ρ[i]? = some (.own tg ds)) (hj : ixN ds.length n = some j) (k : u P (ρ.set i (.own tg (ds.set j d)))) : seq (sti i t v) u P ρ := by
  have ho2 : ownAt ρ i = some ds := by unfold ownAt; rw [ho]
  refine h _ ?_
  show ok (ownAt ρ i) fun _ => v ρ _
  rw [ho2]
  refine hv _ ?_
  show ok (ownAt ρ i) fun ds => ok (ixN ds.length n) fun j => u P (putOwn ρ i (ds.set j d))
  rw [ho2]
  show ok (ixN ds.length n) _
  rw [hj]
  show u P (putOwn ρ i (ds.set j d))
  unfold putOwn
  rw [ho]
  exact k
theorem gt_ii (i j : Int) : gtI (.int i) (.int j) = some (.bl (decide (j < i))) := rfl
theorem cl_ix (ds : List D) (i : Int) : ixD (.lst ds) (.int i) = atI ds i := rfl
theorem d__law_pick : ∀ as K, S__law_pick as K → b__law_pick (enOf as K) (as ++ List.replicate (N__law_pick.length - as.length) .no) := by
  rintro as K ⟨n, ds, lim, rfl, ⟨a, b, c, rfl, ha, hb, hb2, hc, hcn⟩, hn, h0, h62, h⟩
  have n0 : ixN 3 0 = some 0 := rfl
  have n2 : ixN 3 2 = some 2 := rfl
  have cd : CDivW a lim := ⟨h0, by
    have : lim.natAbs.log2 < 62 := (Nat.log2_lt (by omega)).mpr (by omega)
    omega⟩
  have x0 : ixD (.lst [.int a, .int b, .int c]) (.int 0) = some (.int a) := atI_0 _ _
  have x2 : ixD (.lst [.int a, .int b, .int c]) (.int 2) = some (.int c) := atI_2 _ _ _ _
  have y1 : ixD (.lst [.int a, .int b, .int (c + 1)]) (.int 1) = some (.int b) := atI_1 _ _ _
  have y2 : ixD (.lst [.int a, .int b, .int (c + 1)]) (.int 2) = some (.int (c + 1)) := atI_2 _ _ _ _
  have fin : ∀ r ds' ρ x y, 0 ≤ r → r < lim → Dk (n + 1) ds' → ρ = [Sl.own true ds', .val (.int lim), x, y] → (enOf [.own true [.int a, .int b, .int c], .val (.int lim)] K).rt (.d (.int r)) ρ := fun r ds' ρ x y q1 q2 q3 e => by
    subst e
    exact h r ds' q1 q2 q3
  have e0 : ([Sl.own true [.int a, .int b, .int c], .val (.int lim)] ++ List.replicate (N__law_pick.length - 2) Sl.no) = [.own true [.int a, .int b, .int c], .val (.int lim), .no, .no] := rfl
  have dk : Dk (n + 1) [.int a, .int b, .int (c + 1)] := ⟨_, _, _, rfl, ha, hb, hb2, by omega, by omega⟩
  generalize enOf [.own true [.int a, .int b, .int c], .val (.int lim)] K = P at fin
  have main : b__law_pick P [.own true [.int a, .int b, .int c], .val (.int lim), .no, .no] := by
    unfold b__law_pick
    refine seq_ifn (c := decide (1 < a)) (ev_bin (ev_own rfl (ev_c _ _) x0) (ev_c _ _) (gt_ii _ _)) (fun k => ?_) (fun k => ?_)
    · refine seq_set (ev_bin (ev_own rfl (ev_c _ _) x0) (ev_v rfl) (mod_ii h0)) ?_
      refine seq_sti (ev_bin (ev_own rfl (ev_c _ _) x0) (ev_v rfl) (div_ii cd)) (ev_c _ _) rfl n0 ?_
      refine ret_ev (ev_v rfl) ?_
      exact fin _ _ _ _ _ (Int.emod_nonneg _ (by omega)) (Int.emod_lt_of_pos _ h0) ⟨_, _, _, rfl, Int.ediv_nonneg ha (by omega), hb, hb2, hc, by omega⟩ rfl
    · have p1 : CMul 15485867 (c + 1) := .inl (by decide)
      obtain ⟨w, m2⟩ := pow_ex (i := b + 15485867 * (c + 1)) (j := 5) (cpow (by decide) (by decide) (by omega) (by omega))
      refine seq_sti (ev_bin (ev_own rfl (ev_c _ _) x2) (ev_c _ _) (add_ii _ _)) (ev_c _ _) rfl n2 ?_
      refine seq_set (ev_bin (ev_bin (ev_bin (ev_own rfl (ev_c _ _) y1) (ev_bin (ev_c _ _) (ev_own rfl (ev_c _ _) y2) (mul_ii p1)) (add_ii _ _)) (ev_c _ _) m2) (ev_c _ _) (mod_ii (by decide))) ?_
      have hn0 : 0 ≤ w % 2147483647 := Int.emod_nonneg _ (by decide)
      have hn1 : w % 2147483647 < 2147483647 := Int.emod_lt_of_pos _ (by decide)
      generalize w % 2147483647 = num at hn0 hn1
      have p2 : CMul 7919 (c + 1) := .inl (by decide)
      obtain ⟨w2, m3⟩ := pow_ex (i := num + 7919 * (c + 1)) (j := 3) (cpow (by decide) (by decide) (by omega) (by omega))
      refine seq_set (ev_bin (ev_bin (ev_bin (ev_bin (ev_v rfl) (ev_bin (ev_c _ _) (ev_own rfl (ev_c _ _) y2) (mul_ii p2)) (add_ii _ _)) (ev_c _ _) m3) (ev_c _ _) (mod_ii (by decide))) (ev_c _ _) (div_ii ⟨by decide, by decide⟩)) ?_
      generalize w2 % 2147483629 / 32 = fd
      refine seq_ifn (c := decide (1000000 < lim)) (ev_bin (ev_v rfl) (ev_c _ _) (gt_ii _ _)) (fun k => ?_) (fun k => ?_)
      · refine ret_ev (ev_bin (ev_bin (ev_bin (ev_v rfl) (ev_c _ _) (mul_ii (.inr (by decide)))) (ev_v rfl) (add_ii _ _)) (ev_v rfl) (mod_ii h0)) ?_
        exact fin _ _ _ _ _ (Int.emod_nonneg _ (by omega)) (Int.emod_lt_of_pos _ h0) dk rfl
      · refine ret_ev (ev_bin (ev_v rfl) (ev_v rfl) (mod_ii h0)) ?_
        exact fin _ _ _ _ _ (Int.emod_nonneg _ (by omega)) (Int.emod_lt_of_pos _ h0) dk rfl
  exact main
end DL
set_option Elab.async false
set_option linter.all false
set_option maxRecDepth 100000
set_option maxHeartbeats 1000000
namespace DL
open PySem PySem.Spec PyProof.Rows L2 CV
theorem eq_bl (i j : Bool) : eqD (.bl i) (.bl j) = some (.bl (decide (i = j))) := by
  have n : ∀ b : Bool, Nice 0 (.bl b) (.bool b) := fun b => ⟨by rw [toPy], by simp [PyData.canLay0], by simp [PyData.depth]⟩
  have z := (eqD_nice (n i) (n j) (by decide)).1
  rw [z, PyData.eqv]
  cases i <;> cases j <;> rfl
theorem d__law_same : ∀ as K, S__law_same as K → b__law_same (enOf as K) (as ++ List.replicate (N__law_same.length - as.length) .no) := by
  rintro as K ⟨a, b, rfl, h⟩
  rcases h with ⟨i, j, rfl, rfl, h⟩ | ⟨i, j, rfl, rfl, h⟩
  · show b__law_same _ [.val (.int i), .val (.int j), .no, .no]
    have e := (eq_int i j).1
    have e2 := (eq_int 2 2).2
    simp only [b__law_same, ret, retF, retN, seq, nxt, set, setO, par, parOO, ifs, drp, tst, bin, un, cal, calF, call', callF, mth, own2, prp, mk, tup, lst, lstF, frz, aN, aC, cV, cC, tand, tor, tnot, vand, vor, vnot, ite', chn, isi, asg, gn, g0, gc, gt, gl, itm, rng1, rng2, zpI, for', slc, pNo, pSo, rev, app, sti, popL, popA, addI, subI, mulI, powI, divI, modI, ltI, leI, gtI, geI, negI, iop, iopC, maxI, minI, i2, absI, ok, rs, rss, fzs, toSl, owns, putOs, putOwn, ownAt, fldD, yes', lc, nos, back, keepV, lcStep, sumD, lenD, tupD, lstD, two, cov, spD, rgD, eP, rgP, enOf, enOfF, outsG, srtP, srtS, List.getElem?_cons_zero, List.getElem?_cons_succ, List.set_cons_zero, List.set_cons_succ, List.map_cons, List.map_nil, Option.map_some, Option.map_none, List.nodup_nil, if_true, if_false, ite_true, ite_false, reduceIte, decide_eq_true_eq, List.cons_append, List.nil_append, List.append_nil, reduceCtorEq, List.length_cons, List.length_nil, Nat.reduceAdd, Nat.reduceLeDiff, Nat.reduceSub, List.replicate, Bool.not_true, Bool.not_false]
    refine ⟨_, rfl, rfl, ?_⟩
    simp only [ret, retF, retN, seq, nxt, set, setO, par, parOO, ifs, drp, tst, bin, un, cal, calF, call', callF, mth, own2, prp, mk, tup, lst, lstF, frz, aN, aC, cV, cC, tand, tor, tnot, vand, vor, vnot, ite', chn, isi, asg, gn, g0, gc, gt, gl, itm, rng1, rng2, zpI, for', slc, pNo, pSo, rev, app, sti, popL, popA, addI, subI, mulI, powI, divI, modI, ltI, leI, gtI, geI, negI, iop, iopC, maxI, minI, i2, absI, ok, rs, rss, fzs, toSl, owns, putOs, putOwn, ownAt, fldD, yes', lc, nos, back, keepV, lcStep, sumD, lenD, tupD, lstD, two, cov, spD, rgD, eP, rgP, enOf, enOfF, outsG, srtP, srtS, List.getElem?_cons_zero, List.getElem?_cons_succ, List.set_cons_zero, List.set_cons_succ, List.map_cons, List.map_nil, Option.map_some, Option.map_none, List.nodup_nil, if_true, if_false, ite_true, ite_false, reduceIte, decide_eq_true_eq, List.cons_append, List.nil_append, List.append_nil, reduceCtorEq, List.length_cons, List.length_nil, Nat.reduceAdd, Nat.reduceLeDiff, Nat.reduceSub, List.replicate, Bool.not_true, Bool.not_false, sortN]
    refine ⟨_, rfl, rfl, ?_⟩
    simp only [ret, retF, retN, seq, nxt, set, setO, par, parOO, ifs, drp, tst, bin, un, cal, calF, call', callF, mth, own2, prp, mk, tup, lst, lstF, frz, aN, aC, cV, cC, tand, tor, tnot, vand, vor, vnot, ite', chn, isi, asg, gn, g0, gc, gt, gl, itm, rng1, rng2, zpI, for', slc, pNo, pSo, rev, app, sti, popL, popA, addI, subI, mulI, powI, divI, modI, ltI, leI, gtI, geI, negI, iop, iopC, maxI, minI, i2, absI, ok, rs, rss, fzs, toSl, owns, putOs, putOwn, ownAt, fldD, yes', lc, nos, back, keepV, lcStep, sumD, lenD, tupD, lstD, two, cov, spD, rgD, eP, rgP, enOf, enOfF, outsG, srtP, srtS, List.getElem?_cons_zero, List.getElem?_cons_succ, List.set_cons_zero, List.set_cons_succ, List.map_cons, List.map_nil, Option.map_some, Option.map_none, List.nodup_nil, if_true, if_false, ite_true, ite_false, reduceIte, decide_eq_true_eq, List.cons_append, List.nil_append, List.append_nil, reduceCtorEq, List.length_cons, List.length_nil, Nat.reduceAdd, Nat.reduceLeDiff, Nat.reduceSub, List.replicate, Bool.not_true, Bool.not_false, sortN, e2, decide_true]
    refine ⟨_, rfl, rfl, ?_⟩
    simp only [ret, retF, retN, seq, nxt, set, setO, par, parOO, ifs, drp, tst, bin, un, cal, calF, call', callF, mth, own2, prp, mk, tup, lst, lstF, frz, aN, aC, cV, cC, tand, tor, tnot, vand, vor, vnot, ite', chn, isi, asg, gn, g0, gc, gt, gl, itm, rng1, rng2, zpI, for', slc, pNo, pSo, rev, app, sti, popL, popA, addI, subI, mulI, powI, divI, modI, ltI, leI, gtI, geI, negI, iop, iopC, maxI, minI, i2, absI, ok, rs, rss, fzs, toSl, owns, putOs, putOwn, ownAt, fldD, yes', lc, nos, back, keepV, lcStep, sumD, lenD, tupD, lstD, two, cov, spD, rgD, eP, rgP, enOf, enOfF, outsG, srtP, srtS, List.getElem?_cons_zero, List.getElem?_cons_succ, List.set_cons_zero, List.set_cons_succ, List.map_cons, List.map_nil, Option.map_some, Option.map_none, List.nodup_nil, if_true, if_false, ite_true, ite_false, reduceIte, decide_eq_true_eq, List.cons_append, List.nil_append, List.append_nil, reduceCtorEq, List.length_cons, List.length_nil, Nat.reduceAdd, Nat.reduceLeDiff, Nat.reduceSub, List.replicate, Bool.not_true, Bool.not_false, sortN, e]
    exact h
  · show b__law_same _ [.val (.bl i), .val (.bl j), .no, .no]
    have e := eq_bl i j
    have e2 := (eq_int 1 1).2
    simp only [b__law_same, ret, retF, retN, seq, nxt, set, setO, par, parOO, ifs, drp, tst, bin, un, cal, calF, call', callF, mth, own2, prp, mk, tup, lst, lstF, frz, aN, aC, cV, cC, tand, tor, tnot, vand, vor, vnot, ite', chn, isi, asg, gn, g0, gc, gt, gl, itm, rng1, rng2, zpI, for', slc, pNo, pSo, rev, app, sti, popL, popA, addI, subI, mulI, powI, divI, modI, ltI, leI, gtI, geI, negI, iop, iopC, maxI, minI, i2, absI, ok, rs, rss, fzs, toSl, owns, putOs, putOwn, ownAt, fldD, yes', lc, nos, back, keepV, lcStep, sumD, lenD, tupD, lstD, two, cov, spD, rgD, eP, rgP, enOf, enOfF, outsG, srtP, srtS, List.getElem?_cons_zero, List.getElem?_cons_succ, List.set_cons_zero, List.set_cons_succ, List.map_cons, List.map_nil, Option.map_some, Option.map_none, List.nodup_nil, if_true, if_false, ite_true, ite_false, reduceIte, decide_eq_true_eq, List.cons_append, List.nil_append, List.append_nil, reduceCtorEq, List.length_cons, List.length_nil, Nat.reduceAdd, Nat.reduceLeDiff, Nat.reduceSub, List.replicate, Bool.not_true, Bool.not_false]
    refine ⟨_, rfl, rfl, ?_⟩
    simp only [ret, retF, retN, seq, nxt, set, setO, par, parOO, ifs, drp, tst, bin, un, cal, calF, call', callF, mth, own2, prp, mk, tup, lst, lstF, frz, aN, aC, cV, cC, tand, tor, tnot, vand, vor, vnot, ite', chn, isi, asg, gn, g0, gc, gt, gl, itm, rng1, rng2, zpI, for', slc, pNo, pSo, rev, app, sti, popL, popA, addI, subI, mulI, powI, divI, modI, ltI, leI, gtI, geI, negI, iop, iopC, maxI, minI, i2, absI, ok, rs, rss, fzs, toSl, owns, putOs, putOwn, ownAt, fldD, yes', lc, nos, back, keepV, lcStep, sumD, lenD, tupD, lstD, two, cov, spD, rgD, eP, rgP, enOf, enOfF, outsG, srtP, srtS, List.getElem?_cons_zero, List.getElem?_cons_succ, List.set_cons_zero, List.set_cons_succ, List.map_cons, List.map_nil, Option.map_some, Option.map_none, List.nodup_nil, if_true, if_false, ite_true, ite_false, reduceIte, decide_eq_true_eq, List.cons_append, List.nil_append, List.append_nil, reduceCtorEq, List.length_cons, List.length_nil, Nat.reduceAdd, Nat.reduceLeDiff, Nat.reduceSub, List.replicate, Bool.not_true, Bool.not_false, sortN]
    refine ⟨_, rfl, rfl, ?_⟩
    simp only [ret, retF, retN, seq, nxt, set, setO, par, parOO, ifs, drp, tst, bin, un, cal, calF, call', callF, mth, own2, prp, mk, tup, lst, lstF, frz, aN, aC, cV, cC, tand, tor, tnot, vand, vor, vnot, ite', chn, isi, asg, gn, g0, gc, gt, gl, itm, rng1, rng2, zpI, for', slc, pNo, pSo, rev, app, sti, popL, popA, addI, subI, mulI, powI, divI, modI, ltI, leI, gtI, geI, negI, iop, iopC, maxI, minI, i2, absI, ok, rs, rss, fzs, toSl, owns, putOs, putOwn, ownAt, fldD, yes', lc, nos, back, keepV, lcStep, sumD, lenD, tupD, lstD, two, cov, spD, rgD, eP, rgP, enOf, enOfF, outsG, srtP, srtS, List.getElem?_cons_zero, List.getElem?_cons_succ, List.set_cons_zero, List.set_cons_succ, List.map_cons, List.map_nil, Option.map_some, Option.map_none, List.nodup_nil, if_true, if_false, ite_true, ite_false, reduceIte, decide_eq_true_eq, List.cons_append, List.nil_append, List.append_nil, reduceCtorEq, List.length_cons, List.length_nil, Nat.reduceAdd, Nat.reduceLeDiff, Nat.reduceSub, List.replicate, Bool.not_true, Bool.not_false, sortN, e2, decide_true]
    refine ⟨_, rfl, rfl, ?_⟩
    simp only [ret, retF, retN, seq, nxt, set, setO, par, parOO, ifs, drp, tst, bin, un, cal, calF, call', callF, mth, own2, prp, mk, tup, lst, lstF, frz, aN, aC, cV, cC, tand, tor, tnot, vand, vor, vnot, ite', chn, isi, asg, gn, g0, gc, gt, gl, itm, rng1, rng2, zpI, for', slc, pNo, pSo, rev, app, sti, popL, popA, addI, subI, mulI, powI, divI, modI, ltI, leI, gtI, geI, negI, iop, iopC, maxI, minI, i2, absI, ok, rs, rss, fzs, toSl, owns, putOs, putOwn, ownAt, fldD, yes', lc, nos, back, keepV, lcStep, sumD, lenD, tupD, lstD, two, cov, spD, rgD, eP, rgP, enOf, enOfF, outsG, srtP, srtS, List.getElem?_cons_zero, List.getElem?_cons_succ, List.set_cons_zero, List.set_cons_succ, List.map_cons, List.map_nil, Option.map_some, Option.map_none, List.nodup_nil, if_true, if_false, ite_true, ite_false, reduceIte, decide_eq_true_eq, List.cons_append, List.nil_append, List.append_nil, reduceCtorEq, List.length_cons, List.length_nil, Nat.reduceAdd, Nat.reduceLeDiff, Nat.reduceSub, List.replicate, Bool.not_true, Bool.not_false, sortN, e]
    exact h
/-- a cover of nothing, of one policy -/
theorem init_nil (K : D → Prop) (h : K (spD [])) : S_CoverX_initX [] K := .inr ⟨[], rfl, by decide, fun _ h => by simp at h, fun r nr pr lr => by
  have e : r = [] := List.length_eq_zero_iff.mp (by simpa using lr)
  rw [e]; exact h⟩
theorem init_one (p : Int × Int) (hp : okPol p) (K : D → Prop) (h : K (spD (polS p))) : S_CoverX_initX [eP p] K := .inr ⟨[p], rfl, by show (1 : Nat) ≤ 8; decide, fun q hq => by
    have e : q = p := by simpa using hq
    rw [e]; exact hp, fun r nr pr lr => by
  have e : r = polS p := pay_uniq nr (polS_norm hp) fun x => by
    rw [pr x]
    show x - (x - pay (polS p) x) = _
    omega
  rw [e]; exact h⟩
theorem d__law_made : ∀ as K, S__law_made as K → b__law_made (enOf as K) (as ++ List.replicate (N__law_made.length - as.length) .no) := by
  rintro as K ⟨ps, rfl, hl, hp, h⟩
  show b__law_made _ [.val (.tup (ps.map eP)), .no, .no]
  simp only [b__law_made, ret, retF, retN, seq, nxt, set, setO, par, parOO, ifs, drp, tst, bin, un, cal, calF, call', callF, mth, own2, prp, mk, tup, lst, lstF, frz, aN, aC, cV, cC, tand, tor, tnot, vand, vor, vnot, ite', chn, isi, asg, gn, g0, gc, gt, gl, itm, rng1, rng2, zpI, for', slc, pNo, pSo, rev, app, sti, popL, popA, addI, subI, mulI, powI, divI, modI, ltI, leI, gtI, geI, negI, iop, iopC, maxI, minI, i2, absI, ok, rs, rss, fzs, toSl, owns, putOs, putOwn, ownAt, fldD, yes', lc, nos, back, keepV, lcStep, sumD, lenD, tupD, lstD, two, cov, spD, rgD, eP, rgP, enOf, enOfF, outsG, srtP, srtS, List.getElem?_cons_zero, List.getElem?_cons_succ, List.set_cons_zero, List.set_cons_succ, List.map_cons, List.map_nil, Option.map_some, Option.map_none, List.nodup_nil, if_true, if_false, ite_true, ite_false, reduceIte, decide_eq_true_eq, List.cons_append, List.nil_append, List.append_nil, reduceCtorEq, List.length_cons, List.length_nil, Nat.reduceAdd, Nat.reduceLeDiff, Nat.reduceSub, List.replicate, Bool.not_true, Bool.not_false]
  refine init_nil _ ?_
  refine forGo_inv (enc := eP) (R := fun i ρ => ∃ (s : List (Int × Int)) (a : Sl), OfP (ps.take i) s ∧ ρ = [.val (.tup (ps.map eP)), .val (cov s), a]) ps 0 _ ⟨[], _, ofP_nil, rfl⟩ (fun j p ρ hj ⟨s, a, os, e⟩ nx hnx => ?_) (fun ρ ⟨s, a, os, e⟩ => ?_)
  · subst e
    have hjl : j < ps.length := (List.getElem?_eq_some_iff.mp hj).1
    have et : ps.take (0 + j + 1) = ps.take (0 + j) ++ [p] := by
      rw [List.take_add_one, Nat.zero_add, hj]; rfl
    have hpp := hp p (List.mem_of_getElem? hj)
    simp only [ret, retF, retN, seq, nxt, set, setO, par, parOO, ifs, drp, tst, bin, un, cal, calF, call', callF, mth, own2, prp, mk, tup, lst, lstF, frz, aN, aC, cV, cC, tand, tor, tnot, vand, vor, vnot, ite', chn, isi, asg, gn, g0, gc, gt, gl, itm, rng1, rng2, zpI, for', slc, pNo, pSo, rev, app, sti, popL, popA, addI, subI, mulI, powI, divI, modI, ltI, leI, gtI, geI, negI, iop, iopC, maxI, minI, i2, absI, ok, rs, rss, fzs, toSl, owns, putOs, putOwn, ownAt, fldD, yes', lc, nos, back, keepV, lcStep, sumD, lenD, tupD, lstD, two, cov, spD, rgD, eP, rgP, enOf, enOfF, outsG, srtP, srtS, List.getElem?_cons_zero, List.getElem?_cons_succ, List.set_cons_zero, List.set_cons_succ, List.map_cons, List.map_nil, Option.map_some, Option.map_none, List.nodup_nil, if_true, if_false, ite_true, ite_false, reduceIte, decide_eq_true_eq, List.cons_append, List.nil_append, List.append_nil, reduceCtorEq, List.length_cons, List.length_nil, Nat.reduceAdd, Nat.reduceLeDiff, Nat.reduceSub, List.replicate, Bool.not_true, Bool.not_false]
    refine init_one p hpp _ ?_
    simp only [ret, retF, retN, seq, nxt, set, setO, par, parOO, ifs, drp, tst, bin, un, cal, calF, call', callF, mth, own2, prp, mk, tup, lst, lstF, frz, aN, aC, cV, cC, tand, tor, tnot, vand, vor, vnot, ite', chn, isi, asg, gn, g0, gc, gt, gl, itm, rng1, rng2, zpI, for', slc, pNo, pSo, rev, app, sti, popL, popA, addI, subI, mulI, powI, divI, modI, ltI, leI, gtI, geI, negI, iop, iopC, maxI, minI, i2, absI, ok, rs, rss, fzs, toSl, owns, putOs, putOwn, ownAt, fldD, yes', lc, nos, back, keepV, lcStep, sumD, lenD, tupD, lstD, two, cov, spD, rgD, eP, rgP, enOf, enOfF, outsG, srtP, srtS, List.getElem?_cons_zero, List.getElem?_cons_succ, List.set_cons_zero, List.set_cons_succ, List.map_cons, List.map_nil, Option.map_some, Option.map_none, List.nodup_nil, if_true, if_false, ite_true, ite_false, reduceIte, decide_eq_true_eq, List.cons_append, List.nil_append, List.append_nil, reduceCtorEq, List.length_cons, List.length_nil, Nat.reduceAdd, Nat.reduceLeDiff, Nat.reduceSub, List.replicate, Bool.not_true, Bool.not_false]
    refine ⟨s, polS p, rfl, os.few (by rw [List.length_take]; omega), polS_few hpp, fun r hr => ?_⟩
    simp only [ret, retF, retN, seq, nxt, set, setO, par, parOO, ifs, drp, tst, bin, un, cal, calF, call', callF, mth, own2, prp, mk, tup, lst, lstF, frz, aN, aC, cV, cC, tand, tor, tnot, vand, vor, vnot, ite', chn, isi, asg, gn, g0, gc, gt, gl, itm, rng1, rng2, zpI, for', slc, pNo, pSo, rev, app, sti, popL, popA, addI, subI, mulI, powI, divI, modI, ltI, leI, gtI, geI, negI, iop, iopC, maxI, minI, i2, absI, ok, rs, rss, fzs, toSl, owns, putOs, putOwn, ownAt, fldD, yes', lc, nos, back, keepV, lcStep, sumD, lenD, tupD, lstD, two, cov, spD, rgD, eP, rgP, enOf, enOfF, outsG, srtP, srtS, List.getElem?_cons_zero, List.getElem?_cons_succ, List.set_cons_zero, List.set_cons_succ, List.map_cons, List.map_nil, Option.map_some, Option.map_none, List.nodup_nil, if_true, if_false, ite_true, ite_false, reduceIte, decide_eq_true_eq, List.cons_append, List.nil_append, List.append_nil, reduceCtorEq, List.length_cons, List.length_nil, Nat.reduceAdd, Nat.reduceLeDiff, Nat.reduceSub, List.replicate, Bool.not_true, Bool.not_false]
    exact hnx _ ⟨r, .val (eP p), by rw [et]; exact os.snoc hpp (polS_norm hpp) (fun _ => rfl) (Nat.le_refl _) hr, rfl⟩
  · subst e
    rw [Nat.zero_add, List.take_length] at os
    simp only [ret, retF, retN, seq, nxt, set, setO, par, parOO, ifs, drp, tst, bin, un, cal, calF, call', callF, mth, own2, prp, mk, tup, lst, lstF, frz, aN, aC, cV, cC, tand, tor, tnot, vand, vor, vnot, ite', chn, isi, asg, gn, g0, gc, gt, gl, itm, rng1, rng2, zpI, for', slc, pNo, pSo, rev, app, sti, popL, popA, addI, subI, mulI, powI, divI, modI, ltI, leI, gtI, geI, negI, iop, iopC, maxI, minI, i2, absI, ok, rs, rss, fzs, toSl, owns, putOs, putOwn, ownAt, fldD, yes', lc, nos, back, keepV, lcStep, sumD, lenD, tupD, lstD, two, cov, spD, rgD, eP, rgP, enOf, enOfF, outsG, srtP, srtS, List.getElem?_cons_zero, List.getElem?_cons_succ, List.set_cons_zero, List.set_cons_succ, List.map_cons, List.map_nil, Option.map_some, Option.map_none, List.nodup_nil, if_true, if_false, ite_true, ite_false, reduceIte, decide_eq_true_eq, List.cons_append, List.nil_append, List.append_nil, reduceCtorEq, List.length_cons, List.length_nil, Nat.reduceAdd, Nat.reduceLeDiff, Nat.reduceSub, List.replicate, Bool.not_true, Bool.not_false]
    exact h s os.n os.p os.l
theorem norm_app : ∀ {l m : List (Int × Int)} {a : Int}, NormF a (l ++ m) → NormF (lastE a l) m
  | [], m, a, n => n
  | p :: l, m, a, n => by
    have ih := norm_app (l := l) n.2.2
    cases l with
    | nil => exact ih
    | cons q l =>
      unfold lastE at ih ⊢
      rw [List.getLast?_cons_cons]
      cases z : (q :: l).getLast? with
      | none => simp at z
      | some y => rw [z] at ih; exact ih
/-- a policy ahead of what begins behind it -/
theorem chn_ahead {p : Int × Int} {s r : List (Int × Int)} {a : Int} (n : NormF a (p :: s)) (ha : -1 ≤ a) (h : Chn s [p] r) : r = p :: s := by
  have ns : Norm s := n.2.2.low (by have := n.1; have := n.2.1; omega)
  have nn : Norm (p :: s) := n.low ha
  refine pay_uniq h.1 nn fun x => ?_
  rw [h.2.1, pay_cons, pay_cons, pay_nil]
  have k1 := n.1
  have k2 := n.2.1
  by_cases c : x ≤ p.2
  · rw [pay_low n.2.2 (x := x) (by omega)]
    omega
  · have e := pay_low n.2.2 (x := p.2) (by omega)
    have z := pay_le n.2.2 (x := p.2) (y := x) (by omega)
    omega
theorem d__law_cover : ∀ as K, S__law_cover as K → b__law_cover (enOf as K) (as ++ List.replicate (N__law_cover.length - as.length) .no) := by
  rintro as K ⟨l, rfl, nl, hl, bl, h⟩
  show b__law_cover _ [.val (rgD l), .no, .no, .no]
  simp only [b__law_cover, ret, retF, retN, seq, nxt, set, setO, par, parOO, ifs, drp, tst, bin, un, cal, calF, call', callF, mth, own2, prp, mk, tup, lst, lstF, frz, aN, aC, cV, cC, tand, tor, tnot, vand, vor, vnot, ite', chn, isi, asg, gn, g0, gc, gt, gl, itm, rng1, rng2, zpI, for', slc, pNo, pSo, rev, app, sti, popL, popA, addI, subI, mulI, powI, divI, modI, ltI, leI, gtI, geI, negI, iop, iopC, maxI, minI, i2, absI, ok, rs, rss, fzs, toSl, owns, putOs, putOwn, ownAt, fldD, yes', lc, nos, back, keepV, lcStep, sumD, lenD, tupD, lstD, two, cov, spD, rgD, eP, rgP, enOf, enOfF, outsG, srtP, srtS, List.getElem?_cons_zero, List.getElem?_cons_succ, List.set_cons_zero, List.set_cons_succ, List.map_cons, List.map_nil, Option.map_some, Option.map_none, List.nodup_nil, if_true, if_false, ite_true, ite_false, reduceIte, decide_eq_true_eq, List.cons_append, List.nil_append, List.append_nil, reduceCtorEq, List.length_cons, List.length_nil, Nat.reduceAdd, Nat.reduceLeDiff, Nat.reduceSub, List.replicate, Bool.not_true, Bool.not_false]
  refine init_nil _ ?_
  have er : (l.map rgP).reverse = l.reverse.map rgP := (List.map_reverse).symm
  rw [er]
  refine forGo_inv (enc := rgP) (R := fun i ρ => ∃ (a b : Sl), ρ = [.val (rgD l), .val (cov (l.reverse.take i).reverse), a, b]) l.reverse 0 _ ⟨_, _, rfl⟩ (fun j p ρ hj ⟨a, b, e⟩ nx hnx => ?_) (fun ρ ⟨a, b, e⟩ => ?_)
  · subst e
    have hjl : j < l.reverse.length := (List.getElem?_eq_some_iff.mp hj).1
    have et : (l.reverse.take (0 + j + 1)).reverse = p :: (l.reverse.take (0 + j)).reverse := by
      rw [List.take_add_one, Nat.zero_add, hj, List.reverse_append]; rfl
    have hml : p ∈ l := List.mem_reverse.mp (List.mem_of_getElem? hj)
    -- l is what comes ahead, then p, then the taken ones
    have split : l = (l.reverse.drop (j + 1)).reverse ++ (p :: (l.reverse.take j).reverse) := by
      have z := List.take_append_drop (j + 1) l.reverse
      have z2 : l = ((l.reverse.take (j + 1)) ++ l.reverse.drop (j + 1)).reverse := by rw [z, List.reverse_reverse]
      rw [List.reverse_append] at z2
      rw [Nat.zero_add] at et
      rw [et] at z2
      exact z2
    have nn : NormF (lastE (-1) (l.reverse.drop (j + 1)).reverse) (p :: (l.reverse.take j).reverse) := norm_app (by rw [← split]; exact nl)
    have pm := norm_mem nl hml
    have pb := bl p hml
    have ns : Norm (p :: (l.reverse.take j).reverse) := by
      have := nn
      exact ⟨by have := pm.1; omega, this.2.1, this.2.2⟩
    simp only [ret, retF, retN, seq, nxt, set, setO, par, parOO, ifs, drp, tst, bin, un, cal, calF, call', callF, mth, own2, prp, mk, tup, lst, lstF, frz, aN, aC, cV, cC, tand, tor, tnot, vand, vor, vnot, ite', chn, isi, asg, gn, g0, gc, gt, gl, itm, rng1, rng2, zpI, for', slc, pNo, pSo, rev, app, sti, popL, popA, addI, subI, mulI, powI, divI, modI, ltI, leI, gtI, geI, negI, iop, iopC, maxI, minI, i2, absI, ok, rs, rss, fzs, toSl, owns, putOs, putOwn, ownAt, fldD, yes', lc, nos, back, keepV, lcStep, sumD, lenD, tupD, lstD, two, cov, spD, rgD, eP, rgP, enOf, enOfF, outsG, srtP, srtS, List.getElem?_cons_zero, List.getElem?_cons_succ, List.set_cons_zero, List.set_cons_succ, List.map_cons, List.map_nil, Option.map_some, Option.map_none, List.nodup_nil, if_true, if_false, ite_true, ite_false, reduceIte, decide_eq_true_eq, List.cons_append, List.nil_append, List.append_nil, reduceCtorEq, List.length_cons, List.length_nil, Nat.reduceAdd, Nat.reduceLeDiff, Nat.reduceSub, List.replicate, Bool.not_true, Bool.not_false, add_ii]
    rw [sl_line]
    simp only [ret, retF, retN, seq, nxt, set, setO, par, parOO, ifs, drp, tst, bin, un, cal, calF, call', callF, mth, own2, prp, mk, tup, lst, lstF, frz, aN, aC, cV, cC, tand, tor, tnot, vand, vor, vnot, ite', chn, isi, asg, gn, g0, gc, gt, gl, itm, rng1, rng2, zpI, for', slc, pNo, pSo, rev, app, sti, popL, popA, addI, subI, mulI, powI, divI, modI, ltI, leI, gtI, geI, negI, iop, iopC, maxI, minI, i2, absI, ok, rs, rss, fzs, toSl, owns, putOs, putOwn, ownAt, fldD, yes', lc, nos, back, keepV, lcStep, sumD, lenD, tupD, lstD, two, cov, spD, rgD, eP, rgP, enOf, enOfF, outsG, srtP, srtS, List.getElem?_cons_zero, List.getElem?_cons_succ, List.set_cons_zero, List.set_cons_succ, List.map_cons, List.map_nil, Option.map_some, Option.map_none, List.nodup_nil, if_true, if_false, ite_true, ite_false, reduceIte, decide_eq_true_eq, List.cons_append, List.nil_append, List.append_nil, reduceCtorEq, List.length_cons, List.length_nil, Nat.reduceAdd, Nat.reduceLeDiff, Nat.reduceSub, List.replicate, Bool.not_true, Bool.not_false]
    have ok1 : okPol (p.1, p.2 - p.1) := ⟨by have := pm.1; show 0 ≤ p.1; omega, by show p.1 ≤ 1000000; omega, by show 1 ≤ p.2 - p.1; omega, by show p.2 - p.1 ≤ 1000000; omega⟩
    have ea : p.1 + 1 - 1 = p.1 := by omega
    have eb : p.2 - (p.1 + 1) + 1 = p.2 - p.1 := by omega
    rw [ea, eb]
    refine init_one (p.1, p.2 - p.1) ok1 _ ?_
    have ep : polS (p.1, p.2 - p.1) = [p] := by
      show [(p.1, p.1 + (p.2 - p.1))] = [p]
      have : p.1 + (p.2 - p.1) = p.2 := by omega
      rw [this]
    rw [ep]
    simp only [ret, retF, retN, seq, nxt, set, setO, par, parOO, ifs, drp, tst, bin, un, cal, calF, call', callF, mth, own2, prp, mk, tup, lst, lstF, frz, aN, aC, cV, cC, tand, tor, tnot, vand, vor, vnot, ite', chn, isi, asg, gn, g0, gc, gt, gl, itm, rng1, rng2, zpI, for', slc, pNo, pSo, rev, app, sti, popL, popA, addI, subI, mulI, powI, divI, modI, ltI, leI, gtI, geI, negI, iop, iopC, maxI, minI, i2, absI, ok, rs, rss, fzs, toSl, owns, putOs, putOwn, ownAt, fldD, yes', lc, nos, back, keepV, lcStep, sumD, lenD, tupD, lstD, two, cov, spD, rgD, eP, rgP, enOf, enOfF, outsG, srtP, srtS, List.getElem?_cons_zero, List.getElem?_cons_succ, List.set_cons_zero, List.set_cons_succ, List.map_cons, List.map_nil, Option.map_some, Option.map_none, List.nodup_nil, if_true, if_false, ite_true, ite_false, reduceIte, decide_eq_true_eq, List.cons_append, List.nil_append, List.append_nil, reduceCtorEq, List.length_cons, List.length_nil, Nat.reduceAdd, Nat.reduceLeDiff, Nat.reduceSub, List.replicate, Bool.not_true, Bool.not_false]
    have fs : Few (l.reverse.take (0 + j)).reverse := by
      rw [Nat.zero_add]
      refine ⟨ns.2.2.low (by have := ns.1; have := ns.2.1; omega), by rw [List.length_reverse, List.length_take]; rw [List.length_reverse] at hjl ⊢; omega, fun q hq => ?_⟩
      have := bl q (List.mem_reverse.mp (List.mem_of_mem_take (List.mem_reverse.mp hq)))
      omega
    have f1 : Few [p] := ⟨⟨by have := pm.1; omega, pm.2, True.intro⟩, by show (1 : Nat) ≤ 200; decide, fun q hq => by
      have e : q = p := by simpa using hq
      rw [e]; omega⟩
    refine ⟨_, [p], rfl, fs, f1, fun r hr => ?_⟩
    simp only [ret, retF, retN, seq, nxt, set, setO, par, parOO, ifs, drp, tst, bin, un, cal, calF, call', callF, mth, own2, prp, mk, tup, lst, lstF, frz, aN, aC, cV, cC, tand, tor, tnot, vand, vor, vnot, ite', chn, isi, asg, gn, g0, gc, gt, gl, itm, rng1, rng2, zpI, for', slc, pNo, pSo, rev, app, sti, popL, popA, addI, subI, mulI, powI, divI, modI, ltI, leI, gtI, geI, negI, iop, iopC, maxI, minI, i2, absI, ok, rs, rss, fzs, toSl, owns, putOs, putOwn, ownAt, fldD, yes', lc, nos, back, keepV, lcStep, sumD, lenD, tupD, lstD, two, cov, spD, rgD, eP, rgP, enOf, enOfF, outsG, srtP, srtS, List.getElem?_cons_zero, List.getElem?_cons_succ, List.set_cons_zero, List.set_cons_succ, List.map_cons, List.map_nil, Option.map_some, Option.map_none, List.nodup_nil, if_true, if_false, ite_true, ite_false, reduceIte, decide_eq_true_eq, List.cons_append, List.nil_append, List.append_nil, reduceCtorEq, List.length_cons, List.length_nil, Nat.reduceAdd, Nat.reduceLeDiff, Nat.reduceSub, List.replicate, Bool.not_true, Bool.not_false]
    rw [Nat.zero_add] at hr
    have e := chn_ahead ns (by omega) hr
    refine hnx _ ⟨.val (.int (p.1 + 1)), .val (.int p.2), ?_⟩
    rw [et, Nat.zero_add, ← e]
    rfl
  · subst e
    have ef : (l.reverse.take (0 + l.reverse.length)).reverse = l := by rw [Nat.zero_add, List.take_length, List.reverse_reverse]
    rw [ef]
    simp only [ret, retF, retN, seq, nxt, set, setO, par, parOO, ifs, drp, tst, bin, un, cal, calF, call', callF, mth, own2, prp, mk, tup, lst, lstF, frz, aN, aC, cV, cC, tand, tor, tnot, vand, vor, vnot, ite', chn, isi, asg, gn, g0, gc, gt, gl, itm, rng1, rng2, zpI, for', slc, pNo, pSo, rev, app, sti, popL, popA, addI, subI, mulI, powI, divI, modI, ltI, leI, gtI, geI, negI, iop, iopC, maxI, minI, i2, absI, ok, rs, rss, fzs, toSl, owns, putOs, putOwn, ownAt, fldD, yes', lc, nos, back, keepV, lcStep, sumD, lenD, tupD, lstD, two, cov, spD, rgD, eP, rgP, enOf, enOfF, outsG, srtP, srtS, List.getElem?_cons_zero, List.getElem?_cons_succ, List.set_cons_zero, List.set_cons_succ, List.map_cons, List.map_nil, Option.map_some, Option.map_none, List.nodup_nil, if_true, if_false, ite_true, ite_false, reduceIte, decide_eq_true_eq, List.cons_append, List.nil_append, List.append_nil, reduceCtorEq, List.length_cons, List.length_nil, Nat.reduceAdd, Nat.reduceLeDiff, Nat.reduceSub, List.replicate, Bool.not_true, Bool.not_false]
    exact h
end DL
set_option Elab.async false
set_option linter.all false
set_option maxRecDepth 100000
set_option maxHeartbeats 1000000
namespace DL
open PySem PySem.Spec PyProof.Rows L2 CV
def rgS (p : Int × Int) : Int × Int := (p.1 + 1, p.2)
theorem rgP_map (l : List (Int × Int)) : l.map rgP = (l.map rgS).map eP := by rw [List.map_map]; rfl
theorem ne_rg (acc : List (Int × Int)) : neD (.lst (acc.map rgP)) (.lst []) = some (.bl (!decide (acc = []))) := by
  have z := (eq_lst (acc.map rgS) []).2
  rw [← rgP_map] at z
  rw [List.map_nil] at z
  rw [z]
  cases acc <;> simp
theorem ix_ints {l : List Int} {k : Nat} (h : k < l.length) : ixD (intsD l) (.int (k : Int)) = some (.int (l[k]'h)) := by
  show atI (l.map D.int) (k : Int) = _
  rw [atI_nat (by rw [List.length_map]; exact h), List.getElem?_map, List.getElem?_eq_getElem h]
  rfl
/-- what is known of the ranges while they grow -/
structure Pg (f : Nat → Int) (i : Nat) (acc : List (Int × Int)) : Prop where
  n : Norm acc
  b : ∀ q ∈ acc, q.1 ≤ i ∧ q.2 ≤ i
  c : ∀ t : Int, Cov acc t ↔ ∃ k : Nat, 1 ≤ k ∧ k ≤ i ∧ t = k ∧ f k > f (k - 1)
  l : acc.length ≤ i
theorem pg0 (f : Nat → Int) : Pg f 0 [] := ⟨True.intro, fun _ h => by simp at h, fun t => ⟨fun h => (cov_nil h).elim, fun ⟨k, h1, h2, _⟩ => by omega⟩, Nat.le_refl _⟩
theorem Pg.no {f : Nat → Int} {i : Nat} {acc : List (Int × Int)} (h : Pg f i acc) (k : ¬ f (i + 1) > f i) : Pg f (i + 1) acc :=
  ⟨h.n, fun q hq => by have := h.b q hq; omega, fun t => by
    rw [h.c t]
    constructor
    · rintro ⟨j, a, b, c⟩
      exact ⟨j, a, by omega, c⟩
    · rintro ⟨j, a, b, c, d⟩
      by_cases e : j = i + 1
      · subst e
        exact (k d).elim
      · exact ⟨j, a, by omega, c, d⟩, by have := h.l; omega⟩
theorem Pg.yes {f : Nat → Int} {i : Nat} {acc : List (Int × Int)} (h : Pg f i acc) (k : f (i + 1) > f i) : Pg f (i + 1) (join1 acc ((i : Int), (i : Int) + 1)) := by
  obtain ⟨j1, j2, j3, j4⟩ := join1_ok (p := ((i : Int), (i : Int) + 1)) h.n (by show (-1 : Int) < i; omega) (fun q hq => (h.b q hq).1)
  refine ⟨j1, fun q hq => ?_, fun t => ?_, by have := h.l; omega⟩
  · have a := j4 q hq
    have a' : q.1 ≤ (i : Int) := a
    have m := norm_mem j1 hq
    have c : Cov (join1 acc ((i : Int), (i : Int) + 1)) q.2 := ⟨q, hq, m.2, Int.le_refl _⟩
    rcases (j2 q.2).mp c with ⟨p, hp, _, z⟩ | z
    · have := h.b p hp; omega
    · have z' : (i : Int) < q.2 ∧ q.2 ≤ (i : Int) + 1 := z
      omega
  · rw [j2 t, h.c t]
    constructor
    · rintro (⟨j, a, b, c, d⟩ | z)
      · exact ⟨j, a, by omega, c, d⟩
      · have z' : (i : Int) < t ∧ t ≤ (i : Int) + 1 := z
        exact ⟨i + 1, by omega, by omega, by omega, k⟩
    · rintro ⟨j, a, b, c, d⟩
      by_cases e : j = i + 1
      · subst e
        exact .inr (show (i : Int) < t ∧ t ≤ (i : Int) + 1 by omega)
      · exact .inl ⟨j, a, by omega, c, d⟩
theorem seq_own0 {i : Nat} {u : TS'} {P : En} {ρ : Rho} (k : u P (ρ.set i (.own false []))) : seq (setO i (lstF aN)) u P ρ := by
  show ok (fzs []) fun ds => if ds.length ≤ PySem.sizeLine then u P (ρ.set i (.own false ds)) else False
  show (if (0 : Nat) ≤ PySem.sizeLine then _ else False)
  rw [if_pos (Nat.zero_le _)]
  exact k
theorem ev_len {t : TE'} {ρ : Rho} {d c : D} (h : Ev t ρ d) (e : lenD [d] = some c) : Ev (cal lenD (aC t aN)) ρ c := fun Q q => by
  refine h _ ?_
  show ok (lenD [d]) _
  rw [e]
  exact q
theorem seq_rng2 {ta tb : TE'} {g : TG'} {b u : TS'} {P : En} {ρ : Rho} {i j : Int} (ha : Ev ta ρ (.int i)) (hb : Ev tb ρ (.int j)) (h : -(2 ^ 62) ≤ i ∧ i < 2 ^ 62 ∧ -(2 ^ 62) ≤ j ∧ j < 2 ^ 62) (k : forGo g b { P with nx := u P } (rangeD i j) ρ) : seq (for' (rng2 ta tb) g b) u P ρ := by
  unfold seq for' rng2
  refine ha _ (hb _ ?_)
  dsimp only
  rw [if_pos h]
  exact k
theorem seq_rng1 {ta : TE'} {g : TG'} {b u : TS'} {P : En} {ρ : Rho} {j : Int} (ha : Ev ta ρ (.int j)) (h : -(2 ^ 62) ≤ j ∧ j < 2 ^ 62) (k : forGo g b { P with nx := u P } (rangeD 0 j) ρ) : seq (for' (rng1 ta) g b) u P ρ := by
  unfold seq for' rng1
  refine ha _ ?_
  dsimp only
  rw [if_pos h]
  exact k
theorem pairs_core {f : Nat → Int} {n : Nat} {x0 : D} {P : En} (hx0 : x0 = intsD ((List.range n).map f)) (h1 : 1 ≤ n) (hn : n ≤ 1000) (fin : ∀ (acc : List (Int × Int)) (ρ : Rho), Pg f (n - 1) acc → P.rt (.d (.tup (acc.map rgP))) ρ) : b__law_pairs P [.val x0, .no, .no] := by
  have hlen : ((List.range n).map f).length = n := by rw [List.length_map, List.length_range]
  have hl : lenD [x0] = some (.int (n : Int)) := by
    rw [hx0]
    show some (D.int ((((List.range n).map f).map D.int).length : Nat)) = _
    rw [List.length_map, hlen]
  unfold b__law_pairs
  refine seq_own0 ?_
  refine seq_rng2 (i := 1) (j := (n : Int)) (ev_c _ _) (ev_len (ev_v (d := x0) rfl) hl) (by omega) ?_
  have er : rangeD 1 (n : Int) = (List.range ((n : Int) - 1).toNat).map fun i => D.int (1 + (i : Nat)) := rfl
  rw [er]
  refine forGo_inv (enc := fun i : Nat => D.int (1 + (i : Int))) (R := fun i ρ => ∃ (acc : List (Int × Int)) (a : Sl), Pg f i acc ∧ ρ = [.val x0, .own false (acc.map rgP), a]) _ 0 _ ⟨[], _, pg0 f, rfl⟩ (fun j x ρ hj ⟨acc, a, pg, e⟩ nx hnx => ?_) (fun ρ ⟨acc, a, pg, e⟩ => ?_)
  · subst e
    obtain ⟨hjl, hx⟩ := List.getElem?_eq_some_iff.mp hj
    rw [List.length_range] at hjl
    rw [List.getElem_range] at hx
    subst hx
    rw [Nat.zero_add] at pg hnx
    have i1 : ixD x0 (.int (1 + (j : Int))) = some (.int (f (j + 1))) := by
      have z := ix_ints (l := (List.range n).map f) (k := j + 1) (by rw [hlen]; omega)
      have e : (1 + (j : Int)) = ((j + 1 : Nat) : Int) := by omega
      rw [e, hx0]
      rw [List.getElem_map, List.getElem_range] at z
      exact z
    have i0 : ixD x0 (.int (1 + (j : Int) - 1)) = some (.int (f j)) := by
      have z := ix_ints (l := (List.range n).map f) (k := j) (by rw [hlen]; omega)
      have e : (1 + (j : Int) - 1) = (j : Int) := by omega
      rw [e, hx0]
      rw [List.getElem_map, List.getElem_range] at z
      exact z
    simp only [ret, retF, retN, seq, nxt, set, setO, par, parOO, ifs, drp, tst, bin, un, cal, calF, call', callF, mth, own2, prp, mk, tup, lst, lstF, frz, aN, aC, cV, cC, tand, tor, tnot, vand, vor, vnot, ite', chn, isi, asg, gn, g0, gc, gt, gl, itm, rng1, rng2, zpI, for', slc, pNo, pSo, rev, app, sti, popL, popA, addI, subI, mulI, powI, divI, modI, ltI, leI, gtI, geI, negI, iop, iopC, maxI, minI, i2, absI, ok, rs, rss, fzs, toSl, owns, putOs, putOwn, ownAt, fldD, yes', lc, nos, back, keepV, lcStep, sumD, lenD, tupD, lstD, two, cov, spD, rgD, eP, rgP, enOf, enOfF, outsG, srtP, srtS, List.getElem?_cons_zero, List.getElem?_cons_succ, List.set_cons_zero, List.set_cons_succ, List.map_cons, List.map_nil, Option.map_some, Option.map_none, List.nodup_nil, if_true, if_false, ite_true, ite_false, reduceIte, decide_eq_true_eq, List.cons_append, List.nil_append, List.append_nil, reduceCtorEq, List.length_cons, List.length_nil, Nat.reduceAdd, Nat.reduceLeDiff, Nat.reduceSub, List.replicate, Bool.not_true, Bool.not_false, i1, i0]
    by_cases c : f j < f (j + 1)
    · simp only [c, decide_true, if_true, ne_rg]
      have py := pg.yes c
      rcases List.eq_nil_or_concat acc with e0 | ⟨ac, q, e0⟩
      · subst e0
        simp only [ret, retF, retN, seq, nxt, set, setO, par, parOO, ifs, drp, tst, bin, un, cal, calF, call', callF, mth, own2, prp, mk, tup, lst, lstF, frz, aN, aC, cV, cC, tand, tor, tnot, vand, vor, vnot, ite', chn, isi, asg, gn, g0, gc, gt, gl, itm, rng1, rng2, zpI, for', slc, pNo, pSo, rev, app, sti, popL, popA, addI, subI, mulI, powI, divI, modI, ltI, leI, gtI, geI, negI, iop, iopC, maxI, minI, i2, absI, ok, rs, rss, fzs, toSl, owns, putOs, putOwn, ownAt, fldD, yes', lc, nos, back, keepV, lcStep, sumD, lenD, tupD, lstD, two, cov, spD, rgD, eP, rgP, enOf, enOfF, outsG, srtP, srtS, List.getElem?_cons_zero, List.getElem?_cons_succ, List.set_cons_zero, List.set_cons_succ, List.map_cons, List.map_nil, Option.map_some, Option.map_none, List.nodup_nil, if_true, if_false, ite_true, ite_false, reduceIte, decide_eq_true_eq, List.cons_append, List.nil_append, List.append_nil, reduceCtorEq, List.length_cons, List.length_nil, Nat.reduceAdd, Nat.reduceLeDiff, Nat.reduceSub, List.replicate, Bool.not_true, Bool.not_false, decide_true, Bool.false_eq_true]
        rw [sl_line]
        simp only [ret, retF, retN, seq, nxt, set, setO, par, parOO, ifs, drp, tst, bin, un, cal, calF, call', callF, mth, own2, prp, mk, tup, lst, lstF, frz, aN, aC, cV, cC, tand, tor, tnot, vand, vor, vnot, ite', chn, isi, asg, gn, g0, gc, gt, gl, itm, rng1, rng2, zpI, for', slc, pNo, pSo, rev, app, sti, popL, popA, addI, subI, mulI, powI, divI, modI, ltI, leI, gtI, geI, negI, iop, iopC, maxI, minI, i2, absI, ok, rs, rss, fzs, toSl, owns, putOs, putOwn, ownAt, fldD, yes', lc, nos, back, keepV, lcStep, sumD, lenD, tupD, lstD, two, cov, spD, rgD, eP, rgP, enOf, enOfF, outsG, srtP, srtS, List.getElem?_cons_zero, List.getElem?_cons_succ, List.set_cons_zero, List.set_cons_succ, List.map_cons, List.map_nil, Option.map_some, Option.map_none, List.nodup_nil, if_true, if_false, ite_true, ite_false, reduceIte, decide_eq_true_eq, List.cons_append, List.nil_append, List.append_nil, reduceCtorEq, List.length_cons, List.length_nil, Nat.reduceAdd, Nat.reduceLeDiff, Nat.reduceSub, List.replicate, Bool.not_true, Bool.not_false]
        refine hnx _ ⟨_, .val (.int (1 + (j : Int))), py, ?_⟩
        have ej : join1 [] ((j : Int), (j : Int) + 1) = [((j : Int), (j : Int) + 1)] := by
          unfold join1
          rw [if_pos (show (j : Int) + 1 > (j : Int) by omega)]
          rfl
        rw [ej]
        have e2 : 1 + (j : Int) = (j : Int) + 1 := by omega
        simp [rgP, eP, e2]
      · rw [List.concat_eq_append] at e0
        subst e0
        have nn : decide (ac ++ [q] = []) = false := decide_eq_false (by simp)
        have em : (ac ++ [q]).map rgP = ac.map rgP ++ [rgP q] := by simp
        have at1 : atI ((ac ++ [q]).map rgP) (-1) = some (rgP q) := by rw [em]; exact atI_last _ _
        have bq := pg.b q (by simp)
        have ll := pg.l
        have jd : join1 (ac ++ [q]) ((j : Int), (j : Int) + 1) = if (j : Int) ≤ q.2 then ac ++ [(q.1, max ((j : Int) + 1) q.2)] else ac ++ [q] ++ [((j : Int), (j : Int) + 1)] := by
          unfold join1
          rw [if_pos (show (j : Int) + 1 > (j : Int) by omega), List.getLast?_concat]
          simp only [List.dropLast_concat]
        simp only [nn, ret, retF, retN, seq, nxt, set, setO, par, parOO, ifs, drp, tst, bin, un, cal, calF, call', callF, mth, own2, prp, mk, tup, lst, lstF, frz, aN, aC, cV, cC, tand, tor, tnot, vand, vor, vnot, ite', chn, isi, asg, gn, g0, gc, gt, gl, itm, rng1, rng2, zpI, for', slc, pNo, pSo, rev, app, sti, popL, popA, addI, subI, mulI, powI, divI, modI, ltI, leI, gtI, geI, negI, iop, iopC, maxI, minI, i2, absI, ok, rs, rss, fzs, toSl, owns, putOs, putOwn, ownAt, fldD, yes', lc, nos, back, keepV, lcStep, sumD, lenD, tupD, lstD, two, cov, spD, rgD, eP, rgP, enOf, enOfF, outsG, srtP, srtS, List.getElem?_cons_zero, List.getElem?_cons_succ, List.set_cons_zero, List.set_cons_succ, List.map_cons, List.map_nil, Option.map_some, Option.map_none, List.nodup_nil, if_true, if_false, ite_true, ite_false, reduceIte, decide_eq_true_eq, List.cons_append, List.nil_append, List.append_nil, reduceCtorEq, List.length_cons, List.length_nil, Nat.reduceAdd, Nat.reduceLeDiff, Nat.reduceSub, List.replicate, Bool.not_true, Bool.not_false, ixD, at1, atI_0, atI_1, (eq_int _ _).1]
        by_cases d : q.2 = 1 + (j : Int) - 1
        · simp only [d, decide_true, if_true, ret, retF, retN, seq, nxt, set, setO, par, parOO, ifs, drp, tst, bin, un, cal, calF, call', callF, mth, own2, prp, mk, tup, lst, lstF, frz, aN, aC, cV, cC, tand, tor, tnot, vand, vor, vnot, ite', chn, isi, asg, gn, g0, gc, gt, gl, itm, rng1, rng2, zpI, for', slc, pNo, pSo, rev, app, sti, popL, popA, addI, subI, mulI, powI, divI, modI, ltI, leI, gtI, geI, negI, iop, iopC, maxI, minI, i2, absI, ok, rs, rss, fzs, toSl, owns, putOs, putOwn, ownAt, fldD, yes', lc, nos, back, keepV, lcStep, sumD, lenD, tupD, lstD, two, cov, spD, rgD, eP, rgP, enOf, enOfF, outsG, srtP, srtS, List.getElem?_cons_zero, List.getElem?_cons_succ, List.set_cons_zero, List.set_cons_succ, List.map_cons, List.map_nil, Option.map_some, Option.map_none, List.nodup_nil, if_true, if_false, ite_true, ite_false, reduceIte, decide_eq_true_eq, List.cons_append, List.nil_append, List.append_nil, reduceCtorEq, List.length_cons, List.length_nil, Nat.reduceAdd, Nat.reduceLeDiff, Nat.reduceSub, List.replicate, Bool.not_true, Bool.not_false, ixD, at1, atI_0]
          have il : ixN ((ac ++ [q]).map rgP).length (-1) = some ac.length := by
            rw [List.length_map, List.length_append, List.length_singleton]
            unfold ixN
            rw [if_neg (by decide), if_pos (by omega)]
            congr 1
            omega
          rw [sl_line]
          rw [il]
          simp only [ret, retF, retN, seq, nxt, set, setO, par, parOO, ifs, drp, tst, bin, un, cal, calF, call', callF, mth, own2, prp, mk, tup, lst, lstF, frz, aN, aC, cV, cC, tand, tor, tnot, vand, vor, vnot, ite', chn, isi, asg, gn, g0, gc, gt, gl, itm, rng1, rng2, zpI, for', slc, pNo, pSo, rev, app, sti, popL, popA, addI, subI, mulI, powI, divI, modI, ltI, leI, gtI, geI, negI, iop, iopC, maxI, minI, i2, absI, ok, rs, rss, fzs, toSl, owns, putOs, putOwn, ownAt, fldD, yes', lc, nos, back, keepV, lcStep, sumD, lenD, tupD, lstD, two, cov, spD, rgD, eP, rgP, enOf, enOfF, outsG, srtP, srtS, List.getElem?_cons_zero, List.getElem?_cons_succ, List.set_cons_zero, List.set_cons_succ, List.map_cons, List.map_nil, Option.map_some, Option.map_none, List.nodup_nil, if_true, if_false, ite_true, ite_false, reduceIte, decide_eq_true_eq, List.cons_append, List.nil_append, List.append_nil, reduceCtorEq, List.length_cons, List.length_nil, Nat.reduceAdd, Nat.reduceLeDiff, Nat.reduceSub, List.replicate, Bool.not_true, Bool.not_false]
          refine hnx _ ⟨_, .val (.int (1 + (j : Int))), py, ?_⟩
          rw [jd, if_pos (by omega)]
          have e2 : max ((j : Int) + 1) q.2 = 1 + (j : Int) := by omega
          rw [e2, em]
          have e3 : (ac.map rgP ++ [rgP q]).set ac.length (D.tup [.int (q.1 + 1), .int (1 + (j : Int))]) = ac.map rgP ++ [D.tup [.int (q.1 + 1), .int (1 + (j : Int))]] := by
            rw [List.set_append_right _ _ (by rw [List.length_map]; exact Nat.le_refl _), List.length_map, Nat.sub_self]
            rfl
          rw [e3]
          simp [rgP, eP]
        · simp only [d, decide_false, if_false, Bool.false_eq_true]
          rw [sl_line]
          have hz : ((ac ++ [q]).map rgP).length < 16777216 := by rw [List.length_map]; omega
          rw [if_pos hz]
          refine hnx _ ⟨_, .val (.int (1 + (j : Int))), py, ?_⟩
          rw [jd, if_neg (by omega)]
          have e2 : 1 + (j : Int) = (j : Int) + 1 := by omega
          simp [rgP, eP, e2]
    · simp only [c, decide_false, if_false, Bool.false_eq_true]
      exact hnx _ ⟨acc, .val (.int (1 + (j : Int))), pg.no c, rfl⟩
  · subst e
    have en : 0 + (List.range ((n : Int) - 1).toNat).length = n - 1 := by rw [List.length_range]; omega
    rw [en] at pg
    simp only [ret, retF, retN, seq, nxt, set, setO, par, parOO, ifs, drp, tst, bin, un, cal, calF, call', callF, mth, own2, prp, mk, tup, lst, lstF, frz, aN, aC, cV, cC, tand, tor, tnot, vand, vor, vnot, ite', chn, isi, asg, gn, g0, gc, gt, gl, itm, rng1, rng2, zpI, for', slc, pNo, pSo, rev, app, sti, popL, popA, addI, subI, mulI, powI, divI, modI, ltI, leI, gtI, geI, negI, iop, iopC, maxI, minI, i2, absI, ok, rs, rss, fzs, toSl, owns, putOs, putOwn, ownAt, fldD, yes', lc, nos, back, keepV, lcStep, sumD, lenD, tupD, lstD, two, cov, spD, rgD, eP, rgP, enOf, enOfF, outsG, srtP, srtS, List.getElem?_cons_zero, List.getElem?_cons_succ, List.set_cons_zero, List.set_cons_succ, List.map_cons, List.map_nil, Option.map_some, Option.map_none, List.nodup_nil, if_true, if_false, ite_true, ite_false, reduceIte, decide_eq_true_eq, List.cons_append, List.nil_append, List.append_nil, reduceCtorEq, List.length_cons, List.length_nil, Nat.reduceAdd, Nat.reduceLeDiff, Nat.reduceSub, List.replicate, Bool.not_true, Bool.not_false]
    exact fin acc _ pg
theorem d__law_pairs : ∀ as K, S__law_pairs as K → b__law_pairs (enOf as K) (as ++ List.replicate (N__law_pairs.length - as.length) .no) := by
  intro as K h0
  obtain ⟨f, n, e00, h1, hn, h⟩ := h0
  generalize hx : intsD ((List.range n).map f) = x at e00
  subst e00
  have fin : ∀ (acc : List (Int × Int)) (ρ : Rho), Pg f (n - 1) acc → (enOf [Sl.val x] K).rt (.d (.tup (acc.map rgP))) ρ := fun acc ρ p => by
    show K (rgD acc) []
    exact h acc ⟨p.n, fun t => by
      rw [p.c t]
      exact ⟨fun ⟨k, a, b, c⟩ => ⟨k, a, by omega, c⟩, fun ⟨k, a, b, c⟩ => ⟨k, a, by omega, c⟩⟩, by have := p.l; omega⟩
  exact pairs_core hx.symm h1 hn fin
end DL
set_option Elab.async false
set_option linter.all false
set_option maxRecDepth 100000
set_option maxHeartbeats 1000000
namespace DL
open PySem PySem.Spec PyProof.Rows L2 CV
theorem row_eq (row : List Int) : row = (List.range row.length).map fun k => row.getD k 0 := by
  refine List.ext_getElem (by simp) fun i h1 h2 => ?_
  simp [h1]
/-- rows of a grown table -/
structure Rw (i : Nat) (R : List (List Int)) : Prop where
  ne : R ≠ []
  l : R.length ≤ 2 ^ i
  r : ∀ row ∈ R, row.length = i + 1
theorem sets_turn {i : Nat} {R : List (List Int)} {x0 a b c : Sl} {P : En} (hi : i < 8) (h : Rw i R) (k : ∀ (R' : List (List Int)) (b c : Sl), Rw (i + 1) R' → P.nx [x0, .val (.lst (R'.map intsD)), a, b, c]) :
    (seq (set 3 (frz (lstF aN))) (seq (for' (itm (cV 1)) (gn 4) (set 3 (bin addD (cV 3) (frz (lstF (aC (bin addD (cV 4) (frz (lstF (aC (bin ixD (cV 4) (un negI (cC (.int 1)))) (aN))))) (aC (bin addD (cV 4) (frz (lstF (aC (bin addD (bin ixD (cV 4) (un negI (cC (.int 1)))) (cC (.int 1))) (aN))))) (aN)))))))) (set 1 (cV 3)))) P [x0, .val (.lst (R.map intsD)), a, b, c] := by
  have hl := h.l
  have h256 : (2 : Nat) ^ i ≤ 128 := by
    have z := Nat.pow_le_pow_right (n := 2) (by decide) (show i ≤ 7 by omega)
    exact Nat.le_trans z (by decide)
  simp only [ret, retF, retN, seq, nxt, set, setO, par, parOO, ifs, drp, tst, bin, un, cal, calF, call', callF, mth, own2, prp, mk, tup, lst, lstF, frz, aN, aC, cV, cC, tand, tor, tnot, vand, vor, vnot, ite', chn, isi, asg, gn, g0, gc, gt, gl, itm, rng1, rng2, zpI, for', slc, pNo, pSo, rev, app, sti, popL, popA, addI, subI, mulI, powI, divI, modI, ltI, leI, gtI, geI, negI, iop, iopC, maxI, minI, i2, absI, ok, rs, rss, fzs, toSl, owns, putOs, putOwn, ownAt, fldD, yes', lc, nos, back, keepV, lcStep, sumD, lenD, tupD, lstD, two, cov, spD, rgD, eP, rgP, enOf, enOfF, outsG, srtP, srtS, List.getElem?_cons_zero, List.getElem?_cons_succ, List.set_cons_zero, List.set_cons_succ, List.map_cons, List.map_nil, Option.map_some, Option.map_none, List.nodup_nil, if_true, if_false, ite_true, ite_false, reduceIte, decide_eq_true_eq, List.cons_append, List.nil_append, List.append_nil, reduceCtorEq, List.length_cons, List.length_nil, Nat.reduceAdd, Nat.reduceLeDiff, Nat.reduceSub, List.replicate, Bool.not_true, Bool.not_false]
  rw [sl_line]
  simp only [ret, retF, retN, seq, nxt, set, setO, par, parOO, ifs, drp, tst, bin, un, cal, calF, call', callF, mth, own2, prp, mk, tup, lst, lstF, frz, aN, aC, cV, cC, tand, tor, tnot, vand, vor, vnot, ite', chn, isi, asg, gn, g0, gc, gt, gl, itm, rng1, rng2, zpI, for', slc, pNo, pSo, rev, app, sti, popL, popA, addI, subI, mulI, powI, divI, modI, ltI, leI, gtI, geI, negI, iop, iopC, maxI, minI, i2, absI, ok, rs, rss, fzs, toSl, owns, putOs, putOwn, ownAt, fldD, yes', lc, nos, back, keepV, lcStep, sumD, lenD, tupD, lstD, two, cov, spD, rgD, eP, rgP, enOf, enOfF, outsG, srtP, srtS, List.getElem?_cons_zero, List.getElem?_cons_succ, List.set_cons_zero, List.set_cons_succ, List.map_cons, List.map_nil, Option.map_some, Option.map_none, List.nodup_nil, if_true, if_false, ite_true, ite_false, reduceIte, decide_eq_true_eq, List.cons_append, List.nil_append, List.append_nil, reduceCtorEq, List.length_cons, List.length_nil, Nat.reduceAdd, Nat.reduceLeDiff, Nat.reduceSub, List.replicate, Bool.not_true, Bool.not_false]
  refine forGo_inv (enc := intsD) (R := fun j ρ => ∃ (L : List (List Int)) (c : Sl), L.length = 2 * j ∧ (∀ row ∈ L, row.length = i + 2) ∧ ρ = [x0, .val (.lst (R.map intsD)), a, .val (.lst (L.map intsD)), c]) R 0 _ ⟨[], _, rfl, fun _ h => by simp at h, rfl⟩ (fun j row ρ hj ⟨L, c, eL, hL, e⟩ nx hnx => ?_) (fun ρ ⟨L, c, eL, hL, e⟩ => ?_)
  · subst e
    have hjl : j < R.length := (List.getElem?_eq_some_iff.mp hj).1
    have hr := h.r row (List.mem_of_getElem? hj)
    rcases List.eq_nil_or_concat row with e0 | ⟨r0, z, e0⟩
    · rw [e0] at hr; simp at hr
    · rw [List.concat_eq_append] at e0
      have hx : ixD (intsD row) (.int (-1)) = some (.int z) := by
        rw [e0]
        show atI ((r0 ++ [z]).map D.int) (-1) = _
        rw [List.map_append]
        exact atI_last _ _
      have ad : ∀ y : Int, addD (intsD row) (.lst [.int y]) = some (intsD (row ++ [y])) := fun y => by
        have z := add_ll (row.map D.int) [D.int y] (by rw [sl_line, List.length_map, List.length_singleton]; omega)
        rw [show intsD (row ++ [y]) = .lst (row.map D.int ++ [D.int y]) from by unfold intsD; simp]
        exact z
      have ad2 : ∀ y w : Int, addD (.lst (L.map intsD)) (.lst [intsD (row ++ [y]), intsD (row ++ [w])]) = some (.lst ((L ++ [row ++ [y], row ++ [w]]).map intsD)) := fun y w => by
        have z := add_ll (L.map intsD) [intsD (row ++ [y]), intsD (row ++ [w])] (by rw [sl_line, List.length_map]; simp; omega)
        rw [z]
        simp
      generalize hrow : intsD row = rd at *
      simp only [ret, retF, retN, seq, nxt, set, setO, par, parOO, ifs, drp, tst, bin, un, cal, calF, call', callF, mth, own2, prp, mk, tup, lst, lstF, frz, aN, aC, cV, cC, tand, tor, tnot, vand, vor, vnot, ite', chn, isi, asg, gn, g0, gc, gt, gl, itm, rng1, rng2, zpI, for', slc, pNo, pSo, rev, app, sti, popL, popA, addI, subI, mulI, powI, divI, modI, ltI, leI, gtI, geI, negI, iop, iopC, maxI, minI, i2, absI, ok, rs, rss, fzs, toSl, owns, putOs, putOwn, ownAt, fldD, yes', lc, nos, back, keepV, lcStep, sumD, lenD, tupD, lstD, two, cov, spD, rgD, eP, rgP, enOf, enOfF, outsG, srtP, srtS, List.getElem?_cons_zero, List.getElem?_cons_succ, List.set_cons_zero, List.set_cons_succ, List.map_cons, List.map_nil, Option.map_some, Option.map_none, List.nodup_nil, if_true, if_false, ite_true, ite_false, reduceIte, decide_eq_true_eq, List.cons_append, List.nil_append, List.append_nil, reduceCtorEq, List.length_cons, List.length_nil, Nat.reduceAdd, Nat.reduceLeDiff, Nat.reduceSub, List.replicate, Bool.not_true, Bool.not_false, hx, ad, add_ii]
      rw [sl_line]
      simp only [ret, retF, retN, seq, nxt, set, setO, par, parOO, ifs, drp, tst, bin, un, cal, calF, call', callF, mth, own2, prp, mk, tup, lst, lstF, frz, aN, aC, cV, cC, tand, tor, tnot, vand, vor, vnot, ite', chn, isi, asg, gn, g0, gc, gt, gl, itm, rng1, rng2, zpI, for', slc, pNo, pSo, rev, app, sti, popL, popA, addI, subI, mulI, powI, divI, modI, ltI, leI, gtI, geI, negI, iop, iopC, maxI, minI, i2, absI, ok, rs, rss, fzs, toSl, owns, putOs, putOwn, ownAt, fldD, yes', lc, nos, back, keepV, lcStep, sumD, lenD, tupD, lstD, two, cov, spD, rgD, eP, rgP, enOf, enOfF, outsG, srtP, srtS, List.getElem?_cons_zero, List.getElem?_cons_succ, List.set_cons_zero, List.set_cons_succ, List.map_cons, List.map_nil, Option.map_some, Option.map_none, List.nodup_nil, if_true, if_false, ite_true, ite_false, reduceIte, decide_eq_true_eq, List.cons_append, List.nil_append, List.append_nil, reduceCtorEq, List.length_cons, List.length_nil, Nat.reduceAdd, Nat.reduceLeDiff, Nat.reduceSub, List.replicate, Bool.not_true, Bool.not_false, hx, ad, ad2, add_ii]
      refine hnx _ ⟨L ++ [row ++ [z], row ++ [z + 1]], .val rd, by simp; omega, fun r hm => ?_, rfl⟩
      rcases List.mem_append.mp hm with hm | hm
      · exact hL r hm
      · have : r = row ++ [z] ∨ r = row ++ [z + 1] := by simpa using hm
        rcases this with e | e <;> · rw [e]; simp; omega
  · subst e
    simp only [ret, retF, retN, seq, nxt, set, setO, par, parOO, ifs, drp, tst, bin, un, cal, calF, call', callF, mth, own2, prp, mk, tup, lst, lstF, frz, aN, aC, cV, cC, tand, tor, tnot, vand, vor, vnot, ite', chn, isi, asg, gn, g0, gc, gt, gl, itm, rng1, rng2, zpI, for', slc, pNo, pSo, rev, app, sti, popL, popA, addI, subI, mulI, powI, divI, modI, ltI, leI, gtI, geI, negI, iop, iopC, maxI, minI, i2, absI, ok, rs, rss, fzs, toSl, owns, putOs, putOwn, ownAt, fldD, yes', lc, nos, back, keepV, lcStep, sumD, lenD, tupD, lstD, two, cov, spD, rgD, eP, rgP, enOf, enOfF, outsG, srtP, srtS, List.getElem?_cons_zero, List.getElem?_cons_succ, List.set_cons_zero, List.set_cons_succ, List.map_cons, List.map_nil, Option.map_some, Option.map_none, List.nodup_nil, if_true, if_false, ite_true, ite_false, reduceIte, decide_eq_true_eq, List.cons_append, List.nil_append, List.append_nil, reduceCtorEq, List.length_cons, List.length_nil, Nat.reduceAdd, Nat.reduceLeDiff, Nat.reduceSub, List.replicate, Bool.not_true, Bool.not_false]
    rw [Nat.zero_add] at eL
    have hne := List.length_pos_iff.mpr h.ne
    refine k L _ c ⟨fun e => ?_, ?_, hL⟩
    · rw [e] at eL; simp at eL; omega
    · rw [eL, Nat.pow_succ]; omega
theorem sets_core {top : Int} {P : En} (h0 : 0 ≤ top) (h8 : top ≤ 8) (fin : ∀ (rz : List (List (Int × Int))) (ρ : Rho), rz ≠ [] → rz.length ≤ 256 → (∀ r ∈ rz, Norm r ∧ Bd top r ∧ (r.length : Int) ≤ top + 1) → P.rt (.d (.lst (rz.map rgD))) ρ) : b__law_sets P [.val (.int top), .no, .no, .no, .no] := by
  unfold b__law_sets
  refine seq_set (d := .lst ([[0]].map intsD)) (fun Q q => ?_) ?_
  · simp only [ret, retF, retN, seq, nxt, set, setO, par, parOO, ifs, drp, tst, bin, un, cal, calF, call', callF, mth, own2, prp, mk, tup, lst, lstF, frz, aN, aC, cV, cC, tand, tor, tnot, vand, vor, vnot, ite', chn, isi, asg, gn, g0, gc, gt, gl, itm, rng1, rng2, zpI, for', slc, pNo, pSo, rev, app, sti, popL, popA, addI, subI, mulI, powI, divI, modI, ltI, leI, gtI, geI, negI, iop, iopC, maxI, minI, i2, absI, ok, rs, rss, fzs, toSl, owns, putOs, putOwn, ownAt, fldD, yes', lc, nos, back, keepV, lcStep, sumD, lenD, tupD, lstD, two, cov, spD, rgD, eP, rgP, enOf, enOfF, outsG, srtP, srtS, List.getElem?_cons_zero, List.getElem?_cons_succ, List.set_cons_zero, List.set_cons_succ, List.map_cons, List.map_nil, Option.map_some, Option.map_none, List.nodup_nil, if_true, if_false, ite_true, ite_false, reduceIte, decide_eq_true_eq, List.cons_append, List.nil_append, List.append_nil, reduceCtorEq, List.length_cons, List.length_nil, Nat.reduceAdd, Nat.reduceLeDiff, Nat.reduceSub, List.replicate, Bool.not_true, Bool.not_false]
    rw [sl_line]
    exact q
  refine seq_rng1 (j := top) (ev_v rfl) (by omega) ?_
  have er : rangeD 0 top = (List.range (top - 0).toNat).map fun i => D.int (0 + (i : Nat)) := rfl
  rw [er]
  refine forGo_inv (enc := fun i : Nat => D.int (0 + (i : Int))) (R := fun i ρ => ∃ (R : List (List Int)) (a b c : Sl), Rw i R ∧ ρ = [.val (.int top), .val (.lst (R.map intsD)), a, b, c]) _ 0 _ ⟨[[0]], _, _, _, ⟨by simp, by simp, fun row hm => by
      have : row = [0] := by simpa using hm
      rw [this]; rfl⟩, rfl⟩ (fun j x ρ hj ⟨R, a, b, c, rw_, e⟩ nx hnx => ?_) (fun ρ ⟨R, a, b, c, rw_, e⟩ => ?_)
  · subst e
    obtain ⟨hjl, hx⟩ := List.getElem?_eq_some_iff.mp hj
    rw [List.length_range] at hjl
    refine sets_turn (P := { P with nx := nx, ct := nx, bk := _ }) (by omega) rw_ fun R' b' c' h' => ?_
    exact hnx _ ⟨R', _, b', c', h', rfl⟩
  · subst e
    have en : 0 + (List.range (top - 0).toNat).length = top.toNat := by rw [List.length_range]; omega
    rw [en] at rw_
    have h256 : R.length ≤ 256 := by
      have z := Nat.pow_le_pow_right (n := 2) (by decide) (show top.toNat ≤ 8 by omega)
      exact Nat.le_trans rw_.l (Nat.le_trans z (by decide))
    simp only [ret, retF, retN, seq, nxt, set, setO, par, parOO, ifs, drp, tst, bin, un, cal, calF, call', callF, mth, own2, prp, mk, tup, lst, lstF, frz, aN, aC, cV, cC, tand, tor, tnot, vand, vor, vnot, ite', chn, isi, asg, gn, g0, gc, gt, gl, itm, rng1, rng2, zpI, for', slc, pNo, pSo, rev, app, sti, popL, popA, addI, subI, mulI, powI, divI, modI, ltI, leI, gtI, geI, negI, iop, iopC, maxI, minI, i2, absI, ok, rs, rss, fzs, toSl, owns, putOs, putOwn, ownAt, fldD, yes', lc, nos, back, keepV, lcStep, sumD, lenD, tupD, lstD, two, cov, spD, rgD, eP, rgP, enOf, enOfF, outsG, srtP, srtS, List.getElem?_cons_zero, List.getElem?_cons_succ, List.set_cons_zero, List.set_cons_succ, List.map_cons, List.map_nil, Option.map_some, Option.map_none, List.nodup_nil, if_true, if_false, ite_true, ite_false, reduceIte, decide_eq_true_eq, List.cons_append, List.nil_append, List.append_nil, reduceCtorEq, List.length_cons, List.length_nil, Nat.reduceAdd, Nat.reduceLeDiff, Nat.reduceSub, List.replicate, Bool.not_true, Bool.not_false]
    refine lcGo_inv (enc := intsD) (R := fun j acc ρ => ∃ rz : List (List (Int × Int)), acc = rz.map rgD ∧ rz.length = j ∧ (∀ r ∈ rz, Norm r ∧ Bd top r ∧ (r.length : Int) ≤ top + 1) ∧ ρ = [.val (.int top), .val (.lst (R.map intsD)), a, b, .no]) R 0 [] _ ⟨[], rfl, rfl, fun _ h => by simp at h, rfl⟩ (fun j row acc ρ hj ⟨rz, ea, el, hr, e⟩ hl k hk => ?_) (Nat.le_refl _) (by rw [sl_line]; omega) (fun acc ρ ⟨rz, ea, el, hr, e⟩ => ?_)
    · subst e
      have hlen := rw_.r row (List.mem_of_getElem? hj)
      have hw := row_eq row
      generalize hf : (fun k => row.getD k 0) = f at hw
      generalize hrow : intsD row = rd
      simp only [ret, retF, retN, seq, nxt, set, setO, par, parOO, ifs, drp, tst, bin, un, cal, calF, call', callF, mth, own2, prp, mk, tup, lst, lstF, frz, aN, aC, cV, cC, tand, tor, tnot, vand, vor, vnot, ite', chn, isi, asg, gn, g0, gc, gt, gl, itm, rng1, rng2, zpI, for', slc, pNo, pSo, rev, app, sti, popL, popA, addI, subI, mulI, powI, divI, modI, ltI, leI, gtI, geI, negI, iop, iopC, maxI, minI, i2, absI, ok, rs, rss, fzs, toSl, owns, putOs, putOwn, ownAt, fldD, yes', lc, nos, back, keepV, lcStep, sumD, lenD, tupD, lstD, two, cov, spD, rgD, eP, rgP, enOf, enOfF, outsG, srtP, srtS, List.getElem?_cons_zero, List.getElem?_cons_succ, List.set_cons_zero, List.set_cons_succ, List.map_cons, List.map_nil, Option.map_some, Option.map_none, List.nodup_nil, if_true, if_false, ite_true, ite_false, reduceIte, decide_eq_true_eq, List.cons_append, List.nil_append, List.append_nil, reduceCtorEq, List.length_cons, List.length_nil, Nat.reduceAdd, Nat.reduceLeDiff, Nat.reduceSub, List.replicate, Bool.not_true, Bool.not_false]
      refine ⟨f, row.length, by rw [← hw, hrow], by omega, by omega, fun r hp => ?_⟩
      simp only [ret, retF, retN, seq, nxt, set, setO, par, parOO, ifs, drp, tst, bin, un, cal, calF, call', callF, mth, own2, prp, mk, tup, lst, lstF, frz, aN, aC, cV, cC, tand, tor, tnot, vand, vor, vnot, ite', chn, isi, asg, gn, g0, gc, gt, gl, itm, rng1, rng2, zpI, for', slc, pNo, pSo, rev, app, sti, popL, popA, addI, subI, mulI, powI, divI, modI, ltI, leI, gtI, geI, negI, iop, iopC, maxI, minI, i2, absI, ok, rs, rss, fzs, toSl, owns, putOs, putOwn, ownAt, fldD, yes', lc, nos, back, keepV, lcStep, sumD, lenD, tupD, lstD, two, cov, spD, rgD, eP, rgP, enOf, enOfF, outsG, srtP, srtS, List.getElem?_cons_zero, List.getElem?_cons_succ, List.set_cons_zero, List.set_cons_succ, List.map_cons, List.map_nil, Option.map_some, Option.map_none, List.nodup_nil, if_true, if_false, ite_true, ite_false, reduceIte, decide_eq_true_eq, List.cons_append, List.nil_append, List.append_nil, reduceCtorEq, List.length_cons, List.length_nil, Nat.reduceAdd, Nat.reduceLeDiff, Nat.reduceSub, List.replicate, Bool.not_true, Bool.not_false]
      refine (hk _).1 (rgD r) ⟨rz ++ [r], by rw [ea]; simp, by rw [List.length_append, el]; rfl, fun q hq => ?_, rfl⟩
      rcases List.mem_append.mp hq with hq | hq
      · exact hr q hq
      · have e : q = r := by simpa using hq
        subst e
        refine ⟨hp.1, fun p hpp => ?_, by have := hp.2.2; omega⟩
        have m := norm_mem hp.1 hpp
        obtain ⟨k, k1, k2, k3, _⟩ := (hp.2.1 p.2).mp ⟨p, hpp, m.2, Int.le_refl _⟩
        omega
    · subst e
      subst ea
      rw [Nat.zero_add] at el
      refine fin rz _ (fun e => ?_) (by omega) hr
      have := List.length_pos_iff.mpr rw_.ne
      rw [e] at el
      simp at el
      omega
theorem d__law_sets : ∀ as K, S__law_sets as K → b__law_sets (enOf as K) (as ++ List.replicate (N__law_sets.length - as.length) .no) := by
  intro as K h0
  obtain ⟨top, e00, h0, h8, h⟩ := h0
  subst e00
  exact sets_core h0 h8 fun rz ρ h1 h2 h3 => by
    show K (.lst (rz.map rgD)) []
    exact h rz h1 h2 h3
end DL
set_option Elab.async false
set_option linter.all false
set_option maxRecDepth 100000
set_option maxHeartbeats 1000000
namespace DL
open PySem PySem.Spec PyProof.Rows L2 CV
/-! ### readings told by what may come of them (nothing is unfolded) -/
def Evs (t : TE') (ρ : Rho) (R : D → Rho → Prop) : Prop := ∀ Q : Xv → Rho → Prop, (∀ d ρ', R d ρ' → Q (.d d) ρ') → t ρ Q
def EvA (t : TA') (ρ : Rho) (R : List D → Rho → Prop) : Prop := ∀ Q : List Xv → Rho → Prop, (∀ ds ρ', R ds ρ' → Q (ds.map .d) ρ') → t ρ Q
def EvF (t : TF') (ρ : Rho) (R : List D → Rho → Prop) : Prop := ∀ Q : List D → Rho → Prop, (∀ ds ρ', R ds ρ' → Q ds ρ') → t ρ Q
def EvT (t : TT') (ρ : Rho) (R : Bool → Rho → Prop) : Prop := ∀ Q : Bool → Rho → Prop, (∀ b ρ', R b ρ' → Q b ρ') → t ρ Q
section
variable {ρ : Rho} {R : D → Rho → Prop} {S' : List D → Rho → Prop}
theorem evs_of {t : TE'} {d : D} (h : Ev t ρ d) (r : R d ρ) : Evs t ρ R := fun Q k => h Q (k d ρ r)
theorem Evs.imp {t : TE'} {R' : D → Rho → Prop} (h : Evs t ρ R) (k : ∀ d ρ', R d ρ' → R' d ρ') : Evs t ρ R' := fun Q q => h Q fun d ρ' r => q d ρ' (k d ρ' r)
theorem rs_d (ρ : Rho) (d : D) : rs ρ (.d d) = some d := rfl
theorem evs_bin {f : D → D → Option D} {ta tb : TE'} (h : Evs ta ρ fun a ρ1 => Evs tb ρ1 fun b ρ2 => ∃ c, f a b = some c ∧ R c ρ2) : Evs (bin f ta tb) ρ R := fun Q k => by
  refine h _ fun a ρ1 h1 => h1 _ fun b ρ2 ⟨c, e, r⟩ => ?_
  show ok (f a b) _
  rw [e]
  exact k c ρ2 r
theorem evs_un {f : D → Option D} {ta : TE'} (h : Evs ta ρ fun a ρ1 => ∃ c, f a = some c ∧ R c ρ1) : Evs (un f ta) ρ R := fun Q k => by
  refine h _ fun a ρ1 ⟨c, e, r⟩ => ?_
  show ok (f a) _
  rw [e]
  exact k c ρ1 r
theorem evA_nil (r : S' [] ρ) : EvA aN ρ S' := fun Q k => k [] ρ r
theorem evA_cons {t : TE'} {u : TA'} (h : Evs t ρ fun d ρ1 => EvA u ρ1 fun ds ρ2 => S' (d :: ds) ρ2) : EvA (aC t u) ρ S' := fun Q k => h _ fun d ρ1 h1 => h1 _ fun ds ρ2 r => k (d :: ds) ρ2 r
theorem fzs_map : ∀ ds : List D, fzs (ds.map .d) = some ds
  | [] => rfl
  | d :: ds => by
    show (fzs (ds.map .d)).map (d :: ·) = _
    rw [fzs_map ds]
    rfl
theorem rss_map (ρ : Rho) : ∀ ds : List D, rss ρ (ds.map .d) = some ds
  | [] => rfl
  | d :: ds => by
    show (match rs ρ (.d d), rss ρ (ds.map .d) with | some d, some ds => some (d :: ds) | _, _ => none) = _
    rw [rss_map ρ ds]
    rfl
theorem toSl_map (ρ : Rho) : ∀ ds : List D, toSl ρ (ds.map .d) = some (ds.map .val)
  | [] => rfl
  | d :: ds => by
    show (toSl ρ (ds.map .d)).map (Sl.val d :: ·) = _
    rw [toSl_map ρ ds]
    rfl
theorem owns_map : ∀ ds : List D, owns (ds.map .d) = []
  | [] => rfl
  | d :: ds => owns_map ds
theorem putOs_map (ρ : Rho) (cs : List (List D)) : ∀ ds : List D, putOs ρ (ds.map .d) cs = ρ
  | [] => by cases cs <;> rfl
  | d :: ds => by
    show putOs ρ (ds.map .d) cs = ρ
    exact putOs_map ρ cs ds
theorem evs_tup {t : TA'} (h : EvA t ρ fun ds ρ1 => ds.length ≤ PySem.sizeLine ∧ R (.tup ds) ρ1) : Evs (tup t) ρ R := fun Q k => by
  refine h _ fun ds ρ1 ⟨hl, r⟩ => ?_
  rw [fzs_map]
  show (if ds.length ≤ PySem.sizeLine then _ else False)
  rw [if_pos hl]
  exact k _ _ r
theorem evF_lst {t : TA'} (h : EvA t ρ fun ds ρ1 => ds.length ≤ PySem.sizeLine ∧ S' ds ρ1) : EvF (lstF t) ρ S' := fun Q k => by
  refine h _ fun ds ρ1 ⟨hl, r⟩ => ?_
  rw [fzs_map]
  show (if ds.length ≤ PySem.sizeLine then _ else False)
  rw [if_pos hl]
  exact k _ _ r
theorem evs_frz {t : TF'} (h : EvF t ρ fun ds ρ1 => R (.lst ds) ρ1) : Evs (frz t) ρ R := fun Q k => h _ fun ds ρ1 r => k _ _ r
theorem evs_cal {f : List D → Option D} {t : TA'} (h : EvA t ρ fun ds ρ1 => ∃ c, f ds = some c ∧ R c ρ1) : Evs (cal f t) ρ R := fun Q k => by
  refine h _ fun ds ρ1 ⟨c, e, r⟩ => ?_
  rw [rss_map]
  show ok (f ds) _
  rw [e]
  exact k _ _ r
theorem evs_call {S : DSp} {t : TA'} (h : EvA t ρ fun ds ρ1 => ∀ K : D → List (List D) → Prop, (∀ d cs, R d ρ1 → K d cs) → S (ds.map .val) K) : Evs (call' S t) ρ R := fun Q k => by
  refine h _ fun ds ρ1 hs => ?_
  rw [toSl_map, owns_map]
  show (if ([] : List Nat).Nodup then S (ds.map .val) _ else False)
  rw [if_pos List.nodup_nil]
  refine hs _ fun d cs r => ?_
  rw [putOs_map]
  exact k _ _ r
/-- the first argument a list that the caller owns -/
theorem evs_callO {S : DSp} {t : TA'} {i : Nat} {tg0 : Bool} {os0 : List D} (h0 : ρ[i]? = some (.own tg0 os0)) (h : EvA t ρ fun ds ρ1 => ∃ tg os, ρ1[i]? = some (.own tg os) ∧ ∀ K : D → List (List D) → Prop, (∀ d c, R d (ρ1.set i (.own tg c)) → K d [c]) → S (.own true os :: ds.map .val) K) : Evs (call' S (aC (cV i) t)) ρ R := fun Q k => by
  unfold call' aC cV
  rw [h0]
  refine h _ fun ds ρ1 ⟨tg, os, e, hs⟩ => ?_
  have ho : ownAt ρ1 i = some os := by unfold ownAt; rw [e]
  have hto : toSl ρ1 (.o i :: ds.map .d) = some (.own true os :: ds.map .val) := by
    show (match ownAt ρ1 i with | some ds' => (toSl ρ1 (ds.map .d)).map (Sl.own true ds' :: ·) | none => none) = _
    rw [ho, toSl_map]
    rfl
  dsimp only
  rw [hto]
  have hown : owns (.o i :: ds.map .d) = [i] := by
    show i :: owns (ds.map .d) = [i]
    rw [owns_map]
  rw [hown]
  show (if ([i] : List Nat).Nodup then S (.own true os :: ds.map .val) _ else False)
  rw [if_pos (by simp)]
  refine hs _ fun d c r => ?_
  have hp : putOs ρ1 (.o i :: ds.map .d) [c] = ρ1.set i (.own tg c) := by
    show putOs (putOwn ρ1 i c) (ds.map .d) [] = _
    rw [putOs_map]
    unfold putOwn
    rw [e]
  rw [hp]
  exact k _ _ r
/-! statements -/
theorem seq_setE {i : Nat} {t : TE'} {u : TS'} {P : En} (h : Evs t ρ fun d ρ1 => u P (ρ1.set i (.val d))) : seq (set i t) u P ρ := h _ fun d ρ' r => r
theorem seq_rng1E {t : TE'} {g : TG'} {b u : TS'} {P : En} (h : Evs t ρ fun d ρ1 => ∃ j, d = .int j ∧ (-(2 ^ 62) ≤ j ∧ j < 2 ^ 62) ∧ forGo g b { P with nx := u P } (rangeD 0 j) ρ1) : seq (for' (rng1 t) g b) u P ρ := by
  unfold seq for' rng1
  refine h _ fun d ρ1 ⟨j, e, hb, r⟩ => ?_
  subst e
  dsimp only
  rw [if_pos hb]
  exact r
theorem drp_appE {i : Nat} {t : TE'} {P : En} {tg0 : Bool} {os0 : List D} (h0 : ρ[i]? = some (.own tg0 os0)) (h : Evs t ρ fun d ρ1 => ∃ tg os, ρ1[i]? = some (.own tg os) ∧ os.length < PySem.sizeLine ∧ P.nx (ρ1.set i (.own tg (os ++ [d])))) : drp (app i t) P ρ := by
  unfold drp app
  have ho0 : ownAt ρ i = some os0 := by unfold ownAt; rw [h0]
  rw [ho0]
  refine h _ fun d ρ1 ⟨tg, os, e, hl, r⟩ => ?_
  have ho : ownAt ρ1 i = some os := by unfold ownAt; rw [e]
  dsimp only
  rw [ho]
  show (if os.length < PySem.sizeLine then _ else False)
  rw [if_pos hl]
  have hp : putOwn ρ1 i (os ++ [d]) = ρ1.set i (.own tg (os ++ [d])) := by
    unfold putOwn
    rw [e]
  rw [hp]
  exact r
/-! the deck -/
theorem evs_pick {i : Nat} {t : TE'} {n lim : Int} {ds : List D} {tg : Bool} (h0 : ρ[i]? = some (.own tg ds)) (ht : Ev t ρ (.int lim)) (dk : Dk n ds) (hn : n < 2 ^ 38) (hl : 0 < lim) (hl2 : lim < 2 ^ 62) (k : ∀ r ds', 0 ≤ r → r < lim → Dk (n + 1) ds' → R (.int r) (ρ.set i (.own tg ds'))) : Evs (call' S__law_pick (aC (cV i) (aC t aN))) ρ R :=
  evs_callO h0 (evA_cons (evs_of ht (evA_nil ⟨tg, ds, h0, fun K kk => ⟨n, ds, lim, rfl, dk, hn, hl, hl2, fun r ds' a b c => kk _ _ (k r ds' a b c)⟩⟩)))
end
end DL
set_option Elab.async false
set_option linter.all false
set_option maxRecDepth 100000
set_option maxHeartbeats 1000000
namespace DL
open PySem PySem.Spec PyProof.Rows L2 CV
theorem ev_own_ne {i j : Nat} {ρ : Rho} {s : Sl} {d : D} (h : ρ[i]? = some (.val d)) (n : j ≠ i) : Ev (cV i) (ρ.set j s) d := ev_v (by rw [List.getElem?_set_ne n]; exact h)
theorem lc_first {d0 : List D} {x1 x2 a b : Sl} {ps : List (Int × Int)} : EvF (lc (itm (slc (cV 3) (pNo) (pSo (cC (.int 1))))) (gn 6) (yes') (bin ixD (cV 6) (cC (.int 0))) [6]) [.own true d0, x1, x2, .own false (ps.map eP), a, b, .no]
    (fun es ρ' => es = (ps.take 1).map (fun p => D.int p.1) ∧ ρ' = [.own true d0, x1, x2, .own false (ps.map eP), a, b, .no]) := fun Q k => by
  have ec : cutG (ps.map eP) none (some 1) = (ps.take 1).map eP := by
    unfold cutG HT.sIx
    rw [List.map_take]
    simp
  simp only [ret, retF, retN, seq, nxt, set, setO, par, parOO, ifs, drp, tst, bin, un, cal, calF, call', callF, mth, own2, prp, mk, tup, lst, lstF, frz, aN, aC, cV, cC, tand, tor, tnot, vand, vor, vnot, ite', chn, isi, asg, gn, g0, gc, gt, gl, itm, rng1, rng2, zpI, for', slc, pNo, pSo, rev, app, sti, popL, popA, addI, subI, mulI, powI, divI, modI, ltI, leI, gtI, geI, negI, iop, iopC, maxI, minI, i2, absI, ok, rs, rss, fzs, toSl, owns, putOs, putOwn, ownAt, fldD, yes', lc, nos, back, keepV, lcStep, sumD, lenD, tupD, lstD, two, cov, spD, rgD, eP, rgP, enOf, enOfF, outsG, srtP, srtS, List.getElem?_cons_zero, List.getElem?_cons_succ, List.set_cons_zero, List.set_cons_succ, List.map_cons, List.map_nil, Option.map_some, Option.map_none, List.nodup_nil, if_true, if_false, ite_true, ite_false, reduceIte, decide_eq_true_eq, List.cons_append, List.nil_append, List.append_nil, reduceCtorEq, List.length_cons, List.length_nil, Nat.reduceAdd, Nat.reduceLeDiff, Nat.reduceSub, List.replicate, Bool.not_true, Bool.not_false, slD, ec]
  refine lcGo_map (enc := eP) (val := fun p => .int p.1) (ps.take 1) (fun p hp k hk => ?_) (by rw [sl_line, List.length_take]; omega) ?_
  · simp only [ret, retF, retN, seq, nxt, set, setO, par, parOO, ifs, drp, tst, bin, un, cal, calF, call', callF, mth, own2, prp, mk, tup, lst, lstF, frz, aN, aC, cV, cC, tand, tor, tnot, vand, vor, vnot, ite', chn, isi, asg, gn, g0, gc, gt, gl, itm, rng1, rng2, zpI, for', slc, pNo, pSo, rev, app, sti, popL, popA, addI, subI, mulI, powI, divI, modI, ltI, leI, gtI, geI, negI, iop, iopC, maxI, minI, i2, absI, ok, rs, rss, fzs, toSl, owns, putOs, putOwn, ownAt, fldD, yes', lc, nos, back, keepV, lcStep, sumD, lenD, tupD, lstD, two, cov, spD, rgD, eP, rgP, enOf, enOfF, outsG, srtP, srtS, List.getElem?_cons_zero, List.getElem?_cons_succ, List.set_cons_zero, List.set_cons_succ, List.map_cons, List.map_nil, Option.map_some, Option.map_none, List.nodup_nil, if_true, if_false, ite_true, ite_false, reduceIte, decide_eq_true_eq, List.cons_append, List.nil_append, List.append_nil, reduceCtorEq, List.length_cons, List.length_nil, Nat.reduceAdd, Nat.reduceLeDiff, Nat.reduceSub, List.replicate, Bool.not_true, Bool.not_false, ixD, atI_0]
    exact hk
  · simp only [ret, retF, retN, seq, nxt, set, setO, par, parOO, ifs, drp, tst, bin, un, cal, calF, call', callF, mth, own2, prp, mk, tup, lst, lstF, frz, aN, aC, cV, cC, tand, tor, tnot, vand, vor, vnot, ite', chn, isi, asg, gn, g0, gc, gt, gl, itm, rng1, rng2, zpI, for', slc, pNo, pSo, rev, app, sti, popL, popA, addI, subI, mulI, powI, divI, modI, ltI, leI, gtI, geI, negI, iop, iopC, maxI, minI, i2, absI, ok, rs, rss, fzs, toSl, owns, putOs, putOwn, ownAt, fldD, yes', lc, nos, back, keepV, lcStep, sumD, lenD, tupD, lstD, two, cov, spD, rgD, eP, rgP, enOf, enOfF, outsG, srtP, srtS, List.getElem?_cons_zero, List.getElem?_cons_succ, List.set_cons_zero, List.set_cons_succ, List.map_cons, List.map_nil, Option.map_some, Option.map_none, List.nodup_nil, if_true, if_false, ite_true, ite_false, reduceIte, decide_eq_true_eq, List.cons_append, List.nil_append, List.append_nil, reduceCtorEq, List.length_cons, List.length_nil, Nat.reduceAdd, Nat.reduceLeDiff, Nat.reduceSub, List.replicate, Bool.not_true, Bool.not_false]
    exact k _ _ ⟨rfl, rfl⟩
/-- the policies so far -/
def PsOk (w : Int) (ps : List (Int × Int)) : Prop := ∀ p ∈ ps, okPol p ∧ p.1 < w ∧ p.2 ≤ w
theorem policies_turn {n m w : Int} {d0 : List D} {ps : List (Int × Int)} {a b : Sl} {P : En} (dk : Dk n d0) (hn : n + 10 < 2 ^ 38) (hw : 2 ≤ w) (hw2 : w ≤ 1000000) (hp : PsOk w ps) (hl : ps.length ≤ 20)
    (k : ∀ (d1 : List D) (p : Int × Int) (b : Sl), Dk (n + 5) d1 → PsOk w (ps ++ [p]) → P.nx [.own true d1, .val (.int m), .val (.int w), .own false ((ps ++ [p]).map eP), a, b, .no]) :
    (seq (set 5 (call' S__law_one (aC (cV 0) (aC (bin addD (frz (lstF (aC (cC (.int 0)) (aC (call' S__law_pick (aC (cV 0) (aC (cV 2) (aN)))) (aC (call' S__law_pick (aC (cV 0) (aC (cV 2) (aN)))) (aN)))))) (frz (lc (itm (slc (cV 3) (pNo) (pSo (cC (.int 1))))) (gn 6) (yes') (bin ixD (cV 6) (cC (.int 0))) [6]))) (aN))))) (drp (app 3 (tup (aC (cV 5) (aC (bin addD (cC (.int 1)) (call' S__law_pick (aC (cV 0) (aC (call' S__law_one (aC (cV 0) (aC (frz (lstF (aC (cC (.int 2)) (aC (cV 2) (aN))))) (aN)))) (aN))))) (aN))))))) P [.own true d0, .val (.int m), .val (.int w), .own false (ps.map eP), a, b, .no] := by
  refine seq_setE ?_
  refine evs_callO rfl (evA_cons (evs_bin (evs_frz (evF_lst (evA_cons (evs_of (ev_c _ _) (evA_cons (evs_pick (n := n) (lim := w) rfl (ev_v rfl) dk (by omega) (by omega) (by omega) fun r1 d1 q1 q2 k1 => ?_))))))))
  refine evA_cons (evs_pick (n := n + 1) (lim := w) (ds := d1) rfl (ev_v rfl) k1 (by omega) (by omega) (by omega) fun r2 d2 q3 q4 k2 => ?_)
  refine evA_nil ⟨by rw [sl_line]; show (3 : Nat) ≤ 16777216; decide, ?_⟩
  refine evs_frz ?_
  intro Q kQ
  refine lc_first _ fun es ρ' ⟨e1, e2⟩ => kQ _ _ ?_
  subst e1 e2
  have ad := add_ll [D.int 0, D.int r1, D.int r2] ((ps.take 1).map fun p => D.int p.1) (by rw [sl_line, List.length_map, List.length_take]; show 3 + _ ≤ _; omega)
  have k2' : Dk (n + 2) d2 := by
    have e : n + 1 + 1 = n + 2 := by omega
    rw [← e]; exact k2
  refine ⟨_, ad, evA_nil ⟨true, d2, rfl, fun K kk => ⟨n + 2, d2, _, _, rfl, .inl rfl, k2', by omega, by simp, by rw [List.length_append, List.length_map, List.length_take]; show 3 + _ ≤ _; omega, fun e d3 me k3 => kk e d3 ?_⟩⟩⟩
  obtain ⟨fr, rfl, f0, f1⟩ : ∃ fr : Int, e = .int fr ∧ 0 ≤ fr ∧ fr < w := by
    rcases List.mem_append.mp me with me | me
    · have : e = .int 0 ∨ e = .int r1 ∨ e = .int r2 := by simpa using me
      rcases this with e | e | e
      · exact ⟨0, e, by omega, by omega⟩
      · exact ⟨r1, e, q1, q2⟩
      · exact ⟨r2, e, q3, q4⟩
    · obtain ⟨p, hpp, e⟩ := List.mem_map.mp me
      have := hp p (List.mem_of_mem_take hpp)
      exact ⟨p.1, e.symm, this.1.1, this.2.1⟩
  have k3' : Dk (n + 3) d3 := by
    have e : n + 2 + 1 = n + 3 := by omega
    rw [← e]; exact k3
  refine drp_appE (tg0 := false) (os0 := ps.map eP) rfl ?_
  refine evs_tup (evA_cons (evs_of (ev_v (d := .int fr) rfl) (evA_cons (evs_bin (evs_of (ev_c _ _) ?_)))))
  refine evs_callO (tg0 := true) (os0 := d3) rfl (evA_cons (evs_callO (tg0 := true) (os0 := d3) rfl (evA_cons (evs_frz (evF_lst (evA_cons (evs_of (ev_c _ _) (evA_cons (evs_of (ev_v (d := .int w) rfl) (evA_nil ⟨by rw [sl_line]; show (2 : Nat) ≤ 16777216; decide, ?_⟩))))))))))
  refine evA_nil ⟨true, d3, rfl, fun K kk => ⟨n + 3, d3, _, [.int 2, .int w], rfl, .inl rfl, k3', by omega, by simp, by show (2 : Nat) ≤ 2 ^ 24; decide, fun e d4 me k4 => kk e d4 ?_⟩⟩
  obtain ⟨li, rfl, l0, l1⟩ : ∃ li : Int, e = .int li ∧ 2 ≤ li ∧ li ≤ w := by
    have : e = .int 2 ∨ e = .int w := by simpa using me
    rcases this with e | e
    · exact ⟨2, e, by omega, hw⟩
    · exact ⟨w, e, hw, by omega⟩
  refine evA_nil ⟨true, d4, rfl, fun K kk => ⟨n + 3 + 1, d4, li, rfl, k4, by omega, by omega, by omega, fun r d5 s0 s1 k5 => kk (.int r) d5 ?_⟩⟩
  refine ⟨_, add_ii _ _, evA_nil ⟨by rw [sl_line]; show (2 : Nat) ≤ 16777216; decide, false, ps.map eP, rfl, by rw [sl_line, List.length_map]; omega, ?_⟩⟩
  have ep : ps.map eP ++ [D.tup [.int fr, .int (1 + r)]] = (ps ++ [(fr, 1 + r)]).map eP := by simp [eP]
  rw [ep]
  refine k d5 (fr, 1 + r) _ ?_ fun p hpp => ?_
  · have e : n + 3 + 1 + 1 = n + 5 := by omega
    rw [← e]; exact k5
  · rcases List.mem_append.mp hpp with hpp | hpp
    · exact hp p hpp
    · have e : p = (fr, 1 + r) := by simpa using hpp
      subst e
      exact ⟨⟨f0, by show fr ≤ 1000000; omega, by show 1 ≤ 1 + r; omega, by show 1 + r ≤ 1000000; omega⟩, f1, by show 1 + r ≤ w; omega⟩
theorem policies_core {n m w : Int} {d0 : List D} {P : En} (dk : Dk n d0) (hn : n + 100 < 2 ^ 38) (hm : 0 ≤ m) (hm2 : m ≤ 10) (hw : 2 ≤ w) (hw2 : w ≤ 1000000)
    (fin : ∀ (ps : List (Int × Int)) (d1 : List D) (a b : Sl), (ps.length : Int) ≤ m → PsOk w ps → Dk (n + 100) d1 → P.rt (.d (.tup (ps.map eP))) [.own true d1, .val (.int m), .val (.int w), .own false (ps.map eP), a, b, .no]) : b__law_policies P [.own true d0, .val (.int m), .val (.int w), .no, .no, .no, .no] := by
  unfold b__law_policies
  refine seq_own0 ?_
  refine seq_rng1E (evs_callO (tg0 := true) (os0 := d0) rfl (evA_cons (evs_of (ev_bin (ev_v (d := .int m) rfl) (ev_c _ _) (add_ii _ _)) (evA_nil ⟨true, d0, rfl, fun K kk => ⟨n, d0, m + 1, rfl, dk, by omega, by omega, by omega, fun r d1 q1 q2 k1 => kk _ _ ⟨r, rfl, by omega, ?_⟩⟩⟩))))
  have er : rangeD 0 r = (List.range (r - 0).toNat).map fun i => D.int (0 + (i : Nat)) := rfl
  rw [er]
  refine forGo_inv (enc := fun i : Nat => D.int (0 + (i : Int))) (R := fun i ρ => ∃ (ps : List (Int × Int)) (d : List D) (a b : Sl), ps.length = i ∧ PsOk w ps ∧ Dk (n + 1 + 5 * i) d ∧ ρ = [.own true d, .val (.int m), .val (.int w), .own false (ps.map eP), a, b, .no]) _ 0 _ ⟨[], d1, _, _, rfl, fun _ h => by simp at h, by
      have e : n + 1 + 5 * ((0 : Nat) : Int) = n + 1 := by omega
      rw [e]; exact k1, rfl⟩ (fun j x ρ hj ⟨ps, d, a, b, el, hp, dk', e⟩ nx hnx => ?_) (fun ρ ⟨ps, d, a, b, el, hp, dk', e⟩ => ?_)
  · subst e
    obtain ⟨hjl, hx⟩ := List.getElem?_eq_some_iff.mp hj
    rw [List.length_range] at hjl
    rw [Nat.zero_add] at el dk'
    refine policies_turn (P := { P with nx := nx, ct := nx, bk := _ }) (n := n + 1 + 5 * (j : Int)) dk' (by omega) hw hw2 hp (by omega) fun d2 p b' k2 hp' => ?_
    refine hnx _ ⟨ps ++ [p], d2, _, b', by rw [List.length_append, List.length_singleton, el]; omega, hp', ?_, rfl⟩
    have e : n + 1 + 5 * ((0 + j + 1 : Nat) : Int) = n + 1 + 5 * (j : Int) + 5 := by omega
    rw [e]; exact k2
  · subst e
    have en : 0 + (List.range (r - 0).toNat).length = r.toNat := by rw [List.length_range]; omega
    rw [en] at el dk'
    have ev : Ev (cal tupD (aC (cV 3) aN)) [.own true d, .val (.int m), .val (.int w), .own false (ps.map eP), a, b, .no] (.tup (ps.map eP)) := fun Q q => q
    refine ret_ev ev ?_
    refine fin ps d a b (by omega) hp ?_
    obtain ⟨x, y, z, e1, e2, e3, e4, e5, e6⟩ := dk'
    exact ⟨x, y, z, e1, e2, e3, e4, e5, by omega⟩
theorem d__law_policies : ∀ as K, S__law_policies as K → b__law_policies (enOf as K) (as ++ List.replicate (N__law_policies.length - as.length) .no) := by
  intro as K h0
  obtain ⟨n, ds, m, w, e00, dk, hn, hm, hm2, hw, hw2, h⟩ := h0
  subst e00
  exact policies_core dk hn hm hm2 hw hw2 fun ps d1 a b q1 q2 q3 => by
    show K (.tup (ps.map eP)) [d1]
    exact h ps d1 q1 q2 q3
end DL
set_option Elab.async false
set_option linter.all false
set_option maxRecDepth 100000
set_option maxHeartbeats 1000000
namespace DL
open PySem PySem.Spec PyProof.Rows L2 CV
theorem add_tt (a b : List D) (h : a.length + b.length ≤ PySem.sizeLine) : addD (.tup a) (.tup b) = some (.tup (a ++ b)) := by
  have e : catT (.tup a) (.tup b) = some (.tup (a ++ b)) := if_pos h
  show orD addI (orD (fun a b => (catL a b).map D.lst) (orD catT addS)) (.tup a) (.tup b) = _
  unfold orD
  show (match catT (.tup a) (.tup b) with | some c => some c | none => _) = _
  rw [e]
theorem total_pay {l : List (Int × Int)} (n : Norm l) {M : Int} (b : Bd M l) (h0 : 0 ≤ M) : total l = pay l M := by
  have go : ∀ {l : List (Int × Int)} {a : Int}, NormF a l → Bd M l → total l = pay l M := by
    intro l
    induction l with
    | nil => intro a _ _; rfl
    | cons p l ih =>
      intro a n b
      have e := ih n.2.2 fun q hq => b q (List.mem_cons_of_mem _ hq)
      have hb := b p List.mem_cons_self
      have := n.2.1
      unfold total at e ⊢
      rw [List.map_cons, List.sum_cons, e, pay_cons]
      omega
  exact go n b
theorem chn_total {l m r : List (Int × Int)} {M N : Int} (nl : Norm l) (nm : Norm m) (h : Chn l m r) (h0 : 0 ≤ M) (hN : 0 ≤ N) (bl : Bd M l) (bm : Bd N m) : total r = total l + total m := by
  have br := chn_bd nl nm h h0 hN bl bm
  rw [total_pay h.1 br (by omega), total_pay nl bl h0, total_pay nm bm hN, h.2.1]
  have e1 := (bd_pay nl).mp bl (M + N) (by omega)
  have e3 := pay_le_last nl bl h0 M
  rw [e1, (bd_pay nm).mp bm (M + N - pay l M) (by omega)]
theorem chn_lo1 {l m r : List (Int × Int)} (h : Chn l m r) : Lo l r := fun x => by
  rw [h.2.1]
  have := pay_nonneg m (x - pay l x)
  omega
theorem pay_le_x {l : List (Int × Int)} (n : Norm l) (x : Int) (h : 0 ≤ x) : pay l x ≤ x := by
  have := pay_le n (x := 0) (y := x) h
  rw [pay_low n (x := 0) (by omega)] at this
  omega
theorem chn_lo2 {l m r : List (Int × Int)} (nl : Norm l) (nm : Norm m) (h : Chn l m r) : Lo m r := fun x => by
  rw [h.2.1]
  by_cases c : 0 ≤ x
  · have a := pay_le_x nl x c
    have b := pay_nonneg l x
    have z := pay_le nm (x := x - pay l x) (y := x) (by omega)
    omega
  · rw [pay_low nm (x := x) (by omega)]
    have := pay_nonneg l x
    have := pay_nonneg m (x - pay l x)
    omega
/-- few ends -/
theorem sm_of {l m : List (Int × Int)} (fl : Few l) (fm : Few m) (h : l.length + m.length ≤ 31) : Sm l m := ⟨fl, fm, fun e ne me => by
  have z := len_sub (a := e) (b := 0 :: (ends l ++ ends m)) ne fun q hq => by
    rcases (me q).mp hq with w | w | w
    · rw [w]; exact List.mem_cons_self
    · exact List.mem_cons_of_mem _ (List.mem_append_left _ w)
    · exact List.mem_cons_of_mem _ (List.mem_append_right _ w)
  rw [List.length_cons, List.length_append, ends_len, ends_len] at z
  omega⟩
end DL
set_option Elab.async false
set_option linter.all false
set_option maxRecDepth 100000
set_option maxHeartbeats 1000000
namespace DL
open PySem PySem.Spec PyProof.Rows L2 CV
section
variable {ρ : Rho} {R : D → Rho → Prop}
/-- calls of what covers have -/
theorem evs_prp {S : DSp} {t : TE'} (h : Evs t ρ fun d ρ1 => ∃ a, d = .ob 0 a ∧ ∀ K : D → List (List D) → Prop, (∀ d cs, R d ρ1 → K d cs) → S [.val (.ob 0 a)] K) : Evs (prp S t) ρ R := fun Q k => by
  refine h _ fun d ρ1 ⟨a, e, hs⟩ => ?_
  subst e
  exact hs _ fun d cs r => k d ρ1 r
theorem evs_mth {S : DSp} {t : TE'} {ts : TA'} (h : Evs t ρ fun d ρ1 => ∃ a, d = .ob 0 a ∧ EvA ts ρ1 fun ds ρ2 => ∀ K : D → List (List D) → Prop, (∀ d cs, R d ρ2 → K d cs) → S (.val (.ob 0 a) :: ds.map .val) K) : Evs (mth S t ts) ρ R := fun Q k => by
  refine h _ fun d ρ1 ⟨a, e, hs⟩ => ?_
  subst e
  refine hs _ fun ds ρ2 hk => ?_
  show ok (toSl ρ2 (ds.map .d)) fun as => if (owns (ds.map .d)).Nodup then S (.val (.ob 0 a) :: as) (fun d cs => Q (.d d) (putOs ρ2 (ds.map .d) cs)) else False
  rw [toSl_map, owns_map]
  show (if ([] : List Nat).Nodup then _ else False)
  rw [if_pos List.nodup_nil]
  refine hk _ fun d cs r => ?_
  rw [putOs_map]
  exact k _ _ r
theorem evs_own2 {S : DSp} {ta tb : TE'} (h : Evs ta ρ fun x ρ1 => Evs tb ρ1 fun y ρ2 => ∃ a b, x = .ob 0 a ∧ y = .ob 0 b ∧ ∀ K : D → List (List D) → Prop, (∀ d cs, R d ρ2 → K d cs) → S [.val (.ob 0 a), .val (.ob 0 b)] K) : Evs (own2 S ta tb) ρ R := fun Q k => by
  refine h _ fun x ρ1 h1 => h1 _ fun y ρ2 ⟨a, b, e1, e2, hs⟩ => ?_
  subst e1 e2
  exact hs _ fun d cs r => k d ρ2 r
theorem evs_mk {c : Nat} {S : DIn} {t : TA'} (h : EvA t ρ fun ds ρ1 => ∀ K : D → Prop, (∀ d, R (.ob c d) ρ1 → K d) → S ds K) : Evs (mk c S t) ρ R := fun Q k => by
  refine h _ fun ds ρ1 hs => ?_
  show ok (fzs (ds.map .d)) fun ds => S ds fun d => Q (.d (.ob c d)) ρ1
  rw [fzs_map]
  exact hs _ fun d r => k _ _ r
/-! tests -/
theorem evT_tst {t : TE'} {R : Bool → Rho → Prop} (h : Evs t ρ fun d ρ1 => ∃ b, d = .bl b ∧ R b ρ1) : EvT (tst t) ρ R := fun Q k => by
  refine h _ fun d ρ1 ⟨b, e, r⟩ => ?_
  subst e
  exact k b ρ1 r
theorem evT_not {t : TT'} {R : Bool → Rho → Prop} (h : EvT t ρ fun b ρ1 => R (!b) ρ1) : EvT (tnot t) ρ R := fun Q k => h _ fun b ρ1 r => k _ _ r
theorem evT_or {t u : TT'} {R : Bool → Rho → Prop} (h : EvT t ρ fun b ρ1 => if b = true then R true ρ1 else EvT u ρ1 R) : EvT (tor t u) ρ R := fun Q k => by
  refine h _ fun b ρ1 r => ?_
  cases b with
  | true =>
    rw [if_pos rfl] at r
    exact iteT (k _ _ r)
  | false =>
    rw [if_neg Bool.false_ne_true] at r
    exact iteF (r _ k)
theorem evT_and {t u : TT'} {R : Bool → Rho → Prop} (h : EvT t ρ fun b ρ1 => if b = true then EvT u ρ1 R else R false ρ1) : EvT (tand t u) ρ R := fun Q k => by
  refine h _ fun b ρ1 r => ?_
  cases b with
  | true =>
    rw [if_pos rfl] at r
    exact iteT (r _ k)
  | false =>
    rw [if_neg Bool.false_ne_true] at r
    exact iteF (k _ _ r)
/-- if c: return ..; c is False -/
theorem seq_ifF {c : TT'} {a u : TS'} {P : En} (h : EvT c ρ fun b ρ1 => b = false ∧ u P ρ1) : seq (ifs c a nxt) u P ρ := by
  refine h _ fun b ρ1 ⟨e, r⟩ => ?_
  subst e
  exact iteF r
theorem ifF {c : TT'} {a : TS'} {P : En} (h : EvT c ρ fun b ρ1 => b = false ∧ P.nx ρ1) : ifs c a nxt P ρ := by
  refine h _ fun b ρ1 ⟨e, r⟩ => ?_
  subst e
  exact iteF r
theorem seq_itmE {t : TE'} {g : TG'} {b u : TS'} {P : En} (h : Evs t ρ fun d ρ1 => ∃ ds, Sq d ds ∧ forGo g b { P with nx := u P } ds ρ1) : seq (for' (itm t) g b) u P ρ := by
  refine h _ fun d ρ1 ⟨ds, sq, r⟩ => ?_
  rcases sq with rfl | rfl <;> exact r
theorem seq_parE {i j : Nat} {ta tb : TE'} {u : TS'} {P : En} (h : Evs ta ρ fun a ρ1 => Evs tb ρ1 fun b ρ2 => u P ((ρ2.set i (.val a)).set j (.val b))) : seq (par i j (aC ta (aC tb aN))) u P ρ := h _ fun a ρ1 h1 => h1 _ fun b ρ2 r => r
theorem retE {t : TE'} {P : En} (h : Evs t ρ fun d ρ1 => P.rt (.d d) ρ1) : ret t P ρ := h _ fun d ρ1 r => r
theorem evs_and {ta tb : TE'} (h : Evs ta ρ fun d ρ1 => ∃ b, d = .bl b ∧ (b = true → Evs tb ρ1 R) ∧ (b = false → R (.bl false) ρ1)) : Evs (vand ta tb) ρ R := fun Q k => by
  refine h _ fun d ρ1 ⟨b, e, h1, h2⟩ => ?_
  subst e
  cases b with
  | true => exact iteT (h1 rfl _ k)
  | false => exact iteF (k _ _ (h2 rfl))
end
end DL
set_option Elab.async false
set_option linter.all false
set_option maxRecDepth 100000
set_option maxHeartbeats 1000000
namespace DL
open PySem PySem.Spec PyProof.Rows L2 CV
section
variable {ρ : Rho} {R : D → Rho → Prop} {i j : Nat} {l m : List (Int × Int)}
theorem evs_rg (h : ρ[i]? = some (.val (cov l))) (hl : l.length ≤ 1000) (r : R (rgD l) ρ) : Evs (prp S_Cover_ranges (cV i)) ρ R := evs_prp (evs_of (ev_v h) ⟨spD l, rfl, fun K k => ⟨l, rfl, hl, k _ _ r⟩⟩)
theorem evs_tot (h : ρ[i]? = some (.val (cov l))) (hl : l.length ≤ 1000) (r : R (.int (total l)) ρ) : Evs (prp S_Cover_total (cV i)) ρ R := evs_prp (evs_of (ev_v h) ⟨spD l, rfl, fun K k => ⟨l, rfl, hl, k _ _ r⟩⟩)
theorem evs_most (h : ρ[i]? = some (.val (cov l))) (h2 : ρ[j]? = some (.val (cov m))) (s : Sm l m) (r : ∀ b : Bool, (b = true ↔ Lo l m) → R (.bl b) ρ) : Evs (mth S_Cover_at_most (cV i) (aC (cV j) aN)) ρ R :=
  evs_mth (evs_of (ev_v h) ⟨spD l, rfl, evA_cons (evs_of (ev_v h2) (evA_nil fun K k => ⟨l, m, rfl, s, fun b hb => k _ _ (r b hb)⟩))⟩)
theorem evs_bill {x : Int} {t : TE'} (h : ρ[i]? = some (.val (cov l))) (hl : l.length ≤ 1000) (ht : Ev t ρ (.int x)) (h0 : 0 ≤ x) (h1 : x ≤ 1000000000) (r : R (.int (pay l x)) ρ) : Evs (mth S_CoverX_callX (cV i) (aC t aN)) ρ R :=
  evs_mth (evs_of (ev_v h) ⟨spD l, rfl, evA_cons (evs_of ht (evA_nil fun K k => ⟨l, x, rfl, hl, h0, h1, k _ _ r⟩))⟩)
end
theorem rg_app (a b : List (Int × Int)) (h : a.length + b.length ≤ 1000) : addD (rgD a) (rgD b) = some (rgD (a ++ b)) := by
  have z := add_tt (a.map rgP) (b.map rgP) (by rw [sl_line, List.length_map, List.length_map]; omega)
  unfold rgD
  rw [z, List.map_append]
theorem pow_val {i j k : Int} (h : CPow i j) (e : i ^ j.toNat = k) : powI (.int i) (.int j) = some (.int k) := by
  subst e
  exact if_pos h
theorem p109 : powI (.int 10) (.int 9) = some (.int 1000000000) := pow_val (cpow (by decide) (by decide) (by decide) (by decide)) (by decide)
theorem eq_rgs (l m : List (Int × Int)) : neD (.lst [rgD l, rgD m]) (.lst [rgD l, rgD m]) = some (.bl false) := by
  have n1 : ∀ k : List (Int × Int), Nice 2 (rgD k) (.tuple ((k.map rgS).map pyP)) := fun k => by
    have z := nice_tup (l := k.map rgS) fun x _ => nice_pair x
    unfold rgD
    rw [rgP_map]
    exact z
  have n2 := nice_lst (n := 2) (f := fun k => rgD k) (g := fun k => PyData.tuple ((k.map rgS).map pyP)) (l := [l, m]) fun k _ => n1 k
  have z := (eqD_nice n2 n2 (by decide)).2
  have e : PyData.eqv (.list ([l, m].map fun k => PyData.tuple ((k.map rgS).map pyP))) (.list ([l, m].map fun k => PyData.tuple ((k.map rgS).map pyP))) = true := SeqAt.eqv_refl _ n2.c
  rw [e] at z
  exact z
theorem gt2_ok {i j : Nat} {x y : D} {ρ : Rho} {K : Rho → Prop} (h : K ((ρ.set i (.val x)).set j (.val y))) : gt 2 (gc (gn i) (gc (gn j) g0)) (.tup [x, y]) ρ K := h
theorem gn_ok {i : Nat} {x : D} {ρ : Rho} {K : Rho → Prop} (h : K (ρ.set i (.val x))) : gn i x ρ K := h
end DL
set_option Elab.async false
set_option linter.all false
set_option maxRecDepth 100000
set_option maxHeartbeats 1000000
namespace DL
open PySem PySem.Spec PyProof.Rows L2 CV
section
variable {ρ : Rho} {R : D → Rho → Prop}
theorem evs_cadd {ta tb : TE'} (h : Evs ta ρ fun x ρ1 => ∃ l, x = cov l ∧ Few l ∧ Evs tb ρ1 fun y ρ2 => ∃ m, y = cov m ∧ Few m ∧ ∀ r, Chn l m r → R (cov r) ρ2) : Evs (own2 S_CoverX_addX ta tb) ρ R :=
  evs_own2 (h.imp fun x ρ1 ⟨l, e, fl, h2⟩ => h2.imp fun y ρ2 ⟨m, e2, fm, k⟩ => ⟨spD l, spD m, e, e2, fun K kk => ⟨l, m, rfl, fl, fm, fun r hr => kk _ _ (k r hr)⟩⟩)
theorem evs_cor {ta tb : TE'} (h : Evs ta ρ fun x ρ1 => ∃ l, x = cov l ∧ Evs tb ρ1 fun y ρ2 => ∃ m, y = cov m ∧ Sm l m ∧ ∀ r, Mx l m r → R (cov r) ρ2) : Evs (own2 S_CoverX_orX ta tb) ρ R :=
  evs_own2 (h.imp fun x ρ1 ⟨l, e, h2⟩ => h2.imp fun y ρ2 ⟨m, e2, sm, k⟩ => ⟨spD l, spD m, e, e2, fun K kk => ⟨l, m, rfl, sm, fun r hr => kk _ _ (k r hr)⟩⟩)
theorem evs_ceq {ta tb : TE'} (h : Evs ta ρ fun x ρ1 => ∃ l, x = cov l ∧ Evs tb ρ1 fun y ρ2 => ∃ m, y = cov m ∧ R (.bl (decide (l = m))) ρ2) : Evs (own2 S_CoverX_eqX ta tb) ρ R :=
  evs_own2 (h.imp fun x ρ1 ⟨l, e, h2⟩ => h2.imp fun y ρ2 ⟨m, e2, k⟩ => ⟨spD l, spD m, e, e2, fun K kk => ⟨l, m, rfl, kk _ _ k⟩⟩)
theorem evs_none (r : R (cov []) ρ) : Evs (mk 0 S_CoverX_initX aN) ρ R := evs_mk (evA_nil fun K k => init_nil K (k _ r))
theorem evs_pol {a b : Int} (h : okPol (a, b)) (r : R (cov (polS (a, b))) ρ) : Evs (mk 0 S_CoverX_initX (aC (tup (aC (cC (.int a)) (aC (cC (.int b)) aN))) aN)) ρ R :=
  evs_mk (evA_cons (evs_tup (evA_cons (evs_of (ev_c _ _) (evA_cons (evs_of (ev_c _ _) (evA_nil ⟨by rw [sl_line]; show (2 : Nat) ≤ 16777216; decide, evA_nil fun K k => init_one (a, b) h K (k _ r)⟩)))))))
theorem evs_mostE {ta tb : TE'} (h : Evs ta ρ fun x ρ1 => ∃ l, x = cov l ∧ Evs tb ρ1 fun y ρ2 => ∃ m, y = cov m ∧ Sm l m ∧ ∀ b : Bool, (b = true ↔ Lo l m) → R (.bl b) ρ2) : Evs (mth S_Cover_at_most ta (aC tb aN)) ρ R :=
  evs_mth (h.imp fun x ρ1 ⟨l, e, h2⟩ => ⟨spD l, e, evA_cons (h2.imp fun y ρ2 ⟨m, e2, sm, k⟩ => evA_nil fun K kk => ⟨l, m, by rw [e2]; rfl, sm, fun b hb => kk _ _ (k b hb)⟩)⟩)
theorem evs_rgE {t : TE'} (h : Evs t ρ fun x ρ1 => ∃ l, x = cov l ∧ l.length ≤ 1000 ∧ R (rgD l) ρ1) : Evs (prp S_Cover_ranges t) ρ R :=
  evs_prp (h.imp fun x ρ1 ⟨l, e, hl, r⟩ => ⟨spD l, e, fun K k => ⟨l, rfl, hl, k _ _ r⟩⟩)
theorem evs_totE {t : TE'} (h : Evs t ρ fun x ρ1 => ∃ l, x = cov l ∧ l.length ≤ 1000 ∧ R (.int (total l)) ρ1) : Evs (prp S_Cover_total t) ρ R :=
  evs_prp (h.imp fun x ρ1 ⟨l, e, hl, r⟩ => ⟨spD l, e, fun K k => ⟨l, rfl, hl, k _ _ r⟩⟩)
end
theorem eq_rgD (l m : List (Int × Int)) : eqD (rgD l) (rgD m) = some (.bl (decide (l = m))) ∧ neD (rgD l) (rgD m) = some (.bl (!decide (l = m))) := by
  have z := eq_spD (l.map rgS) (m.map rgS)
  have e : ∀ k : List (Int × Int), spD (k.map rgS) = rgD k := fun k => by unfold spD rgD; rw [rgP_map]
  rw [e, e] at z
  have inj : (l.map rgS = m.map rgS) ↔ l = m := by
    constructor
    · intro h
      refine List.map_inj_right (f := rgS) (fun x y hxy => ?_) |>.mp h
      have h1 : (x.1 + 1, x.2) = (y.1 + 1, y.2) := hxy
      have a := congrArg Prod.fst h1
      have b := congrArg Prod.snd h1
      have a' : x.1 + 1 = y.1 + 1 := a
      have b' : x.2 = y.2 := b
      obtain ⟨x1, x2⟩ := x
      obtain ⟨y1, y2⟩ := y
      have : x1 = y1 := by have a'' : x1 + 1 = y1 + 1 := a'; omega
      have b'' : x2 = y2 := b'
      rw [this, b'']
    · intro h; rw [h]
  have ed : decide (l.map rgS = m.map rgS) = decide (l = m) := decide_eq_decide.mpr inj
  rw [ed] at z
  exact z
/-! chains -/
theorem chn_assoc {a b c ab bc x y : List (Int × Int)} (h1 : Chn a b ab) (h2 : Chn ab c x) (h3 : Chn b c bc) (h4 : Chn a bc y) : x = y := by
  refine pay_uniq h2.1 h4.1 fun t => ?_
  rw [h2.2.1, h1.2.1, h4.2.1, h3.2.1]
  have : t - (pay a t + pay b (t - pay a t)) = t - pay a t - pay b (t - pay a t) := by omega
  rw [this]
  omega
theorem chn_nil_r {a x : List (Int × Int)} (n : Norm a) (h : Chn a [] x) : x = a := pay_uniq h.1 n fun t => by
  rw [h.2.1, pay_nil]; omega
theorem chn_nil_l {a x : List (Int × Int)} (n : Norm a) (h : Chn [] a x) : x = a := pay_uniq h.1 n fun t => by
  rw [h.2.1, pay_nil]
  have : t - 0 = t := by omega
  rw [this]; omega
/-- larger parts, larger sums -/
theorem chn_mono_l {a b c x y : List (Int × Int)} (nc : Norm c) (h : Lo a b) (h1 : Chn a c x) (h2 : Chn b c y) : Lo x y := fun t => by
  rw [h1.2.1, h2.2.1]
  have k := h t
  have z := pay_le nc (x := t - pay b t) (y := t - pay a t) (by omega)
  omega
theorem chn_mono_r {a b c x y : List (Int × Int)} (h : Lo a b) (h1 : Chn c a x) (h2 : Chn c b y) : Lo x y := fun t => by
  rw [h1.2.1, h2.2.1]
  have k := h (t - pay c t)
  omega
theorem chn_few {l m r : List (Int × Int)} {M N : Int} (h : Chn l m r) (nl : Norm l) (nm : Norm m) (ll : l.length ≤ 50) (lm : m.length ≤ 50) (bl : Bd M l) (bm : Bd N m) (h0 : 0 ≤ M) (h1 : M ≤ 2 ^ 50) (h2 : 0 ≤ N) (h3 : N ≤ 2 ^ 50) : Few r :=
  ⟨h.1, by have := h.2.2; omega, fun p hp => by have := chn_bd nl nm h h0 h2 bl bm p hp; omega⟩
end DL
set_option Elab.async false
set_option linter.all false
set_option maxRecDepth 100000
set_option maxHeartbeats 1000000
/-! The calculus: one lemma a reading; each takes the wish behind as it is (nothing is unfolded). -/
namespace DL
open PySem PySem.Spec PyProof.Rows L2
def onD (x : Xv) (k : D → Prop) : Prop := match x with
  | .d d => k d
  | .o _ => False
def onB (x : Xv) (k : Bool → Prop) : Prop := match x with
  | .d (.bl b) => k b
  | _ => False
def onI (x : Xv) (k : Int → Prop) : Prop := match x with
  | .d (.int b) => k b
  | _ => False
def onC (x : Xv) (k : D → Prop) : Prop := match x with
  | .d (.ob 0 d) => k d
  | _ => False
/-- a list's or a tuple's items -/
def onS (ρ : Rho) (x : Xv) (k : List D → Prop) : Prop := match x with
  | .d (.lst ds) => k ds
  | .d (.tup ds) => k ds
  | _ => False
section
variable {ρ : Rho} {Q : Xv → Rho → Prop} {P : En} {K : Rho → Prop}
theorem xD {d : D} {k : D → Prop} (h : k d) : onD (.d d) k := h
theorem xB {b : Bool} {k : Bool → Prop} (h : k b) : onB (.d (.bl b)) k := h
theorem xI {b : Int} {k : Int → Prop} (h : k b) : onI (.d (.int b)) k := h
theorem xC {d : D} {k : D → Prop} (h : k d) : onC (.d (.ob 0 d)) k := h
theorem xSl {ds : List D} {k : List D → Prop} (h : k ds) : onS ρ (.d (.lst ds)) k := h
theorem xSt {ds : List D} {k : List D → Prop} (h : k ds) : onS ρ (.d (.tup ds)) k := h
theorem x_v {i : Nat} {d : D} (h : ρ[i]? = some (.val d)) (k : Q (.d d) ρ) : cV i ρ Q := by unfold cV; rw [h]; exact k
theorem x_o {i : Nat} {tg : Bool} {ds : List D} (h : ρ[i]? = some (.own tg ds)) (k : Q (.o i) ρ) : cV i ρ Q := by unfold cV; rw [h]; exact k
theorem x_c {d : D} (k : Q (.d d) ρ) : cC d ρ Q := k
theorem x_ok {α : Type} {e : Option α} {c : α} {k : α → Prop} (h : e = some c) (q : k c) : ok e k := by rw [h]; exact q
theorem x_rs {d : D} {k : D → Prop} (q : k d) : ok (rs ρ (.d d)) k := q
theorem x_rso {i : Nat} {tg : Bool} {ds : List D} {k : D → Prop} (h : ρ[i]? = some (.own tg ds)) (q : k (.lst ds)) : ok (rs ρ (.o i)) k := by
  have e : rs ρ (.o i) = some (.lst ds) := by
    have ho : ownAt ρ i = some ds := by unfold ownAt; rw [h]
    show (ownAt ρ i).map D.lst = _
    rw [ho]; rfl
  rw [e]; exact q
theorem x_bin {f : D → D → Option D} {ta tb : TE'} (h : ta ρ fun x ρ1 => tb ρ1 fun y ρ2 => ok (rs ρ2 x) fun a => ok (rs ρ2 y) fun b => ok (f a b) fun c => Q (.d c) ρ2) : bin f ta tb ρ Q := h
theorem x_un {f : D → Option D} {ta : TE'} (h : ta ρ fun x ρ1 => ok (rs ρ1 x) fun a => ok (f a) fun c => Q (.d c) ρ1) : un f ta ρ Q := h
theorem x_binF {f : D → D → Option (List D)} {ta tb : TE'} {Q : List D → Rho → Prop} (h : ta ρ fun x ρ1 => tb ρ1 fun y ρ2 => ok (rs ρ2 x) fun a => ok (rs ρ2 y) fun b => ok (f a b) fun c => Q c ρ2) : binF f ta tb ρ Q := h
theorem x_tst {ta : TE'} {Q : Bool → Rho → Prop} (h : ta ρ fun x ρ1 => onB x fun b => Q b ρ1) : tst ta ρ Q := by
  unfold tst
  exact h
theorem x_tor {t u : TT'} {Q : Bool → Rho → Prop} (h : t ρ fun b ρ1 => if b = true then Q true ρ1 else u ρ1 Q) : tor t u ρ Q := h
theorem x_tand {t u : TT'} {Q : Bool → Rho → Prop} (h : t ρ fun b ρ1 => if b = true then u ρ1 Q else Q false ρ1) : tand t u ρ Q := h
theorem x_tnot {t : TT'} {Q : Bool → Rho → Prop} (h : t ρ fun b ρ1 => Q (!b) ρ1) : tnot t ρ Q := h
theorem x_vand {ta tb : TE'} (h : ta ρ fun x ρ1 => onB x fun b => if b = true then tb ρ1 Q else Q (.d (.bl false)) ρ1) : vand ta tb ρ Q := x_tst (Q := fun b ρ1 => if b = true then tb ρ1 Q else Q (.d (.bl false)) ρ1) h
theorem x_vor {ta tb : TE'} (h : ta ρ fun x ρ1 => onB x fun b => if b = true then Q (.d (.bl true)) ρ1 else tb ρ1 Q) : vor ta tb ρ Q := x_tst (Q := fun b ρ1 => if b = true then Q (.d (.bl true)) ρ1 else tb ρ1 Q) h
theorem x_vnot {ta : TE'} (h : ta ρ fun x ρ1 => onB x fun b => Q (.d (.bl (!b))) ρ1) : vnot ta ρ Q := x_tst (Q := fun b ρ1 => Q (.d (.bl (!b))) ρ1) h
theorem x_ite {c : TT'} {ta tb : TE'} (h : c ρ fun b ρ1 => if b = true then ta ρ1 Q else tb ρ1 Q) : ite' c ta tb ρ Q := h
theorem x_iteT {c t u : TT'} {Q : Bool → Rho → Prop} (h : c ρ fun b ρ1 => if b = true then t ρ1 Q else u ρ1 Q) : iteT' c t u ρ Q := h
theorem x_yes {Q : Bool → Rho → Prop} (h : Q true ρ) : yes' ρ Q := h
/-- a test that is known -/
theorem x_yesB {b : Bool} {p q : Prop} (h : b = true) (k : p) : if b = true then p else q := by rw [if_pos h]; exact k
theorem x_noB {b : Bool} {p q : Prop} (h : b = false) (k : q) : if b = true then p else q := by rw [h, if_neg Bool.false_ne_true]; exact k
theorem x_if {c : Prop} [Decidable c] {p : Prop} (h : c) (k : p) : if c then p else False := by rw [if_pos h]; exact k
/-! arguments -/
theorem x_aN {Q : List Xv → Rho → Prop} (h : Q [] ρ) : aN ρ Q := h
theorem x_aC {t : TE'} {u : TA'} {Q : List Xv → Rho → Prop} (h : t ρ fun x ρ1 => u ρ1 fun xs ρ2 => Q (x :: xs) ρ2) : aC t u ρ Q := h
/-- arguments that are frozen -/
def onF (xs : List Xv) (k : List D → Prop) : Prop := ok (fzs xs) k
theorem xF0 {k : List D → Prop} (h : k []) : onF [] k := h
theorem xF1 {a : D} {k : List D → Prop} (h : k [a]) : onF [.d a] k := h
theorem xF2 {a b : D} {k : List D → Prop} (h : k [a, b]) : onF [.d a, .d b] k := h
theorem xF3 {a b c : D} {k : List D → Prop} (h : k [a, b, c]) : onF [.d a, .d b, .d c] k := h
theorem xFm {xs : List Xv} {as : List D} {k : List D → Prop} (e : fzs xs = some as) (h : k as) : onF xs k := by unfold onF; rw [e]; exact h
theorem x_tup {t : TA'} (h : t ρ fun xs ρ1 => onF xs fun ds => if ds.length ≤ sizeLine then Q (.d (.tup ds)) ρ1 else False) : tup t ρ Q := h
theorem x_lst {t : TA'} {Q : List D → Rho → Prop} (h : t ρ fun xs ρ1 => onF xs fun ds => if ds.length ≤ sizeLine then Q ds ρ1 else False) : lstF t ρ Q := h
theorem x_frz {t : TF'} (h : t ρ fun ds ρ1 => Q (.d (.lst ds)) ρ1) : frz t ρ Q := h
/-- arguments of what is built in -/
def onR (ρ : Rho) (xs : List Xv) (k : List D → Prop) : Prop := ok (rss ρ xs) k
theorem xR1 {a : D} {k : List D → Prop} (h : k [a]) : onR ρ [.d a] k := h
theorem xR1o {i : Nat} {tg : Bool} {ds : List D} {k : List D → Prop} (e : ρ[i]? = some (.own tg ds)) (h : k [.lst ds]) : onR ρ [.o i] k := by
  have e2 : rss ρ [.o i] = some [.lst ds] := by
    have ho : ownAt ρ i = some ds := by unfold ownAt; rw [e]
    show (match (ownAt ρ i).map D.lst, rss ρ [] with | some d, some ds => some (d :: ds) | _, _ => none) = _
    rw [ho]; rfl
  unfold onR; rw [e2]; exact h
theorem xR2 {a b : D} {k : List D → Prop} (h : k [a, b]) : onR ρ [.d a, .d b] k := h
theorem x_cal {f : List D → Option D} {t : TA'} (h : t ρ fun xs ρ1 => onR ρ1 xs fun ds => ok (f ds) fun c => Q (.d c) ρ1) : cal f t ρ Q := h
theorem x_calF {f : List D → Option (List D)} {t : TA'} {Q : List D → Rho → Prop} (h : t ρ fun xs ρ1 => onR ρ1 xs fun ds => ok (f ds) fun c => Q c ρ1) : calF f t ρ Q := h
/-! calls -/
def onA (S : DSp) (ρ : Rho) (xs : List Xv) (Q : Xv → Rho → Prop) : Prop := ok (toSl ρ xs) fun as => if (owns xs).Nodup then S as (fun d cs => Q (.d d) (putOs ρ xs cs)) else False
section
variable {S : DSp}
theorem xA0 (h : S [] fun d _ => Q (.d d) ρ) : onA S ρ [] Q := by
  show (if ([] : List Nat).Nodup then _ else False)
  rw [if_pos List.nodup_nil]; exact h
theorem xA1 {a : D} (h : S [.val a] fun d _ => Q (.d d) ρ) : onA S ρ [.d a] Q := by
  show (if ([] : List Nat).Nodup then _ else False)
  rw [if_pos List.nodup_nil]; exact h
theorem xA2 {a b : D} (h : S [.val a, .val b] fun d _ => Q (.d d) ρ) : onA S ρ [.d a, .d b] Q := by
  show (if ([] : List Nat).Nodup then _ else False)
  rw [if_pos List.nodup_nil]; exact h
theorem xA3 {a b c : D} (h : S [.val a, .val b, .val c] fun d _ => Q (.d d) ρ) : onA S ρ [.d a, .d b, .d c] Q := by
  show (if ([] : List Nat).Nodup then _ else False)
  rw [if_pos List.nodup_nil]; exact h
theorem xA4 {a b c e : D} (h : S [.val a, .val b, .val c, .val e] fun d _ => Q (.d d) ρ) : onA S ρ [.d a, .d b, .d c, .d e] Q := by
  show (if ([] : List Nat).Nodup then _ else False)
  rw [if_pos List.nodup_nil]; exact h
/-- the first argument a list of the caller's own: it comes back changed -/
def bk1 (ρ : Rho) (i : Nat) (tg : Bool) (Q : Xv → Rho → Prop) : D → List (List D) → Prop := fun d cs => match cs with
  | [c] => Q (.d d) (ρ.set i (.own tg c))
  | _ => True
theorem xO {i : Nat} {tg : Bool} {ds : List D} {rest : List Xv} {as : List D} (e : ρ[i]? = some (.own tg ds)) (er : rest = as.map .d) (h : S (.own true ds :: as.map .val) (fun d cs => Q (.d d) (putOs ρ (.o i :: rest) cs))) : onA S ρ (.o i :: rest) Q := by
  subst er
  have ho : ownAt ρ i = some ds := by unfold ownAt; rw [e]
  have h1 : ∀ as : List D, toSl ρ (as.map .d) = some (as.map .val) := fun as => by
    induction as with
    | nil => rfl
    | cons d as ih => show (toSl ρ (as.map .d)).map (Sl.val d :: ·) = _; rw [ih]; rfl
  have h2 : ∀ as : List D, owns (as.map .d) = [] := fun as => by
    induction as with
    | nil => rfl
    | cons d as ih => exact ih
  have hto : toSl ρ (.o i :: as.map .d) = some (.own true ds :: as.map .val) := by
    show (match ownAt ρ i with | some ds' => (toSl ρ (as.map .d)).map (Sl.own true ds' :: ·) | none => none) = _
    rw [ho, h1]; rfl
  unfold onA
  rw [hto]
  have : owns (.o i :: as.map .d) = [i] := by show i :: owns (as.map .d) = _; rw [h2]
  rw [this]
  show (if ([i] : List Nat).Nodup then _ else False)
  rw [if_pos (by simp)]
  exact h
theorem putO {i : Nat} {tg : Bool} {ds c : List D} (e : ρ[i]? = some (.own tg ds)) : ∀ {rest : List Xv} {as : List D}, rest = as.map .d → putOs ρ (.o i :: rest) [c] = ρ.set i (.own tg c) := fun {rest as} er => by
  subst er
  have h : ∀ (as : List D) (ρ' : Rho), putOs ρ' (as.map .d) [] = ρ' := fun as ρ' => by
    induction as with
    | nil => rfl
    | cons d as ih => exact ih
  show putOs (putOwn ρ i c) (as.map .d) [] = _
  rw [h]
  unfold putOwn
  rw [e]
/-- what the callee says of the own list: one list comes back -/
theorem xO1 {i : Nat} {tg : Bool} {ds : List D} (e : ρ[i]? = some (.own tg ds)) (h : ∀ K : D → List (List D) → Prop, (∀ d c, Q (.d d) (ρ.set i (.own tg c)) → K d [c]) → S [.own true ds] K) : onA S ρ [.o i] Q :=
  xO (as := []) e rfl (h _ fun d c q => by
    show Q (.d d) (putOs ρ (.o i :: ([] : List D).map .d) [c])
    rw [putO (as := []) e rfl]; exact q)
theorem xO2 {i : Nat} {tg : Bool} {ds : List D} {a : D} (e : ρ[i]? = some (.own tg ds)) (h : ∀ K : D → List (List D) → Prop, (∀ d c, Q (.d d) (ρ.set i (.own tg c)) → K d [c]) → S [.own true ds, .val a] K) : onA S ρ [.o i, .d a] Q :=
  xO (as := [a]) e rfl (h _ fun d c q => by
    show Q (.d d) (putOs ρ (.o i :: ([a] : List D).map .d) [c])
    rw [putO (as := [a]) e rfl]; exact q)
theorem xO3 {i : Nat} {tg : Bool} {ds : List D} {a b : D} (e : ρ[i]? = some (.own tg ds)) (h : ∀ K : D → List (List D) → Prop, (∀ d c, Q (.d d) (ρ.set i (.own tg c)) → K d [c]) → S [.own true ds, .val a, .val b] K) : onA S ρ [.o i, .d a, .d b] Q :=
  xO (as := [a, b]) e rfl (h _ fun d c q => by
    show Q (.d d) (putOs ρ (.o i :: ([a, b] : List D).map .d) [c])
    rw [putO (as := [a, b]) e rfl]; exact q)
theorem xO4 {i : Nat} {tg : Bool} {ds : List D} {a b c : D} (e : ρ[i]? = some (.own tg ds)) (h : ∀ K : D → List (List D) → Prop, (∀ d c, Q (.d d) (ρ.set i (.own tg c)) → K d [c]) → S [.own true ds, .val a, .val b, .val c] K) : onA S ρ [.o i, .d a, .d b, .d c] Q :=
  xO (as := [a, b, c]) e rfl (h _ fun d c' q => by
    show Q (.d d) (putOs ρ (.o i :: ([a, b, c] : List D).map .d) [c'])
    rw [putO (as := [a, b, c]) e rfl]; exact q)
theorem x_call {t : TA'} (h : t ρ fun xs ρ1 => onA S ρ1 xs Q) : call' S t ρ Q := h
theorem x_own2 {ta tb : TE'} (h : ta ρ fun x ρ1 => tb ρ1 fun y ρ2 => onC x fun a => onC y fun b => S [.val (.ob 0 a), .val (.ob 0 b)] (fun d _ => Q (.d d) ρ2)) : own2 S ta tb ρ Q := by
  have e : own2 S ta tb = fun ρ Q => ta ρ fun x ρ1 => tb ρ1 fun y ρ2 => onC x fun a => onC y fun b => S [.val (.ob 0 a), .val (.ob 0 b)] (fun d _ => Q (.d d) ρ2) := by
    unfold own2 onC
    funext ρ Q
    congr 1
    funext x ρ1
    congr 1
    funext y ρ2
    cases x with
    | o i => rfl
    | d d =>
      cases d with
      | ob c a =>
        cases c with
        | succ n => rfl
        | zero =>
          cases y with
          | o j => rfl
          | d d2 =>
            cases d2 with
            | ob c2 b =>
              cases c2 with
              | succ n => rfl
              | zero => rfl
            | _ => rfl
      | _ => rfl
  rw [e]
  exact h
theorem x_prp {ta : TE'} (h : ta ρ fun x ρ1 => onC x fun a => S [.val (.ob 0 a)] (fun d _ => Q (.d d) ρ1)) : prp S ta ρ Q := h
theorem x_mth {ta : TE'} {t : TA'} (h : ta ρ fun x ρ1 => onC x fun a => t ρ1 fun xs ρ2 => onA (fun as K => S (.val (.ob 0 a) :: as) K) ρ2 xs Q) : mth S ta t ρ Q := h
theorem x_mk {c : Nat} {S : DIn} {t : TA'} (h : t ρ fun xs ρ1 => onF xs fun ds => S ds fun d => Q (.d (.ob c d)) ρ1) : mk c S t ρ Q := h
theorem x_isi {f : D → Option Bool} {t : TE'} (h : t ρ fun x ρ1 => ok (rs ρ1 x) fun a => ok (f a) fun b => Q (.d (.bl b)) ρ1) : isi f t ρ Q := h
end
/-! fresh lists of defs -/
def onAF (S : DSpF) (ρ : Rho) (xs : List Xv) (Q : List D → Rho → Prop) : Prop := ok (toSl ρ xs) fun as => if (owns xs).Nodup then S as (fun ds cs => Q ds (putOs ρ xs cs)) else False
theorem x_callF {S : DSpF} {t : TA'} {Q : List D → Rho → Prop} (h : t ρ fun xs ρ1 => onAF S ρ1 xs Q) : callF S t ρ Q := h
/-! slices -/
theorem x_pNo {Q : Option Int → Rho → Prop} (h : Q none ρ) : pNo ρ Q := h
theorem x_pSo {t : TE'} {Q : Option Int → Rho → Prop} (h : t ρ fun x ρ1 => onI x fun i => Q (some i) ρ1) : pSo t ρ Q := by
  unfold pSo
  exact h
theorem x_slc {t : TE'} {l h : TO'} (q : t ρ fun x ρ1 => l ρ1 fun lo ρ2 => h ρ2 fun hi ρ3 => ok (rs ρ3 x) fun a => ok (slD a lo hi) fun c => Q (.d c) ρ3) : slc t l h ρ Q := q
theorem x_rev {t : TE'} (h : t ρ fun x ρ1 => ok (rs ρ1 x) fun a => onS ρ1 (.d a) fun _ => True) (k : True) : True := True.intro
/-! statements -/
theorem s_nxt (h : P.nx ρ) : nxt P ρ := h
theorem s_seq {t u : TS'} (h : t { P with nx := u P } ρ) : seq t u P ρ := h
theorem s_ret {t : TE'} (h : t ρ P.rt) : ret t P ρ := h
theorem s_ifs {c : TT'} {t u : TS'} (h : c ρ fun b ρ1 => if b = true then t P ρ1 else u P ρ1) : ifs c t u P ρ := h
theorem s_drp {t : TE'} (h : t ρ fun _ ρ1 => P.nx ρ1) : drp t P ρ := h
theorem s_set {i : Nat} {t : TE'} (h : t ρ fun x ρ1 => onD x fun d => P.nx (ρ1.set i (.val d))) : set i t P ρ := by
  unfold set
  exact h
theorem s_setO {i : Nat} {t : TF'} (h : t ρ fun ds ρ1 => P.nx (ρ1.set i (.own false ds))) : setO i t P ρ := h
theorem s_par {i j : Nat} {ta tb : TE'} (h : ta ρ fun x ρ1 => tb ρ1 fun y ρ2 => onD x fun a => onD y fun b => P.nx ((ρ2.set i (.val a)).set j (.val b))) : par i j (aC ta (aC tb aN)) P ρ := by
  have e : par i j (aC ta (aC tb aN)) P ρ = (ta ρ fun x ρ1 => tb ρ1 fun y ρ2 => onD x fun a => onD y fun b => P.nx ((ρ2.set i (.val a)).set j (.val b))) := by
    unfold par aC aN onD
    congr 1
    funext x ρ1
    congr 1
    funext y ρ2
    cases x <;> cases y <;> rfl
  rw [e]
  exact h
theorem s_par3 {i j l : Nat} {ta tb tc : TE'} (h : ta ρ fun x ρ1 => tb ρ1 fun y ρ2 => tc ρ2 fun z ρ3 => onD x fun a => onD y fun b => onD z fun c => P.nx (((ρ3.set i (.val a)).set j (.val b)).set l (.val c))) : par3 i j l (aC ta (aC tb (aC tc aN))) P ρ := by
  have e : par3 i j l (aC ta (aC tb (aC tc aN))) P ρ = (ta ρ fun x ρ1 => tb ρ1 fun y ρ2 => tc ρ2 fun z ρ3 => onD x fun a => onD y fun b => onD z fun c => P.nx (((ρ3.set i (.val a)).set j (.val b)).set l (.val c))) := by
    unfold par3 aC aN onD
    congr 1
    funext x ρ1
    congr 1
    funext y ρ2
    congr 1
    funext z ρ3
    cases x <;> cases y <;> cases z <;> rfl
  rw [e]
  exact h
theorem s_parDO {i j : Nat} {t : TE'} {u : TF'} (h : t ρ fun x ρ1 => u ρ1 fun es ρ2 => onD x fun a => P.nx ((ρ2.set i (.val a)).set j (.own false es))) : parDO i j t u P ρ := by
  unfold parDO
  exact h
theorem s_parOD {i j : Nat} {t : TF'} {u : TE'} (h : t ρ fun ds ρ1 => u ρ1 fun y ρ2 => onD y fun b => P.nx ((ρ2.set i (.own false ds)).set j (.val b))) : parOD i j t u P ρ := by
  unfold parOD
  exact h
theorem s_parOO {i j : Nat} {t u : TF'} (h : t ρ fun ds ρ1 => u ρ1 fun es ρ2 => P.nx ((ρ2.set i (.own false ds)).set j (.own false es))) : parOO i j t u P ρ := h
theorem s_asg {t : TE'} {g : TG'} (h : t ρ fun x ρ1 => onD x fun d => g d ρ1 P.nx) : asg t g P ρ := by
  unfold asg
  exact h
theorem s_for {w : TI'} {g : TG'} {b : TS'} (h : w ρ fun ds ρ1 => forGo g b P ds ρ1) : for' w g b P ρ := h
theorem i_itm {t : TE'} {Q : List D → Rho → Prop} (h : t ρ fun x ρ1 => onS ρ1 x fun ds => Q ds ρ1) : itm t ρ Q := by
  unfold itm
  exact h
theorem i_rng1 {t : TE'} {Q : List D → Rho → Prop} (h : t ρ fun x ρ1 => onI x fun j => if -(2 ^ 62) ≤ j ∧ j < 2 ^ 62 then Q (rangeD 0 j) ρ1 else False) : rng1 t ρ Q := by
  unfold rng1
  exact h
theorem i_rng2 {t u : TE'} {Q : List D → Rho → Prop} (h : t ρ fun x ρ1 => u ρ1 fun y ρ2 => onI x fun i => onI y fun j => if -(2 ^ 62) ≤ i ∧ i < 2 ^ 62 ∧ -(2 ^ 62) ≤ j ∧ j < 2 ^ 62 then Q (rangeD i j) ρ2 else False) : rng2 t u ρ Q := by
  have e : rng2 t u ρ Q = (t ρ fun x ρ1 => u ρ1 fun y ρ2 => onI x fun i => onI y fun j => if -(2 ^ 62) ≤ i ∧ i < 2 ^ 62 ∧ -(2 ^ 62) ≤ j ∧ j < 2 ^ 62 then Q (rangeD i j) ρ2 else False) := by
    unfold rng2 onI
    congr 1
    funext x ρ1
    congr 1
    funext y ρ2
    cases x with
    | o i => rfl
    | d d =>
      cases d with
      | int a =>
        cases y with
        | o j => rfl
        | d d2 => cases d2 <;> rfl
      | _ => rfl
  rw [e]
  exact h
theorem i_zip {t : TA'} {Q : List D → Rho → Prop} (h : t ρ fun xs ρ1 => match xs with
  | [.d (.lst as), .d (.lst bs)] => Q (zipD as bs) ρ1
  | [.d (.tup as), .d (.tup bs)] => Q (zipD as bs) ρ1
  | _ => False) : zpI t ρ Q := by
  unfold zpI
  exact h
/-! targets -/
theorem g_n {i : Nat} {d : D} (h : K (ρ.set i (.val d))) : gn i d ρ K := h
theorem g_t2 {g1 g2 : TG'} {a b : D} (h : g1 a ρ fun ρ1 => g2 b ρ1 K) : gt 2 (gc g1 (gc g2 g0)) (.tup [a, b]) ρ K := h
theorem g_t3 {g1 g2 g3 : TG'} {a b c : D} (h : g1 a ρ fun ρ1 => g2 b ρ1 fun ρ2 => g3 c ρ2 K) : gt 3 (gc g1 (gc g2 (gc g3 g0))) (.tup [a, b, c]) ρ K := h
theorem g_l2 {g1 g2 : TG'} {a b : D} (h : g1 a ρ fun ρ1 => g2 b ρ1 K) : gl 2 (gc g1 (gc g2 g0)) (.lst [a, b]) ρ K := h
theorem g_l3 {g1 g2 g3 : TG'} {a b c : D} (h : g1 a ρ fun ρ1 => g2 b ρ1 fun ρ2 => g3 c ρ2 K) : gl 3 (gc g1 (gc g2 (gc g3 g0))) (.lst [a, b, c]) ρ K := h
/-! own lists -/
theorem x_app {i : Nat} {t : TE'} {tg : Bool} {ds : List D} (e : ρ[i]? = some (.own tg ds)) (h : t ρ fun x ρ1 => onD x fun d => ok (ownAt ρ1 i) fun ds => if ds.length < sizeLine then Q (.d .non) (putOwn ρ1 i (ds ++ [d])) else False) : app i t ρ Q := by
  have ho : ownAt ρ i = some ds := by unfold ownAt; rw [e]
  unfold app
  rw [ho]
  exact h
theorem x_ownAt {i : Nat} {tg : Bool} {ds : List D} {k : List D → Prop} (e : ρ[i]? = some (.own tg ds)) (h : k ds) : ok (ownAt ρ i) k := by
  have ho : ownAt ρ i = some ds := by unfold ownAt; rw [e]
  rw [ho]; exact h
theorem x_putOwn {i : Nat} {tg : Bool} {ds c : List D} {k : Rho → Prop} (e : ρ[i]? = some (.own tg ds)) (h : k (ρ.set i (.own tg c))) : k (putOwn ρ i c) := by
  have ho : putOwn ρ i c = ρ.set i (.own tg c) := by unfold putOwn; rw [e]
  rw [ho]; exact h
theorem x_popA {i : Nat} {t : TE'} {tg : Bool} {ds : List D} (e : ρ[i]? = some (.own tg ds)) (h : t ρ fun x ρ1 => onI x fun n => ok (ownAt ρ1 i) fun ds => if -(2 ^ 63) ≤ n ∧ n < 2 ^ 63 then ok (seqIndex? n ds.length) fun j => ok ds[j]? fun d => Q (.d d) (putOwn ρ1 i (ds.eraseIdx j)) else False) : popA i t ρ Q := by
  have ho : ownAt ρ i = some ds := by unfold ownAt; rw [e]
  unfold popA
  rw [ho]
  exact h
theorem x_popL {i : Nat} (h : ok (ownAt ρ i) fun ds => ok ds[ds.length - 1]? fun d => Q (.d d) (putOwn ρ i ds.dropLast)) : popL i ρ Q := h
theorem s_while {c : TT'} {b : TS'} (W : Nat → Rho → Prop) (m : Nat) (h0 : W m ρ) (h : ∀ m ρ, W m ρ → c ρ fun t ρ1 => if t = true then ∃ N : Rho → Prop, (∀ ρ', N ρ' → ∃ m', m' < m ∧ W m' ρ') ∧ b { P with nx := N, ct := N, bk := P.nx } ρ1 else P.nx ρ1) : whl c b P ρ := ⟨W, ⟨m, h0⟩, h⟩
/-! comprehensions -/
theorem f_lc {w : TI'} {g : TG'} {c : TT'} {e : TE'} {vs : List Nat} {Q : List D → Rho → Prop} (h : w ρ fun ds ρ1 => lcGo g c e vs (fun acc ρ' => Q acc (back ρ1 ρ' vs)) ds [] (nos ρ1 vs)) : lc w g c e vs ρ Q := h
end
end DL
set_option Elab.async false
set_option linter.all false
set_option maxRecDepth 100000
set_option maxHeartbeats 1000000
/-! Mirrors that can be reckoned, and what is known of them. -/
namespace DL
open CV
def insP (p : Int × Int) : List (Int × Int) → List (Int × Int)
  | [] => [p]
  | q :: l => if p.1 ≤ q.1 then p :: q :: l else q :: insP p l
def srt : List (Int × Int) → List (Int × Int)
  | [] => []
  | p :: l => insP p (srt l)
theorem insP_perm (p : Int × Int) : ∀ l, (insP p l).Perm (p :: l)
  | [] => .refl _
  | q :: l => by
    unfold insP
    split
    · exact .refl _
    · exact ((insP_perm p l).cons q).trans (.swap p q l)
theorem srt_perm : ∀ l, (srt l).Perm l
  | [] => .refl _
  | p :: l => (insP_perm p (srt l)).trans ((srt_perm l).cons p)
theorem insP_sorted (p : Int × Int) : ∀ l, l.Pairwise (fun p q : Int × Int => p.1 ≤ q.1) → (insP p l).Pairwise (fun p q => p.1 ≤ q.1)
  | [], _ => by unfold insP; simp
  | q :: l, h => by
    unfold insP
    obtain ⟨h1, h2⟩ := List.pairwise_cons.mp h
    split
    · rename_i c
      refine List.pairwise_cons.mpr ⟨fun r hr => ?_, h⟩
      rcases List.mem_cons.mp hr with e | hr
      · rw [e]; exact c
      · have := h1 r hr; omega
    · rename_i c
      refine List.pairwise_cons.mpr ⟨fun r hr => ?_, insP_sorted p l h2⟩
      rcases List.mem_cons.mp ((insP_perm p l).mem_iff.mp hr) with e | hr
      · rw [e]; omega
      · exact h1 r hr
theorem srt_sorted : ∀ l, (srt l).Pairwise (fun p q => p.1 ≤ q.1)
  | [] => List.Pairwise.nil
  | p :: l => insP_sorted p _ (srt_sorted l)
/-- the union of spans -/
def uni (l : List (Int × Int)) : List (Int × Int) := join (srt l)
theorem uni_ok {l : List (Int × Int)} (hp : ∀ p ∈ l, 0 ≤ p.1) : Norm (uni l) ∧ (∀ t, Cov (uni l) t ↔ Cov l t) ∧ (uni l).length ≤ l.length := by
  have z := join_ok (l := srt l) (fun p h => hp p ((srt_perm l).mem_iff.mp h)) (srt_sorted l)
  exact ⟨z.1, fun t => (z.2.1 t).trans (cov_perm (srt_perm l)), Nat.le_trans z.2.2 (Nat.le_of_eq (srt_perm l).length_eq)⟩
/-- two covers, one behind the other -/
def chain (l m : List (Int × Int)) : List (Int × Int) := uni (chainL l m)
theorem chainL_nn {l m : List (Int × Int)} (nl : Norm l) (nm : Norm m) : ∀ p ∈ chainL l m, 0 ≤ p.1 := fun p hp => by
  rcases List.mem_append.mp hp with hp | hp
  · have := norm_mem nl hp; omega
  · obtain ⟨q, hq, e⟩ := List.mem_map.mp hp
    have := norm_mem nm hq
    have z := lift_ge q.1 nl
    rw [← e]
    show 0 ≤ lift l q.1
    omega
theorem chain_spec {l m : List (Int × Int)} (nl : Norm l) (nm : Norm m) : Chn l m (chain l m) := by
  obtain ⟨n, c, len⟩ := uni_ok (chainL_nn nl nm)
  refine ⟨n, fun x => chain_ok nl nm n c x, Nat.le_trans len ?_⟩
  unfold chainL
  rw [List.length_append, List.length_map]
  exact Nat.le_refl _
theorem chain_eq {l m r : List (Int × Int)} (nl : Norm l) (nm : Norm m) (h : Chn l m r) : r = chain l m :=
  pay_uniq h.1 (chain_spec nl nm).1 fun x => by rw [h.2.1, (chain_spec nl nm).2.1]
/-! larger, smaller -/
def insI (i : Int) : List Int → List Int
  | [] => [i]
  | j :: l => if i < j then i :: j :: l else if i = j then j :: l else j :: insI i l
def sortI (l : List Int) : List Int := l.foldr insI []
theorem insI_mem {i k : Int} : ∀ {l : List Int}, k ∈ insI i l ↔ k = i ∨ k ∈ l
  | [] => by unfold insI; simp
  | j :: l => by
    unfold insI
    split
    · simp
    · split
      · rename_i c
        subst c
        constructor
        · exact .inr
        · rintro (e | h)
          · rw [e]; exact List.mem_cons_self
          · exact h
      · rw [List.mem_cons, insI_mem, List.mem_cons]
        constructor
        · rintro (h | h | h)
          · exact .inr (.inl h)
          · exact .inl h
          · exact .inr (.inr h)
        · rintro (h | h | h)
          · exact .inr (.inl h)
          · exact .inl h
          · exact .inr (.inr h)
theorem insI_sorted {i : Int} : ∀ {l : List Int}, l.Pairwise (· < ·) → (insI i l).Pairwise (· < ·)
  | [], _ => by unfold insI; simp
  | j :: l, h => by
    obtain ⟨h1, h2⟩ := List.pairwise_cons.mp h
    unfold insI
    split
    · rename_i c
      refine List.pairwise_cons.mpr ⟨fun k hk => ?_, h⟩
      rcases List.mem_cons.mp hk with e | hk
      · rw [e]; exact c
      · have := h1 k hk; omega
    · split
      · exact h
      · rename_i c d
        refine List.pairwise_cons.mpr ⟨fun k hk => ?_, insI_sorted h2⟩
        rcases insI_mem.mp hk with e | hk
        · rw [e]; omega
        · exact h1 k hk
theorem sortI_mem {k : Int} : ∀ {l : List Int}, k ∈ sortI l ↔ k ∈ l
  | [] => Iff.rfl
  | i :: l => by
    show k ∈ insI i (sortI l) ↔ _
    rw [insI_mem, sortI_mem, List.mem_cons]
theorem sortI_sorted : ∀ l : List Int, (sortI l).Pairwise (· < ·)
  | [] => List.Pairwise.nil
  | i :: l => insI_sorted (sortI_sorted l)
def pts (l m : List (Int × Int)) : List Int := sortI (0 :: (ends l ++ ends m))
theorem pts_ok (l m : List (Int × Int)) : Pts l m (pts l m) := ⟨sortI_sorted _, fun q => by
  unfold pts
  rw [sortI_mem, List.mem_cons, List.mem_append]⟩
def big (l m : List (Int × Int)) : List (Int × Int) := uni (segs (fun x => max (pay l x) (pay m x)) 0 (corn (pay l) (pay m) 0 (pts l m).tail))
def small (l m : List (Int × Int)) : List (Int × Int) := uni (segs (fun x => min (pay l x) (pay m x)) 0 (corn (pay l) (pay m) 0 (pts l m).tail))

section
variable {l m : List (Int × Int)}
theorem big_spec (nl : Norm l) (nm : Norm m) : Mx l m (big l m) := by
  obtain ⟨r, e⟩ := (pts_ok l m).head nl nm
  have h := pts_ok l m
  rw [e] at h
  have er : (pts l m).tail = r := by rw [e]; rfl
  unfold big
  rw [er]
  have g := corn_ok (h.grid nl nm)
  obtain ⟨n, c, _⟩ := uni_ok (l := segs (fun x => max (pay l x) (pay m x)) 0 (corn (pay l) (pay m) 0 r)) fun p hp => (segs_mem g p hp).1
  have pe := larger_ok nl nm h n c
  exact ⟨n, pe, max_len nl nm n pe⟩
theorem small_spec (nl : Norm l) (nm : Norm m) : Mn l m (small l m) := by
  obtain ⟨r, e⟩ := (pts_ok l m).head nl nm
  have h := pts_ok l m
  rw [e] at h
  have er : (pts l m).tail = r := by rw [e]; rfl
  unfold small
  rw [er]
  have g := corn_ok (h.grid nl nm)
  obtain ⟨n, c, _⟩ := uni_ok (l := segs (fun x => min (pay l x) (pay m x)) 0 (corn (pay l) (pay m) 0 r)) fun p hp => (segs_mem g p hp).1
  have pe := smaller_ok nl nm h n c
  exact ⟨n, pe, min_len nl nm n pe⟩
theorem big_eq {r : List (Int × Int)} (nl : Norm l) (nm : Norm m) (h : Mx l m r) : r = big l m := pay_uniq h.1 (big_spec nl nm).1 fun x => by rw [h.2.1, (big_spec nl nm).2.1]
theorem small_eq {r : List (Int × Int)} (nl : Norm l) (nm : Norm m) (h : Mn l m r) : r = small l m := pay_uniq h.1 (small_spec nl nm).1 fun x => by rw [h.2.1, (small_spec nl nm).2.1]
end
/-- a cover of at most k policies -/
structure Gd (k : Nat) (r : List (Int × Int)) : Prop where
  n : Norm r
  l : r.length ≤ k
  b : Bd (2000000 * (k : Int)) r
section
variable {j k : Nat} {l m : List (Int × Int)}
theorem Gd.few (h : Gd k l) (hk : k ≤ 200) : Few l := ⟨h.n, Nat.le_trans h.l hk, fun p hp => by have := h.b p hp; omega⟩
theorem Gd.sm (h : Gd j l) (h2 : Gd k m) (hk : j + k ≤ 31) : Sm l m := sm_of (h.few (by omega)) (h2.few (by omega)) (by have := h.l; have := h2.l; omega)
theorem Gd.mono (h : Gd j l) (hk : j ≤ k) : Gd k l := ⟨h.n, Nat.le_trans h.l hk, fun p hp => by have := h.b p hp; omega⟩
theorem gd_nil : Gd 0 [] := ⟨True.intro, Nat.le_refl _, fun _ h => by simp at h⟩
theorem gd_chain (h : Gd j l) (h2 : Gd k m) : Gd (j + k) (chain l m) := by
  have c := chain_spec h.n h2.n
  refine ⟨c.1, Nat.le_trans c.2.2 (Nat.add_le_add h.l h2.l), fun p hp => ?_⟩
  have := chn_bd (M := 2000000 * (j : Int)) (N := 2000000 * (k : Int)) h.n h2.n c (by omega) (by omega) h.b h2.b p hp
  omega
theorem mn_bd {r : List (Int × Int)} {M : Int} (nl : Norm l) (nm : Norm m) (nr : Norm r) (h : ∀ x, pay r x = min (pay l x) (pay m x)) (bl : Bd M l) (bm : Bd M m) : Bd M r := (bd_pay nr).mpr fun x hx => by
  rw [h, h, (bd_pay nl).mp bl x hx, (bd_pay nm).mp bm x hx]
theorem gd_big (h : Gd j l) (h2 : Gd k m) : Gd (j + k) (big l m) := by
  have c := big_spec h.n h2.n
  refine ⟨c.1, Nat.le_trans c.2.2 (Nat.add_le_add h.l h2.l), fun p hp => ?_⟩
  have := mx_bd (M := 2000000 * (j + k : Nat)) h.n h2.n c.1 c.2.1 (fun q hq => by have := h.b q hq; omega) (fun q hq => by have := h2.b q hq; omega) p hp
  exact this
theorem gd_small (h : Gd j l) (h2 : Gd k m) : Gd (j + k) (small l m) := by
  have c := small_spec h.n h2.n
  refine ⟨c.1, Nat.le_trans c.2.2 (Nat.add_le_add h.l h2.l), fun p hp => ?_⟩
  have := mn_bd (M := 2000000 * (j + k : Nat)) h.n h2.n c.1 c.2.1 (fun q hq => by have := h.b q hq; omega) (fun q hq => by have := h2.b q hq; omega) p hp
  exact this
theorem gd_pol {p : Int × Int} (h : okPol p) : Gd 1 (polS p) := ⟨polS_norm h, Nat.le_refl _, fun q hq => by have := polS_bd h q hq; omega⟩
theorem gd_set {t : Int} {r : List (Int × Int)} (n : Norm r) (b : Bd t r) (hl : (r.length : Int) ≤ t + 1) (h : t ≤ 8) (h0 : 0 ≤ t) : Gd 9 r := ⟨n, by omega, fun p hp => by have := b p hp; omega⟩
/-- payments -/
theorem pay_chain (nl : Norm l) (nm : Norm m) (x : Int) : pay (chain l m) x = pay l x + pay m (x - pay l x) := (chain_spec nl nm).2.1 x
theorem pay_big (nl : Norm l) (nm : Norm m) (x : Int) : pay (big l m) x = max (pay l x) (pay m x) := (big_spec nl nm).2.1 x
theorem pay_small (nl : Norm l) (nm : Norm m) (x : Int) : pay (small l m) x = min (pay l x) (pay m x) := (small_spec nl nm).2.1 x
end
/-- the cover of a chain of policies -/
def made (ps : List (Int × Int)) : List (Int × Int) := ps.foldl (fun c p => chain c (polS p)) []
theorem restP_snoc' (ps : List (Int × Int)) (p : Int × Int) (x : Int) : restP (ps ++ [p]) x = restP ps x - pay (polS p) (restP ps x) := restP_snoc ps p x
theorem made_snoc (ps : List (Int × Int)) (p : Int × Int) : made (ps ++ [p]) = chain (made ps) (polS p) := by
  unfold made; rw [List.foldl_append]; rfl
theorem made_spec : ∀ n (ps : List (Int × Int)), ps.length = n → (∀ p ∈ ps, okPol p) → Gd n (made ps) ∧ ∀ x, pay (made ps) x = x - restP ps x
  | 0, ps, e, _ => by
    cases ps with
    | cons _ _ => cases e
    | nil => exact ⟨gd_nil, fun x => by show 0 = x - x; omega⟩
  | n + 1, ps, e, h => by
    rcases List.eq_nil_or_concat ps with e0 | ⟨qs, p, e0⟩
    · rw [e0] at e; cases e
    · rw [List.concat_eq_append] at e0
      subst e0
      rw [List.length_append] at e
      have e' : qs.length = n := by simpa using e
      obtain ⟨g, hp⟩ := made_spec n qs e' fun q hq => h q (List.mem_append_left _ hq)
      have gp := gd_pol (h p (List.mem_append_right _ List.mem_cons_self))
      rw [made_snoc]
      refine ⟨gd_chain g gp, fun x => ?_⟩
      rw [pay_chain g.n gp.n, hp, restP_snoc]
      have : x - (x - restP qs x) = restP qs x := by omega
      rw [this]
      omega
theorem gd_made {ps : List (Int × Int)} {k : Nat} (hl : ps.length ≤ k) (h : ∀ p ∈ ps, okPol p) : Gd k (made ps) := (made_spec _ ps rfl h).1.mono hl
theorem pay_made {ps : List (Int × Int)} (h : ∀ p ∈ ps, okPol p) (x : Int) : pay (made ps) x = x - restP ps x := (made_spec _ ps rfl h).2 x
theorem made_eq {ps r : List (Int × Int)} (h : ∀ p ∈ ps, okPol p) (n : Norm r) (e : ∀ x, pay r x = x - restP ps x) : r = made ps := pay_uniq n (gd_made (Nat.le_refl _) h).n fun x => by rw [e, pay_made h]
/-! equal covers, by their payments -/
section
variable {a b c : List (Int × Int)}
theorem chain_assoc (na : Norm a) (nb : Norm b) (nc : Norm c) : chain (chain a b) c = chain a (chain b c) := by
  have n1 := (chain_spec na nb).1
  have n2 := (chain_spec nb nc).1
  exact chn_assoc (chain_spec na nb) (chain_spec n1 nc) (chain_spec nb nc) (chain_spec na n2)
theorem chain_nil_r (na : Norm a) : chain a [] = a := chn_nil_r na (chain_spec na True.intro)
theorem chain_nil_l (na : Norm a) : chain [] a = a := chn_nil_l na (chain_spec True.intro na)
end
theorem made_app {ps qs : List (Int × Int)} (hp : ∀ p ∈ ps, okPol p) (hq : ∀ p ∈ qs, okPol p) : chain (made ps) (made qs) = made (ps ++ qs) := by
  have g1 := (gd_made (Nat.le_refl _) hp).n
  have g2 := (gd_made (Nat.le_refl _) hq).n
  refine made_eq (fun p h => (List.mem_append.mp h).elim (hp p) (hq p)) (chain_spec g1 g2).1 fun x => ?_
  rw [pay_chain g1 g2, pay_made hp, pay_made hq, restP_app]
  have : x - (x - restP ps x) = restP ps x := by omega
  rw [this]
  omega
end DL
set_option Elab.async false
set_option linter.all false
set_option maxRecDepth 100000
set_option maxHeartbeats 1000000
/-! The contracts as the calculus wants them; operations upon data. -/
namespace DL
open PySem PySem.Spec PyProof.Rows L2 CV
def lo (l m : List (Int × Int)) : Bool := (0 :: corn (pay l) (pay m) 0 (pts l m).tail).all fun q => decide (pay l q ≤ pay m q)
theorem lo_iff {l m : List (Int × Int)} (nl : Norm l) (nm : Norm m) : lo l m = true ↔ Lo l m := by
  obtain ⟨r, e⟩ := (pts_ok l m).head nl nm
  have h := pts_ok l m
  rw [e] at h
  unfold lo
  rw [e, List.all_eq_true]
  have z := never_ok nl nm h
  unfold Lo
  rw [← z]
  constructor
  · intro k q hq; exact of_decide_eq_true (k q hq)
  · intro k q hq; exact decide_eq_true (k q hq)
section
variable {l m : List (Int × Int)} {j k : Nat} {K : D → List (List D) → Prop}
theorem k_add (h1 : Gd j l) (h2 : Gd k m) (hk : j + k ≤ 200) (q : K (.ob 0 (spD (chain l m))) []) : S_CoverX_addX [.val (.ob 0 (spD l)), .val (.ob 0 (spD m))] K :=
  ⟨l, m, rfl, h1.few (by omega), h2.few (by omega), fun r hr => by rw [chain_eq h1.n h2.n hr]; exact q⟩
theorem k_or (h1 : Gd j l) (h2 : Gd k m) (hk : j + k ≤ 31) (q : K (.ob 0 (spD (big l m))) []) : S_CoverX_orX [.val (.ob 0 (spD l)), .val (.ob 0 (spD m))] K :=
  ⟨l, m, rfl, h1.sm h2 hk, fun r hr => by rw [big_eq h1.n h2.n hr]; exact q⟩
theorem k_and (h1 : Gd j l) (h2 : Gd k m) (hk : j + k ≤ 31) (q : K (.ob 0 (spD (small l m))) []) : S_CoverX_andX [.val (.ob 0 (spD l)), .val (.ob 0 (spD m))] K :=
  ⟨l, m, rfl, h1.sm h2 hk, fun r hr => by rw [small_eq h1.n h2.n hr]; exact q⟩
theorem k_eq (q : K (.bl (decide (l = m))) []) : S_CoverX_eqX [.val (.ob 0 (spD l)), .val (.ob 0 (spD m))] K := ⟨l, m, rfl, q⟩
theorem k_most (h1 : Gd j l) (h2 : Gd k m) (hk : j + k ≤ 31) (q : K (.bl (lo l m)) []) : S_Cover_at_most [.val (.ob 0 (spD l)), .val (.ob 0 (spD m))] K :=
  ⟨l, m, rfl, h1.sm h2 hk, fun b hb => by
    have e : b = lo l m := by
      have z := hb.trans (lo_iff h1.n h2.n).symm
      cases b <;> cases q : lo l m <;> simp_all
    rw [e]; exact q⟩
theorem k_call {x : Int} (h1 : Gd j l) (hk : j ≤ 1000) (h0 : 0 ≤ x) (h9 : x ≤ 1000000000) (q : K (.int (pay l x)) []) : S_CoverX_callX [.val (.ob 0 (spD l)), .val (.int x)] K := ⟨l, x, rfl, Nat.le_trans h1.l hk, h0, h9, q⟩
theorem k_rg (h1 : Gd j l) (hk : j ≤ 1000) (q : K (rgD l) []) : S_Cover_ranges [.val (.ob 0 (spD l))] K := ⟨l, rfl, Nat.le_trans h1.l hk, q⟩
theorem k_tot (h1 : Gd j l) (hk : j ≤ 1000) (q : K (.int (total l)) []) : S_Cover_total [.val (.ob 0 (spD l))] K := ⟨l, rfl, Nat.le_trans h1.l hk, q⟩
theorem k_mk0 {K : D → Prop} (q : K (spD [])) : S_CoverX_initX [] K := init_nil K q
theorem k_mk1 {K : D → Prop} {a b : Int} (h : okPol (a, b)) (q : K (spD (polS (a, b)))) : S_CoverX_initX [.tup [.int a, .int b]] K := init_one (a, b) h K q
theorem k_mkP {K : D → Prop} {p : Int × Int} (h : okPol p) (q : K (spD (polS p))) : S_CoverX_initX [eP p] K := init_one p h K q
theorem k_mk2 {K : D → Prop} {a b c d : Int} (h : okPol (a, b)) (h2 : okPol (c, d)) (q : K (spD (made [(a, b), (c, d)]))) : S_CoverX_initX [.tup [.int a, .int b], .tup [.int c, .int d]] K :=
  have ho : ∀ p ∈ [(a, b), (c, d)], okPol p := fun p hp => by
    rcases List.mem_cons.mp hp with e | hp
    · rw [e]; exact h
    · rcases List.mem_cons.mp hp with e | hp
      · rw [e]; exact h2
      · simp at hp
  .inr ⟨[(a, b), (c, d)], rfl, by show (2 : Nat) ≤ 8; decide, ho, fun r n e _ => by rw [made_eq ho n e]; exact q⟩
theorem k_mk3 {K : D → Prop} {a b c d e f : Int} (h : okPol (a, b)) (h2 : okPol (c, d)) (h3 : okPol (e, f)) (q : K (spD (made [(a, b), (c, d), (e, f)]))) : S_CoverX_initX [.tup [.int a, .int b], .tup [.int c, .int d], .tup [.int e, .int f]] K :=
  have ho : ∀ p ∈ [(a, b), (c, d), (e, f)], okPol p := fun p hp => by
    rcases List.mem_cons.mp hp with e | hp
    · rw [e]; exact h
    · rcases List.mem_cons.mp hp with e | hp
      · rw [e]; exact h2
      · rcases List.mem_cons.mp hp with e | hp
        · rw [e]; exact h3
        · simp at hp
  .inr ⟨[(a, b), (c, d), (e, f)], rfl, by show (3 : Nat) ≤ 8; decide, ho, fun r n e _ => by rw [made_eq ho n e]; exact q⟩
theorem k_made {ps : List (Int × Int)} (hl : ps.length ≤ 100) (h : ∀ p ∈ ps, okPol p) (q : K (.ob 0 (spD (made ps))) []) : S__law_made [.val (.tup (ps.map eP))] K := ⟨ps, rfl, hl, h, fun r n e _ => by rw [made_eq h n e]; exact q⟩
theorem k_cover (h : Gd k l) (hk : k ≤ 100) (b : Bd 1000000 l) (q : K (.ob 0 (spD l)) []) : S__law_cover [.val (rgD l)] K := ⟨l, rfl, h.n, Nat.le_trans h.l hk, b, q⟩
theorem k_pays {x : Int} (h : Gd k l) (hk : k ≤ 1000) (q : K (.int (pay l x)) []) : S__law_pays [.val (rgD l), .val (.int x)] K := ⟨l, x, rfl, Nat.le_trans h.l hk, q⟩
theorem k_behind {x : Int} (h1 : Gd j l) (h2 : Gd k m) (hj : j ≤ 1000) (hk : k ≤ 1000) (q : K (.int (pay l x + pay m (x - pay l x))) []) : S__law_behind [.val (rgD l), .val (rgD m), .val (.int x)] K := ⟨l, m, x, rfl, Nat.le_trans h1.l hj, Nat.le_trans h2.l hk, q⟩
/-- the payments of a cover, told back as its ranges -/
theorem k_pairs {n : Nat} {f : Nat → Int} {r : List (Int × Int)} (h1 : 1 ≤ n) (hn : n ≤ 1000) (nr : Norm r) (br : Bd ((n : Int) - 1) r) (he : ∀ i, i < n → f i = pay r i) (q : K (rgD r) []) : S__law_pairs [.val (.lst ((List.range n).map fun i => D.int (f i)))] K := by
  have ed : D.lst ((List.range n).map fun i => D.int (f i)) = intsD ((List.range n).map f) := by
    unfold intsD
    rw [List.map_map]; rfl
  rw [ed]
  refine ⟨f, n, rfl, h1, hn, fun r' hp => ?_⟩
  have e : r' = r := by
    refine norm_uniq hp.1 nr fun t => ?_
    rw [hp.2.1 t]
    constructor
    · rintro ⟨i, h1, h2, rfl, h3⟩
      rw [he i h2, he (i - 1) (by omega)] at h3
      have e1 : ((i - 1 : Nat) : Int) = (i : Int) - 1 := by omega
      rw [e1] at h3
      have := pay_mono1 nr (i : Int)
      exact (cov_pay nr _).mpr (by omega)
    · intro c
      have low := cov_low nr c
      obtain ⟨p, hpr, c1, c2⟩ := c
      have := br p hpr
      have c' := (cov_pay nr t).mp ⟨p, hpr, c1, c2⟩
      refine ⟨t.toNat, by omega, by omega, by omega, ?_⟩
      rw [he _ (by omega), he _ (by omega)]
      have e1 : ((t.toNat - 1 : Nat) : Int) = t - 1 := by omega
      have e2 : ((t.toNat : Nat) : Int) = t := by omega
      rw [e1, e2]
      omega
  rw [e]; exact q
theorem k_same {i i' : Int} (q : K (.bl (decide (i = i'))) []) : S__law_same [.val (.int i), .val (.int i')] K := ⟨_, _, rfl, .inl ⟨i, i', rfl, rfl, q⟩⟩
theorem k_sameB {i i' : Bool} (q : K (.bl (decide (i = i'))) []) : S__law_same [.val (.bl i), .val (.bl i')] K := ⟨_, _, rfl, .inr ⟨i, i', rfl, rfl, q⟩⟩
end
/-! the deck: so many picks are left -/
def Fu (k : Nat) (ds : List D) : Prop := ∃ n : Int, Dk n ds ∧ n + k ≤ 2 ^ 37
theorem Fu.mono {j k : Nat} {ds : List D} (h : Fu j ds) (hk : k ≤ j) : Fu k ds := by
  obtain ⟨n, a, b⟩ := h
  exact ⟨n, a, by omega⟩
section
variable {ρ : Rho} {Q : Xv → Rho → Prop} {i : Nat} {tg : Bool} {ds : List D} {k : Nat}
theorem a_pick {lim : Int} (e : ρ[i]? = some (.own tg ds)) (f : Fu (k + 1) ds) (h0 : 0 < lim) (h1 : lim < 2 ^ 62) (q : ∀ r ds', 0 ≤ r → r < lim → Fu k ds' → Q (.d (.int r)) (ρ.set i (.own tg ds'))) : onA S__law_pick ρ [.o i, .d (.int lim)] Q :=
  xO2 e fun K kk => by
    obtain ⟨n, a, b⟩ := f
    exact ⟨n, ds, lim, rfl, a, by omega, h0, h1, fun r ds' q1 q2 q3 => kk _ _ (q r ds' q1 q2 ⟨n + 1, q3, by omega⟩)⟩
theorem a_one {es : List D} (e : ρ[i]? = some (.own tg ds)) (f : Fu (k + 1) ds) (h0 : es ≠ []) (h1 : es.length ≤ 2 ^ 24) (q : ∀ x ds', x ∈ es → Fu k ds' → Q (.d x) (ρ.set i (.own tg ds'))) : onA S__law_one ρ [.o i, .d (.lst es)] Q :=
  xO2 e fun K kk => by
    obtain ⟨n, a, b⟩ := f
    exact ⟨n, ds, _, es, rfl, .inl rfl, a, by omega, h0, h1, fun x ds' q1 q3 => kk _ _ (q x ds' q1 ⟨n + 1, q3, by omega⟩)⟩
theorem a_one2 {a b : Int} (e : ρ[i]? = some (.own tg ds)) (f : Fu (k + 1) ds) (q : ∀ w ds', (w = a ∨ w = b) → Fu k ds' → Q (.d (.int w)) (ρ.set i (.own tg ds'))) : onA S__law_one ρ [.o i, .d (.lst [.int a, .int b])] Q :=
  a_one e f (by simp) (by show (2 : Nat) ≤ 2 ^ 24; decide) fun x ds' hx hf => by
    have : x = .int a ∨ x = .int b := by simpa using hx
    rcases this with e | e <;> subst e
    · exact q a ds' (.inl rfl) hf
    · exact q b ds' (.inr rfl) hf
theorem a_one3 {a b c : Int} (e : ρ[i]? = some (.own tg ds)) (f : Fu (k + 1) ds) (q : ∀ w ds', (w = a ∨ w = b ∨ w = c) → Fu k ds' → Q (.d (.int w)) (ρ.set i (.own tg ds'))) : onA S__law_one ρ [.o i, .d (.lst [.int a, .int b, .int c])] Q :=
  a_one e f (by simp) (by show (3 : Nat) ≤ 2 ^ 24; decide) fun x ds' hx hf => by
    have : x = .int a ∨ x = .int b ∨ x = .int c := by simpa using hx
    rcases this with e | e | e <;> subst e
    · exact q a ds' (.inl rfl) hf
    · exact q b ds' (.inr (.inl rfl)) hf
    · exact q c ds' (.inr (.inr rfl)) hf
theorem a_oneS {α : Type} {enc : α → D} {rz : List α} (e : ρ[i]? = some (.own tg ds)) (f : Fu (k + 1) ds) (h0 : rz ≠ []) (h1 : rz.length ≤ 2 ^ 24) (q : ∀ r ds', r ∈ rz → Fu k ds' → Q (.d (enc r)) (ρ.set i (.own tg ds'))) : onA S__law_one ρ [.o i, .d (.lst (rz.map enc))] Q :=
  a_one e f (by simpa using h0) (by rw [List.length_map]; exact h1) fun x ds' hx hf => by
    obtain ⟨r, hr, e⟩ := List.mem_map.mp hx
    subst e
    exact q r ds' hr hf
theorem a_pols {m w : Int} (e : ρ[i]? = some (.own tg ds)) (f : Fu (k + 100) ds) (h0 : 0 ≤ m) (h1 : m ≤ 10) (h2 : 2 ≤ w) (h3 : w ≤ 1000000) (q : ∀ (ps : List (Int × Int)) ds', (ps.length : Int) ≤ m → (∀ p ∈ ps, okPol p ∧ p.1 < w ∧ p.2 ≤ w) → Fu k ds' → Q (.d (.tup (ps.map eP))) (ρ.set i (.own tg ds'))) : onA S__law_policies ρ [.o i, .d (.int m), .d (.int w)] Q :=
  xO3 e fun K kk => by
    obtain ⟨n, a, b⟩ := f
    exact ⟨n, ds, m, w, rfl, a, by omega, h0, h1, h2, h3, fun ps ds' q1 q2 q3 => kk _ _ (q ps ds' q1 q2 ⟨n + 100, q3, by omega⟩)⟩
theorem a_deck {Q : List D → Rho → Prop} {c t : Int} (h0 : 0 ≤ t) (ht : t ≤ 1000) (q : ∀ ds, Fu 1000000000 ds → Q ds ρ) : onAF S__law_deck ρ [.d (.int c), .d (.int t)] Q := by
  show (if ([] : List Nat).Nodup then _ else False)
  rw [if_pos List.nodup_nil]
  exact ⟨c, t, rfl, h0, fun ds dk => q ds ⟨t, dk, by omega⟩⟩
end
/-! operations -/
section
variable {k : D → Prop} {i j : Int}
theorem v_add (h : k (.int (i + j))) : ok (addD (.int i) (.int j)) k := h
theorem v_addL {a b : List D} (hl : a.length + b.length ≤ PySem.sizeLine) (h : k (.lst (a ++ b))) : ok (addD (.lst a) (.lst b)) k := by rw [add_ll a b hl]; exact h
theorem v_addT {a b : List D} (hl : a.length + b.length ≤ PySem.sizeLine) (h : k (.tup (a ++ b))) : ok (addD (.tup a) (.tup b)) k := by rw [add_tt a b hl]; exact h
theorem v_addR {a b : List (Int × Int)} (hl : a.length + b.length ≤ 1000) (h : k (rgD (a ++ b))) : ok (addD (rgD a) (rgD b)) k := by rw [rg_app a b hl]; exact h
theorem v_sub (h : k (.int (i - j))) : ok (subI (.int i) (.int j)) k := h
theorem v_lt (h : k (.bl (decide (i < j)))) : ok (ltI (.int i) (.int j)) k := h
theorem v_le (h : k (.bl (decide (i ≤ j)))) : ok (leI (.int i) (.int j)) k := h
theorem v_gt (h : k (.bl (decide (j < i)))) : ok (gtI (.int i) (.int j)) k := h
theorem v_ge (h : k (.bl (decide (j ≤ i)))) : ok (geI (.int i) (.int j)) k := h
theorem v_neg (h : k (.int (-i))) : ok (negI (.int i)) k := h
theorem v_mul (c : CMul i j) (h : k (.int (i * j))) : ok (mulI (.int i) (.int j)) k := by rw [mul_ii c]; exact h
theorem v_mod (c : 0 < j) (h : k (.int (i % j))) : ok (modI (.int i) (.int j)) k := by rw [mod_ii c]; exact h
theorem v_div (c : CDivW i j) (h : k (.int (i / j))) : ok (divI (.int i) (.int j)) k := by rw [div_ii c]; exact h
theorem v_p6 (h : k (.int 1000000)) : ok (powI (.int 10) (.int 6)) k := by
  rw [pow_val (i := 10) (j := 6) (k := 1000000) (cpow (by decide) (by decide) (by decide) (by decide)) (by decide)]; exact h
theorem v_p9 (h : k (.int 1000000000)) : ok (powI (.int 10) (.int 9)) k := by rw [p109]; exact h
theorem v_p5 (h : k (.int 100000)) : ok (powI (.int 10) (.int 5)) k := by
  rw [pow_val (i := 10) (j := 5) (k := 100000) (cpow (by decide) (by decide) (by decide) (by decide)) (by decide)]; exact h
theorem v_p4 (h : k (.int 10000)) : ok (powI (.int 10) (.int 4)) k := by
  rw [pow_val (i := 10) (j := 4) (k := 10000) (cpow (by decide) (by decide) (by decide) (by decide)) (by decide)]; exact h
theorem v_p7 (h : k (.int 10000000)) : ok (powI (.int 10) (.int 7)) k := by
  rw [pow_val (i := 10) (j := 7) (k := 10000000) (cpow (by decide) (by decide) (by decide) (by decide)) (by decide)]; exact h
theorem v_max (h : k (.int (max i j))) : ok (maxI [.int i, .int j]) k := by
  show k (.int (if j > i then j else i)); rw [i_max]; exact h
theorem v_min (h : k (.int (min i j))) : ok (minI [.int i, .int j]) k := by
  show k (.int (if j < i then j else i)); rw [i_min]; exact h
theorem v_lenL {ds : List D} (h : k (.int ds.length)) : ok (lenD [.lst ds]) k := h
theorem v_lenT {ds : List D} (h : k (.int ds.length)) : ok (lenD [.tup ds]) k := h
theorem v_tupL {ds : List D} (h : k (.tup ds)) : ok (tupD [.lst ds]) k := h
theorem v_tupT {ds : List D} (h : k (.tup ds)) : ok (tupD [.tup ds]) k := h
theorem v_lstL {ds : List D} {k : List D → Prop} (h : k ds) : ok (lstD [.lst ds]) k := h
theorem v_lstT {ds : List D} {k : List D → Prop} (h : k ds) : ok (lstD [.tup ds]) k := h
theorem v_sum {ns : List Int} (h : k (.int ns.sum)) : ok (sumD [.lst (ns.map D.int)]) k := by
  have e : sumD [.lst (ns.map D.int)] = some (.int ns.sum) := by
    show (toInts (ns.map D.int)).map _ = _
    rw [toInts_map]; rfl
  rw [e]; exact h
theorem v_eqI (h : k (.bl (decide (i = j)))) : ok (eqD (.int i) (.int j)) k := by rw [(eq_int i j).1]; exact h
theorem v_neI (h : k (.bl (!decide (i = j)))) : ok (neD (.int i) (.int j)) k := by rw [(eq_int i j).2]; exact h
theorem v_eqR {l m : List (Int × Int)} (h : k (.bl (decide (l = m)))) : ok (eqD (rgD l) (rgD m)) k := by rw [(eq_rgD l m).1]; exact h
theorem v_neR {l m : List (Int × Int)} (h : k (.bl (!decide (l = m)))) : ok (neD (rgD l) (rgD m)) k := by rw [(eq_rgD l m).2]; exact h
theorem v_slice {ds : List D} {lo hi : Option Int} (h : k (.lst (cutG ds lo hi))) : ok (slD (.lst ds) lo hi) k := h
theorem v_sliceT {ds : List D} {lo hi : Option Int} (h : k (.tup (cutG ds lo hi))) : ok (slD (.tup ds) lo hi) k := h
theorem v_fld {c : Nat} {d : D} (h : k d) : ok (fldD c (.ob c d)) k := by
  have e : fldD c (.ob c d) = some d := by unfold fldD; simp
  rw [e]; exact h
end
/-- a written tuple of ranges is rgD of spans -/
theorem rg_lit1 (a b : Int) : D.tup [.tup [.int a, .int b]] = rgD [(a - 1, b)] := by
  unfold rgD rgP eP
  simp
theorem rg_lit2 (a b c d : Int) : D.tup [.tup [.int a, .int b], .tup [.int c, .int d]] = rgD [(a - 1, b), (c - 1, d)] := by
  unfold rgD rgP eP
  simp
theorem rg_lit3 (a b c d e f : Int) : D.tup [.tup [.int a, .int b], .tup [.int c, .int d], .tup [.int e, .int f]] = rgD [(a - 1, b), (c - 1, d), (e - 1, f)] := by
  unfold rgD rgP eP
  simp
end DL
set_option Elab.async false
set_option linter.all false
set_option maxRecDepth 100000
set_option maxHeartbeats 4000000
/-! The head's facts by a hook of its own: names, defs at any place, and a test of one's own; the law's def. -/
namespace DL
open PySem PySem.Spec PyProof.Rows L2
abbrev AlC : Type := He.AlD × Bool
def obsC (fa : List He.Fa) (fn : List He5.DefA) (ex : PySem.W.Frag → Bool) (K : PySem.W.Frag) : AlC := (He5.obsA fa fn K, ex K)
def valC (fn : List He5.DefA) : AlC := (He5.valA fn, true)
structure SaysC (fa : List He.Fa) (fn : List He5.DefA) (ex : PySem.W.Frag → Bool) (K : PySem.W.Frag) : Prop where
  a : He5.SaysA fa fn K
  x : ex K = true
def obsCG (n : Nat) (fa : List He.Fa) (fn : List He5.DefA) (ex : PySem.W.Frag → Bool) (g : Addr → Option Obj) : AlC := obsC fa fn ex (He.frG g (He5.asA g n))
def hookC (n : Nat) (fa : List He.Fa) (fn : List He5.DefA) (ex : PySem.W.Frag → Bool) : PySem.W.Hook where
  α := AlC
  obs := fun s => obsCG n fa fn ex s.heap.get?
  val := fun _ => valC fn
  says := fun _ h => ∃ K : PySem.W.Frag, K.In h ∧ SaysC fa fn ex K
  of := fun _ _ e => ⟨_, He.frG_in, ⟨congrArg (fun z : AlC => z.1) e, congrArg (fun z : AlC => z.2) e⟩⟩
  keeps := fun _ _ _ ⟨K, hK, c⟩ k => ⟨K, PySem.W.Frag.In.keeps hK k, c⟩
theorem obsCG_eq {n : Nat} {fa : List He.Fa} {fn : List He5.DefA} {ex : PySem.W.Frag → Bool} {g : Addr → Option Obj} {s : Shared} (h : ∀ a, g a = s.heap.get? a) : obsCG n fa fn ex g = (hookC n fa fn ex).obs s := by
  have e : g = s.heap.get? := funext h
  rw [e] <;> rfl
/-! tests -/
def propG (K : PySem.W.Frag) (C : Addr) (f : Str) : Addr := match PySem.W.recIn K (He.ma K C f) "property" with
  | some (.ref g :: _) => g
  | _ => 0
def opB (K : PySem.W.Frag) (C : Addr) (m : Str) : Bool := PySem.W.selfFirst K C && (He.eqO (PySem.W.findIn K (.ref C) m) (some (some (.ref (He.ma K C m)))) && PySem.W.isFn K (.ref (He.ma K C m)))
def eqB (K : PySem.W.Frag) (C : Addr) : Bool := PySem.W.notFirst K C (.ref C) && (He.eqO (PySem.W.findIn K (.ref C) "__eq__") (some (some (.ref (He.ma K C "__eq__")))) && PySem.W.isFn K (.ref (He.ma K C "__eq__")))
def propB (K : PySem.W.Frag) (C : Addr) (f : Str) : Bool := He.eqO (PySem.W.findIn K (.ref C) f) (some (some (.ref (He.ma K C f)))) && (He.eqO (PySem.W.specialIn K (.ref (He.ma K C f)) "__get__") (some (some (.builtin "property.__get__"))) && (decide (PySem.W.takesIn K (.ref (He.ma K C f)) = some true) && (match PySem.W.recIn K (He.ma K C f) "property" with
  | some (.ref _ :: _) => true
  | _ => false)))
def callB (K : PySem.W.Frag) (C : Addr) : Bool := He.eqO (PySem.W.findIn K (.ref C) "__call__") (some (some (.ref (He.ma K C "__call__")))) && (PySem.W.isFn K (.ref (He.ma K C "__call__")) && PySem.W.fnIn K (He.ma K C "__call__"))
def instB (K : PySem.W.Frag) (C : Addr) : Bool := He.eqO (PySem.W.findIn K (.ref C) "__class__") (some (some (.builtin "object.__class__"))) && (He.eqO (PySem.W.specialIn K (.builtin "object.__class__") "__get__") (some (some (.builtin "getset_descriptor.__get__"))) && (decide (PySem.W.takesIn K (.builtin "object.__class__") = some true) && decide (PySem.W.mroIn K C (.type "object") = some true)))
def kitF (K : PySem.W.Frag) (t u : Value) (b : Bool) : Bool := decide (PySem.W.kitOne K t u = some b)
section
variable {K : PySem.W.Frag} {C : Addr}
theorem ands {a b : Bool} (h : (a && b) = true) : a = true ∧ b = true := Bool.and_eq_true_iff.mp h
theorem opB_ok {m : Str} (h : opB K C m = true) : PySem.W.selfFirst K C = true ∧ PySem.W.findIn K (.ref C) m = some (some (.ref (He.ma K C m))) ∧ PySem.W.isFn K (.ref (He.ma K C m)) = true := ⟨(ands h).1, He.eqO_ok (ands (ands h).2).1, (ands (ands h).2).2⟩
theorem eqB_ok (h : eqB K C = true) : PySem.W.notFirst K C (.ref C) = true ∧ PySem.W.findIn K (.ref C) "__eq__" = some (some (.ref (He.ma K C "__eq__"))) ∧ PySem.W.isFn K (.ref (He.ma K C "__eq__")) = true := ⟨(ands h).1, He.eqO_ok (ands (ands h).2).1, (ands (ands h).2).2⟩
theorem propB_ok {f : Str} (h : propB K C f = true) : PropOf K C f (He.ma K C f) (propG K C f) := by
  obtain ⟨h1, h⟩ := ands h
  obtain ⟨h2, h⟩ := ands h
  obtain ⟨h3, h4⟩ := ands h
  refine ⟨He.eqO_ok h1, He.eqO_ok h2, of_decide_eq_true h3, ?_⟩
  unfold propG
  split at h4
  · rename_i g r e
    exact ⟨r, by rw [e]⟩
  · cases h4
theorem callB_ok (h : callB K C = true) : StX.CallO K C (He.ma K C "__call__") := ⟨He.eqO_ok (ands h).1, (ands (ands h).2).1, (ands (ands h).2).2⟩
theorem instB_ok (cl : Cls K C) (h : instB K C = true) : InsT K C := by
  obtain ⟨h1, h⟩ := ands h
  obtain ⟨h2, h⟩ := ands h
  obtain ⟨h3, h4⟩ := ands h
  exact ⟨cl, He.eqO_ok h1, He.eqO_ok h2, of_decide_eq_true h3, of_decide_eq_true h4⟩
end
/-! the law -/
def spLaw (K : PySem.W.Frag) : Sp := fun vs H Q _ => ∃ (a : Addr) (ns : List Int), vs = [.ref a] ∧ SqL K H a (ns.map V.int) ∧ ns.length ≤ 63 ∧ ∀ H', Q (.bl true) H'
def enLaw : En where
  nx := fun _ => False
  rt := fun x _ => x = .d (.bl true)
section
variable {P : Program} {w : World} {K : PySem.W.Frag} {mg : Str → Option Value} {base : Heap}
theorem lawD {G : Gm} {x qual : Str} {st : Stmt} {f : Addr} {fd : FuncData} {N : List Str} {k : Nat} {t : Addr → List Int → TS'} (F : Fun K x qual st f fd) (sc : FnScope N ["script"] (defScope st))
    (hbody : ∀ (a : Addr) (ns : List Int), ns.length ≤ 63 → ∀ (cdv : Value) (A : Around) (outer : List Env) (s : Shared) (H : Hp) (E : XK) (B : Bs), SqL K B.H0 a (ns.map V.int) → (∀ u, B.H0 a = some u → a ∉ B.io) → Room k (A.deeper (envOfC qual (defScope st) s.heap.objs.size f cdv)) → PDSs (cxOf CX0 P w K mg base N qual (defScope st) f cdv A outer s H E).nox G B (defBody st) (t a ns))
    (h : ∀ a ns, ns.length ≤ 63 → t a ns enLaw (.raw a :: List.replicate (N.length - 1) .no)) : FnOk P w K mg base CX0 (k + 1) f fd ["script"] (spLaw K) := by
  refine F.ok sc (fun vs H Q E ⟨a, ns, e, _⟩ => by rw [e]; rfl) (fun cdv A outer s H vs Q E hr ⟨a, ns, e, hS, hl, q⟩ => ?_)
  subst e
  refine ⟨_, hbody a ns hl cdv A outer s H E ⟨H, [], fun _ => False⟩ hS (fun u _ h => by simp [Bs.io] at h) hr, ?_⟩
  refine ⟨fun _ => False, _, enLaw, SR.beginR (N := N) (ds := []) (fun a f => f.elim) .nil, h a ns hl, ?_⟩
  refine ⟨fun ρ' h1 => h1.elim, fun x ρ' h1 v σ' H' F' S' r e => ?_, fun _ z => z.elim, fun _ z => z.elim, fun ds ρ' h1 => h1.elim⟩
  have h1' : x = .d (.bl true) := h1
  subst h1'
  cases (show Rep G F' H' v (.bl true) from r)
  exact q H'
end
end DL
set_option Elab.async false
set_option linter.all false
set_option maxRecDepth 100000
set_option maxHeartbeats 1000000
/-! Loops. -/
namespace DL
open PySem PySem.Spec PyProof.Rows L2 CV
section
variable {ρ : Rho} {P : En} {g : TG'} {b : TS'}
/-- a loop whose turns keep R -/
theorem for_all {α : Type} {enc : α → D} (R : Rho → Prop) : ∀ (items : List α) {ρ : Rho}, R ρ → (∀ y ∈ items, ∀ ρ, R ρ → ∀ nx : Rho → Prop, (∀ ρ', R ρ' → nx ρ') → g (enc y) ρ fun ρ1 => b { P with nx := nx, ct := nx, bk := P.nx } ρ1) → (∀ ρ, R ρ → P.nx ρ) → forGo g b P (items.map enc) ρ
  | [], ρ, r, _, q => q ρ r
  | y :: items, ρ, r, h, q => h y List.mem_cons_self ρ r _ fun ρ' r' => for_all R items r' (fun z hz => h z (List.mem_cons_of_mem _ hz)) q
/-- the turns counted -/
theorem for_cnt {α : Type} {enc : α → D} (R : Nat → Rho → Prop) (items : List α) {ρ : Rho} (r : R 0 ρ) (h : ∀ i y ρ, items[i]? = some y → i < items.length → R i ρ → ∀ nx : Rho → Prop, (∀ ρ', R (i + 1) ρ' → nx ρ') → g (enc y) ρ fun ρ1 => b { P with nx := nx, ct := nx, bk := P.nx } ρ1) (q : ∀ ρ, R items.length ρ → P.nx ρ) : forGo g b P (items.map enc) ρ := by
  have go : ∀ (l : List α) (k : Nat) (ρ : Rho), l = items.drop k → R k ρ → k + l.length = items.length → forGo g b P (l.map enc) ρ := fun l => by
    induction l with
    | nil =>
      intro k ρ e rk hk
      have : k = items.length := by simpa using hk
      subst this
      exact q ρ rk
    | cons y l ih =>
      intro k ρ e rk hk
      have hk' : k < items.length := by rw [List.length_cons] at hk; omega
      have e2 := List.drop_eq_getElem_cons hk'
      rw [e2] at e
      have ey : items[k]? = some y := by rw [List.getElem?_eq_getElem hk']; exact congrArg some (List.cons.inj e).1.symm
      exact h k y ρ ey hk' rk _ fun ρ' r' => ih (k + 1) ρ' (List.cons.inj e).2 r' (by rw [List.length_cons] at hk; omega)
  exact go items 0 ρ rfl r (by omega)
/-- range(n): n written or not -/
theorem for_rng {j : Int} (R : Nat → Rho → Prop) {ρ : Rho} (r : R 0 ρ) (h : ∀ (i : Nat) ρ, (i : Int) < j → R i ρ → ∀ nx : Rho → Prop, (∀ ρ', R (i + 1) ρ' → nx ρ') → g (.int (i : Int)) ρ fun ρ1 => b { P with nx := nx, ct := nx, bk := P.nx } ρ1) (q : ∀ ρ, R j.toNat ρ → P.nx ρ) : forGo g b P (rangeD 0 j) ρ := by
  have e : rangeD 0 j = (List.range j.toNat).map fun i : Nat => D.int (i : Int) := by
    unfold rangeD
    rw [Int.sub_zero]
    refine List.map_congr_left fun i _ => ?_
    rw [Int.zero_add]
  rw [e]
  refine for_cnt R (List.range j.toNat) r (fun i y ρ hy hl ri nx hnx => ?_) fun ρ rr => q ρ (by rw [List.length_range] at rr; exact rr)
  rw [List.length_range] at hl
  have : y = i := by
    rw [List.getElem?_range hl] at hy
    exact (Option.some.inj hy).symm
  subst this
  exact h y ρ (by omega) ri nx hnx
/-- one step of a comprehension -/
theorem lc_nil {c : TT'} {e : TE'} {vs : List Nat} {Q : List D → Rho → Prop} {acc : List D} (h : Q acc ρ) : lcGo g c e vs Q [] acc ρ := h
theorem lc_cons {c : TT'} {e : TE'} {vs : List Nat} {Q : List D → Rho → Prop} {d : D} {ds acc : List D} (h : g d ρ fun ρ1 => c ρ1 fun b ρ2 => if b = true then e ρ2 fun x ρ3 => onD x fun v => if acc.length < sizeLine then lcGo g c e vs Q ds (acc ++ [v]) (nos ρ3 vs) else False else lcGo g c e vs Q ds acc (nos ρ2 vs)) : lcGo g c e vs Q (d :: ds) acc ρ := h
/-- a comprehension over range(n) whose element has no effect -/
theorem lc_rng {e : TE'} {vs : List Nat} {Q : List D → Rho → Prop} {j : Int} (f : Nat → D) (hj : j ≤ 1000000) (h : ∀ (i : Nat), (i : Int) < j → ∀ k : D → Rho → Prop, (∀ ρ', ρ' = ρ → k (f i) ρ') → g (.int (i : Int)) ρ fun ρ1 => e ρ1 fun x ρ3 => onD x fun v => k v (nos ρ3 vs)) (q : Q ((List.range j.toNat).map f) ρ) : lcGo g yes' e vs Q (rangeD 0 j) [] ρ := by
  have er : rangeD 0 j = (List.range j.toNat).map fun i : Nat => D.int (i : Int) := by
    unfold rangeD
    rw [Int.sub_zero]
    refine List.map_congr_left fun i _ => ?_
    rw [Int.zero_add]
  rw [er]
  refine lcGo_map (enc := fun i : Nat => D.int (i : Int)) (val := f) (List.range j.toNat) (fun i hi k hk => ?_) (by rw [sl_line, List.length_range]; omega) q
  have hi' : (i : Int) < j := by have := List.mem_range.mp hi; omega
  exact h i hi' (fun v ρ' => k (some v) ρ') fun ρ' e => by subst e; exact hk
/-- .. over encoded items -/
theorem lc_map {α : Type} {enc : α → D} {e : TE'} {vs : List Nat} {Q : List D → Rho → Prop} (items : List α) (f : α → D) (hl : items.length ≤ 1000000) (h : ∀ y ∈ items, ∀ k : D → Rho → Prop, (∀ ρ', ρ' = ρ → k (f y) ρ') → g (enc y) ρ fun ρ1 => e ρ1 fun x ρ3 => onD x fun v => k v (nos ρ3 vs)) (q : Q (items.map f) ρ) : lcGo g yes' e vs Q (items.map enc) [] ρ := by
  refine lcGo_map (enc := enc) (val := f) items (fun i hi k hk => ?_) (by rw [sl_line]; omega) q
  exact h i hi (fun v ρ' => k (some v) ρ') fun ρ' e => by subst e; exact hk
theorem ifnt {p q : Prop} (h : q) : if (!true) = true then p else q := by simpa using h
theorem ifnf {p q : Prop} (h : p) : if (!false) = true then p else q := by simpa using h
theorem s_fnil (h : P.nx ρ) : forGo g b P [] ρ := h
theorem s_fcons {d : D} {ds : List D} (h : g d ρ fun ρ1 => b { P with nx := forGo g b P ds, ct := forGo g b P ds, bk := P.nx } ρ1) : forGo g b P (d :: ds) ρ := h
theorem x_scr {a : Addr} {ns : List Int} {Q : Xv → Rho → Prop} (h : ρ[0]? = some (.raw a)) (q : Q (.d (.lst ((0 :: ns).map D.int))) ρ) : scr a ns ρ Q := ⟨h, q⟩
theorem cut_to {α : Type} (l : List α) (k : Nat) : cutG l none (some (k : Int)) = l.take k := by
  unfold cutG HT.sIx
  have h0 : ¬ ((k : Int) < 0) := by omega
  simp only [h0, if_false, Nat.sub_zero, List.drop_zero]
  by_cases c : k ≤ l.length
  · have : min (k : Int).toNat l.length = k := by omega
    simp [this]
  · have : min (k : Int).toNat l.length = l.length := by omega
    simp [this]
theorem cut10 {α : Type} {enc : α → D} {a : List α} (k : Nat) : cutG (a.map enc) none (some (k : Int)) = (a.take k).map enc := by rw [cut_to, List.map_take]
theorem cut_10 {α : Type} {enc : α → D} {a : List α} : cutG (a.map enc) none (some 10) = (a.take 10).map enc := cut10 10
theorem cut_8 {α : Type} {enc : α → D} {a : List α} : cutG (a.map enc) none (some 8) = (a.take 8).map enc := cut10 8
theorem cut_6 {α : Type} {enc : α → D} {a : List α} : cutG (a.map enc) none (some 6) = (a.take 6).map enc := cut10 6
theorem cut_4 {α : Type} {enc : α → D} {a : List α} : cutG (a.map enc) none (some 4) = (a.take 4).map enc := cut10 4
end
end DL
set_option Elab.async false
set_option linter.all false
set_option autoImplicit false
set_option maxRecDepth 100000
set_option maxHeartbeats 1000000
/-! Covers beside each other. -/
namespace DL
open CV
section
variable {a b c : List (Int × Int)}
theorem lo_chain_l (na : Norm a) (nb : Norm b) (nc : Norm c) (h : Lo a b) : lo (chain a c) (chain b c) = true :=
  (lo_iff (chain_spec na nc).1 (chain_spec nb nc).1).mpr (chn_mono_l nc h (chain_spec na nc) (chain_spec nb nc))
theorem lo_chain_r (na : Norm a) (nb : Norm b) (nc : Norm c) (h : Lo a b) : lo (chain c a) (chain c b) = true :=
  (lo_iff (chain_spec nc na).1 (chain_spec nc nb).1).mpr (chn_mono_r h (chain_spec nc na) (chain_spec nc nb))
theorem lo_big_l (na : Norm a) (nb : Norm b) : Lo a (big a b) := fun x => by rw [pay_big na nb]; omega
theorem lo_big_r (na : Norm a) (nb : Norm b) : Lo b (big a b) := fun x => by rw [pay_big na nb]; omega
end
open PySem PySem.Spec PyProof.Rows L2
section
variable {k : D → Prop} {l : List (Int × Int)} {a b c d e f : Int}
theorem v_eqL0 (h : k (.bl (decide (l = [])))) : ok (eqD (rgD l) (.tup [])) k := by rw [show D.tup [] = rgD [] from rfl]; exact v_eqR h
theorem v_neL0 (h : k (.bl (!decide (l = [])))) : ok (neD (rgD l) (.tup [])) k := by rw [show D.tup [] = rgD [] from rfl]; exact v_neR h
theorem v_eqL1 (h : k (.bl (decide (l = [(a - 1, b)])))) : ok (eqD (rgD l) (.tup [.tup [.int a, .int b]])) k := by rw [rg_lit1]; exact v_eqR h
theorem v_neL1 (h : k (.bl (!decide (l = [(a - 1, b)])))) : ok (neD (rgD l) (.tup [.tup [.int a, .int b]])) k := by rw [rg_lit1]; exact v_neR h
theorem v_eqL2 (h : k (.bl (decide (l = [(a - 1, b), (c - 1, d)])))) : ok (eqD (rgD l) (.tup [.tup [.int a, .int b], .tup [.int c, .int d]])) k := by rw [rg_lit2]; exact v_eqR h
theorem v_neL2 (h : k (.bl (!decide (l = [(a - 1, b), (c - 1, d)])))) : ok (neD (rgD l) (.tup [.tup [.int a, .int b], .tup [.int c, .int d]])) k := by rw [rg_lit2]; exact v_neR h
theorem v_eqL3 (h : k (.bl (decide (l = [(a - 1, b), (c - 1, d), (e - 1, f)])))) : ok (eqD (rgD l) (.tup [.tup [.int a, .int b], .tup [.int c, .int d], .tup [.int e, .int f]])) k := by rw [rg_lit3]; exact v_eqR h
theorem v_neL3 (h : k (.bl (!decide (l = [(a - 1, b), (c - 1, d), (e - 1, f)])))) : ok (neD (rgD l) (.tup [.tup [.int a, .int b], .tup [.int c, .int d], .tup [.int e, .int f]])) k := by rw [rg_lit3]; exact v_neR h
end
end DL
set_option Elab.async false
set_option linter.all false
set_option autoImplicit false
set_option maxRecDepth 100000
set_option maxHeartbeats 1000000
/-! Sums over larger and smaller payments; largest payments; few ranges among few euros. -/
namespace DL
open CV
theorem normF_len : ∀ {l : List (Int × Int)} {a t : Int}, NormF a l → Bd t l → l ≠ [] → a + 2 * (l.length : Int) ≤ t
  | [], a, t, _, _, h => (h rfl).elim
  | p :: l, a, t, n, b, _ => by
    have h1 := n.1
    have h2 := n.2.1
    have hb := b p List.mem_cons_self
    rw [List.length_cons]
    by_cases c : l = []
    · subst c
      show a + 2 * ((0 + 1 : Nat) : Int) ≤ t
      omega
    · have := normF_len n.2.2 (fun q hq => b q (List.mem_cons_of_mem _ hq)) c
      omega
theorem gd_small4 {t : Int} {r : List (Int × Int)} (n : Norm r) (b : Bd t r) (h : t ≤ 8) : Gd 4 r := by
  refine ⟨n, ?_, fun p hp => by have := b p hp; omega⟩
  by_cases c : r = []
  · subst c; exact Nat.zero_le _
  · have := normF_len n b c
    omega
section
variable {a b c : List (Int × Int)} {j k i : Nat}
theorem tot_pay {l : List (Int × Int)} (h : Gd k l) (x : Int) (hx : 2000000 * (k : Int) ≤ x) : total l = pay l x := by
  rw [total_pay h.n h.b (by omega), (bd_pay h.n).mp h.b x hx]
theorem tot_chain (ha : Gd j a) (hb : Gd k b) : total (chain a b) = total a + total b := chn_total ha.n hb.n (chain_spec ha.n hb.n) (by omega) (by omega) ha.b hb.b
theorem tot_big (ha : Gd j a) (hb : Gd k b) : total (big a b) = max (total a) (total b) := by
  rw [tot_pay (gd_big ha hb) (2000000 * ((j + k : Nat) : Int)) (Int.le_refl _), pay_big ha.n hb.n, tot_pay ha (2000000 * ((j + k : Nat) : Int)) (by omega), tot_pay hb (2000000 * ((j + k : Nat) : Int)) (by omega)]
theorem tot_small (ha : Gd j a) (hb : Gd k b) : total (small a b) = min (total a) (total b) := by
  rw [tot_pay (gd_small ha hb) (2000000 * ((j + k : Nat) : Int)) (Int.le_refl _), pay_small ha.n hb.n, tot_pay ha (2000000 * ((j + k : Nat) : Int)) (by omega), tot_pay hb (2000000 * ((j + k : Nat) : Int)) (by omega)]
theorem big_chain_l (na : Norm a) (nb : Norm b) (nc : Norm c) : chain (big a b) c = big (chain a c) (chain b c) := by
  have n1 := (big_spec na nb).1
  have n2 := (chain_spec na nc).1
  have n3 := (chain_spec nb nc).1
  refine pay_uniq (chain_spec n1 nc).1 (big_spec n2 n3).1 fun x => ?_
  rw [pay_chain n1 nc, pay_big na nb, pay_big n2 n3, pay_chain na nc, pay_chain nb nc]
  by_cases h : pay a x ≤ pay b x
  · have := pay_le nc (x := x - pay b x) (y := x - pay a x) (by omega)
    rw [show max (pay a x) (pay b x) = pay b x by omega]
    omega
  · have := pay_le nc (x := x - pay a x) (y := x - pay b x) (by omega)
    rw [show max (pay a x) (pay b x) = pay a x by omega]
    omega
theorem small_chain_l (na : Norm a) (nb : Norm b) (nc : Norm c) : chain (small a b) c = small (chain a c) (chain b c) := by
  have n1 := (small_spec na nb).1
  have n2 := (chain_spec na nc).1
  have n3 := (chain_spec nb nc).1
  refine pay_uniq (chain_spec n1 nc).1 (small_spec n2 n3).1 fun x => ?_
  rw [pay_chain n1 nc, pay_small na nb, pay_small n2 n3, pay_chain na nc, pay_chain nb nc]
  by_cases h : pay a x ≤ pay b x
  · have := pay_le nc (x := x - pay b x) (y := x - pay a x) (by omega)
    rw [show min (pay a x) (pay b x) = pay a x by omega]
    omega
  · have := pay_le nc (x := x - pay a x) (y := x - pay b x) (by omega)
    rw [show min (pay a x) (pay b x) = pay b x by omega]
    omega
theorem big_chain_r (na : Norm a) (nb : Norm b) (nc : Norm c) : chain c (big a b) = big (chain c a) (chain c b) := by
  have n1 := (big_spec na nb).1
  have n2 := (chain_spec nc na).1
  have n3 := (chain_spec nc nb).1
  refine pay_uniq (chain_spec nc n1).1 (big_spec n2 n3).1 fun x => ?_
  rw [pay_chain nc n1, pay_big na nb, pay_big n2 n3, pay_chain nc na, pay_chain nc nb]
  omega
theorem small_chain_r (na : Norm a) (nb : Norm b) (nc : Norm c) : chain c (small a b) = small (chain c a) (chain c b) := by
  have n1 := (small_spec na nb).1
  have n2 := (chain_spec nc na).1
  have n3 := (chain_spec nc nb).1
  refine pay_uniq (chain_spec nc n1).1 (small_spec n2 n3).1 fun x => ?_
  rw [pay_chain nc n1, pay_small na nb, pay_small n2 n3, pay_chain nc na, pay_chain nc nb]
  omega
end
open PySem PySem.Spec PyProof.Rows L2
section
variable {k : D → Prop} {i j : Int}
theorem v_max2 (h : k (.int (max i j))) : ok (max1D [.lst [.int i, .int j]]) k := h
theorem v_min2 (h : k (.int (min i j))) : ok (min1D [.lst [.int i, .int j]]) k := h
theorem v_max2t (h : k (.int (max i j))) : ok (max1D [.tup [.int i, .int j]]) k := h
theorem v_min2t (h : k (.int (min i j))) : ok (min1D [.tup [.int i, .int j]]) k := h
end
/-- the sets of the laws -/
theorem k_sets {t : Int} {K : D → List (List D) → Prop} (h0 : 0 ≤ t) (h : t ≤ 8) (q : ∀ rz : List (List (Int × Int)), rz ≠ [] → rz.length ≤ 256 → (∀ r ∈ rz, Gd 4 r ∧ Bd t r) → K (.lst (rz.map rgD)) []) : S__law_sets [.val (.int t)] K :=
  ⟨t, rfl, h0, h, fun rz h1 h2 h3 => q rz h1 h2 fun r hr => ⟨gd_small4 (h3 r hr).1 (h3 r hr).2.1 h, (h3 r hr).2.1⟩⟩
end DL
set_option Elab.async false
set_option linter.all false
set_option autoImplicit false
set_option maxRecDepth 100000
set_option maxHeartbeats 1000000
/-! Orders of policies. -/
namespace DL
open CV
/-- what a policy leaves -/
def rest1 (p : Int × Int) (r : Int) : Int := r - pay (polS p) r
theorem rest1_eq (p : Int × Int) (r : Int) : rest1 p r = r - max 0 (min r (p.1 + p.2) - p.1) := by
  unfold rest1 polS
  rw [pay_cons, pay_nil]
  show r - (max 0 (min r (p.1 + p.2) - p.1) + 0) = _
  omega
theorem restP_cons (p : Int × Int) (ps : List (Int × Int)) (x : Int) : restP (p :: ps) x = restP ps (rest1 p x) := rfl
theorem rest1_mono (p : Int × Int) {x y : Int} (h : x ≤ y) : rest1 p x ≤ rest1 p y := by
  rw [rest1_eq, rest1_eq]; omega
theorem rest1_le {p : Int × Int} (x : Int) : rest1 p x ≤ x := by rw [rest1_eq]; omega
theorem restP_mono : ∀ (ps : List (Int × Int)) {x y : Int}, x ≤ y → restP ps x ≤ restP ps y
  | [], _, _, h => h
  | p :: ps, _, _, h => restP_mono ps (rest1_mono p h)
/-- the policy with the larger deductible first leaves less -/
theorem rest_swap {p q : Int × Int} (hp : okPol p) (hq : okPol q) (h : q.1 ≤ p.1) (x : Int) : rest1 q (rest1 p x) ≤ rest1 p (rest1 q x) := by
  obtain ⟨a0, _, b0, _⟩ := hp
  obtain ⟨c0, _, d0, _⟩ := hq
  rw [rest1_eq, rest1_eq, rest1_eq, rest1_eq]
  omega
theorem rest_swapP {p q : Int × Int} (hp : okPol p) (hq : okPol q) (h : q.1 ≤ p.1) (as bs : List (Int × Int)) (x : Int) : restP (as ++ p :: q :: bs) x ≤ restP (as ++ q :: p :: bs) x := by
  rw [restP_app, restP_app]
  exact restP_mono bs (rest_swap hp hq h _)
theorem rest_swapE {p q : Int × Int} (hp : okPol p) (hq : okPol q) (h : q.1 = p.1) (as bs : List (Int × Int)) (x : Int) : restP (as ++ p :: q :: bs) x = restP (as ++ q :: p :: bs) x := by
  have a := rest_swapP hp hq (by omega) as bs x
  have b := rest_swapP hq hp (by omega) as bs x
  omega
theorem rest_ins (f : Int × Int) (as bs : List (Int × Int)) (x : Int) : restP (as ++ f :: bs) x ≤ restP (as ++ bs) x := by
  rw [restP_app, restP_app]
  exact restP_mono bs (rest1_le _)
theorem lo_made {ps qs : List (Int × Int)} (hp : ∀ p ∈ ps, okPol p) (hq : ∀ p ∈ qs, okPol p) (h : ∀ x, restP qs x ≤ restP ps x) : lo (made ps) (made qs) = true :=
  (lo_iff (gd_made (Nat.le_refl _) hp).n (gd_made (Nat.le_refl _) hq).n).mpr fun x => by
    rw [pay_made hp, pay_made hq]
    have := h x
    omega
/-- the largest payment of a chain -/
theorem tot_polS (p : Int × Int) : total (polS p) = p.2 := by
  unfold total polS
  simp
  omega
theorem tot_made : ∀ n (ps : List (Int × Int)), ps.length = n → (∀ p ∈ ps, okPol p) → total (made ps) = (ps.map (·.2)).sum
  | 0, ps, e, _ => by
    cases ps with
    | cons _ _ => cases e
    | nil => rfl
  | n + 1, ps, e, h => by
    rcases List.eq_nil_or_concat ps with e0 | ⟨qs, p, e0⟩
    · rw [e0] at e; cases e
    · rw [List.concat_eq_append] at e0
      subst e0
      have e' : qs.length = n := by rw [List.length_append] at e; simpa using e
      have hq : ∀ p ∈ qs, okPol p := fun q hq => h q (List.mem_append_left _ hq)
      have hp := h p (List.mem_append_right _ List.mem_cons_self)
      rw [made_snoc, tot_chain (gd_made (Nat.le_refl _) hq) (gd_pol hp), tot_made n qs e' hq, tot_polS, List.map_append, List.sum_append]
      simp
theorem perm_sum {l m : List Int} (h : l.Perm m) : l.sum = m.sum := by
  induction h with
  | nil => rfl
  | cons a _ ih => rw [List.sum_cons, List.sum_cons, ih]
  | swap a b l => rw [List.sum_cons, List.sum_cons, List.sum_cons, List.sum_cons]; omega
  | trans _ _ ih1 ih2 => rw [ih1, ih2]
theorem tot_perm {ps qs : List (Int × Int)} (h : ps.Perm qs) (hp : ∀ p ∈ ps, okPol p) : total (made ps) = total (made qs) := by
  rw [tot_made _ ps rfl hp, tot_made _ qs rfl fun p hq => hp p (h.mem_iff.mpr hq)]
  exact perm_sum (h.map _)
theorem made_swapE {p q : Int × Int} {as bs : List (Int × Int)} (h0 : ∀ r ∈ as ++ p :: q :: bs, okPol r) (h : q.1 = p.1) : made (as ++ p :: q :: bs) = made (as ++ q :: p :: bs) := by
  have pm : (as ++ p :: q :: bs).Perm (as ++ q :: p :: bs) := (List.Perm.swap q p bs).append_left as
  have h1 : ∀ r ∈ as ++ q :: p :: bs, okPol r := fun r hr => h0 r (pm.mem_iff.mpr hr)
  refine made_eq h1 (gd_made (Nat.le_refl _) h0).n fun x => ?_
  rw [pay_made h0, rest_swapE (h0 p (by simp)) (h0 q (by simp)) h]
/-! never more: at all ends it is seen -/
theorem str_le {f g : Int → Int} {lo hi x : Int} (hf : Str1 f lo hi) (hg : Str1 g lo hi) (h1 : f lo ≤ g lo) (h2 : f hi ≤ g hi) (p : lo ≤ x) (q : x ≤ hi) : f x ≤ g x := by
  rcases hf with hf | hf <;> rcases hg with hg | hg <;>
  · have := hf x p q; have := hg x p q; have := hf hi (by omega) (Int.le_refl _); have := hg hi (by omega) (Int.le_refl _); omega
theorem ends_ok {l m : List (Int × Int)} (hl : Norm l) (hm : Norm m) (k : ∀ q, q ∈ ends l ∨ q ∈ ends m → pay l q ≤ pay m q) (x : Int) : pay l x ≤ pay m x := by
  obtain ⟨r, e⟩ := (pts_ok l m).head hl hm
  have h := pts_ok l m
  rw [e] at h
  have g := h.grid hl hm
  obtain ⟨z1, z2⟩ := last_flat hl hm h
  have k' : ∀ q ∈ 0 :: r, pay l q ≤ pay m q := fun q hq => by
    rcases (h.m q).mp hq with e | e
    · rw [e, pay_low hl (by omega), pay_low hm (by omega)]; exact Int.le_refl _
    · exact k q e
  have walk : ∀ {r : List Int} {lo : Int}, Grid (fun lo hi => Str1 (pay l) lo hi ∧ Str1 (pay m) lo hi) lo r → (∀ q ∈ lo :: r, pay l q ≤ pay m q) → ∀ x, lo ≤ x → x ≤ lastD lo r → pay l x ≤ pay m x := by
    intro r
    induction r with
    | nil =>
      intro lo _ k x h1 h2
      have : x = lo := by have h2' : x ≤ lo := h2; omega
      rw [this]; exact k lo List.mem_cons_self
    | cons hi r ih =>
      intro lo ⟨a, b, c⟩ k x h1 h2
      by_cases d : x ≤ hi
      · exact str_le b.1 b.2 (k lo List.mem_cons_self) (k hi (List.mem_cons_of_mem _ List.mem_cons_self)) h1 d
      · exact ih c (fun q hq => k q (List.mem_cons_of_mem _ hq)) x (by omega) h2
  by_cases c : x ≤ 0
  · rw [pay_low hl (by omega), pay_low hm (by omega)]
    exact Int.le_refl _
  · by_cases d : x ≤ lastD 0 r
    · exact walk g k' x (by omega) d
    · have e := walk g k' (lastD 0 r) (grid_le g) (Int.le_refl _)
      rw [z1 x (by omega), z2 x (by omega)]
      exact e
/-- .. of small ones below a bill -/
theorem small_ok {l m : List (Int × Int)} {n : Nat} (hl : Norm l) (hm : Norm m) (bl : Bd n l) (bm : Bd n m) (k : ∀ i : Nat, i ≤ n → pay l i ≤ pay m i) (x : Int) : pay l x ≤ pay m x := by
  by_cases c : x ≤ 0
  · rw [pay_low hl (by omega), pay_low hm (by omega)]
    exact Int.le_refl _
  · by_cases d : x ≤ n
    · have := k x.toNat (by omega)
      have e : ((x.toNat : Nat) : Int) = x := by omega
      rw [e] at this
      exact this
    · rw [(bd_pay hl).mp bl x (by omega), (bd_pay hm).mp bm x (by omega)]
      exact k n (Nat.le_refl _)
end DL
set_option Elab.async false
set_option linter.all false
set_option autoImplicit false
set_option maxRecDepth 100000
set_option maxHeartbeats 4000000
namespace DL
open PySem PySem.Spec PyProof.Rows L2 CV
local macro_rules | `(tactic| walk_at "sz") => `(tactic| (first | exact (by rw [sl_line]; simp only [List.length_cons, List.length_nil, List.length_append, List.length_map, List.length_range]; omega) | decide | omega | (simp only [List.length_map, List.length_append, List.length_range, List.length_cons, List.length_nil]; omega)))
local macro_rules | `(tactic| walk_at "gd") => `(tactic| (repeat' first | assumption | exact gd_nil | exact gd_pol (by decide) | exact gd_made (Nat.le_refl _) (by decide) | apply gd_chain | apply gd_big | apply gd_small))
local macro_rules | `(tactic| walk_at "go") => `(tactic| (repeat (first
      | (with_reducible refine s_seq ?_)
      | (with_reducible refine s_set ?_)
      | (with_reducible refine s_setO ?_)
      | (with_reducible refine s_par ?_)
      | (with_reducible refine s_par3 ?_)
      | (with_reducible refine s_parDO ?_)
      | (with_reducible refine s_parOD ?_)
      | (with_reducible refine s_parOO ?_)
      | (with_reducible refine s_asg ?_)
      | (with_reducible refine s_ifs ?_)
      | (with_reducible refine s_ret ?_)
      | (with_reducible refine s_nxt ?_)
      | (with_reducible refine s_drp ?_)
      | (with_reducible refine s_for ?_)
      | (with_reducible refine i_itm ?_)
      | (with_reducible refine i_rng1 ?_)
      | (with_reducible refine i_rng2 ?_)
      | (with_reducible refine x_c ?_)
      | (with_reducible refine x_bin ?_)
      | (with_reducible refine x_binF ?_)
      | (with_reducible refine x_un ?_)
      | (with_reducible refine x_tst ?_)
      | (with_reducible refine x_tor ?_)
      | (with_reducible refine x_tand ?_)
      | (with_reducible refine x_tnot ?_)
      | (with_reducible refine x_vand ?_)
      | (with_reducible refine x_vor ?_)
      | (with_reducible refine x_vnot ?_)
      | (with_reducible refine x_ite ?_)
      | (with_reducible refine x_iteT ?_)
      | (with_reducible refine x_yes ?_)
      | (with_reducible refine x_aN ?_)
      | (with_reducible refine x_aC ?_)
      | (with_reducible refine x_tup ?_)
      | (with_reducible refine x_lst ?_)
      | (with_reducible refine x_frz ?_)
      | (with_reducible refine x_cal ?_)
      | (with_reducible refine x_calF ?_)
      | (with_reducible refine x_call ?_)
      | (with_reducible refine x_callF ?_)
      | (with_reducible refine x_own2 ?_)
      | (with_reducible refine x_prp ?_)
      | (with_reducible refine x_mth ?_)
      | (with_reducible refine x_mk ?_)
      | (with_reducible refine x_isi ?_)
      | (with_reducible refine x_pNo ?_)
      | (with_reducible refine x_pSo ?_)
      | (with_reducible refine x_slc ?_)
      | (with_reducible refine g_n ?_)
      | (with_reducible refine g_t2 ?_)
      | (with_reducible refine g_t3 ?_)
      | (with_reducible refine g_l2 ?_)
      | (with_reducible refine g_l3 ?_)
      | (with_reducible refine f_lc ?_)
      | (with_reducible refine xD ?_)
      | (with_reducible refine xB ?_)
      | (with_reducible refine xI ?_)
      | (with_reducible refine xC ?_)
      | (with_reducible refine xSl ?_)
      | (with_reducible refine xSt ?_)
      | (with_reducible refine xF0 ?_)
      | (with_reducible refine xF1 ?_)
      | (with_reducible refine xF2 ?_)
      | (with_reducible refine xF3 ?_)
      | (with_reducible refine xR1 ?_)
      | (with_reducible refine xR2 ?_)
      | (with_reducible refine xA0 ?_)
      | (with_reducible refine xA1 ?_)
      | (with_reducible refine xA2 ?_)
      | (with_reducible refine xA3 ?_)
      | (with_reducible refine xA4 ?_)
      | (with_reducible refine x_rs ?_)
      | (with_reducible refine v_add ?_)
      | (with_reducible refine v_sub ?_)
      | (with_reducible refine v_lt ?_)
      | (with_reducible refine v_le ?_)
      | (with_reducible refine v_gt ?_)
      | (with_reducible refine v_ge ?_)
      | (with_reducible refine v_neg ?_)
      | (with_reducible refine v_p6 ?_)
      | (with_reducible refine v_p9 ?_)
      | (with_reducible refine v_p5 ?_)
      | (with_reducible refine v_p4 ?_)
      | (with_reducible refine v_p7 ?_)
      | (with_reducible refine v_max ?_)
      | (with_reducible refine v_min ?_)
      | (with_reducible refine v_lenL ?_)
      | (with_reducible refine v_lenT ?_)
      | (with_reducible refine v_tupL ?_)
      | (with_reducible refine v_tupT ?_)
      | (with_reducible refine v_lstL ?_)
      | (with_reducible refine v_lstT ?_)
      | (with_reducible refine v_sum ?_)
      | (with_reducible refine v_eqI ?_)
      | (with_reducible refine v_neI ?_)
      | (with_reducible refine v_eqR ?_)
      | (with_reducible refine v_neR ?_)
      | (with_reducible refine v_slice ?_)
      | (with_reducible refine v_sliceT ?_)
      | (with_reducible refine v_fld ?_)
      | (with_reducible refine k_eq ?_)
      | (with_reducible refine k_same ?_)
      | (with_reducible refine k_sameB ?_)
      | (with_reducible refine v_eqI0 ?_)
      | (with_reducible refine v_neI0 ?_)
      | (with_reducible refine v_eqM0 ?_)
      | (with_reducible refine v_isB ?_)
      | (with_reducible refine v_ix0 ?_)
      | (with_reducible refine v_ix1 ?_)
      | (with_reducible refine v_p0 ?_)
      | (with_reducible refine v_p1 ?_)
      | (with_reducible refine k_mk0 ?_)
      | (with_reducible refine iteT ?_)
      | (with_reducible refine iteF ?_)
      | (with_reducible refine lc_nil ?_)
      | (with_reducible refine lc_cons ?_)
      | (with_reducible refine ifnt ?_)
      | (with_reducible refine ifnf ?_)
      | (with_reducible refine s_fnil ?_)
      | (with_reducible refine s_fcons ?_)
      | (with_reducible refine x_popL ?_)
      | (with_reducible refine v_eqL0 ?_)
      | (with_reducible refine v_neL0 ?_)
      | (with_reducible refine v_eqL1 ?_)
      | (with_reducible refine v_neL1 ?_)
      | (with_reducible refine v_eqL2 ?_)
      | (with_reducible refine v_neL2 ?_)
      | (with_reducible refine v_eqL3 ?_)
      | (with_reducible refine v_neL3 ?_)
      | (with_reducible refine v_max2 ?_)
      | (with_reducible refine v_min2 ?_)
      | (with_reducible refine v_max2t ?_)
      | (with_reducible refine v_min2t ?_)
      | ((with_reducible apply x_scr); (· exact rfl))
      | ((with_reducible apply x_v); (· exact rfl))
      | ((with_reducible apply x_o); (· exact rfl))
      | ((with_reducible apply x_app); (· exact rfl))
      | ((with_reducible apply x_popA); (· exact rfl))
      | ((with_reducible apply x_ownAt); (· exact rfl))
      | ((with_reducible apply x_rso); (· exact rfl))
      | ((with_reducible apply xR1o); (· exact rfl))
      | ((with_reducible apply x_if); (· walk_at "sz"))
      | ((with_reducible apply k_add); (· walk_at "gd"); (· walk_at "gd"); (· decide))
      | ((with_reducible apply k_or); (· walk_at "gd"); (· walk_at "gd"); (· decide))
      | ((with_reducible apply k_and); (· walk_at "gd"); (· walk_at "gd"); (· decide))
      | ((with_reducible apply k_most); (· walk_at "gd"); (· walk_at "gd"); (· decide))
      | ((with_reducible apply k_rg); (· walk_at "gd"); (· decide))
      | ((with_reducible apply k_tot); (· walk_at "gd"); (· decide))
      | ((with_reducible apply k_pays); (· walk_at "gd"); (· decide))
      | ((with_reducible apply k_mk1); (· decide))
      | ((with_reducible apply k_mk2); (· decide); (· decide))
      | ((with_reducible apply k_mk3); (· decide); (· decide); (· decide))
      | ((with_reducible apply k_call); (· walk_at "gd"); (· decide); (· omega); (· omega))
      | ((with_reducible apply v_addT); (· walk_at "sz"))
      | ((with_reducible apply v_addL); (· walk_at "sz"))
      | ((with_reducible apply v_addR); (· (simp only [List.length_append]; omega)))
      | ((with_reducible apply k_behind); (· walk_at "gd"); (· walk_at "gd"); (· decide); (· decide))
      | (dsimp only [List.set_cons_zero, List.set_cons_succ, nos, back, keepV, putOwn, List.getElem?_cons_succ, List.getElem?_cons_zero, List.nil_append, List.cons_append]))))
theorem erase_perm : ∀ (l : List D) (i : Nat) (h : i < l.length), (l[i] :: l.eraseIdx i).Perm l
  | x :: l, 0, _ => .refl _
  | x :: l, i + 1, h => (List.Perm.swap x (l[i]'(by simpa using h)) (l.eraseIdx i)).trans ((erase_perm l i (by simpa using h)).cons x)
theorem d__law_chain : ∀ as K, S__law_chain as K → b__law_chain (enOf as K) (as ++ List.replicate (N__law_chain.length - as.length) .no) := by
  rintro as K ⟨ps, x, rfl, hp, h⟩
  show b__law_chain _ [.val (.tup (ps.map eP)), .val (.int x), .no, .no, .no]
  unfold b__law_chain
  walk_at "go"
  refine forGo_fold (enc := eP) (R := fun (r : Int) ρ => ∃ (y1 y2 : Sl), ρ = [.val (.tup (ps.map eP)), .val (.int x), .val (.int r), y1, y2]) (fun r p => r - pay (polS p) r) ps x _ ⟨_, _, rfl⟩ (fun p r ρ hpp hρ nx hnx => ?_) (fun ρ hρ => ?_)
  · obtain ⟨x3, x4, e⟩ := hρ
    subst e
    refine g_t2 (a := .int p.1) (b := .int p.2) ?_
    walk_at "go"
    have ok := hp p hpp
    have e : min p.2 (max 0 (r - p.1)) = pay (polS p) r := by
      have z := rest1_eq p r
      unfold rest1 at z
      have := ok.1
      have := ok.2.2.1
      omega
    rw [e]
    exact hnx _ ⟨_, _, rfl⟩
  · obtain ⟨x3, x4, e⟩ := hρ
    subst e
    walk_at "go"
    exact h
theorem d__law_mixed : ∀ as K, S__law_mixed as K → b__law_mixed (enOf as K) (as ++ List.replicate (N__law_mixed.length - as.length) .no) := by
  rintro as K ⟨n, ds, es, d, rfl, sq, en, dk, hn, hl, h⟩
  show b__law_mixed _ [.own true ds, .val d, .no, .no]
  unfold b__law_mixed
  have fin : whl (tst (bin neD (cV 2) (frz (lstF (aN))))) (drp (app 3 (popA 2 (call' S__law_pick (aC (cV 0) (aC (cal lenD (aC (cV 2) (aN))) (aN))))))) { nx := (ret (cal tupD (aC (cV 3) (aN)))) (enOf [.own true ds, .val d] K), rt := (enOf [.own true ds, .val d] K).rt, bk := (enOf [.own true ds, .val d] K).bk, ct := (enOf [.own true ds, .val d] K).ct, rf := (enOf [.own true ds, .val d] K).rf } [.own true ds, .val d, .own false es, .own false []] := by
    refine s_while (fun m ρ => ∃ (left found dk' : List D), left.length = m ∧ (found ++ left).Perm es ∧ Dk (n + found.length) dk' ∧ ρ = [.own true dk', .val d, .own false left, .own false found]) es.length ⟨es, [], ds, rfl, .refl _, by simpa using dk, rfl⟩ ?_
    rintro m ρ ⟨left, found, dk', hm, pm, kd, rfl⟩
    have hll : found.length + left.length = es.length := by rw [← List.length_append]; exact pm.length_eq
    walk_at "go"
    refine x_ok (en left fun e he => pm.mem_iff.mp (List.mem_append_right _ he)) ?_
    walk_at "go"
    by_cases c : left.length = 0
    · rw [decide_eq_true c]
      refine ifnt ?_
      have e0 : left = [] := List.length_eq_zero_iff.mp c
      subst e0
      walk_at "go"
      refine h found dk' (by simpa using pm) ?_
      have e : found.length = es.length := by simpa using hll
      rw [← e]; exact kd
    · rw [decide_eq_false c]
      refine ifnf ⟨fun ρ' => ∃ (left found dk' : List D), left.length = m - 1 ∧ (found ++ left).Perm es ∧ Dk (n + found.length) dk' ∧ ρ' = [.own true dk', .val d, .own false left, .own false found], fun ρ' w => ⟨m - 1, by omega, w⟩, ?_⟩
      walk_at "go"
      refine xO2 rfl fun K' kk => ⟨n + found.length, dk', left.length, rfl, kd, by omega, by omega, by omega, fun r dk2 r0 r1 kd2 => kk _ _ ?_⟩
      walk_at "go"
      have hr : r.toNat < left.length := by omega
      have er : r = (r.toNat : Int) := by omega
      have es1 : seqIndex? r left.length = some r.toNat := by
        unfold seqIndex?
        rw [if_neg (show ¬ r < 0 by omega)]
        rw [if_pos (by rw [Bool.and_eq_true, decide_eq_true_eq, decide_eq_true_eq]; omega)]
      refine x_ok es1 ?_
      refine x_ok (List.getElem?_eq_getElem hr) ?_
      walk_at "go"
      show (if found.length < PySem.sizeLine then _ else False)
      rw [if_pos (by rw [sl_line]; omega)]
      refine ⟨left.eraseIdx r.toNat, found ++ [left[r.toNat]], dk2, by rw [List.length_eraseIdx_of_lt hr]; omega, ?_, ?_, rfl⟩
      · refine List.Perm.trans ?_ pm
        rw [List.append_assoc]
        refine List.Perm.append_left _ ?_
        show (left[r.toNat] :: left.eraseIdx r.toNat).Perm left
        exact erase_perm left r.toNat hr
      · rw [List.length_append, List.length_singleton]
        have e : n + ((found.length + 1 : Nat) : Int) = n + (found.length : Int) + 1 := by omega
        rw [e]; exact kd2
  rcases sq with rfl | rfl
  · walk_at "go"
    exact fin
  · walk_at "go"
    exact fin
end DL
set_option Elab.async false
set_option linter.all false
set_option autoImplicit false
set_option maxRecDepth 100000
set_option maxHeartbeats 1000000
/-! Filters, lists of ints, folds. -/
namespace DL
open PySem PySem.Spec PyProof.Rows L2 CV
section
variable {ρ : Rho} {P : En} {g : TG'} {b : TS'}
theorem x_dec {b p : Bool} {A B : Prop} (e : b = p) (h1 : p = true → A) (h2 : p = false → B) : if b = true then A else B := by
  subst e
  cases b with
  | true => exact iteT (h1 rfl)
  | false => exact iteF (h2 rfl)
theorem x_decn {b p : Bool} {A B : Prop} (e : b = p) (h1 : p = true → B) (h2 : p = false → A) : if (!b) = true then A else B := by
  subst e
  cases b with
  | true => exact ifnt (h1 rfl)
  | false => exact ifnf (h2 rfl)
theorem x_ite2 {ta tb : TE'} {b : Bool} {Q : Xv → Rho → Prop} (v : Xv) (h1 : b = true → ∀ Q' : Xv → Rho → Prop, Q' v ρ → ta ρ Q') (h2 : b = false → ∀ Q' : Xv → Rho → Prop, Q' v ρ → tb ρ Q') (k : Q v ρ) : if b = true then ta ρ Q else tb ρ Q := by
  cases b with
  | true => exact iteT (h1 rfl Q k)
  | false => exact iteF (h2 rfl Q k)
theorem x_ite2T {ta tb : TT'} {b : Bool} {Q : Bool → Rho → Prop} (v : Bool) (h1 : b = true → ∀ Q' : Bool → Rho → Prop, Q' v ρ → ta ρ Q') (h2 : b = false → ∀ Q' : Bool → Rho → Prop, Q' v ρ → tb ρ Q') (k : Q v ρ) : if b = true then ta ρ Q else tb ρ Q := by
  cases b with
  | true => exact iteT (h1 rfl Q k)
  | false => exact iteF (h2 rfl Q k)
theorem lc_filt {α : Type} {enc : α → D} {c : TT'} {e : TE'} {vs : List Nat} {Q : List D → Rho → Prop} (items : List α) (p : α → Bool) (f : α → D) (hl : items.length ≤ 1000000)
    (h : ∀ y ∈ items, ∀ (k1 : D → Rho → Prop) (k2 : Rho → Prop), (p y = true → k1 (f y) ρ) → (p y = false → k2 ρ) → g (enc y) ρ fun ρ1 => c ρ1 fun b ρ2 => if b = true then e ρ2 fun x ρ3 => onD x fun v => k1 v (nos ρ3 vs) else k2 (nos ρ2 vs))
    (q : Q ((items.filter p).map f) ρ) : lcGo g c e vs Q (items.map enc) [] ρ := by
  have ef : ∀ l : List α, l.filterMap (fun y => if p y = true then some (f y) else none) = (l.filter p).map f := fun l => by
    induction l with
    | nil => rfl
    | cons y l ih =>
      rw [List.filterMap_cons, List.filter_cons]
      cases q : p y with
      | true => simp only [if_true]; rw [List.map_cons, ih]
      | false => simp only [Bool.false_eq_true, if_false]; rw [ih]
  refine lcGo_pure (val := fun y => if p y = true then some (f y) else none) items [] (fun y hy k hk => ?_) (by rw [sl_line, List.length_nil]; omega) (by rw [List.nil_append, ef]; exact q)
  exact h y hy (fun v ρ' => k (some v) ρ') (fun ρ' => k none ρ') (fun e => by rw [if_pos e] at hk; exact hk) (fun e => by rw [if_neg (by rw [e]; exact Bool.false_ne_true)] at hk; exact hk)
/-- .. over range(n) -/
theorem lc_filtR {c : TT'} {e : TE'} {vs : List Nat} {Q : List D → Rho → Prop} {j : Int} (p : Nat → Bool) (f : Nat → D) (hj : j ≤ 1000000)
    (h : ∀ i : Nat, (i : Int) < j → ∀ (k1 : D → Rho → Prop) (k2 : Rho → Prop), (p i = true → k1 (f i) ρ) → (p i = false → k2 ρ) → g (.int (i : Int)) ρ fun ρ1 => c ρ1 fun b ρ2 => if b = true then e ρ2 fun x ρ3 => onD x fun v => k1 v (nos ρ3 vs) else k2 (nos ρ2 vs))
    (q : Q (((List.range j.toNat).filter p).map f) ρ) : lcGo g c e vs Q (rangeD 0 j) [] ρ := by
  have er : rangeD 0 j = (List.range j.toNat).map fun i : Nat => D.int (i : Int) := by
    unfold rangeD
    rw [Int.sub_zero]
    refine List.map_congr_left fun i _ => ?_
    rw [Int.zero_add]
  rw [er]
  exact lc_filt (List.range j.toNat) p f (by rw [List.length_range]; omega) (fun i hi => h i (by have := List.mem_range.mp hi; omega)) q
end
section
variable {k : D → Prop}
theorem eq_ints (a b : List Int) : eqD (.lst (a.map D.int)) (.lst (b.map D.int)) = some (.bl (decide (a = b))) ∧ neD (.lst (a.map D.int)) (.lst (b.map D.int)) = some (.bl (!decide (a = b))) := by
  have z := eqD_nice (nice_lst (l := a) (f := D.int) (g := PyData.int) fun x _ => nice_int x) (nice_lst (l := b) (f := D.int) (g := PyData.int) fun x _ => nice_int x) (by decide)
  rw [PyData.eqv, eqv_map eqv_int] at z
  exact z
theorem v_eqI0 {a : List Int} (h : k (.bl (decide (a = [])))) : ok (eqD (.lst (a.map D.int)) (.lst [])) k := by
  have e := (eq_ints a []).1
  rw [List.map_nil] at e
  rw [e]; exact h
theorem v_neI0 {a : List Int} (h : k (.bl (!decide (a = [])))) : ok (neD (.lst (a.map D.int)) (.lst [])) k := by
  have e := (eq_ints a []).2
  rw [List.map_nil] at e
  rw [e]; exact h
theorem v_eqM0 {α : Type} {l : List α} {f : α → Int} (h : k (.bl (decide (l.length = 0)))) : ok (eqD (.lst (l.map fun i => D.int (f i))) (.lst [])) k := by
  have e : (l.map fun i => D.int (f i)) = (l.map f).map D.int := by rw [List.map_map]; rfl
  rw [e]
  refine v_eqI0 ?_
  have e2 : decide (l.map f = []) = decide (l.length = 0) := by cases l <;> simp
  rw [e2]; exact h
theorem v_isB {i j : Bool} (h : k (.bl (decide (i = j)))) : ok (isB (.bl i) (.bl j)) k := h
theorem v_ix {ds : List D} {i : Nat} {d : D} (e : ds[i]? = some d) (h : k d) : ok (ixD (.lst ds) (.int (i : Int))) k := by
  have hl : i < ds.length := (List.getElem?_eq_some_iff.mp e).1
  have : ixD (.lst ds) (.int (i : Int)) = some d := by
    show atI ds (i : Int) = some d
    rw [atI_nat hl]; exact e
  rw [this]; exact h
theorem v_ixT {ds : List D} {i : Nat} {d : D} (e : ds[i]? = some d) (h : k d) : ok (ixD (.tup ds) (.int (i : Int))) k := by
  have hl : i < ds.length := (List.getElem?_eq_some_iff.mp e).1
  have : ixD (.tup ds) (.int (i : Int)) = some d := by
    show atI ds (i : Int) = some d
    rw [atI_nat hl]; exact e
  rw [this]; exact h
theorem v_ixM {α : Type} {enc : α → D} {ps : List α} {z : Int} (n : Nat) (hz : z = n) (hn : n < ps.length) (h : k (enc ps[n])) : ok (ixD (.tup (ps.map enc)) (.int z)) k := by
  subst hz
  exact v_ixT (by rw [List.getElem?_map, List.getElem?_eq_getElem hn]; rfl) h
theorem v_ixML {α : Type} {enc : α → D} {ps : List α} {z : Int} (n : Nat) (hz : z = n) (hn : n < ps.length) (h : k (enc ps[n])) : ok (ixD (.lst (ps.map enc)) (.int z)) k := by
  subst hz
  exact v_ix (by rw [List.getElem?_map, List.getElem?_eq_getElem hn]; rfl) h
theorem v_ix0 {a b : D} (h : k a) : ok (ixD (.tup [a, b]) (.int 0)) k := v_ixT (i := 0) rfl h
theorem v_ix1 {a b : D} (h : k b) : ok (ixD (.tup [a, b]) (.int 1)) k := v_ixT (i := 1) rfl h
theorem v_p0 {p : Int × Int} (h : k (.int p.1)) : ok (ixD (eP p) (.int 0)) k := v_ixT (i := 0) rfl h
theorem v_p1 {p : Int × Int} (h : k (.int p.2)) : ok (ixD (eP p) (.int 1)) k := v_ixT (i := 1) rfl h
theorem cut_from {α : Type} (l : List α) (n : Nat) : cutG l (some (n : Int)) none = l.drop n := by
  have e1 : HT.sIx l.length 0 (some (n : Int)) = min n l.length := by
    unfold HT.sIx
    have h0 : ¬ ((n : Int) < 0) := by omega
    simp only [h0, if_false]
    omega
  have e2 : HT.sIx l.length l.length none = l.length := rfl
  unfold cutG
  rw [e1, e2]
  by_cases c : n ≤ l.length
  · rw [Nat.min_eq_left c]
    exact List.take_of_length_le (by rw [List.length_drop]; omega)
  · rw [Nat.min_eq_right (by omega), Nat.sub_self, List.take_zero, List.drop_of_length_le (by omega)]
end
end DL
set_option Elab.async false
set_option linter.all false
set_option maxRecDepth 100000
set_option maxHeartbeats 4000000
/-! sorted of a tuple of pairs of ints -/
namespace SrtO
open PySem PyProof.Rows Srt
section
variable {prog : Program} {w : World} {A : Around} {E : Value → Shared → Prop} {s : Shared}
theorem collect_tuple {l : Addr} {vs : List Value} {Q : List Value → Shared → Prop} (hl : s.heap.IsTuple l vs.toArray)
    (h : Q vs { s with heap := (s.heap.push (seqObj "list" #[] 0)).update s.heap.objs.size (Obj.mapSeq (· ++ vs.toArray)) }) (hsz : vs.length ≤ sizeLine) :
    wpAny (model prog w) A (collect (.ref l)) Q E s := by
  obtain ⟨o, ho, hc, n, hd⟩ := id hl
  unfold collect
  refine wpAny_bind (wpAny_runValue (codeAny_builtin entry_proto_collect' ?_))
  show wpAny _ _ (do again (.builtin "list.__iadd__" ⟨[← newList [], .ref l], []⟩)) _ _ s
  refine wpAny_bind (wpAny_newList (wpAny_pure ⟨Code.quiet_builtin _ (by decide +kernel), codeAny_builtin entry_list_iadd' ?_⟩))
  show wpAny _ _ (Builtin.List.listExtendWith (.ref s.heap.objs.size) (.ref l) (.ref s.heap.objs.size)) _ _ { s with heap := s.heap.push (seqObj "list" #[] 0) }
  unfold Builtin.List.listExtendWith
  have ho' : (s.heap.push (seqObj "list" #[] 0)).get? l = some o := Heap.get?_push_of_some _ ho
  refine wpAny_bind (wpAny_typeOf (T := "tuple") ⟨o, ho', hc⟩ ?_)
  have ht : (Value.type "tuple" == Value.type "tuple") = true := by rfl
  rw [if_pos (by rw [ht]; simp)]
  refine wpAny_bind (listItems_at ho' hd ?_)
  refine wpAny_bind (listItems_at (xs := #[]) (n := 0) (Heap.get?_push_size _ rfl) rfl ?_)
  rw [if_neg (by simp)]
  refine wpAny_bind (listUpdate_at (xs := #[]) (n := 0) (Heap.get?_push_size _ rfl) rfl ?_ (Nat.zero_le _) (by show (#[] ++ vs.toArray).size ≤ sizeLine + 1; simp only [Array.size_append, List.size_toArray, List.length_nil]; omega))
  refine wpAny_pure ?_
  show wpAny (model prog w) A (do
      let o ← load s.heap.objs.size
      match o.data with
      | .seq xs _ => pure xs.toList
      | _ => unsupported "internal:collect") Q E { s with heap := (s.heap.push (seqObj "list" #[] 0)).update s.heap.objs.size (Obj.mapSeq (· ++ vs.toArray)) }
  refine wpAny_bind (wpAny_load (get?_update_seq (Heap.get?_push_size _ rfl) _) ?_)
  show wpAny _ _ (pure ((#[] : Array Value) ++ vs.toArray).toList) Q E _
  rw [show ((#[] : Array Value) ++ vs.toArray).toList = vs by simp]
  exact wpAny_pure h
theorem sorted_ordT {l : Addr} {vs : List Value} {ltv : Value → Value → Bool} {Q : Value → Shared → Prop} (O : Swo ltv) (hl : s.heap.IsTuple l vs.toArray) (hz : vs.length ≤ sizeLine)
    (hS : 2 ≤ vs.length → ∀ (h₁ : Heap) (a : Addr), h₁.get? a = some (seqObj "list" vs.toArray 0) → (∀ b o, s.heap.get? b = some o → b ≠ a ∧ h₁.get? b = some o) → SortableO prog w A.in1.in1 { s with heap := h₁ } a vs ltv)
    (h : ∀ out : List Value, Srtd ltv out → Stb ltv out vs → Q (.ref (s.heap.objs.size + 1)) { s with heap := sortedAll s.heap vs out.toArray }) :
    wpAny (model prog w) A (call (.builtin "sorted") [.ref l]) Q E s := by
  refine Calls.call_function_entry kind_sorted plain_sorted entry_sorted (args_sorted1 _) ?_
  unfold Builtin.«sorted»
  refine wpAny_bind (m := checkCount "sorted" 1 1 _) (wpAny_pure ?_)
  refine wpAny_bind (collect_tuple hl ?_ hz)
  refine wpAny_bind (wpAny_newList ?_ hz)
  have hsz : ((s.heap.push (seqObj "list" #[] 0)).update s.heap.objs.size (Obj.mapSeq (· ++ vs.toArray))).objs.size = s.heap.objs.size + 1 := by
    rw [Heap.size_update, size_push']
  have hoL : (((s.heap.push (seqObj "list" #[] 0)).update s.heap.objs.size (Obj.mapSeq (· ++ vs.toArray))).push (seqObj "list" vs.toArray 0)).get? (s.heap.objs.size + 1) = some (seqObj "list" vs.toArray 0) := by
    rw [← hsz]; exact Heap.get?_push_size _ rfl
  have keep : ∀ b o, s.heap.get? b = some o → b ≠ s.heap.objs.size + 1 ∧ (((s.heap.push (seqObj "list" #[] 0)).update s.heap.objs.size (Obj.mapSeq (· ++ vs.toArray))).push (seqObj "list" vs.toArray 0)).get? b = some o := fun b o q => by
    have hlt : b < s.heap.objs.size := Heap.lt_size q
    refine ⟨Nat.ne_of_lt (Nat.lt_succ_of_lt hlt), Heap.get?_push_of_some _ ?_⟩
    rw [Heap.get?_update_ne _ _ _ _ (Nat.ne_of_lt hlt)]
    exact Heap.get?_push_of_some _ q
  show wpAny _ _ _ _ _ { s with heap := ((s.heap.push (seqObj "list" #[] 0)).update s.heap.objs.size (Obj.mapSeq (· ++ vs.toArray))).push (seqObj "list" vs.toArray 0) }
  rw [hsz]
  refine wpAny_bind (wpAny_holding (wpAny_call_entry slot_list_sort ⟨_, hoL, rfl⟩ entry_list_sort (list_sort_ord O hoL hz (fun h2 => hS h2 _ _ hoL keep) fun out hs hb => ⟨_, rfl, ?_⟩) (args_list_sort _)))
  exact wpAny_pure ⟨_, rfl, h out hs hb⟩
theorem sorted_pairsOT {l : Addr} {vs : List Value} {k : Value → Int × Int} {Q : Value → Shared → Prop} (hl : s.heap.IsTuple l vs.toArray) (hz : vs.length ≤ sizeLine) (hp : ∀ v ∈ vs, IsPair s.heap v (k v).1 (k v).2)
    (h : ∀ (h' : Heap) (d : Addr) (out : List Value), Srtd (fun v u => lexB (k v) (k u)) out → Stb (fun v u => lexB (k v) (k u)) out vs → (∀ b o, s.heap.get? b = some o → h'.get? b = some o) → s.heap.objs.size ≤ d → (∃ n, h'.get? d = some (seqObj "list" out.toArray n)) → Q (.ref d) { s with heap := h' }) :
    wpAny (model prog w) A (call (.builtin "sorted") [.ref l]) Q E s := by
  refine sorted_ordT (swo_lex k) hl hz (fun h2 h₁ a ha kk => ?_) fun out hs hb => ?_
  · refine pairs_sortableO (s := { s with heap := h₁ }) (by omega) (fun v hm => (hp v hm).keeps fun b o e _ => (kk b o e).2) fun o e => ?_
    have e' : some o = some (seqObj "list" vs.toArray 0) := e.symm.trans ha
    cases e'
    intro c
    exact absurd (Value.type.inj c) (by decide)
  · exact h _ _ out hs hb (fun b o e => sortedAll_old e) (Nat.le_succ _) (sortedAll_at s.heap vs out.toArray)
end
end SrtO
namespace L2
open PySem PySem.Spec PyProof.Rows
def rSortedPOT (K : PySem.W.Frag) : List V → Hp → VK → Prop := fun vs H Q => ∃ (a : Addr) (xs : List V) (k : V → Int × Int), vs = [V.ref a] ∧ SqT K H a xs ∧ (∀ x ∈ xs, ∃ t, x = V.ref t ∧ H t = some (.tup [.int (k x).1, .int (k x).2])) ∧
  ∀ ys p, SrtO.Srtd (ltP k) ys → SrtO.Stb (ltP k) ys xs → H p = none → Q (.ref p) (upd H p (.lst ys))
section
variable {X : Cx}
theorem cr_sortedPOT : CallR X (.builtin "sorted") (rSortedPOT X.K) := by
  intro pins s σ H vs us Q I r h
  obtain ⟨a, xs, k, rfl, hs, hx, q⟩ := h
  obtain ⟨its, rv, hl, hz⟩ := I.tuple hs
  obtain ⟨u, rfl, ru⟩ := vals1 r
  obtain rfl : u = Value.ref a := ru
  obtain ⟨e1, e2⟩ := refs_back rv fun x m => by
    obtain ⟨t, e, _⟩ := hx x m
    exact ⟨t, e⟩
  have hl' : s.heap.IsTuple a its.toArray := by
    obtain ⟨o, e, c, n, d⟩ := hl
    exact ⟨o, e, c, n, d⟩
  refine SrtO.sorted_pairsOT (k := fun u => k (backV u)) hl' (by rw [← rv.length]; exact hz) (fun v hv => ?_) fun h' d out h1 h2 kp hd hn => ?_
  · obtain ⟨t, rfl⟩ := e2 v hv
    have hm : V.ref t ∈ xs := by rw [e1]; exact List.mem_map.mpr ⟨_, hv, rfl⟩
    obtain ⟨t', e, ht⟩ := hx _ hm
    cases e
    obtain ⟨_, its2, r2, o, ho, hc, n, hd⟩ := I.hok _ _ ht
    obtain ⟨u1, u2, rfl, ri, rj⟩ := vals2 r2
    obtain ⟨t1, rfl⟩ := ri
    obtain ⟨t2, rfl⟩ := rj
    exact ⟨t, o, t1, t2, n, rfl, ho, hc, hd⟩
  · have h3 : ∀ u ∈ out, ∃ a, u = Value.ref a := fun u hu => e2 u (h2.perm.mem_iff.mp hu)
    obtain ⟨n, hn⟩ := hn
    have hb : SrtO.Stb (ltP k) (out.map backV) xs := by
      rw [e1]
      exact SrtO.Stb.map (ltP_swo k) backV h2
    refine ⟨.ref d, upd H d (.lst (out.map backV)), I.laid (t' := s.toks) kp hd ⟨?_, out, n, vals_back h3, hn⟩, rfl, q _ d (SrtO.srtd_map h1) hb (I.hok.fresh hd)⟩
    rw [hb.len]
    exact hz
end
end L2
namespace DL
open PySem PySem.Spec PyProof.Rows L2
def srtPT (t : TA') : TF' := fun ρ Q => t ρ fun xs ρ1 => ok (rss ρ1 xs) fun ds => match ds with
  | [.tup es] => ok (toPs es) fun ps => ∀ ps' : List (Int × Int), ps'.Perm ps → ps'.Pairwise leP → Q (ps'.map eP) ρ1
  | _ => False
variable {X : Cx} {G : Gm} {B : Bs}
theorem pf_sortedPT {x : Str} {e : Expr} {t : TA'} {p pos : Pos} (hx : x = "sorted") (hm : X.mg x = none) (hv : bootBuiltins x = some (.builtin "sorted")) (ha : PDA X G B [e] t)
    (hg : Gl X x := by rfl) (hn : x ≠ "__name__" := by decide) (hdb : (x == ("__debug__" : Str)) = false := by decide) (he : starEach [e] X.env = (false, eval e X.env) :: starEach [] X.env := by rfl) (hpl : (backTo pos (starEach [] X.env)).any (·.1) = false := by rfl) : PF X G B (.Call (.Name x p) [e] [] pos) (srtPT t) := by
  refine pe_imp (pe_callB cr_sortedPOT hg hm hv ha hn hdb he hpl) fun σ H Q ⟨F, ρ, P, S, h, k⟩ => ?_
  refine ⟨F, ρ, _, S, h, fun xs ρ1 h1 vs H1 F1 S1 r1 e1 => ?_⟩
  obtain ⟨ds, ed, h1⟩ := h1.ex
  have tp := r1.tops S1 ed
  match ds, tp, h1 with
  | [.tup es], tp, h1 =>
    obtain ⟨ps, ep, h2⟩ := h1.ex
    obtain ⟨v, rfl, t1⟩ := tp.one
    obtain ⟨l, us, rfl, r, w⟩ := t1.tup
    have e2 := toPs_eq ep
    subst e2
    obtain ⟨e3, hk⟩ := rep_pairs w
    refine ⟨l, us, kOf H1, rfl, SqT.of r, fun y hy => (hk y hy).1, fun ys q hs hst hq => ?_⟩
    have pm : (ys.map (kOf H1)).Perm ps := by
      rw [e3]
      exact hst.perm.map _
    have pw : (ys.map (kOf H1)).Pairwise leP := by
      rw [List.pairwise_map]
      refine List.Pairwise.imp (fun {a b} hab => ?_) hs
      have z := SrtO.lexB_no.mp hab
      unfold leP
      omega
    exact S1.laid e1 (k _ _ (h2 _ pm pw)) q ys hq (repA_of fun y hy => (hk y (hst.perm.mem_iff.mp hy)).2)
end DL
set_option Elab.async false
set_option linter.all false
set_option autoImplicit false
set_option maxRecDepth 100000
set_option maxHeartbeats 1000000
/-! Sorted, reversed, repeated, mixed; a policy's places. -/
namespace DL
open PySem PySem.Spec PyProof.Rows L2 CV
/-! wrappers for the derivations -/
theorem pf_srtPT {X : Cx} {G : Gm} {B : Bs} {e : Expr} {t : TA'} {p pos : Pos} (b : Bi X.mg) (ha : PDA X G B [e] t) (hg : Gl X "sorted" := by rfl) (he : starEach [e] X.env = (false, eval e X.env) :: starEach [] X.env := by rfl) (hpl : (backTo pos (starEach [] X.env)).any (·.1) = false := by rfl) : PF X G B (.Call (.Name "sorted" p) [e] [] pos) (srtPT t) := pf_sortedPT rfl b.sorted PyProof.Rows.boot_sorted ha hg (by decide) (by decide) he hpl
/-! the calculus -/
section
variable {ρ : Rho} {Q : Xv → Rho → Prop} {QF : List D → Rho → Prop} {k : D → Prop} {kf : List D → Prop}
def srtKT (Q : List D → Rho → Prop) (ρ : Rho) : List D → Prop := fun ds => match ds with
  | [.tup es] => ok (toPs es) fun ps => ∀ ps' : List (Int × Int), ps'.Perm ps → ps'.Pairwise leP → Q (ps'.map eP) ρ
  | _ => False
theorem x_srtPT {t : TA'} (h : t ρ fun xs ρ1 => onR ρ1 xs (srtKT QF ρ1)) : srtPT t ρ QF := h
theorem a_srtT {ps : List (Int × Int)} (q : ∀ ps' : List (Int × Int), ps'.Perm ps → ps'.Pairwise leP → QF (ps'.map eP) ρ) : srtKT QF ρ [.tup (ps.map eP)] := by
  show ok (toPs (ps.map eP)) _
  rw [toPs_map]
  exact q
def revK (Q : Xv → Rho → Prop) (ρ : Rho) : D → Prop := fun a => match a with
  | .lst ds => Q (.d (.lst ds.reverse)) ρ
  | .tup ds => Q (.d (.tup ds.reverse)) ρ
  | _ => False
theorem x_revv {t : TE'} (h : t ρ fun x ρ1 => ok (rs ρ1 x) (revK Q ρ1)) : rev t ρ Q := h
theorem v_revL {ds : List D} (h : Q (.d (.lst ds.reverse)) ρ) : revK Q ρ (.lst ds) := h
theorem v_revT {ds : List D} (h : Q (.d (.tup ds.reverse)) ρ) : revK Q ρ (.tup ds) := h
theorem v_repL {ds : List D} {j : Int} (h1 : 0 ≤ j ∧ j ≤ 1000 ∧ ds.length ≤ 1000) (h : kf (List.replicate j.toNat ds).flatten) : ok (repL (.lst ds) (.int j)) kf := by
  have e : repL (.lst ds) (.int j) = some (List.replicate j.toNat ds).flatten := if_pos h1
  rw [e]
  exact h
def isBl (o : Option D) (c : Bool) : Bool := match o with
  | some (.bl b) => b == c
  | _ => false
theorem isBl_ok {o : Option D} {c : Bool} (h : isBl o c = true) : o = some (.bl c) := by
  unfold isBl at h
  split at h
  · rw [beq_iff_eq.mp h]
  · cases h
theorem v_eqC {a b : D} (c : Bool) (e : isBl (eqD a b) c = true) (h : k (.bl c)) : ok (eqD a b) k := by
  rw [isBl_ok e]
  exact h
theorem v_neC {a b : D} (c : Bool) (e : isBl (neD a b) c = true) (h : k (.bl c)) : ok (neD a b) k := by
  rw [isBl_ok e]
  exact h
end
/-! a random order of pairs -/
def kD : D → Int × Int
  | .tup [.int i, .int j] => (i, j)
  | _ => (0, 0)
theorem kD_map (qs : List (Int × Int)) : (qs.map eP).map kD = qs := by
  induction qs with
  | nil => rfl
  | cons p qs ih => rw [List.map_cons, List.map_cons, ih]; rfl
theorem of_kD : ∀ (es : List D) (ps : List (Int × Int)), (∀ e ∈ es, e ∈ ps.map eP) → es = (es.map kD).map eP
  | [], _, _ => rfl
  | e :: es, ps, h => by
    rw [List.map_cons, List.map_cons, ← of_kD es ps fun e he => h e (List.mem_cons_of_mem _ he)]
    obtain ⟨p, _, hp⟩ := List.mem_map.mp (h e List.mem_cons_self)
    rw [← hp]
    rfl
theorem perm_pairs {es : List D} {ps : List (Int × Int)} (h : es.Perm (ps.map eP)) : ∃ qs : List (Int × Int), es = qs.map eP ∧ qs.Perm ps := by
  refine ⟨es.map kD, of_kD es ps fun e he => h.mem_iff.mp he, ?_⟩
  have z := h.map kD
  rw [kD_map] at z
  exact z
theorem enil_pairs (ps : List (Int × Int)) : EqNil (ps.map eP) := fun fs hf => by
  rw [of_kD fs ps hf]
  generalize fs.map kD = qs
  have z := (eqD_nice (nice_lst (l := qs) (f := eP) (g := pyP) fun x _ => nice_pair x) (nice_lst (l := []) (f := eP) (g := pyP) fun x _ => nice_pair x) (by decide)).2
  rw [PyData.eqv, eqv_map eqv_pair] at z
  rw [List.length_map]
  have e : decide (qs = []) = decide (qs.length = 0) := by
    cases qs <;> simp
  rw [e] at z
  exact z
section
variable {ρ : Rho} {Q : Xv → Rho → Prop} {i : Nat} {tg : Bool} {ds : List D} {k : Nat}
theorem a_mixed {ps : List (Int × Int)} (e : ρ[i]? = some (.own tg ds)) (f : Fu (k + 100) ds) (hl : ps.length ≤ 100) (q : ∀ (qs : List (Int × Int)) ds', qs.Perm ps → Fu k ds' → Q (.d (.tup (qs.map eP))) (ρ.set i (.own tg ds'))) : onA S__law_mixed ρ [.o i, .d (.tup (ps.map eP))] Q :=
  xO2 e fun K kk => by
    obtain ⟨n, a, b⟩ := f
    refine ⟨n, ds, ps.map eP, _, rfl, .inr rfl, enil_pairs ps, a, by omega, by rw [List.length_map]; omega, fun es' ds' pm q3 => ?_⟩
    obtain ⟨qs, e, pm2⟩ := perm_pairs pm
    rw [e]
    exact kk _ _ (q qs ds' pm2 ⟨_, q3, by rw [List.length_map]; omega⟩)
end
/-! a policy's places -/
theorem mv_right {f : Int × Int} (hf : okPol f) : ∀ (cs as bs : List (Int × Int)) (x : Int), (∀ c ∈ cs, okPol c ∧ f.1 ≤ c.1) → restP (as ++ (cs ++ f :: bs)) x ≤ restP (as ++ f :: (cs ++ bs)) x
  | [], _, _, _, _ => Int.le_refl _
  | c :: cs, as, bs, x, h => by
    have h0 := h c List.mem_cons_self
    have a1 := mv_right hf cs (as ++ [c]) bs x fun d hd => h d (List.mem_cons_of_mem _ hd)
    have a2 := rest_swapP h0.1 hf h0.2 as (cs ++ bs) x
    have e1 : as ++ [c] ++ (cs ++ f :: bs) = as ++ (c :: cs ++ f :: bs) := by simp
    have e2 : as ++ [c] ++ f :: (cs ++ bs) = as ++ c :: f :: (cs ++ bs) := by simp
    rw [e1, e2] at a1
    exact Int.le_trans a1 a2
theorem mv_left {f : Int × Int} (hf : okPol f) : ∀ (cs as bs : List (Int × Int)) (x : Int), (∀ c ∈ cs, okPol c ∧ c.1 ≤ f.1) → restP (as ++ f :: (cs ++ bs)) x ≤ restP (as ++ (cs ++ f :: bs)) x
  | [], _, _, _, _ => Int.le_refl _
  | c :: cs, as, bs, x, h => by
    have h0 := h c List.mem_cons_self
    have a1 := mv_left hf cs (as ++ [c]) bs x fun d hd => h d (List.mem_cons_of_mem _ hd)
    have a2 := rest_swapP hf h0.1 h0.2 as (cs ++ bs) x
    have e1 : as ++ [c] ++ (cs ++ f :: bs) = as ++ (c :: cs ++ f :: bs) := by simp
    have e2 : as ++ [c] ++ f :: (cs ++ bs) = as ++ c :: f :: (cs ++ bs) := by simp
    rw [e1, e2] at a1
    exact Int.le_trans a2 a1
/-- the place behind all that begin no earlier is the best one, in a falling order -/
theorem best_place {f : Int × Int} (hf : okPol f) {l hi lo' : List (Int × Int)} (el : l = hi ++ lo') (h1 : ∀ c ∈ hi, okPol c ∧ f.1 ≤ c.1) (h2 : ∀ c ∈ lo', okPol c ∧ c.1 ≤ f.1) (i : Nat) (x : Int) : restP (hi ++ f :: lo') x ≤ restP (l.take i ++ f :: l.drop i) x := by
  by_cases c : i ≤ hi.length
  · have e1 : l.take i = hi.take i := by rw [el, List.take_append_of_le_length c]
    have e2 : l.drop i = hi.drop i ++ lo' := by rw [el, List.drop_append_of_le_length c]
    rw [e1, e2]
    have z := mv_right hf (hi.drop i) (hi.take i) lo' x fun c hc => h1 c (List.mem_of_mem_drop hc)
    rw [← List.append_assoc, List.take_append_drop] at z
    exact z
  · have e1 : l.take i = hi ++ lo'.take (i - hi.length) := by rw [el, List.take_append, List.take_of_length_le (by omega)]
    have e2 : l.drop i = lo'.drop (i - hi.length) := by rw [el, List.drop_append, List.drop_eq_nil_of_le (by omega), List.nil_append]
    rw [e1, e2, List.append_assoc]
    have z := mv_left hf (lo'.take (i - hi.length)) hi (lo'.drop (i - hi.length)) x fun c hc => h2 c (List.mem_of_mem_take hc)
    rw [List.take_append_drop] at z
    exact z
theorem falling_split {f : Int} : ∀ {l : List (Int × Int)}, l.Pairwise (fun p q : Int × Int => q.1 ≤ p.1) → l = l.filter (fun p => decide (f ≤ p.1)) ++ l.filter (fun p => !decide (f ≤ p.1))
  | [], _ => rfl
  | p :: l, h => by
    obtain ⟨h1, h2⟩ := List.pairwise_cons.mp h
    by_cases c : f ≤ p.1
    · rw [List.filter_cons_of_pos (by simpa using c), List.filter_cons_of_neg (by simpa using c), List.cons_append, ← falling_split h2]
    · have e1 : (p :: l).filter (fun p => decide (f ≤ p.1)) = [] := List.filter_eq_nil_iff.mpr fun q hq => by
        rw [decide_eq_true_eq]
        rcases List.mem_cons.mp hq with e | hq
        · rw [e]; exact c
        · have := h1 q hq
          omega
      have e2 : (p :: l).filter (fun p => !decide (f ≤ p.1)) = p :: l := List.filter_eq_self.mpr fun q hq => by
        rcases List.mem_cons.mp hq with e | hq
        · rw [e]; simp; omega
        · have := h1 q hq
          simp; omega
      rw [e1, e2, List.nil_append]
end DL
set_option Elab.async false
set_option linter.all false
set_option maxRecDepth 100000
set_option maxHeartbeats 4000000
/-! list(range(n)); a class's constant -/
namespace DL
open PySem PySem.Spec PyProof.Rows L2
section
variable {X : Cx} {G : Gm} {B : Bs}
def lrg (t : TE') : TF' := fun ρ Q => t ρ fun x ρ1 => match x with
  | .d (.int j) => if 0 ≤ j ∧ j ≤ 1000000 then Q (rangeD 0 j) ρ1 else False
  | _ => False
theorem rg_eq (j : Int) : rgV 0 j = ((List.range j.toNat).map fun i : Nat => (i : Int)).map V.int := by
  unfold rgV
  rw [List.map_map, Int.sub_zero]
  refine List.map_congr_left fun i _ => ?_
  show V.int (0 + (i : Int)) = V.int (i : Int)
  rw [Int.zero_add]
theorem rgD_eq (j : Int) : rangeD 0 j = ((List.range j.toNat).map fun i : Nat => (i : Int)).map D.int := by
  unfold rangeD
  rw [List.map_map, Int.sub_zero]
  refine List.map_congr_left fun i _ => ?_
  show D.int (0 + (i : Int)) = D.int (i : Int)
  rw [Int.zero_add]
theorem pf_lrg {a : Expr} {t : TE'} {p q pos pos2 : Pos} (hc : X.calm = true) (hm : X.mg "range" = none) (hm2 : X.mg "list" = none) (ha : PD X G B a t) (hg : Gl X "range" := by rfl) (hg2 : Gl X "list" := by rfl)
    (na : starEach [a] X.env = (false, eval a X.env) :: starEach [] X.env := by rfl)
    (na2 : starEach [.Call (.Name "range" p) [a] [] pos] X.env = (false, eval (.Call (.Name "range" p) [a] [] pos) X.env) :: starEach [] X.env := by rfl) : PF X G B (.Call (.Name "list" q) [.Call (.Name "range" p) [a] [] pos] [] pos2) (lrg t) := by
  refine pe_imp (pe_listRg hc hg2 hm2 (prg_1 hg hm ha na) na2) fun σ H Q ⟨F, ρ, P, S, h, k⟩ => ?_
  refine ⟨F, ρ, _, S, h, fun x ρ1 h1 v H1 F1 S1 r1 e1 => ?_⟩
  cases x with
  | o j => exact h1.elim
  | d d =>
    cases d with
    | int j =>
      obtain ⟨⟨q1, q2⟩, h1⟩ := ite_ex h1
      cases r1
      refine ⟨j, rfl, RgOk.of_le (by omega) (by omega) (by omega) (by omega), fun q hq => ?_⟩
      rw [rg_eq]
      rw [rgD_eq] at h1
      exact S1.laid e1 (k _ _ h1) q _ hq (RepA.ofInts _)
    | _ => exact h1.elim
def cvB (K : PySem.W.Frag) (C : Addr) (f : Str) (n : Int) : Bool := PySem.W.readsIn K C (.type "type") && (He.eqO (PySem.W.specialIn K (.ref C) "__getattribute__") (some (some (.builtin "type.__getattribute__"))) && (match PySem.W.findCls K (.ref C) (.type "type") f with
  | some (.val (.int j _)) => decide (j = n)
  | _ => false))
def CvI (K : PySem.W.Frag) (C : Addr) (f : Str) (n : Int) : Prop := ClX.CRead K C (.type "type") ∧ ∃ u, ClX.CVal K C (.type "type") f (.int n) u
theorem cvB_ok {K : PySem.W.Frag} {C : Addr} {f : Str} {n : Int} (h : cvB K C f n = true) : CvI K C f n := by
  obtain ⟨h1, h⟩ := Bool.and_eq_true_iff.mp h
  obtain ⟨h2, h3⟩ := Bool.and_eq_true_iff.mp h
  refine ⟨⟨h1, He.eqO_ok h2⟩, ?_⟩
  split at h3
  · rename_i j t e
    have ej := of_decide_eq_true h3
    subst ej
    exact ⟨_, e, t, rfl⟩
  · cases h3
theorem pd_cval {x f : Str} {C : Addr} {n : Int} {p pos : Pos} (hm : X.mg x = some (.ref C)) (hK : CvI X.K C f n) (hg : Gl X x := by rfl) (hd : (x == ("__debug__" : Str)) = false := by decide) (hab : attributeBase (.Name x p) f X.env (eval (.Name x p) X.env) = eval (.Name x p) X.env := by rfl) : PD X G B (.Attribute (.Name x p) f pos) (cC (.int n)) := by
  obtain ⟨hr, u, hv⟩ := hK
  refine pe_imp (ClX.pe_cval (pe_glob (v := .ref C) hg hm rfl hd) hab) fun σ H Q h => ?_
  exact ⟨C, _, _, _, rfl, hr, hv, liE_c (fun _ _ => .int n) _ _ _ h⟩
end
end DL
set_option Elab.async false
set_option linter.all false
set_option autoImplicit false
set_option maxRecDepth 100000
set_option maxHeartbeats 1000000
/-! list(range), chained comparisons, orders of policies. -/
namespace DL
open PySem PySem.Spec PyProof.Rows L2 CV
section
variable {ρ : Rho} {Q : Xv → Rho → Prop} {QF : List D → Rho → Prop} {k : D → Prop}
theorem x_lrg {t : TE'} (h : t ρ fun x ρ1 => onI x fun j => if 0 ≤ j ∧ j ≤ 1000000 then QF (rangeD 0 j) ρ1 else False) : lrg t ρ QF := by
  unfold lrg
  exact h
theorem x_chn {f g : D → D → Option D} {ta tb tc : TE'} (h : ta ρ fun x ρ1 => tb ρ1 fun y ρ2 => ok (rs ρ2 x) fun a => ok (rs ρ2 y) fun b => ok (f a b) fun z => onB (.d z) fun c => if c = true then tc ρ2 fun w ρ3 => ok (rs ρ3 y) fun b => ok (rs ρ3 w) fun c => ok (g b c) fun d => Q (.d d) ρ3 else Q (.d (.bl false)) ρ2) : chn f g ta tb tc ρ Q := by
  have e : chn f g ta tb tc ρ Q = (ta ρ fun x ρ1 => tb ρ1 fun y ρ2 => ok (rs ρ2 x) fun a => ok (rs ρ2 y) fun b => ok (f a b) fun z => onB (.d z) fun c => if c = true then tc ρ2 fun w ρ3 => ok (rs ρ3 y) fun b => ok (rs ρ3 w) fun c => ok (g b c) fun d => Q (.d d) ρ3 else Q (.d (.bl false)) ρ2) := by
    unfold chn
    congr 1
    funext x ρ1
    congr 1
    funext y ρ2
    congr 1
    funext a
    congr 1
    funext b
    congr 1
    funext z
    cases z with
    | bl c => cases c <;> rfl
    | _ => rfl
  rw [e]
  exact h
theorem nice_bl (b : Bool) : Nice 0 (.bl b) (.bool b) := ⟨by rw [toPy], by simp [PyData.canLay0], by simp [PyData.depth]⟩
theorem eqv_bl (a b : Bool) : PyData.eqv (.bool a) (.bool b) = decide (a = b) := by
  cases a <;> cases b <;> decide +kernel
theorem v_eqB {i j : Bool} (h : k (.bl (decide (i = j)))) : ok (eqD (.bl i) (.bl j)) k := by
  rw [(eqD_nice (nice_bl i) (nice_bl j) (by decide)).1, eqv_bl]
  exact h
theorem v_neB {i j : Bool} (h : k (.bl (!decide (i = j)))) : ok (neD (.bl i) (.bl j)) k := by
  rw [(eqD_nice (nice_bl i) (nice_bl j) (by decide)).2, eqv_bl]
  exact h
theorem eq_pairs (a b : List (Int × Int)) : eqD (.lst (a.map eP)) (.lst (b.map eP)) = some (.bl (decide (a = b))) ∧ neD (.lst (a.map eP)) (.lst (b.map eP)) = some (.bl (!decide (a = b))) := by
  have z := eqD_nice (nice_lst (l := a) (f := eP) (g := pyP) fun x _ => nice_pair x) (nice_lst (l := b) (f := eP) (g := pyP) fun x _ => nice_pair x) (by decide)
  rw [PyData.eqv, eqv_map eqv_pair] at z
  exact z
theorem v_eqP {a b : List (Int × Int)} (h : k (.bl (decide (a = b)))) : ok (eqD (.lst (a.map eP)) (.lst (b.map eP))) k := by rw [(eq_pairs a b).1]; exact h
theorem v_neP {a b : List (Int × Int)} (h : k (.bl (!decide (a = b)))) : ok (neD (.lst (a.map eP)) (.lst (b.map eP))) k := by rw [(eq_pairs a b).2]; exact h
theorem k_mkPP {K : D → Prop} {p q : Int × Int} (h : okPol p) (h2 : okPol q) (c : K (spD (made [p, q]))) : S_CoverX_initX [eP p, eP q] K := k_mk2 (a := p.1) (b := p.2) (c := q.1) (d := q.2) h h2 c
theorem v_all {bs : List Bool} (h : k (.bl (bs.all id))) : ok (allD [.lst (bs.map D.bl)]) k := by
  have e : allD [.lst (bs.map D.bl)] = some (.bl (bs.all id)) := by
    show (toBls (bs.map D.bl)).map (fun bs => D.bl (bs.all id)) = _
    rw [toBls_map]
    rfl
  rw [e]
  exact h
end
/-! sorted -/
def leB (p q : Int × Int) : Bool := decide (p.1 < q.1) || (decide (p.1 = q.1) && decide (p.2 ≤ q.2))
theorem leB_iff {p q : Int × Int} : leB p q = true ↔ leP p q := by
  unfold leB leP
  simp
def insL (p : Int × Int) : List (Int × Int) → List (Int × Int)
  | [] => [p]
  | q :: l => if leB p q = true then p :: q :: l else q :: insL p l
def srtL : List (Int × Int) → List (Int × Int)
  | [] => []
  | p :: l => insL p (srtL l)
theorem insL_perm (p : Int × Int) : ∀ l, (insL p l).Perm (p :: l)
  | [] => .refl _
  | q :: l => by
    unfold insL
    split
    · exact .refl _
    · exact ((insL_perm p l).cons q).trans (List.Perm.swap p q l)
theorem srtL_perm : ∀ l, (srtL l).Perm l
  | [] => .refl _
  | p :: l => (insL_perm p (srtL l)).trans ((srtL_perm l).cons p)
theorem leP_trans {p q r : Int × Int} (h : leP p q) (h2 : leP q r) : leP p r := by unfold leP at *; omega
theorem leP_tot (p q : Int × Int) : leP p q ∨ leP q p := by unfold leP; omega
theorem leP_anti {p q : Int × Int} (h : leP p q) (h2 : leP q p) : p = q := by
  unfold leP at *
  exact Prod.ext (by omega) (by omega)
theorem insL_sorted (p : Int × Int) : ∀ l, l.Pairwise leP → (insL p l).Pairwise leP
  | [], _ => List.pairwise_singleton _ _
  | q :: l, h => by
    obtain ⟨h1, h2⟩ := List.pairwise_cons.mp h
    unfold insL
    split
    · rename_i c
      have c' := leB_iff.mp c
      refine List.pairwise_cons.mpr ⟨fun r hr => ?_, h⟩
      rcases List.mem_cons.mp hr with e | hr
      · rw [e]; exact c'
      · exact leP_trans c' (h1 r hr)
    · rename_i c
      have c' : leP q p := (leP_tot q p).resolve_right fun w => c (leB_iff.mpr w)
      refine List.pairwise_cons.mpr ⟨fun r hr => ?_, insL_sorted p l h2⟩
      rcases List.mem_cons.mp ((insL_perm p l).mem_iff.mp hr) with e | hr
      · rw [e]; exact c'
      · exact h1 r hr
theorem srtL_sorted : ∀ l, (srtL l).Pairwise leP
  | [] => .nil
  | p :: l => insL_sorted p _ (srtL_sorted l)
theorem srt_uniq : ∀ {l m : List (Int × Int)}, l.Perm m → l.Pairwise leP → m.Pairwise leP → l = m
  | [], m, h, _, _ => (List.Perm.eq_nil h.symm).symm
  | x :: l, [], h, _, _ => absurd h.length_eq (by simp)
  | x :: l, y :: m, h, hl, hm => by
    obtain ⟨l1, l2⟩ := List.pairwise_cons.mp hl
    obtain ⟨m1, m2⟩ := List.pairwise_cons.mp hm
    have hxy : leP x y := by
      rcases List.mem_cons.mp (h.mem_iff.mpr (List.mem_cons_self (a := y) (l := m))) with e | hy
      · rw [e]; exact (leP_tot x x).elim id id
      · exact l1 y hy
    have hyx : leP y x := by
      rcases List.mem_cons.mp (h.mem_iff.mp (List.mem_cons_self (a := x) (l := l))) with e | hx
      · rw [e]; exact (leP_tot y y).elim id id
      · exact m1 x hx
    have e := leP_anti hxy hyx
    subst e
    rw [srt_uniq h.cons_inv l2 m2]
theorem srtL_eq {l m : List (Int × Int)} (h : l.Perm m) : srtL l = srtL m := srt_uniq ((srtL_perm l).trans (h.trans (srtL_perm m).symm)) (srtL_sorted l) (srtL_sorted m)
theorem a_srtL {ρ : Rho} {QF : List D → Rho → Prop} {ps : List (Int × Int)} (q : QF ((srtL ps).map eP) ρ) : srtKT QF ρ [.tup (ps.map eP)] := a_srtT fun ps' pm pw => by
  rw [srt_uniq (pm.trans (srtL_perm ps).symm) pw (srtL_sorted ps)]
  exact q
/-! the best and the worst order -/
theorem best_le : ∀ (n : Nat) (l row : List (Int × Int)) (x : Int), row.length = n → row.Perm l → (∀ p ∈ l, okPol p) → l.Pairwise (fun p q : Int × Int => q.1 ≤ p.1) → restP l x ≤ restP row x
  | 0, l, row, x, hn, pm, _, _ => by
    have e := List.length_eq_zero_iff.mp hn
    subst e
    rw [List.Perm.eq_nil pm.symm]
    exact Int.le_refl _
  | n + 1, l, [], x, hn, _, _, _ => by simp at hn
  | n + 1, l, p :: r, x, hn, pm, ok, pw => by
    obtain ⟨hi, lw, e⟩ := List.append_of_mem (pm.mem_iff.mp (List.mem_cons_self (a := p) (l := r)))
    subst e
    have pm2 : r.Perm (hi ++ lw) := (pm.trans List.perm_middle).cons_inv
    obtain ⟨w1, w2, w3⟩ := List.pairwise_append.mp pw
    obtain ⟨w4, w5⟩ := List.pairwise_cons.mp w2
    have a1 := best_le n (hi ++ lw) r (rest1 p x) (by simpa using hn) pm2 (fun q hq => ok q (by
      rcases List.mem_append.mp hq with h | h
      · exact List.mem_append_left _ h
      · exact List.mem_append_right _ (List.mem_cons_of_mem _ h))) (List.pairwise_append.mpr ⟨w1, w5, fun a ha b hb => w3 a ha b (List.mem_cons_of_mem _ hb)⟩)
    have a2 := mv_right (ok p (by simp)) hi [] lw x fun c hc => ⟨ok c (List.mem_append_left _ hc), w3 c hc p List.mem_cons_self⟩
    rw [List.nil_append, List.nil_append] at a2
    exact Int.le_trans a2 a1
theorem worst_ge : ∀ (n : Nat) (l row : List (Int × Int)) (x : Int), row.length = n → row.Perm l → (∀ p ∈ l, okPol p) → l.Pairwise (fun p q : Int × Int => p.1 ≤ q.1) → restP row x ≤ restP l x
  | 0, l, row, x, hn, pm, _, _ => by
    have e := List.length_eq_zero_iff.mp hn
    subst e
    rw [List.Perm.eq_nil pm.symm]
    exact Int.le_refl _
  | n + 1, l, [], x, hn, _, _, _ => by simp at hn
  | n + 1, l, p :: r, x, hn, pm, ok, pw => by
    obtain ⟨hi, lw, e⟩ := List.append_of_mem (pm.mem_iff.mp (List.mem_cons_self (a := p) (l := r)))
    subst e
    have pm2 : r.Perm (hi ++ lw) := (pm.trans List.perm_middle).cons_inv
    obtain ⟨w1, w2, w3⟩ := List.pairwise_append.mp pw
    obtain ⟨w4, w5⟩ := List.pairwise_cons.mp w2
    have a1 := worst_ge n (hi ++ lw) r (rest1 p x) (by simpa using hn) pm2 (fun q hq => ok q (by
      rcases List.mem_append.mp hq with h | h
      · exact List.mem_append_left _ h
      · exact List.mem_append_right _ (List.mem_cons_of_mem _ h))) (List.pairwise_append.mpr ⟨w1, w5, fun a ha b hb => w3 a ha b (List.mem_cons_of_mem _ hb)⟩)
    have a2 := mv_left (ok p (by simp)) hi [] lw x fun c hc => ⟨ok c (List.mem_append_left _ hc), w3 c hc p List.mem_cons_self⟩
    rw [List.nil_append, List.nil_append] at a2
    exact Int.le_trans a1 a2
def bestL (ps : List (Int × Int)) : List (Int × Int) := (srtL ps).reverse
theorem best_ok {ps row : List (Int × Int)} (h : row.Perm ps) (ok : ∀ p ∈ ps, okPol p) (x : Int) : restP (bestL ps) x ≤ restP row x :=
  have pm : (bestL ps).Perm ps := (List.reverse_perm _).trans (srtL_perm ps)
  best_le _ _ row x rfl (h.trans pm.symm) (fun p hp => ok p (pm.mem_iff.mp hp)) (List.pairwise_reverse.mpr ((srtL_sorted ps).imp fun {p q} h => by unfold leP at h; omega))
theorem worst_ok {ps row : List (Int × Int)} (h : row.Perm ps) (ok : ∀ p ∈ ps, okPol p) (x : Int) : restP row x ≤ restP (srtL ps) x :=
  worst_ge _ _ row x rfl (h.trans (srtL_perm ps).symm) (fun p hp => ok p ((srtL_perm ps).mem_iff.mp hp)) ((srtL_sorted ps).imp fun {p q} h => by unfold leP at h; omega)
/-! two policies -/
theorem two_ne {p q : Int × Int} (hp : okPol p) (hq : okPol q) (h : p.1 < q.1) : made [p, q] ≠ made [q, p] := fun e => by
  have o1 : ∀ r ∈ [p, q], okPol r := fun r hr => by
    rcases List.mem_cons.mp hr with e | hr
    · rw [e]; exact hp
    · rw [List.mem_singleton.mp hr]; exact hq
  have o2 : ∀ r ∈ [q, p], okPol r := fun r hr => by
    rcases List.mem_cons.mp hr with e | hr
    · rw [e]; exact hq
    · rw [List.mem_singleton.mp hr]; exact hp
  have z := congrArg (fun l => pay l (max q.1 (p.1 + p.2) + 1)) e
  have z' : pay (made [p, q]) (max q.1 (p.1 + p.2) + 1) = pay (made [q, p]) (max q.1 (p.1 + p.2) + 1) := z
  rw [pay_made o1, pay_made o2] at z'
  have r1 : restP [p, q] (max q.1 (p.1 + p.2) + 1) = rest1 q (rest1 p (max q.1 (p.1 + p.2) + 1)) := rfl
  have r2 : restP [q, p] (max q.1 (p.1 + p.2) + 1) = rest1 p (rest1 q (max q.1 (p.1 + p.2) + 1)) := rfl
  rw [r1, r2, rest1_eq, rest1_eq, rest1_eq, rest1_eq] at z'
  have := hp.1
  have := hp.2.2.1
  have := hq.1
  have := hq.2.2.1
  omega
theorem two_iff {p q : Int × Int} (hp : okPol p) (hq : okPol q) : (made [p, q] = made [q, p]) ↔ p.1 = q.1 := by
  constructor
  · intro e
    by_cases c : p.1 < q.1
    · exact absurd e (two_ne hp hq c)
    · by_cases c2 : q.1 < p.1
      · exact absurd e.symm (two_ne hq hp c2)
      · omega
  · intro e
    have z := made_swapE (p := p) (q := q) (as := []) (bs := []) (fun r hr => by
      rcases List.mem_cons.mp hr with e | hr
      · rw [e]; exact hp
      · rw [List.mem_singleton.mp hr]; exact hq) e.symm
    exact z
end DL
set_option Elab.async false
set_option linter.all false
set_option autoImplicit false
namespace DL
open CV
def S_need_policies : DSp := fun as K => ∃ (ps : List (Int × Int)), as = [.val (.tup (ps.map eP))] ∧ ps.length ≤ 8 ∧ (∀ p ∈ ps, okPol p) ∧ K .non []
def S_need_policy : DSp := fun as K => ∃ (p : Int × Int), as = [.val (eP p)] ∧ okPol p ∧ K .non []
def S_best_order : DSp := fun as K => ∃ (ps : List (Int × Int)), as = [.val (.tup (ps.map eP))] ∧ ps.length ≤ 8 ∧ (∀ p ∈ ps, okPol p) ∧ K (.tup ((bestL ps).map eP)) []
def S_worst_order : DSp := fun as K => ∃ (ps : List (Int × Int)), as = [.val (.tup (ps.map eP))] ∧ ps.length ≤ 8 ∧ (∀ p ∈ ps, okPol p) ∧ K (.tup ((srtL ps).map eP)) []
def S_commute : DSp := fun as K => ∃ (p q : Int × Int), as = [.val (eP p), .val (eP q)] ∧ okPol p ∧ okPol q ∧ K (.bl (decide (p.1 = q.1))) []
def S__law_orders : DSp := fun as K => ∃ (ps : List (Int × Int)), as = [.val (.tup (ps.map eP))] ∧ ps.length ≤ 4 ∧ ∀ rows : List (List (Int × Int)), (∀ r ∈ rows, r.Perm ps) → rows.length ≤ 1000 → K (.lst (rows.map fun r => .tup (r.map eP))) []
def S__law_between : DSp := fun as K => ∃ (ps qs : List (Int × Int)) (bs : List Int), as = [.val (.tup (ps.map eP)), .val (.tup (qs.map eP)), .val (intsD bs)] ∧ ps.length ≤ 8 ∧ (∀ p ∈ ps, okPol p) ∧ qs.Perm ps ∧ K (.bl true) []
end DL
set_option Elab.async false
set_option linter.all false
set_option maxRecDepth 100000
set_option maxHeartbeats 4000000
namespace DL
open PySem PySem.Spec PyProof.Rows L2
/-! _law_orders -/
def N__law_orders : List Str := ["some", "found", "policy", "longer", "row", "at"]
def b__law_orders : TS' := seq (set 1 (frz (lstF (aC (tup (aN)) (aN))))) (seq (for' (itm (cV 0)) (gn 2) (seq (set 3 (frz (lstF (aN)))) (seq (for' (itm (cV 1)) (gn 4) (set 3 (bin addD (cV 3) (frz (lc (rng1 (bin addD (cal lenD (aC (cV 4) (aN))) (cC (.int 1)))) (gn 5) (yes') (bin addD (bin addD (slc (cV 4) (pNo) (pSo (cV 5))) (tup (aC (cV 2) (aN)))) (slc (cV 4) (pSo (cV 5)) (pNo))) [5]))))) (set 1 (cV 3))))) (ret (cV 1)))
/-! need_policies -/
def N_need_policies : List Str := ["policies", "policy"]
def b_need_policies : TS' := seq (ifs (tor (tnot (tst (isi (tyT "tuple") (cV 0)))) (tst (bin gtI (cal lenD (aC (cV 0) (aN))) (cC (.int 8))))) ((fun _ _ => False)) (nxt)) (ifs (tnot (tst (cal allD (aC (frz (lc (itm (cV 0)) (gn 1) (yes') (call' S_is_policy (aC (cV 1) (aN))) [1])) (aN))))) ((fun _ _ => False)) (nxt))
/-! worst_order -/
def N_worst_order : List Str := ["policies"]
def b_worst_order : TS' := seq (drp (call' S_need_policies (aC (cV 0) (aN)))) (ret (cal tupD (aC (frz (srtPT (aC (cV 0) (aN)))) (aN))))
/-! best_order -/
def N_best_order : List Str := ["policies"]
def b_best_order : TS' := seq (drp (call' S_need_policies (aC (cV 0) (aN)))) (ret (cal tupD (aC (rev (frz (srtPT (aC (cV 0) (aN))))) (aN))))
/-! _law_between -/
def N__law_between : List Str := ["some", "row", "bills", "best", "worst", "bill"]
def b__law_between : TS' := seq (par 3 4 (aC (call' S_best_order (aC (cV 0) (aN))) (aC (call' S_worst_order (aC (cV 0) (aN))) (aN)))) (seq (ifs (tor (tst (bin neD (frz (srtPT (aC (cV 3) (aN)))) (frz (srtPT (aC (cV 0) (aN)))))) (tst (bin neD (frz (srtPT (aC (cV 4) (aN)))) (frz (srtPT (aC (cV 0) (aN))))))) (ret (cC (.bl false))) (nxt)) (seq (for' (itm (cV 2)) (gn 5) (ifs (tnot (tst (chn leI leI (call' S__law_chain (aC (cV 4) (aC (cV 5) (aN)))) (call' S__law_chain (aC (cV 1) (aC (cV 5) (aN)))) (call' S__law_chain (aC (cV 3) (aC (cV 5) (aN))))))) (ret (cC (.bl false))) (nxt))) (ret (vand (mth S_Cover_at_most (call' S__law_made (aC (cV 1) (aN))) (aC (call' S__law_made (aC (cV 3) (aN))) (aN))) (mth S_Cover_at_most (call' S__law_made (aC (cV 4) (aN))) (aC (call' S__law_made (aC (cV 1) (aN))) (aN)))))))
/-! need_policy -/
def N_need_policy : List Str := ["policy"]
def b_need_policy : TS' := ifs (tnot (tst (call' S_is_policy (aC (cV 0) (aN))))) ((fun _ _ => False)) (nxt)
/-! commute -/
def N_commute : List Str := ["one", "other"]
def b_commute : TS' := seq (drp (call' S_need_policy (aC (cV 0) (aN)))) (seq (drp (call' S_need_policy (aC (cV 1) (aN)))) (ret (bin eqD (bin ixD (cV 0) (cC (.int 0))) (bin ixD (cV 1) (cC (.int 0))))))
/-! law -/
def N_law : List Str := ["script", "cell", "deck", "some", "top", "free", "limit", "row", "turn", "bills", "first", "last", "one", "other", "alike"]
def b_law (a : Addr) (ns : List Int) : TS' := seq (for' (itm (slc (scr a ns) (pNo) (pSo (cC (.int 8))))) (gn 1) (seq (setO 2 (callF S__law_deck (aC (cV 1) (aC (cC (.int 5)) (aN))))) (seq (set 3 (call' S__law_policies (aC (cV 2) (aC (cC (.int 4)) (aC (cC (.int 6)) (aN)))))) (seq (set 4 (bin addD (cal sumD (aC (frz (lc (itm (cV 3)) (gt 2 (gc (gn 5) (gc (gn 6) (g0)))) (yes') (bin addD (cV 5) (cV 6)) [5, 6])) (aN))) (cC (.int 1)))) (seq (for' (itm (call' S__law_orders (aC (cV 3) (aN)))) (gn 7) (ifs (tnot (tst (call' S__law_between (aC (cV 3) (aC (cV 7) (aC (frz (lrg (cV 4))) (aN))))))) (ret (cC (.bl false))) (nxt))) (seq (set 3 (call' S__law_policies (aC (cV 2) (aC (cC (.int 8)) (aC (call' S__law_one (aC (cV 2) (aC (frz (lstF (aC (cC (.int 30)) (aC (bin powI (cC (.int 10)) (cC (.int 6))) (aN))))) (aN)))) (aN)))))) (seq (for' (rng1 (cC (.int 4))) (gn 8) (seq (set 7 (call' S__law_mixed (aC (cV 2) (aC (cV 3) (aN))))) (seq (set 9 (bin addD (frz (lc (itm (prp S_Cover_ranges (call' S__law_made (aC (cV 7) (aN))))) (gt 2 (gc (gn 10) (gc (gn 11) (g0)))) (yes') (cV 11) [10, 11])) (frz (lstF (aC (call' S__law_pick (aC (cV 2) (aC (bin powI (cC (.int 10)) (cC (.int 7))) (aN)))) (aN)))))) (ifs (tnot (tst (call' S__law_between (aC (cV 3) (aC (cV 7) (aC (bin addD (cV 9) (frz (lc (itm (prp S_Cover_ranges (call' S__law_made (aC (cV 7) (aN))))) (gt 2 (gc (gn 10) (gc (gn 11) (g0)))) (yes') (bin subI (cV 10) (cC (.int 1))) [10, 11]))) (aN))))))) (ret (cC (.bl false))) (nxt))))) (for' (itm (slc (cV 3) (pNo) (pSo (cC (.int 4))))) (gn 12) (for' (itm (slc (cV 3) (pNo) (pSo (cC (.int 4))))) (gn 13) (seq (set 14 (own2 S_CoverX_eqX (mk 0 S_CoverX_initX (aC (cV 12) (aC (cV 13) (aN)))) (mk 0 S_CoverX_initX (aC (cV 13) (aC (cV 12) (aN)))))) (ifs (tor (tnot (tst (call' S__law_same (aC (call' S_commute (aC (cV 12) (aC (cV 13) (aN)))) (aC (cV 14) (aN)))))) (tst (bin neD (cV 14) (bin eqD (bin ixD (cV 12) (cC (.int 0))) (bin ixD (cV 13) (cC (.int 0))))))) (ret (cC (.bl false))) (nxt)))))))))))) (seq (ifs (tor (tst (bin neD (call' S_best_order (aC (tup (aN)) (aN))) (tup (aN)))) (tst (bin neD (call' S_worst_order (aC (tup (aC (tup (aC (cC (.int 3)) (aC (cC (.int 1)) (aN)))) (aN))) (aN))) (tup (aC (tup (aC (cC (.int 3)) (aC (cC (.int 1)) (aN)))) (aN)))))) (ret (cC (.bl false))) (nxt)) (ret (vand (bin eqD (call' S_best_order (aC (tup (aC (tup (aC (cC (.int 4)) (aC (cC (.int 3)) (aN)))) (aC (tup (aC (cC (.int 10)) (aC (cC (.int 5)) (aN)))) (aN)))) (aN))) (tup (aC (tup (aC (cC (.int 10)) (aC (cC (.int 5)) (aN)))) (aC (tup (aC (cC (.int 4)) (aC (cC (.int 3)) (aN)))) (aN))))) (bin isB (call' S_commute (aC (tup (aC (cC (.int 4)) (aC (cC (.int 3)) (aN)))) (aC (tup (aC (cC (.int 4)) (aC (cC (.int 9)) (aN)))) (aN)))) (cC (.bl true))))))
end DL
set_option Elab.async false
set_option linter.all false
set_option autoImplicit false
set_option maxRecDepth 100000
set_option maxHeartbeats 4000000
namespace DL
open PySem PySem.Spec PyProof.Rows L2 CV
local macro_rules | `(tactic| walk_at "sz") => `(tactic| (first | exact (by rw [sl_line]; simp only [List.length_cons, List.length_nil, List.length_append, List.length_map, List.length_range]; omega) | omega | (simp only [List.length_map, List.length_append, List.length_range, List.length_cons, List.length_nil]; omega) | decide))
local macro_rules | `(tactic| walk_at "gd") => `(tactic| (repeat' first | assumption | exact gd_nil | exact gd_pol (by decide) | exact gd_made (Nat.le_refl _) (by decide) | apply gd_chain | apply gd_big | apply gd_small))
local macro_rules | `(tactic| walk_at "go") => `(tactic| (repeat (first
      | (with_reducible refine s_seq ?_)
      | (with_reducible refine s_set ?_)
      | (with_reducible refine s_setO ?_)
      | (with_reducible refine s_par ?_)
      | (with_reducible refine s_par3 ?_)
      | (with_reducible refine s_parDO ?_)
      | (with_reducible refine s_parOD ?_)
      | (with_reducible refine s_parOO ?_)
      | (with_reducible refine s_asg ?_)
      | (with_reducible refine s_ifs ?_)
      | (with_reducible refine s_ret ?_)
      | (with_reducible refine s_nxt ?_)
      | (with_reducible refine s_drp ?_)
      | (with_reducible refine s_for ?_)
      | (with_reducible refine i_itm ?_)
      | (with_reducible refine i_rng1 ?_)
      | (with_reducible refine i_rng2 ?_)
      | (with_reducible refine x_c ?_)
      | (with_reducible refine x_bin ?_)
      | (with_reducible refine x_binF ?_)
      | (with_reducible refine x_un ?_)
      | (with_reducible refine x_tst ?_)
      | (with_reducible refine x_tor ?_)
      | (with_reducible refine x_tand ?_)
      | (with_reducible refine x_tnot ?_)
      | (with_reducible refine x_vand ?_)
      | (with_reducible refine x_vor ?_)
      | (with_reducible refine x_vnot ?_)
      | (with_reducible refine x_ite ?_)
      | (with_reducible refine x_iteT ?_)
      | (with_reducible refine x_yes ?_)
      | (with_reducible refine x_aN ?_)
      | (with_reducible refine x_aC ?_)
      | (with_reducible refine x_tup ?_)
      | (with_reducible refine x_lst ?_)
      | (with_reducible refine x_frz ?_)
      | (with_reducible refine x_cal ?_)
      | (with_reducible refine x_calF ?_)
      | (with_reducible refine x_call ?_)
      | (with_reducible refine x_callF ?_)
      | (with_reducible refine x_own2 ?_)
      | (with_reducible refine x_prp ?_)
      | (with_reducible refine x_mth ?_)
      | (with_reducible refine x_mk ?_)
      | (with_reducible refine x_isi ?_)
      | (with_reducible refine x_pNo ?_)
      | (with_reducible refine x_pSo ?_)
      | (with_reducible refine x_slc ?_)
      | (with_reducible refine g_n ?_)
      | (with_reducible refine g_t2 ?_)
      | (with_reducible refine g_t3 ?_)
      | (with_reducible refine g_l2 ?_)
      | (with_reducible refine g_l3 ?_)
      | (with_reducible refine f_lc ?_)
      | (with_reducible refine xD ?_)
      | (with_reducible refine xB ?_)
      | (with_reducible refine xI ?_)
      | (with_reducible refine xC ?_)
      | (with_reducible refine xSl ?_)
      | (with_reducible refine xSt ?_)
      | (with_reducible refine xF0 ?_)
      | (with_reducible refine xF1 ?_)
      | (with_reducible refine xF2 ?_)
      | (with_reducible refine xF3 ?_)
      | (with_reducible refine xR1 ?_)
      | (with_reducible refine xR2 ?_)
      | (with_reducible refine xA0 ?_)
      | (with_reducible refine xA1 ?_)
      | (with_reducible refine xA2 ?_)
      | (with_reducible refine xA3 ?_)
      | (with_reducible refine xA4 ?_)
      | (with_reducible refine x_rs ?_)
      | (with_reducible refine v_add ?_)
      | (with_reducible refine v_sub ?_)
      | (with_reducible refine v_lt ?_)
      | (with_reducible refine v_le ?_)
      | (with_reducible refine v_gt ?_)
      | (with_reducible refine v_ge ?_)
      | (with_reducible refine v_neg ?_)
      | (with_reducible refine v_p6 ?_)
      | (with_reducible refine v_p9 ?_)
      | (with_reducible refine v_p5 ?_)
      | (with_reducible refine v_p4 ?_)
      | (with_reducible refine v_p7 ?_)
      | (with_reducible refine v_max ?_)
      | (with_reducible refine v_min ?_)
      | (with_reducible refine v_lenL ?_)
      | (with_reducible refine v_lenT ?_)
      | (with_reducible refine v_tupL ?_)
      | (with_reducible refine v_tupT ?_)
      | (with_reducible refine v_lstL ?_)
      | (with_reducible refine v_lstT ?_)
      | (with_reducible refine v_sum ?_)
      | (with_reducible refine v_eqI ?_)
      | (with_reducible refine v_neI ?_)
      | (with_reducible refine v_eqR ?_)
      | (with_reducible refine v_neR ?_)
      | (with_reducible refine v_slice ?_)
      | (with_reducible refine v_sliceT ?_)
      | (with_reducible refine v_fld ?_)
      | (with_reducible refine k_eq ?_)
      | (with_reducible refine k_same ?_)
      | (with_reducible refine k_sameB ?_)
      | (with_reducible refine v_eqI0 ?_)
      | (with_reducible refine v_neI0 ?_)
      | (with_reducible refine v_eqM0 ?_)
      | (with_reducible refine v_isB ?_)
      | (with_reducible refine v_ix0 ?_)
      | (with_reducible refine v_ix1 ?_)
      | (with_reducible refine v_p0 ?_)
      | (with_reducible refine v_p1 ?_)
      | (with_reducible refine k_mk0 ?_)
      | (with_reducible refine iteT ?_)
      | (with_reducible refine iteF ?_)
      | (with_reducible refine lc_nil ?_)
      | (with_reducible refine lc_cons ?_)
      | (with_reducible refine ifnt ?_)
      | (with_reducible refine ifnf ?_)
      | (with_reducible refine s_fnil ?_)
      | (with_reducible refine s_fcons ?_)
      | (with_reducible refine x_popL ?_)
      | (with_reducible refine v_eqL0 ?_)
      | (with_reducible refine v_neL0 ?_)
      | (with_reducible refine v_eqL1 ?_)
      | (with_reducible refine v_neL1 ?_)
      | (with_reducible refine v_eqL2 ?_)
      | (with_reducible refine v_neL2 ?_)
      | (with_reducible refine v_eqL3 ?_)
      | (with_reducible refine v_neL3 ?_)
      | (with_reducible refine v_max2 ?_)
      | (with_reducible refine v_min2 ?_)
      | (with_reducible refine v_max2t ?_)
      | (with_reducible refine v_min2t ?_)
      | (with_reducible refine x_srtPT ?_)
      | (with_reducible refine x_revv ?_)
      | (with_reducible refine v_revL ?_)
      | (with_reducible refine v_revT ?_)
      | (with_reducible refine x_lrg ?_)
      | (with_reducible refine x_chn ?_)
      | (with_reducible refine v_eqB ?_)
      | (with_reducible refine v_neB ?_)
      | (with_reducible refine v_eqP ?_)
      | (with_reducible refine v_neP ?_)
      | ((with_reducible apply x_scr); (· exact rfl))
      | ((with_reducible apply x_v); (· exact rfl))
      | ((with_reducible apply x_o); (· exact rfl))
      | ((with_reducible apply x_app); (· exact rfl))
      | ((with_reducible apply x_popA); (· exact rfl))
      | ((with_reducible apply x_ownAt); (· exact rfl))
      | ((with_reducible apply x_rso); (· exact rfl))
      | ((with_reducible apply xR1o); (· exact rfl))
      | ((with_reducible apply x_if); (· walk_at "sz"))
      | ((with_reducible apply k_add); (· walk_at "gd"); (· walk_at "gd"); (· decide))
      | ((with_reducible apply k_or); (· walk_at "gd"); (· walk_at "gd"); (· decide))
      | ((with_reducible apply k_and); (· walk_at "gd"); (· walk_at "gd"); (· decide))
      | ((with_reducible apply k_most); (· walk_at "gd"); (· walk_at "gd"); (· decide))
      | ((with_reducible apply k_rg); (· walk_at "gd"); (· decide))
      | ((with_reducible apply k_tot); (· walk_at "gd"); (· decide))
      | ((with_reducible apply k_pays); (· walk_at "gd"); (· decide))
      | ((with_reducible apply k_mk1); (· decide))
      | ((with_reducible apply k_mkPP); (· assumption); (· assumption))
      | ((with_reducible apply k_mk2); (· decide); (· decide))
      | ((with_reducible apply k_mk3); (· decide); (· decide); (· decide))
      | ((with_reducible apply k_call); (· walk_at "gd"); (· decide); (· omega); (· omega))
      | ((with_reducible apply v_addT); (· walk_at "sz"))
      | ((with_reducible apply v_addL); (· walk_at "sz"))
      | ((with_reducible apply v_addR); (· (first | omega | (simp only [List.length_append]; omega))))
      | ((with_reducible apply k_behind); (· walk_at "gd"); (· walk_at "gd"); (· decide); (· decide))
      | (dsimp only [List.set_cons_zero, List.set_cons_succ, nos, back, keepV, putOwn, List.getElem?_cons_succ, List.getElem?_cons_zero, List.nil_append, List.cons_append])
      | ((with_reducible apply v_repL); (· decide)))))
local macro_rules | `(tactic| walk_at "gon") => `(tactic| (repeat (first
      | (with_reducible refine s_seq ?_)
      | (with_reducible refine s_set ?_)
      | (with_reducible refine s_setO ?_)
      | (with_reducible refine s_par ?_)
      | (with_reducible refine s_par3 ?_)
      | (with_reducible refine s_parDO ?_)
      | (with_reducible refine s_parOD ?_)
      | (with_reducible refine s_parOO ?_)
      | (with_reducible refine s_asg ?_)
      | (with_reducible refine s_ifs ?_)
      | (with_reducible refine s_ret ?_)
      | (with_reducible refine s_nxt ?_)
      | (with_reducible refine s_drp ?_)
      | (with_reducible refine s_for ?_)
      | (with_reducible refine i_itm ?_)
      | (with_reducible refine i_rng1 ?_)
      | (with_reducible refine i_rng2 ?_)
      | (with_reducible refine x_c ?_)
      | (with_reducible refine x_bin ?_)
      | (with_reducible refine x_binF ?_)
      | (with_reducible refine x_un ?_)
      | (with_reducible refine x_tst ?_)
      | (with_reducible refine x_tor ?_)
      | (with_reducible refine x_tand ?_)
      | (with_reducible refine x_tnot ?_)
      | (with_reducible refine x_vand ?_)
      | (with_reducible refine x_vor ?_)
      | (with_reducible refine x_vnot ?_)
      | (with_reducible refine x_ite ?_)
      | (with_reducible refine x_iteT ?_)
      | (with_reducible refine x_yes ?_)
      | (with_reducible refine x_aN ?_)
      | (with_reducible refine x_aC ?_)
      | (with_reducible refine x_tup ?_)
      | (with_reducible refine x_lst ?_)
      | (with_reducible refine x_frz ?_)
      | (with_reducible refine x_cal ?_)
      | (with_reducible refine x_calF ?_)
      | (with_reducible refine x_call ?_)
      | (with_reducible refine x_callF ?_)
      | (with_reducible refine x_own2 ?_)
      | (with_reducible refine x_prp ?_)
      | (with_reducible refine x_mth ?_)
      | (with_reducible refine x_mk ?_)
      | (with_reducible refine x_isi ?_)
      | (with_reducible refine x_pNo ?_)
      | (with_reducible refine x_pSo ?_)
      | (with_reducible refine x_slc ?_)
      | (with_reducible refine g_n ?_)
      | (with_reducible refine g_t2 ?_)
      | (with_reducible refine g_t3 ?_)
      | (with_reducible refine g_l2 ?_)
      | (with_reducible refine g_l3 ?_)
      | (with_reducible refine f_lc ?_)
      | (with_reducible refine xD ?_)
      | (with_reducible refine xB ?_)
      | (with_reducible refine xI ?_)
      | (with_reducible refine xC ?_)
      | (with_reducible refine xSl ?_)
      | (with_reducible refine xSt ?_)
      | (with_reducible refine xF0 ?_)
      | (with_reducible refine xF1 ?_)
      | (with_reducible refine xF2 ?_)
      | (with_reducible refine xF3 ?_)
      | (with_reducible refine xR1 ?_)
      | (with_reducible refine xR2 ?_)
      | (with_reducible refine xA0 ?_)
      | (with_reducible refine xA1 ?_)
      | (with_reducible refine xA2 ?_)
      | (with_reducible refine xA3 ?_)
      | (with_reducible refine xA4 ?_)
      | (with_reducible refine x_rs ?_)
      | (with_reducible refine v_add ?_)
      | (with_reducible refine v_sub ?_)
      | (with_reducible refine v_lt ?_)
      | (with_reducible refine v_le ?_)
      | (with_reducible refine v_gt ?_)
      | (with_reducible refine v_ge ?_)
      | (with_reducible refine v_neg ?_)
      | (with_reducible refine v_p6 ?_)
      | (with_reducible refine v_p9 ?_)
      | (with_reducible refine v_p5 ?_)
      | (with_reducible refine v_p4 ?_)
      | (with_reducible refine v_p7 ?_)
      | (with_reducible refine v_max ?_)
      | (with_reducible refine v_min ?_)
      | (with_reducible refine v_lenL ?_)
      | (with_reducible refine v_lenT ?_)
      | (with_reducible refine v_tupL ?_)
      | (with_reducible refine v_tupT ?_)
      | (with_reducible refine v_lstL ?_)
      | (with_reducible refine v_lstT ?_)
      | (with_reducible refine v_sum ?_)
      | (with_reducible refine v_eqI ?_)
      | (with_reducible refine v_neI ?_)
      | (with_reducible refine v_eqR ?_)
      | (with_reducible refine v_neR ?_)
      | (with_reducible refine v_slice ?_)
      | (with_reducible refine v_sliceT ?_)
      | (with_reducible refine v_fld ?_)
      | (with_reducible refine k_eq ?_)
      | (with_reducible refine k_same ?_)
      | (with_reducible refine k_sameB ?_)
      | (with_reducible refine v_eqI0 ?_)
      | (with_reducible refine v_neI0 ?_)
      | (with_reducible refine v_eqM0 ?_)
      | (with_reducible refine v_isB ?_)
      | (with_reducible refine v_ix0 ?_)
      | (with_reducible refine v_ix1 ?_)
      | (with_reducible refine v_p0 ?_)
      | (with_reducible refine v_p1 ?_)
      | (with_reducible refine k_mk0 ?_)
      | (with_reducible refine iteT ?_)
      | (with_reducible refine iteF ?_)
      | (with_reducible refine ifnt ?_)
      | (with_reducible refine ifnf ?_)
      | (with_reducible refine x_popL ?_)
      | (with_reducible refine v_eqL0 ?_)
      | (with_reducible refine v_neL0 ?_)
      | (with_reducible refine v_eqL1 ?_)
      | (with_reducible refine v_neL1 ?_)
      | (with_reducible refine v_eqL2 ?_)
      | (with_reducible refine v_neL2 ?_)
      | (with_reducible refine v_eqL3 ?_)
      | (with_reducible refine v_neL3 ?_)
      | (with_reducible refine v_max2 ?_)
      | (with_reducible refine v_min2 ?_)
      | (with_reducible refine v_max2t ?_)
      | (with_reducible refine v_min2t ?_)
      | (with_reducible refine x_srtPT ?_)
      | (with_reducible refine x_revv ?_)
      | (with_reducible refine v_revL ?_)
      | (with_reducible refine v_revT ?_)
      | (with_reducible refine x_lrg ?_)
      | (with_reducible refine x_chn ?_)
      | (with_reducible refine v_eqB ?_)
      | (with_reducible refine v_neB ?_)
      | (with_reducible refine v_eqP ?_)
      | (with_reducible refine v_neP ?_)
      | ((with_reducible apply x_scr); (· exact rfl))
      | ((with_reducible apply x_v); (· exact rfl))
      | ((with_reducible apply x_o); (· exact rfl))
      | ((with_reducible apply x_app); (· exact rfl))
      | ((with_reducible apply x_popA); (· exact rfl))
      | ((with_reducible apply x_ownAt); (· exact rfl))
      | ((with_reducible apply x_rso); (· exact rfl))
      | ((with_reducible apply xR1o); (· exact rfl))
      | ((with_reducible apply x_if); (· walk_at "sz"))
      | ((with_reducible apply k_add); (· walk_at "gd"); (· walk_at "gd"); (· decide))
      | ((with_reducible apply k_or); (· walk_at "gd"); (· walk_at "gd"); (· decide))
      | ((with_reducible apply k_and); (· walk_at "gd"); (· walk_at "gd"); (· decide))
      | ((with_reducible apply k_most); (· walk_at "gd"); (· walk_at "gd"); (· decide))
      | ((with_reducible apply k_rg); (· walk_at "gd"); (· decide))
      | ((with_reducible apply k_tot); (· walk_at "gd"); (· decide))
      | ((with_reducible apply k_pays); (· walk_at "gd"); (· decide))
      | ((with_reducible apply k_mk1); (· decide))
      | ((with_reducible apply k_mkPP); (· assumption); (· assumption))
      | ((with_reducible apply k_mk2); (· decide); (· decide))
      | ((with_reducible apply k_mk3); (· decide); (· decide); (· decide))
      | ((with_reducible apply k_call); (· walk_at "gd"); (· decide); (· omega); (· omega))
      | ((with_reducible apply v_addT); (· walk_at "sz"))
      | ((with_reducible apply v_addL); (· walk_at "sz"))
      | ((with_reducible apply v_addR); (· (first | omega | (simp only [List.length_append]; omega))))
      | ((with_reducible apply k_behind); (· walk_at "gd"); (· walk_at "gd"); (· decide); (· decide))
      | (dsimp only [List.set_cons_zero, List.set_cons_succ, nos, back, keepV, putOwn, List.getElem?_cons_succ, List.getElem?_cons_zero, List.nil_append, List.cons_append])
      | ((with_reducible apply v_repL); (· decide)))))
theorem d_Shape_init : ∀ x ds (K : D → Prop), S_ShapeX_initX ds K → fin' x b_ShapeX_initX K ((.raw x :: ds.map .val) ++ List.replicate (N_ShapeX_initX.length - (ds.length + 1)) .no) := by
  rintro x ds K ⟨d, rfl, h⟩
  show fin' x b_ShapeX_initX K [.raw x, .val d]
  exact ⟨d, rfl, rfl, h⟩
theorem d_need_policy : ∀ as K, S_need_policy as K → b_need_policy (enOf as K) (as ++ List.replicate (N_need_policy.length - as.length) .no) := by
  rintro as K ⟨p, rfl, hp, h⟩
  show b_need_policy _ [.val (eP p)]
  unfold b_need_policy
  walk_at "go"
  refine ⟨p, rfl, ?_⟩
  rw [decide_eq_true hp]
  walk_at "go"
  exact h
theorem d_commute : ∀ as K, S_commute as K → b_commute (enOf as K) (as ++ List.replicate (N_commute.length - as.length) .no) := by
  rintro as K ⟨p, q, rfl, hp, hq, h⟩
  show b_commute _ [.val (eP p), .val (eP q)]
  unfold b_commute
  walk_at "go"
  refine ⟨p, rfl, hp, ?_⟩
  walk_at "go"
  refine ⟨q, rfl, hq, ?_⟩
  walk_at "go"
  exact h
theorem d_need_policies : ∀ as K, S_need_policies as K → b_need_policies (enOf as K) (as ++ List.replicate (N_need_policies.length - as.length) .no) := by
  rintro as K ⟨ps, rfl, hl, hp, h⟩
  show b_need_policies _ [.val (.tup (ps.map eP)), .no]
  unfold b_need_policies
  walk_at "go"
  have e1 : tyT "tuple" (.tup (ps.map eP)) = some true := rfl
  rw [e1]
  walk_at "go"
  refine x_noB (by rw [List.length_map, decide_eq_false_iff_not]; omega) ?_
  walk_at "go"
  refine lc_map (enc := eP) ps (fun p => .bl true) (by omega) (fun p hpp k hk => ?_) ?_
  · walk_at "go"
    refine ⟨p, rfl, ?_⟩
    rw [decide_eq_true (hp p hpp)]
    exact hk _ rfl
  have e2 : ps.map (fun _ => D.bl true) = (ps.map fun _ => true).map D.bl := by rw [List.map_map]; rfl
  rw [e2]
  walk_at "go"
  refine v_all ?_
  have e3 : (ps.map fun _ => true).all id = true := by simp
  rw [e3]
  walk_at "go"
  exact h
theorem d_worst_order : ∀ as K, S_worst_order as K → b_worst_order (enOf as K) (as ++ List.replicate (N_worst_order.length - as.length) .no) := by
  rintro as K ⟨ps, rfl, hl, hp, h⟩
  show b_worst_order _ [.val (.tup (ps.map eP))]
  unfold b_worst_order
  walk_at "go"
  refine ⟨ps, rfl, hl, hp, ?_⟩
  walk_at "go"
  refine a_srtL ?_
  walk_at "go"
  exact h
theorem d_best_order : ∀ as K, S_best_order as K → b_best_order (enOf as K) (as ++ List.replicate (N_best_order.length - as.length) .no) := by
  rintro as K ⟨ps, rfl, hl, hp, h⟩
  show b_best_order _ [.val (.tup (ps.map eP))]
  unfold b_best_order
  walk_at "go"
  refine ⟨ps, rfl, hl, hp, ?_⟩
  walk_at "go"
  refine a_srtL ?_
  walk_at "go"
  rw [← List.map_reverse]
  exact h
theorem d__law_between : ∀ as K, S__law_between as K → b__law_between (enOf as K) (as ++ List.replicate (N__law_between.length - as.length) .no) := by
  rintro as K ⟨ps, qs, bs, rfl, hl, hp, pm, h⟩
  show b__law_between _ [.val (.tup (ps.map eP)), .val (.tup (qs.map eP)), .val (.lst (bs.map D.int)), .no, .no, .no]
  have pb : (bestL ps).Perm ps := (List.reverse_perm _).trans (srtL_perm ps)
  have pw := srtL_perm ps
  have hq : ∀ p ∈ qs, okPol p := fun p h => hp p (pm.mem_iff.mp h)
  have hb : ∀ p ∈ bestL ps, okPol p := fun p h => hp p (pb.mem_iff.mp h)
  have hw : ∀ p ∈ srtL ps, okPol p := fun p h => hp p (pw.mem_iff.mp h)
  have lq : qs.length ≤ 8 := by rw [pm.length_eq]; exact hl
  have lb : (bestL ps).length ≤ 8 := by rw [pb.length_eq]; exact hl
  have lw : (srtL ps).length ≤ 8 := by rw [pw.length_eq]; exact hl
  have gq : Gd 8 (made qs) := gd_made lq hq
  have gb : Gd 8 (made (bestL ps)) := gd_made lb hb
  have gw : Gd 8 (made (srtL ps)) := gd_made lw hw
  unfold b__law_between
  walk_at "go"
  refine ⟨ps, rfl, hl, hp, ?_⟩
  walk_at "go"
  refine ⟨ps, rfl, hl, hp, ?_⟩
  walk_at "go"
  refine a_srtL ?_
  walk_at "go"
  refine a_srtL ?_
  walk_at "go"
  refine x_noB (by rw [srtL_eq pb]; simp) ?_
  walk_at "go"
  refine a_srtL ?_
  walk_at "go"
  refine a_srtL ?_
  walk_at "go"
  refine x_noB (by rw [srtL_eq pw]; simp) ?_
  walk_at "go"
  refine for_all (enc := D.int) (fun ρ => ∃ (y1 : Sl), ρ = [.val (.tup (ps.map eP)), .val (.tup (qs.map eP)), .val (.lst (bs.map D.int)), .val (.tup ((bestL ps).map eP)), .val (.tup ((srtL ps).map eP)), y1]) bs ⟨_, rfl⟩ (fun x hx ρ hρ nx hnx => ?_) (fun ρ hρ => ?_)
  · obtain ⟨x5, e⟩ := hρ
    subst e
    walk_at "go"
    refine ⟨srtL ps, x, rfl, hw, ?_⟩
    walk_at "go"
    refine ⟨qs, x, rfl, hq, ?_⟩
    walk_at "go"
    refine x_yesB (by rw [decide_eq_true_eq]; have := worst_ok pm hp x; omega) ?_
    walk_at "go"
    refine ⟨bestL ps, x, rfl, hb, ?_⟩
    walk_at "go"
    refine x_noB (by
      have z : decide (x - restP qs x ≤ x - restP (bestL ps) x) = true := by rw [decide_eq_true_eq]; have := best_ok pm hp x; omega
      rw [z]; rfl) ?_
    walk_at "go"
    exact hnx _ ⟨_, rfl⟩
  · obtain ⟨x5, e⟩ := hρ
    subst e
    walk_at "go"
    refine k_made (by omega) hq ?_
    walk_at "go"
    refine k_made (by omega) hb ?_
    walk_at "go"
    rw [lo_made hq hb (best_ok pm hp)]
    walk_at "go"
    refine k_made (by omega) hw ?_
    walk_at "go"
    refine k_made (by omega) hq ?_
    walk_at "go"
    rw [lo_made hw hq (worst_ok pm hp)]
    exact h
end DL
set_option Elab.async false
set_option linter.all false
set_option autoImplicit false
set_option maxRecDepth 100000
set_option maxHeartbeats 4000000
namespace DL
open PySem PySem.Spec PyProof.Rows L2 CV
local macro_rules | `(tactic| walk_at "sz") => `(tactic| (first | exact (by rw [sl_line]; simp only [List.length_cons, List.length_nil, List.length_append, List.length_map, List.length_range]; omega) | omega | (simp only [List.length_map, List.length_append, List.length_range, List.length_cons, List.length_nil]; omega) | decide))
local macro_rules | `(tactic| walk_at "gd") => `(tactic| (repeat' first | assumption | exact gd_nil | exact gd_pol (by decide) | exact gd_made (Nat.le_refl _) (by decide) | apply gd_chain | apply gd_big | apply gd_small))
local macro_rules | `(tactic| walk_at "go") => `(tactic| (repeat (first
      | (with_reducible refine s_seq ?_)
      | (with_reducible refine s_set ?_)
      | (with_reducible refine s_setO ?_)
      | (with_reducible refine s_par ?_)
      | (with_reducible refine s_par3 ?_)
      | (with_reducible refine s_parDO ?_)
      | (with_reducible refine s_parOD ?_)
      | (with_reducible refine s_parOO ?_)
      | (with_reducible refine s_asg ?_)
      | (with_reducible refine s_ifs ?_)
      | (with_reducible refine s_ret ?_)
      | (with_reducible refine s_nxt ?_)
      | (with_reducible refine s_drp ?_)
      | (with_reducible refine s_for ?_)
      | (with_reducible refine i_itm ?_)
      | (with_reducible refine i_rng1 ?_)
      | (with_reducible refine i_rng2 ?_)
      | (with_reducible refine x_c ?_)
      | (with_reducible refine x_bin ?_)
      | (with_reducible refine x_binF ?_)
      | (with_reducible refine x_un ?_)
      | (with_reducible refine x_tst ?_)
      | (with_reducible refine x_tor ?_)
      | (with_reducible refine x_tand ?_)
      | (with_reducible refine x_tnot ?_)
      | (with_reducible refine x_vand ?_)
      | (with_reducible refine x_vor ?_)
      | (with_reducible refine x_vnot ?_)
      | (with_reducible refine x_ite ?_)
      | (with_reducible refine x_iteT ?_)
      | (with_reducible refine x_yes ?_)
      | (with_reducible refine x_aN ?_)
      | (with_reducible refine x_aC ?_)
      | (with_reducible refine x_tup ?_)
      | (with_reducible refine x_lst ?_)
      | (with_reducible refine x_frz ?_)
      | (with_reducible refine x_cal ?_)
      | (with_reducible refine x_calF ?_)
      | (with_reducible refine x_call ?_)
      | (with_reducible refine x_callF ?_)
      | (with_reducible refine x_own2 ?_)
      | (with_reducible refine x_prp ?_)
      | (with_reducible refine x_mth ?_)
      | (with_reducible refine x_mk ?_)
      | (with_reducible refine x_isi ?_)
      | (with_reducible refine x_pNo ?_)
      | (with_reducible refine x_pSo ?_)
      | (with_reducible refine x_slc ?_)
      | (with_reducible refine g_n ?_)
      | (with_reducible refine g_t2 ?_)
      | (with_reducible refine g_t3 ?_)
      | (with_reducible refine g_l2 ?_)
      | (with_reducible refine g_l3 ?_)
      | (with_reducible refine f_lc ?_)
      | (with_reducible refine xD ?_)
      | (with_reducible refine xB ?_)
      | (with_reducible refine xI ?_)
      | (with_reducible refine xC ?_)
      | (with_reducible refine xSl ?_)
      | (with_reducible refine xSt ?_)
      | (with_reducible refine xF0 ?_)
      | (with_reducible refine xF1 ?_)
      | (with_reducible refine xF2 ?_)
      | (with_reducible refine xF3 ?_)
      | (with_reducible refine xR1 ?_)
      | (with_reducible refine xR2 ?_)
      | (with_reducible refine xA0 ?_)
      | (with_reducible refine xA1 ?_)
      | (with_reducible refine xA2 ?_)
      | (with_reducible refine xA3 ?_)
      | (with_reducible refine xA4 ?_)
      | (with_reducible refine x_rs ?_)
      | (with_reducible refine v_add ?_)
      | (with_reducible refine v_sub ?_)
      | (with_reducible refine v_lt ?_)
      | (with_reducible refine v_le ?_)
      | (with_reducible refine v_gt ?_)
      | (with_reducible refine v_ge ?_)
      | (with_reducible refine v_neg ?_)
      | (with_reducible refine v_p6 ?_)
      | (with_reducible refine v_p9 ?_)
      | (with_reducible refine v_p5 ?_)
      | (with_reducible refine v_p4 ?_)
      | (with_reducible refine v_p7 ?_)
      | (with_reducible refine v_max ?_)
      | (with_reducible refine v_min ?_)
      | (with_reducible refine v_lenL ?_)
      | (with_reducible refine v_lenT ?_)
      | (with_reducible refine v_tupL ?_)
      | (with_reducible refine v_tupT ?_)
      | (with_reducible refine v_lstL ?_)
      | (with_reducible refine v_lstT ?_)
      | (with_reducible refine v_sum ?_)
      | (with_reducible refine v_eqI ?_)
      | (with_reducible refine v_neI ?_)
      | (with_reducible refine v_eqR ?_)
      | (with_reducible refine v_neR ?_)
      | (with_reducible refine v_slice ?_)
      | (with_reducible refine v_sliceT ?_)
      | (with_reducible refine v_fld ?_)
      | (with_reducible refine k_eq ?_)
      | (with_reducible refine k_same ?_)
      | (with_reducible refine k_sameB ?_)
      | (with_reducible refine v_eqI0 ?_)
      | (with_reducible refine v_neI0 ?_)
      | (with_reducible refine v_eqM0 ?_)
      | (with_reducible refine v_isB ?_)
      | (with_reducible refine v_ix0 ?_)
      | (with_reducible refine v_ix1 ?_)
      | (with_reducible refine v_p0 ?_)
      | (with_reducible refine v_p1 ?_)
      | (with_reducible refine k_mk0 ?_)
      | (with_reducible refine iteT ?_)
      | (with_reducible refine iteF ?_)
      | (with_reducible refine lc_nil ?_)
      | (with_reducible refine lc_cons ?_)
      | (with_reducible refine ifnt ?_)
      | (with_reducible refine ifnf ?_)
      | (with_reducible refine s_fnil ?_)
      | (with_reducible refine s_fcons ?_)
      | (with_reducible refine x_popL ?_)
      | (with_reducible refine v_eqL0 ?_)
      | (with_reducible refine v_neL0 ?_)
      | (with_reducible refine v_eqL1 ?_)
      | (with_reducible refine v_neL1 ?_)
      | (with_reducible refine v_eqL2 ?_)
      | (with_reducible refine v_neL2 ?_)
      | (with_reducible refine v_eqL3 ?_)
      | (with_reducible refine v_neL3 ?_)
      | (with_reducible refine v_max2 ?_)
      | (with_reducible refine v_min2 ?_)
      | (with_reducible refine v_max2t ?_)
      | (with_reducible refine v_min2t ?_)
      | (with_reducible refine x_srtPT ?_)
      | (with_reducible refine x_revv ?_)
      | (with_reducible refine v_revL ?_)
      | (with_reducible refine v_revT ?_)
      | (with_reducible refine x_lrg ?_)
      | (with_reducible refine x_chn ?_)
      | (with_reducible refine v_eqB ?_)
      | (with_reducible refine v_neB ?_)
      | (with_reducible refine v_eqP ?_)
      | (with_reducible refine v_neP ?_)
      | ((with_reducible apply x_scr); (· exact rfl))
      | ((with_reducible apply x_v); (· exact rfl))
      | ((with_reducible apply x_o); (· exact rfl))
      | ((with_reducible apply x_app); (· exact rfl))
      | ((with_reducible apply x_popA); (· exact rfl))
      | ((with_reducible apply x_ownAt); (· exact rfl))
      | ((with_reducible apply x_rso); (· exact rfl))
      | ((with_reducible apply xR1o); (· exact rfl))
      | ((with_reducible apply x_if); (· walk_at "sz"))
      | ((with_reducible apply k_add); (· walk_at "gd"); (· walk_at "gd"); (· decide))
      | ((with_reducible apply k_or); (· walk_at "gd"); (· walk_at "gd"); (· decide))
      | ((with_reducible apply k_and); (· walk_at "gd"); (· walk_at "gd"); (· decide))
      | ((with_reducible apply k_most); (· walk_at "gd"); (· walk_at "gd"); (· decide))
      | ((with_reducible apply k_rg); (· walk_at "gd"); (· decide))
      | ((with_reducible apply k_tot); (· walk_at "gd"); (· decide))
      | ((with_reducible apply k_pays); (· walk_at "gd"); (· decide))
      | ((with_reducible apply k_mk1); (· decide))
      | ((with_reducible apply k_mkPP); (· assumption); (· assumption))
      | ((with_reducible apply k_mk2); (· decide); (· decide))
      | ((with_reducible apply k_mk3); (· decide); (· decide); (· decide))
      | ((with_reducible apply k_call); (· walk_at "gd"); (· decide); (· omega); (· omega))
      | ((with_reducible apply v_addT); (· walk_at "sz"))
      | ((with_reducible apply v_addL); (· walk_at "sz"))
      | ((with_reducible apply v_addR); (· (first | omega | (simp only [List.length_append]; omega))))
      | ((with_reducible apply k_behind); (· walk_at "gd"); (· walk_at "gd"); (· decide); (· decide))
      | (dsimp only [List.set_cons_zero, List.set_cons_succ, nos, back, keepV, putOwn, List.getElem?_cons_succ, List.getElem?_cons_zero, List.nil_append, List.cons_append])
      | ((with_reducible apply v_repL); (· decide)))))
local macro_rules | `(tactic| walk_at "gon") => `(tactic| (repeat (first
      | (with_reducible refine s_seq ?_)
      | (with_reducible refine s_set ?_)
      | (with_reducible refine s_setO ?_)
      | (with_reducible refine s_par ?_)
      | (with_reducible refine s_par3 ?_)
      | (with_reducible refine s_parDO ?_)
      | (with_reducible refine s_parOD ?_)
      | (with_reducible refine s_parOO ?_)
      | (with_reducible refine s_asg ?_)
      | (with_reducible refine s_ifs ?_)
      | (with_reducible refine s_ret ?_)
      | (with_reducible refine s_nxt ?_)
      | (with_reducible refine s_drp ?_)
      | (with_reducible refine s_for ?_)
      | (with_reducible refine i_itm ?_)
      | (with_reducible refine i_rng1 ?_)
      | (with_reducible refine i_rng2 ?_)
      | (with_reducible refine x_c ?_)
      | (with_reducible refine x_bin ?_)
      | (with_reducible refine x_binF ?_)
      | (with_reducible refine x_un ?_)
      | (with_reducible refine x_tst ?_)
      | (with_reducible refine x_tor ?_)
      | (with_reducible refine x_tand ?_)
      | (with_reducible refine x_tnot ?_)
      | (with_reducible refine x_vand ?_)
      | (with_reducible refine x_vor ?_)
      | (with_reducible refine x_vnot ?_)
      | (with_reducible refine x_ite ?_)
      | (with_reducible refine x_iteT ?_)
      | (with_reducible refine x_yes ?_)
      | (with_reducible refine x_aN ?_)
      | (with_reducible refine x_aC ?_)
      | (with_reducible refine x_tup ?_)
      | (with_reducible refine x_lst ?_)
      | (with_reducible refine x_frz ?_)
      | (with_reducible refine x_cal ?_)
      | (with_reducible refine x_calF ?_)
      | (with_reducible refine x_call ?_)
      | (with_reducible refine x_callF ?_)
      | (with_reducible refine x_own2 ?_)
      | (with_reducible refine x_prp ?_)
      | (with_reducible refine x_mth ?_)
      | (with_reducible refine x_mk ?_)
      | (with_reducible refine x_isi ?_)
      | (with_reducible refine x_pNo ?_)
      | (with_reducible refine x_pSo ?_)
      | (with_reducible refine x_slc ?_)
      | (with_reducible refine g_n ?_)
      | (with_reducible refine g_t2 ?_)
      | (with_reducible refine g_t3 ?_)
      | (with_reducible refine g_l2 ?_)
      | (with_reducible refine g_l3 ?_)
      | (with_reducible refine f_lc ?_)
      | (with_reducible refine xD ?_)
      | (with_reducible refine xB ?_)
      | (with_reducible refine xI ?_)
      | (with_reducible refine xC ?_)
      | (with_reducible refine xSl ?_)
      | (with_reducible refine xSt ?_)
      | (with_reducible refine xF0 ?_)
      | (with_reducible refine xF1 ?_)
      | (with_reducible refine xF2 ?_)
      | (with_reducible refine xF3 ?_)
      | (with_reducible refine xR1 ?_)
      | (with_reducible refine xR2 ?_)
      | (with_reducible refine xA0 ?_)
      | (with_reducible refine xA1 ?_)
      | (with_reducible refine xA2 ?_)
      | (with_reducible refine xA3 ?_)
      | (with_reducible refine xA4 ?_)
      | (with_reducible refine x_rs ?_)
      | (with_reducible refine v_add ?_)
      | (with_reducible refine v_sub ?_)
      | (with_reducible refine v_lt ?_)
      | (with_reducible refine v_le ?_)
      | (with_reducible refine v_gt ?_)
      | (with_reducible refine v_ge ?_)
      | (with_reducible refine v_neg ?_)
      | (with_reducible refine v_p6 ?_)
      | (with_reducible refine v_p9 ?_)
      | (with_reducible refine v_p5 ?_)
      | (with_reducible refine v_p4 ?_)
      | (with_reducible refine v_p7 ?_)
      | (with_reducible refine v_max ?_)
      | (with_reducible refine v_min ?_)
      | (with_reducible refine v_lenL ?_)
      | (with_reducible refine v_lenT ?_)
      | (with_reducible refine v_tupL ?_)
      | (with_reducible refine v_tupT ?_)
      | (with_reducible refine v_lstL ?_)
      | (with_reducible refine v_lstT ?_)
      | (with_reducible refine v_sum ?_)
      | (with_reducible refine v_eqI ?_)
      | (with_reducible refine v_neI ?_)
      | (with_reducible refine v_eqR ?_)
      | (with_reducible refine v_neR ?_)
      | (with_reducible refine v_slice ?_)
      | (with_reducible refine v_sliceT ?_)
      | (with_reducible refine v_fld ?_)
      | (with_reducible refine k_eq ?_)
      | (with_reducible refine k_same ?_)
      | (with_reducible refine k_sameB ?_)
      | (with_reducible refine v_eqI0 ?_)
      | (with_reducible refine v_neI0 ?_)
      | (with_reducible refine v_eqM0 ?_)
      | (with_reducible refine v_isB ?_)
      | (with_reducible refine v_ix0 ?_)
      | (with_reducible refine v_ix1 ?_)
      | (with_reducible refine v_p0 ?_)
      | (with_reducible refine v_p1 ?_)
      | (with_reducible refine k_mk0 ?_)
      | (with_reducible refine iteT ?_)
      | (with_reducible refine iteF ?_)
      | (with_reducible refine ifnt ?_)
      | (with_reducible refine ifnf ?_)
      | (with_reducible refine x_popL ?_)
      | (with_reducible refine v_eqL0 ?_)
      | (with_reducible refine v_neL0 ?_)
      | (with_reducible refine v_eqL1 ?_)
      | (with_reducible refine v_neL1 ?_)
      | (with_reducible refine v_eqL2 ?_)
      | (with_reducible refine v_neL2 ?_)
      | (with_reducible refine v_eqL3 ?_)
      | (with_reducible refine v_neL3 ?_)
      | (with_reducible refine v_max2 ?_)
      | (with_reducible refine v_min2 ?_)
      | (with_reducible refine v_max2t ?_)
      | (with_reducible refine v_min2t ?_)
      | (with_reducible refine x_srtPT ?_)
      | (with_reducible refine x_revv ?_)
      | (with_reducible refine v_revL ?_)
      | (with_reducible refine v_revT ?_)
      | (with_reducible refine x_lrg ?_)
      | (with_reducible refine x_chn ?_)
      | (with_reducible refine v_eqB ?_)
      | (with_reducible refine v_neB ?_)
      | (with_reducible refine v_eqP ?_)
      | (with_reducible refine v_neP ?_)
      | ((with_reducible apply x_scr); (· exact rfl))
      | ((with_reducible apply x_v); (· exact rfl))
      | ((with_reducible apply x_o); (· exact rfl))
      | ((with_reducible apply x_app); (· exact rfl))
      | ((with_reducible apply x_popA); (· exact rfl))
      | ((with_reducible apply x_ownAt); (· exact rfl))
      | ((with_reducible apply x_rso); (· exact rfl))
      | ((with_reducible apply xR1o); (· exact rfl))
      | ((with_reducible apply x_if); (· walk_at "sz"))
      | ((with_reducible apply k_add); (· walk_at "gd"); (· walk_at "gd"); (· decide))
      | ((with_reducible apply k_or); (· walk_at "gd"); (· walk_at "gd"); (· decide))
      | ((with_reducible apply k_and); (· walk_at "gd"); (· walk_at "gd"); (· decide))
      | ((with_reducible apply k_most); (· walk_at "gd"); (· walk_at "gd"); (· decide))
      | ((with_reducible apply k_rg); (· walk_at "gd"); (· decide))
      | ((with_reducible apply k_tot); (· walk_at "gd"); (· decide))
      | ((with_reducible apply k_pays); (· walk_at "gd"); (· decide))
      | ((with_reducible apply k_mk1); (· decide))
      | ((with_reducible apply k_mkPP); (· assumption); (· assumption))
      | ((with_reducible apply k_mk2); (· decide); (· decide))
      | ((with_reducible apply k_mk3); (· decide); (· decide); (· decide))
      | ((with_reducible apply k_call); (· walk_at "gd"); (· decide); (· omega); (· omega))
      | ((with_reducible apply v_addT); (· walk_at "sz"))
      | ((with_reducible apply v_addL); (· walk_at "sz"))
      | ((with_reducible apply v_addR); (· (first | omega | (simp only [List.length_append]; omega))))
      | ((with_reducible apply k_behind); (· walk_at "gd"); (· walk_at "gd"); (· decide); (· decide))
      | (dsimp only [List.set_cons_zero, List.set_cons_succ, nos, back, keepV, putOwn, List.getElem?_cons_succ, List.getElem?_cons_zero, List.nil_append, List.cons_append])
      | ((with_reducible apply v_repL); (· decide)))))
def encR (r : List (Int × Int)) : D := .tup (r.map eP)
def fc : Nat → Nat
  | 0 => 1
  | n + 1 => fc n * (n + 1)
theorem fc_le : ∀ i, i ≤ 4 → fc i ≤ 24
  | 0, _ => by decide
  | 1, _ => by decide
  | 2, _ => by decide
  | 3, _ => by decide
  | 4, _ => by decide
  | n + 5, h => by omega
theorem ins_perm (p : Int × Int) (r : List (Int × Int)) (i : Nat) : (r.take i ++ p :: r.drop i).Perm (p :: r) := by
  have z : (r.take i ++ p :: r.drop i).Perm (p :: (r.take i ++ r.drop i)) := List.perm_middle
  rw [List.take_append_drop] at z
  exact z
theorem d__law_orders : ∀ as K, S__law_orders as K → b__law_orders (enOf as K) (as ++ List.replicate (N__law_orders.length - as.length) .no) := by
  rintro as K ⟨ps, rfl, hl, h⟩
  show b__law_orders _ [.val (.tup (ps.map eP)), .no, .no, .no, .no, .no]
  unfold b__law_orders
  walk_at "go"
  refine for_cnt (enc := eP) (fun i ρ => ∃ (rows : List (List (Int × Int))) (y1 y2 y3 : Sl), (∀ r ∈ rows, r.Perm (ps.take i)) ∧ rows.length ≤ fc i ∧ ρ = [.val (.tup (ps.map eP)), .val (.lst (rows.map encR)), y1, y2, y3, .no]) ps ⟨[[]], _, _, _, fun r hr => by rw [List.mem_singleton.mp hr]; simp, by decide, rfl⟩ (fun i p ρ hpi hi hρ nx hnx => ?_) (fun ρ hρ => ?_)
  · obtain ⟨rows, x2, x3, x4, hr, hrl, e⟩ := hρ
    subst e
    have hf := fc_le i (by omega)
    have htk : ps.take (i + 1) = ps.take i ++ [p] := by rw [List.take_add_one, hpi]; rfl
    walk_at "gon"
    refine for_cnt (enc := encR) (fun j ρ => ∃ (ls : List (List (Int × Int))) (y1 : Sl), (∀ r ∈ ls, r.Perm (ps.take (i + 1))) ∧ ls.length ≤ j * (i + 1) ∧ ρ = [.val (.tup (ps.map eP)), .val (.lst (rows.map encR)), .val (eP p), .val (.lst (ls.map encR)), y1, .no]) rows ⟨[], _, fun r hr => by simp at hr, by simp, rfl⟩ (fun j row ρ hrj hj hρ nx2 hnx2 => ?_) (fun ρ hρ => ?_)
    · obtain ⟨ls, x4, hls, hll, e⟩ := hρ
      subst e
      have hrow := hr row (List.mem_of_getElem? hrj)
      have hrowl : row.length = i := by rw [hrow.length_eq, List.length_take]; omega
      have hj2 : j * (i + 1) ≤ 24 * 5 := Nat.mul_le_mul (by omega) (by omega)
      have hi4 : i ≤ 3 := by omega
      rw [show encR row = D.tup (row.map eP) from rfl]
      with_reducible refine g_n ?_
      with_reducible refine s_set ?_
      with_reducible refine x_bin ?_
      with_reducible refine x_v rfl ?_
      with_reducible refine x_frz ?_
      with_reducible refine f_lc ?_
      with_reducible refine i_rng1 ?_
      with_reducible refine x_bin ?_
      with_reducible refine x_cal ?_
      with_reducible refine x_aC ?_
      with_reducible refine x_v rfl ?_
      with_reducible refine x_aN ?_
      with_reducible refine xR1 ?_
      with_reducible refine v_lenT ?_
      with_reducible refine x_c ?_
      with_reducible refine x_rs ?_
      with_reducible refine x_rs ?_
      with_reducible refine v_add ?_
      with_reducible refine xI ?_
      with_reducible refine x_if ?_ ?_
      · rw [List.length_map]
        omega
      with_reducible refine lc_rng (fun i => encR (row.take i ++ p :: row.drop i)) (by rw [List.length_map]; omega) (fun a ha k hk => ?_) ?_
      · rw [List.length_map] at ha
        have c1 : cutG (row.map eP) none (some (a : Int)) = (row.take a).map eP := by rw [cut_to, List.map_take]
        have c2 : cutG (row.map eP) (some (a : Int)) none = (row.drop a).map eP := by rw [cut_from, List.map_drop]
        have l1 : (row.take a).length ≤ 4 := by rw [List.length_take]; omega
        have l2 : (row.drop a).length ≤ 4 := by rw [List.length_drop]; omega
        walk_at "go"
        rw [c1]
        walk_at "go"
        rw [c2]
        walk_at "go"
        have ec : (row.take a).map eP ++ [eP p] ++ (row.drop a).map eP = (row.take a ++ p :: row.drop a).map eP := by simp
        rw [ec]
        exact hk _ rfl
      rw [List.length_map, hrowl]
      have e0 : ((i : Int) + 1).toNat = i + 1 := by omega
      rw [e0]
      have e1 : (List.range (i + 1)).map (fun i => encR (row.take i ++ p :: row.drop i)) = ((List.range (i + 1)).map fun i => row.take i ++ p :: row.drop i).map encR := by rw [List.map_map]; rfl
      rw [e1]
      walk_at "go"
      rw [← List.map_append]
      refine hnx2 _ ⟨ls ++ (List.range (i + 1)).map (fun i => row.take i ++ p :: row.drop i), _, fun r hr => ?_, ?_, rfl⟩
      · rcases List.mem_append.mp hr with h | h
        · exact hls r h
        · obtain ⟨a, _, e⟩ := List.mem_map.mp h
          rw [← e, htk]
          exact (ins_perm p row a).trans ((hrow.cons p).trans (List.perm_append_comm (l₁ := [p])))
      · rw [List.length_append, List.length_map, List.length_range, Nat.add_mul, Nat.one_mul]
        omega
    · obtain ⟨ls, x4, hls, hll, e⟩ := hρ
      subst e
      walk_at "go"
      exact hnx _ ⟨ls, _, _, _, hls, by
        have z : fc (i + 1) = fc i * (i + 1) := rfl
        rw [z]
        exact Nat.le_trans hll (Nat.mul_le_mul_right _ hrl), rfl⟩
  · obtain ⟨rows, x2, x3, x4, hr, hrl, e⟩ := hρ
    subst e
    rw [List.take_length] at hr
    have hf := fc_le ps.length hl
    walk_at "go"
    exact h rows hr (by omega)
theorem sum_bd : ∀ (ps : List (Int × Int)), (∀ p ∈ ps, 0 ≤ p.1 + p.2 ∧ p.1 + p.2 ≤ 12) → 0 ≤ (ps.map fun p => p.1 + p.2).sum ∧ (ps.map fun p => p.1 + p.2).sum ≤ 12 * (ps.length : Int)
  | [], _ => by simp
  | p :: ps, h => by
    obtain ⟨a, b⟩ := sum_bd ps fun q hq => h q (List.mem_cons_of_mem _ hq)
    have c := h p List.mem_cons_self
    rw [List.map_cons, List.sum_cons, List.length_cons]
    omega
theorem d_law : ∀ (a : Addr) (ns : List Int), ns.length ≤ 63 → b_law a ns enLaw (.raw a :: List.replicate (N_law.length - 1) .no) := by
  intro a ns hns
  show b_law a ns enLaw [.raw a, .no, .no, .no, .no, .no, .no, .no, .no, .no, .no, .no, .no, .no, .no]
  unfold b_law
  walk_at "go"
  rw [cut_8]
  refine for_all (fun ρ => ∃ (y1 y2 y3 y4 y5 y6 y7 y8 y9 y10 : Sl), ρ = [.raw a, y1, y2, y3, y4, .no, .no, y5, y6, y7, .no, .no, y8, y9, y10]) _ ⟨_, _, _, _, _, _, _, _, _, _, rfl⟩ (fun cell hcell ρ hρ nx hnx => ?_) (fun ρ hρ => ?_)
  · obtain ⟨x1, x2, x3, x4, x7, x8, x9, x12, x13, x14, e⟩ := hρ
    subst e
    walk_at "go"
    refine a_deck (by decide) (by decide) fun dk fdk => ?_
    walk_at "go"
    refine a_pols rfl (fdk.mono (k := 999998000 + 100) (by decide)) (by decide) (by decide) (by decide) (by decide) fun ps d2 hps ops f2 => ?_
    have op : ∀ p ∈ ps, okPol p := fun p hp => (ops p hp).1
    have hps4 : ps.length ≤ 4 := by omega
    walk_at "go"
    refine lc_map (enc := eP) ps (fun p => .int (p.1 + p.2)) (by omega) (fun p hp k hk => ?_) ?_
    · refine g_t2 (a := .int p.1) (b := .int p.2) ?_
      walk_at "go"
      exact hk _ rfl
    have es : ps.map (fun p => D.int (p.1 + p.2)) = (ps.map fun p => p.1 + p.2).map D.int := by rw [List.map_map]; rfl
    rw [es]
    have hs := sum_bd ps fun p hp => by
      have h1 := ops p hp
      have h2 := h1.1.1
      have h3 := h1.1.2.2.1
      omega
    generalize (ps.map fun p => p.1 + p.2) = sm at hs
    walk_at "go"
    generalize sm.sum = top at hs
    refine ⟨ps, rfl, hps4, fun rows hrows hrl => ?_⟩
    walk_at "go"
    refine for_all (enc := encR) (fun ρ => ∃ (y1 y2 y3 y4 y5 y6 y7 : Sl), ρ = [.raw a, y1, .own false d2, .val (.tup (ps.map eP)), .val (.int (top + 1)), .no, .no, y2, y3, y4, .no, .no, y5, y6, y7]) rows ⟨_, _, _, _, _, _, _, rfl⟩ (fun row hrow ρ hρ nx2 hnx2 => ?_) (fun ρ hρ => ?_)
    · obtain ⟨x1, x7, x8, x9, x12, x13, x14, e⟩ := hρ
      subst e
      rw [show encR row = D.tup (row.map eP) from rfl]
      walk_at "go"
      rw [rgD_eq]
      refine ⟨ps, row, _, rfl, by omega, op, hrows row hrow, ?_⟩
      walk_at "go"
      exact hnx2 _ ⟨_, _, _, _, _, _, _, rfl⟩
    · obtain ⟨x1, x7, x8, x9, x12, x13, x14, e⟩ := hρ
      subst e
      clear hs hrows hps hps4 ops op es
      walk_at "go"
      refine a_one2 rfl (f2.mono (k := 999997000 + 1) (by decide)) fun w d3 hw f3 => ?_
      have hw2 : 2 ≤ w := by omega
      have hw3 : w ≤ 1000000 := by omega
      clear hw
      walk_at "go"
      refine a_pols rfl (f3.mono (k := 999996000 + 100) (by decide)) (by decide) (by decide) hw2 hw3 fun ps d4 hps ops f4 => ?_
      have op : ∀ p ∈ ps, okPol p := fun p hp => (ops p hp).1
      have hps8 : ps.length ≤ 8 := by omega
      clear ops hps
      walk_at "go"
      refine for_rng (fun i ρ => ∃ (d : List D) (y1 y2 y3 y4 y5 y6 y7 y8 : Sl), Fu (999990000 - 1000 * i) d ∧ ρ = [.raw a, y1, .own false d, .val (.tup (ps.map eP)), y2, .no, .no, y3, y4, y5, .no, .no, y6, y7, y8]) ⟨d4, _, _, _, _, _, _, _, _, f4.mono (by omega), rfl⟩ (fun i ρ hi hρ nx2 hnx2 => ?_) (fun ρ hρ => ?_)
      · obtain ⟨d, x1, x4, x7, x8, x9, x12, x13, x14, fd, e⟩ := hρ
        subst e
        walk_at "go"
        refine a_mixed rfl (fd.mono (k := 999990000 - 1000 * i - 200 + 100) (by omega)) (by omega) fun qs d5 pm f5 => ?_
        have oq : ∀ p ∈ qs, okPol p := fun p hp => op p (pm.mem_iff.mp hp)
        have lq : qs.length ≤ 8 := by rw [pm.length_eq]; exact hps8
        have gq : Gd 8 (made qs) := gd_made lq oq
        have hl1 := gq.l
        walk_at "go"
        refine k_made (by omega) oq ?_
        walk_at "go"
        refine lc_map (enc := rgP) (made qs) (fun p => .int p.2) (by omega) (fun p hp k hk => ?_) ?_
        · refine g_t2 (a := .int (p.1 + 1)) (b := .int p.2) ?_
          walk_at "go"
          exact hk _ rfl
        walk_at "go"
        refine a_pick rfl (f5.mono (k := 999990000 - 1000 * i - 300 + 1) (by omega)) (by omega) (by omega) fun r d6 r0 r1 f6 => ?_
        walk_at "go"
        refine k_made (by omega) oq ?_
        walk_at "go"
        refine lc_map (enc := rgP) (made qs) (fun p => .int (p.1 + 1 - 1)) (by omega) (fun p hp k hk => ?_) ?_
        · refine g_t2 (a := .int (p.1 + 1)) (b := .int p.2) ?_
          walk_at "go"
          exact hk _ rfl
        walk_at "go"
        have eb : (made qs).map (fun p : Int × Int => D.int p.2) ++ [.int r] ++ (made qs).map (fun p : Int × Int => D.int (p.1 + 1 - 1)) = ((made qs).map (fun p : Int × Int => p.2) ++ [r] ++ (made qs).map (fun p : Int × Int => p.1 + 1 - 1)).map D.int := by
          rw [List.map_append, List.map_append, List.map_map, List.map_map]
          rfl
        rw [eb]
        refine ⟨ps, qs, _, rfl, hps8, op, pm, ?_⟩
        walk_at "go"
        exact hnx2 _ ⟨_, _, _, _, _, _, _, _, _, f6.mono (by omega), rfl⟩
      · obtain ⟨d, x1, x4, x7, x8, x9, x12, x13, x14, fd, e⟩ := hρ
        subst e
        walk_at "go"
        rw [cut_4]
        refine for_all (enc := eP) (fun ρ => ∃ (y1 y2 y3 y4 y5 y6 y7 y8 y9 : Sl), ρ = [.raw a, y1, y2, .val (.tup (ps.map eP)), y3, .no, .no, y4, y5, y6, .no, .no, y7, y8, y9]) (ps.take 4) ⟨_, _, _, _, _, _, _, _, _, rfl⟩ (fun p hp ρ hρ nx2 hnx2 => ?_) (fun ρ hρ => ?_)
        · obtain ⟨x1, x2, x4, x7, x8, x9, x12, x13, x14, e⟩ := hρ
          subst e
          have okp := op p (List.mem_of_mem_take hp)
          walk_at "go"
          rw [cut_4]
          refine for_all (enc := eP) (fun ρ => ∃ (y1 y2 y3 y4 y5 y6 y7 y8 : Sl), ρ = [.raw a, y1, y2, .val (.tup (ps.map eP)), y3, .no, .no, y4, y5, y6, .no, .no, .val (eP p), y7, y8]) (ps.take 4) ⟨_, _, _, _, _, _, _, _, rfl⟩ (fun q hq ρ hρ nx3 hnx3 => ?_) (fun ρ hρ => ?_)
          · obtain ⟨x1, x2, x4, x7, x8, x9, x13, x14, e⟩ := hρ
            subst e
            have okq := op q (List.mem_of_mem_take hq)
            have hd : decide (made [p, q] = made [q, p]) = decide (p.1 = q.1) := decide_eq_decide.mpr (two_iff okp okq)
            walk_at "go"
            rw [hd]
            refine ⟨p, q, rfl, okp, okq, ?_⟩
            walk_at "go"
            refine x_noB (by simp) ?_
            walk_at "go"
            refine x_noB (by simp) ?_
            walk_at "go"
            exact hnx3 _ ⟨_, _, _, _, _, _, _, _, rfl⟩
          · obtain ⟨x1, x2, x4, x7, x8, x9, x13, x14, e⟩ := hρ
            subst e
            walk_at "go"
            exact hnx2 _ ⟨_, _, _, _, _, _, _, _, _, rfl⟩
        · obtain ⟨x1, x2, x4, x7, x8, x9, x12, x13, x14, e⟩ := hρ
          subst e
          walk_at "go"
          exact hnx _ ⟨_, _, _, _, _, _, _, _, _, _, rfl⟩
  · obtain ⟨x1, x2, x3, x4, x7, x8, x9, x12, x13, x14, e⟩ := hρ
    subst e
    walk_at "go"
    refine ⟨[], rfl, by decide, by simp, ?_⟩
    walk_at "go"
    refine v_neC false (by decide +kernel) ?_
    walk_at "go"
    refine ⟨[(3, 1)], rfl, by decide, by decide, ?_⟩
    walk_at "go"
    refine v_neC false (by decide +kernel) ?_
    walk_at "go"
    refine ⟨[(4, 3), (10, 5)], rfl, by decide, by decide, ?_⟩
    walk_at "go"
    refine v_eqC true (by decide +kernel) ?_
    walk_at "go"
    refine ⟨(4, 3), (4, 9), rfl, by decide, by decide, ?_⟩
    walk_at "go"
    exact congrArg (fun b => Xv.d (D.bl b)) (by decide +kernel)
end DL
set_option Elab.async false
set_option linter.all false
set_option maxRecDepth 100000
set_option maxHeartbeats 4000000
namespace DL
open PySem PySem.Spec PyProof.Rows L2
def topS (i : Nat) : Stmt := PySem.Challenge.pw_coverchains_k05_whole_best_and_worst_ord.main.body.getD i (.Pass ⟨0, 0, 0, 0⟩)
def stAt (s : Stmt) (i : Nat) : Stmt := (defBody s).getD i (.Pass ⟨0, 0, 0, 0⟩)
def valOf : Stmt → Expr
  | .Assign _ e _ => e
  | _ => .Constant .none 0 ⟨0, 0, 0, 0⟩
theorem pdss_never {X : Cx} {G : Gm} {B : Bs} {st : Stmt} {rest : List Stmt} : PDSs X G B (st :: rest) (fun _ _ => False) := ⟨fun pins s σ H D I h => by obtain ⟨F, ρ, P, S, h, R⟩ := h; exact h.elim⟩
section
variable {P : Program} {w : World} {K : PySem.W.Frag} {mg : Str → Option Value} {base : Heap} {G : Gm} {f : Addr}
/-! _law_deck -/
def s__law_deck : Stmt := topS 36
theorem nd__law_deck : N__law_deck.Nodup := by decide +kernel
theorem sc__law_deck : FnScope N__law_deck ["cell", "turn"] (defScope s__law_deck) := C8.fnScope_by (by decide +kernel)
theorem der__law_deck (cdv : Value) (A : Around) (outer : List Env) (s : Shared) (H : Hp) (E : XK) (B : Bs) (hr : Room 0 (A.deeper (envOfC "_law_deck" (defScope s__law_deck) s.heap.objs.size f cdv))) : PDSs (cxOf CX0 P w K mg base N__law_deck "_law_deck" (defScope s__law_deck) f cdv A outer s H E).nox G B (defBody s__law_deck) b__law_deck :=
  have nd := nd__law_deck
  pds_cons (pds_if (pdt_ge (pd_v 0) (pd_pow (pd_int) (pd_int))) (pds_one (pds_retF (pf_lst (pda_cons (pd_sub (pd_v 0) (pd_pow (pd_int) (pd_int))) (pda_cons (pd_mod (pd_v 0) (pd_int)) (pda_cons (pd_v 1) (pda_nil))))))) (pds_nil)) (pds_one (pds_retF (pf_lst (pda_cons (pd_int) (pda_cons (pd_mod (pd_v 0) (pd_int)) (pda_cons (pd_v 1) (pda_nil)))))))
/-! _law_pick -/
def s__law_pick : Stmt := topS 37
theorem nd__law_pick : N__law_pick.Nodup := by decide +kernel
theorem sc__law_pick : FnScope N__law_pick ["deck", "limit"] (defScope s__law_pick) := C8.fnScope_by (by decide +kernel)
theorem der__law_pick (cdv : Value) (A : Around) (outer : List Env) (s : Shared) (H : Hp) (E : XK) (B : Bs) (hr : Room 0 (A.deeper (envOfC "_law_pick" (defScope s__law_pick) s.heap.objs.size f cdv))) : PDSs (cxOf CX0 P w K mg base N__law_pick "_law_pick" (defScope s__law_pick) f cdv A outer s H E).nox G B (defBody s__law_pick) b__law_pick :=
  have nd := nd__law_pick
  pds_cons (pds_if (pdt_gt (pd_sx (pd_v 0) (pd_int)) (pd_int)) (pds_cons (pds_set (i := 2) nd (pd_mod (pd_sx (pd_v 0) (pd_int)) (pd_v 1))) (pds_cons (pds_sti (i := 0) (ps_asg (pd_fdiv (pd_sx (pd_v 0) (pd_int)) (pd_v 1)) (pg_sub (pv _) (pd_int) set_list))) (pds_one (pds_ret (pd_v 2))))) (pds_nil)) (pds_cons (pds_sti (i := 0) (ps_asg (pd_add (pd_sx (pd_v 0) (pd_int)) (pd_int)) (pg_sub (pv _) (pd_int) set_list))) (pds_cons (pds_set (i := 3) nd (pd_mod (pd_pow (pd_add (pd_sx (pd_v 0) (pd_int)) (pd_mul (pd_int) (pd_sx (pd_v 0) (pd_int)))) (pd_int)) (pd_int))) (pds_cons (pds_set (i := 2) nd (pd_fdiv (pd_mod (pd_pow (pd_add (pd_v 3) (pd_mul (pd_int) (pd_sx (pd_v 0) (pd_int)))) (pd_int)) (pd_int)) (pd_int))) (pds_cons (pds_if (pdt_gt (pd_v 1) (pd_int)) (pds_one (pds_ret (pd_mod (pd_add (pd_mul (pd_v 2) (pd_int)) (pd_v 3)) (pd_v 1)))) (pds_nil)) (pds_one (pds_ret (pd_mod (pd_v 2) (pd_v 1))))))))
/-! _law_one -/
def s__law_one : Stmt := topS 38
theorem nd__law_one : N__law_one.Nodup := by decide +kernel
theorem sc__law_one : FnScope N__law_one ["deck", "some"] (defScope s__law_one) := C8.fnScope_by (by decide +kernel)
theorem der__law_one (hb : Bi mg) (k__law_pick : Kn P w K mg base G 1 "_law_pick" S__law_pick) (cdv : Value) (A : Around) (outer : List Env) (s : Shared) (H : Hp) (E : XK) (B : Bs) (hr : Room 1 (A.deeper (envOfC "_law_one" (defScope s__law_one) s.heap.objs.size f cdv))) : PDSs (cxOf CX0 P w K mg base N__law_one "_law_one" (defScope s__law_one) f cdv A outer s H E).nox G B (defBody s__law_one) b__law_one :=
  have nd := nd__law_one
  pds_one (pds_ret (pd_sx (pd_v 1) (pd_call k__law_pick (hr.mono (by decide)) (pda_cons (pd_v 0) (pda_cons (pd_len hb (pda_cons (pd_v 1) (pda_nil))) (pda_nil))))))
/-! _law_policies -/
def s__law_policies : Stmt := topS 44
theorem nd__law_policies : N__law_policies.Nodup := by decide +kernel
theorem sc__law_policies : FnScope N__law_policies ["deck", "most_so", "wide"] (defScope s__law_policies) := C8.fnScope_by (by decide +kernel)
theorem der__law_policies (hb : Bi mg) (k__law_pick : Kn P w K mg base G 1 "_law_pick" S__law_pick) (k__law_one : Kn P w K mg base G 2 "_law_one" S__law_one) (cdv : Value) (A : Around) (outer : List Env) (s : Shared) (H : Hp) (E : XK) (B : Bs) (hr : Room 2 (A.deeper (envOfC "_law_policies" (defScope s__law_policies) s.heap.objs.size f cdv))) : PDSs (cxOf CX0 P w K mg base N__law_policies "_law_policies" (defScope s__law_policies) f cdv A outer s H E).nox G B (defBody s__law_policies) b__law_policies :=
  have nd := nd__law_policies
  pds_cons (pds_setO (i := 3) nd (pf_lst (pda_nil))) (pds_cons (pds_for PassesOwn.never rfl (pdi_range1 hb.range (pd_call k__law_pick (hr.mono (by decide)) (pda_cons (pd_v 0) (pda_cons (pd_add (pd_v 1) (pd_int)) (pda_nil))))) (pdg_n (i := 4) nd) (pds_cons (pds_set (i := 5) nd (pd_call k__law_one (hr.mono (by decide)) (pda_cons (pd_v 0) (pda_cons (pd_add (pd_frz (pf_lst (pda_cons (pd_int) (pda_cons (pd_call k__law_pick (hr.mono (by decide)) (pda_cons (pd_v 0) (pda_cons (pd_v 2) (pda_nil)))) (pda_cons (pd_call k__law_pick (hr.mono (by decide)) (pda_cons (pd_v 0) (pda_cons (pd_v 2) (pda_nil)))) (pda_nil)))))) (pd_frz (pf_lc (own := [("pair", 6)]) rfl nd (pdi_seq (pd_slice (pd_v 3) (pdo_no) (pdo_so (pd_int)))) (blkOk_by (N := N__law_policies) (sc := defScope s__law_policies) (by decide +kernel)) (fun _ _ _ _ _ => pdg_n (i := 6) nd) (fun _ _ _ _ _ => pdts_nil) (fun _ _ _ _ _ => pd_sx (pd_v 6) (pd_int))))) (pda_nil))))) (pds_one (pds_expr (pd_app (i := 3) (pe_bm PySem.F.plainAttrs_list PySem.F.slot_list_append PySem.F.type_list_append mt_append (pv _) (pa_cons (pd_tup (pda_cons (pd_v 5) (pda_cons (pd_add (pd_int) (pd_call k__law_pick (hr.mono (by decide)) (pda_cons (pd_v 0) (pda_cons (pd_call k__law_one (hr.mono (by decide)) (pda_cons (pd_v 0) (pda_cons (pd_frz (pf_lst (pda_cons (pd_int) (pda_cons (pd_v 2) (pda_nil))))) (pda_nil)))) (pda_nil))))) (pda_nil)))) pa_nil))))))) (pds_one (pds_ret (pd_tuple hb (pda_cons (pd_v 3) (pda_nil))))))
/-! _law_orders -/
def s__law_orders : Stmt := topS 47
theorem nd__law_orders : N__law_orders.Nodup := by decide +kernel
theorem sc__law_orders : FnScope N__law_orders ["some"] (defScope s__law_orders) := C8.fnScope_by (by decide +kernel)
theorem der__law_orders (hb : Bi mg) (cdv : Value) (A : Around) (outer : List Env) (s : Shared) (H : Hp) (E : XK) (B : Bs) (hr : Room 0 (A.deeper (envOfC "_law_orders" (defScope s__law_orders) s.heap.objs.size f cdv))) : PDSs (cxOf CX0 P w K mg base N__law_orders "_law_orders" (defScope s__law_orders) f cdv A outer s H E).nox G B (defBody s__law_orders) b__law_orders :=
  have nd := nd__law_orders
  pds_cons (pds_set (i := 1) nd (pd_frz (pf_lst (pda_cons (pd_tup (pda_nil)) (pda_nil))))) (pds_cons (pds_for PassesOwn.never rfl (pdi_seq (pd_v 0)) (pdg_n (i := 2) nd) (pds_cons (pds_set (i := 3) nd (pd_frz (pf_lst (pda_nil)))) (pds_cons (pds_for PassesOwn.never rfl (pdi_seq (pd_v 1)) (pdg_n (i := 4) nd) (pds_one (pds_set (i := 3) nd (pd_add (pd_v 3) (pd_frz (pf_lc (own := [("at", 5)]) rfl nd (pdi_range1 hb.range (pd_add (pd_len hb (pda_cons (pd_v 4) (pda_nil))) (pd_int))) (blkOk_by (N := N__law_orders) (sc := defScope s__law_orders) (by decide +kernel)) (fun _ _ _ _ _ => pdg_n (i := 5) nd) (fun _ _ _ _ _ => pdts_nil) (fun _ _ _ _ _ => pd_add (pd_add (pd_slice (pd_v 4) (pdo_no) (pdo_so (pd_v 5))) (pd_tup (pda_cons (pd_v 2) (pda_nil)))) (pd_slice (pd_v 4) (pdo_so (pd_v 5)) (pdo_no))))))))) (pds_one (pds_set (i := 1) nd (pd_v 3)))))) (pds_one (pds_ret (pd_v 1))))
/-! is_from -/
def s_is_from : Stmt := topS 11
theorem nd_is_from : N_is_from.Nodup := by decide +kernel
theorem sc_is_from : FnScope N_is_from ["value", "low", "high"] (defScope s_is_from) := C8.fnScope_by (by decide +kernel)
theorem der_is_from (hb : Bi mg) (hG : K = G.K) (cdv : Value) (A : Around) (outer : List Env) (s : Shared) (H : Hp) (E : XK) (B : Bs) (hr : Room 0 (A.deeper (envOfC "is_from" (defScope s_is_from) s.heap.objs.size f cdv))) : PDSs (cxOf CX0 P w K mg base N_is_from "is_from" (defScope s_is_from) f cdv A outer s H E).nox G B (defBody s_is_from) b_is_from :=
  have nd := nd_is_from
  pds_one (pds_ret (pd_and (pd_isT hG hb hb.int PyProof.Rows.boot_int (pd_v 0)) (pd_and (pd_not (pd_isT hG hb hb.bool PyProof.Rows.boot_bool (pd_v 0))) (pd_one (pd_chain op_le opd_leI op_le opd_leI (pd_v 1) (pd_v 0) (pd_v 2))))))
/-! is_policy -/
def s_is_policy : Stmt := topS 12
theorem nd_is_policy : N_is_policy.Nodup := by decide +kernel
theorem sc_is_policy : FnScope N_is_policy ["value"] (defScope s_is_policy) := C8.fnScope_by (by decide +kernel)
theorem der_is_policy (hb : Bi mg) (hG : K = G.K) (c_LARGEST_PART : ∃ t, mg "LARGEST_PART" = some (.int 1000000 t)) (k_is_from : Kn P w K mg base G 1 "is_from" S_is_from) (cdv : Value) (A : Around) (outer : List Env) (s : Shared) (H : Hp) (E : XK) (B : Bs) (hr : Room 1 (A.deeper (envOfC "is_policy" (defScope s_is_policy) s.heap.objs.size f cdv))) : PDSs (cxOf CX0 P w K mg base N_is_policy "is_policy" (defScope s_is_policy) f cdv A outer s H E).nox G B (defBody s_is_policy) b_is_policy :=
  have nd := nd_is_policy
  pds_cons (pds_if (pdt_w (pdw_or (pdt_not (pdt_val (pd_isT hG hb hb.tuple PyProof.Rows.boot_tuple (pd_v 0)))) (pdw_or1 (pdt_ne hG hr (pd_len hb (pda_cons (pd_v 0) (pda_nil))) (pd_int))))) (pds_one (pds_ret (pd_bl))) (pds_nil)) (pds_one (pds_ret (pd_and (pd_call k_is_from (hr.mono (by decide)) (pda_cons (pd_sx (pd_v 0) (pd_int)) (pda_cons (pd_int) (pda_cons (pd_globI c_LARGEST_PART) (pda_nil))))) (pd_one (pd_call k_is_from (hr.mono (by decide)) (pda_cons (pd_sx (pd_v 0) (pd_int)) (pda_cons (pd_int) (pda_cons (pd_globI c_LARGEST_PART) (pda_nil)))))))))
/-! need_policies -/
def s_need_policies : Stmt := topS 31
theorem nd_need_policies : N_need_policies.Nodup := by decide +kernel
theorem sc_need_policies : FnScope N_need_policies ["policies"] (defScope s_need_policies) := C8.fnScope_by (by decide +kernel)
theorem der_need_policies (hb : Bi mg) (v_Cover_MOST : mg "Cover" = some (.ref (G.ca 0)) ∧ CvI K (G.ca 0) "MOST" 8) (hG : K = G.K) (k_is_policy : Kn P w K mg base G 2 "is_policy" S_is_policy) (cdv : Value) (A : Around) (outer : List Env) (s : Shared) (H : Hp) (E : XK) (B : Bs) (hr : Room 2 (A.deeper (envOfC "need_policies" (defScope s_need_policies) s.heap.objs.size f cdv))) : PDSs (cxOf CX0 P w K mg base N_need_policies "need_policies" (defScope s_need_policies) f cdv A outer s H E).nox G B (defBody s_need_policies) b_need_policies :=
  have nd := nd_need_policies
  pds_cons (pds_if (pdt_w (pdw_or (pdt_not (pdt_val (pd_isT hG hb hb.tuple PyProof.Rows.boot_tuple (pd_v 0)))) (pdw_or1 (pdt_gt (pd_len hb (pda_cons (pd_v 0) (pda_nil))) (pd_cval v_Cover_MOST.1 v_Cover_MOST.2))))) (pds_one (pds_never)) (pds_nil)) (pds_one (pds_if (pdt_not (pdt_val (pd_all rfl hb (pda_cons (pd_frz (pf_lc (own := [("policy", 1)]) rfl nd (pdi_seq (pd_v 0)) (blkOk_by (N := N_need_policies) (sc := defScope s_need_policies) (by decide +kernel)) (fun _ _ _ _ _ => pdg_n (i := 1) nd) (fun _ _ _ _ _ => pdts_nil) (fun _ _ _ _ _ => pd_call k_is_policy (hr.mono (by decide)) (pda_cons (pd_v 1) (pda_nil))))) (pda_nil))))) (pds_one (pds_never)) (pds_nil)))
/-! worst_order -/
def s_worst_order : Stmt := topS 33
theorem nd_worst_order : N_worst_order.Nodup := by decide +kernel
theorem sc_worst_order : FnScope N_worst_order ["policies"] (defScope s_worst_order) := C8.fnScope_by (by decide +kernel)
theorem der_worst_order (k_need_policies : Kn P w K mg base G 3 "need_policies" S_need_policies) (hb : Bi mg) (cdv : Value) (A : Around) (outer : List Env) (s : Shared) (H : Hp) (E : XK) (B : Bs) (hr : Room 3 (A.deeper (envOfC "worst_order" (defScope s_worst_order) s.heap.objs.size f cdv))) : PDSs (cxOf CX0 P w K mg base N_worst_order "worst_order" (defScope s_worst_order) f cdv A outer s H E).nox G B (defBody s_worst_order) b_worst_order :=
  have nd := nd_worst_order
  pds_cons (pds_expr (pd_call k_need_policies (hr.mono (by decide)) (pda_cons (pd_v 0) (pda_nil)))) (pds_one (pds_ret (pd_tuple hb (pda_cons (pd_frz (pf_srtPT hb (pda_cons (pd_v 0) (pda_nil)))) (pda_nil)))))
/-! best_order -/
def s_best_order : Stmt := topS 32
theorem nd_best_order : N_best_order.Nodup := by decide +kernel
theorem sc_best_order : FnScope N_best_order ["policies"] (defScope s_best_order) := C8.fnScope_by (by decide +kernel)
theorem der_best_order (k_need_policies : Kn P w K mg base G 3 "need_policies" S_need_policies) (hb : Bi mg) (cdv : Value) (A : Around) (outer : List Env) (s : Shared) (H : Hp) (E : XK) (B : Bs) (hr : Room 3 (A.deeper (envOfC "best_order" (defScope s_best_order) s.heap.objs.size f cdv))) : PDSs (cxOf CX0 P w K mg base N_best_order "best_order" (defScope s_best_order) f cdv A outer s H E).nox G B (defBody s_best_order) b_best_order :=
  have nd := nd_best_order
  pds_cons (pds_expr (pd_call k_need_policies (hr.mono (by decide)) (pda_cons (pd_v 0) (pda_nil)))) (pds_one (pds_ret (pd_tuple hb (pda_cons (pd_rev (pd_frz (pf_srtPT hb (pda_cons (pd_v 0) (pda_nil))))) (pda_nil)))))
/-! _law_chain -/
def s__law_chain : Stmt := topS 41
theorem nd__law_chain : N__law_chain.Nodup := by decide +kernel
theorem sc__law_chain : FnScope N__law_chain ["some", "bill"] (defScope s__law_chain) := C8.fnScope_by (by decide +kernel)
theorem der__law_chain (hb : Bi mg) (cdv : Value) (A : Around) (outer : List Env) (s : Shared) (H : Hp) (E : XK) (B : Bs) (hr : Room 0 (A.deeper (envOfC "_law_chain" (defScope s__law_chain) s.heap.objs.size f cdv))) : PDSs (cxOf CX0 P w K mg base N__law_chain "_law_chain" (defScope s__law_chain) f cdv A outer s H E).nox G B (defBody s__law_chain) b__law_chain :=
  have nd := nd__law_chain
  pds_cons (pds_set (i := 2) nd (pd_v 1)) (pds_cons (pds_for PassesOwn.never rfl (pdi_seq (pd_v 0)) (pdg_tup rfl (pdg_cons (pdg_n (i := 3) nd) (pdg_cons (pdg_n (i := 4) nd) (pdg_nil)))) (pds_one (pds_set (i := 2) nd (pd_sub (pd_v 2) (pd_min2 rfl hb (pda_cons (pd_v 4) (pda_cons (pd_max2 rfl hb (pda_cons (pd_int) (pda_cons (pd_sub (pd_v 2) (pd_v 3)) (pda_nil)))) (pda_nil)))))))) (pds_one (pds_ret (pd_sub (pd_v 1) (pd_v 2)))))
/-! lifted -/
def s_lifted : Stmt := topS 19
theorem nd_lifted : N_lifted.Nodup := by decide +kernel
theorem sc_lifted : FnScope N_lifted ["spans", "rank"] (defScope s_lifted) := C8.fnScope_by (by decide +kernel)
theorem der_lifted (cdv : Value) (A : Around) (outer : List Env) (s : Shared) (H : Hp) (E : XK) (B : Bs) (hr : Room 0 (A.deeper (envOfC "lifted" (defScope s_lifted) s.heap.objs.size f cdv))) : PDSs (cxOf CX0 P w K mg base N_lifted "lifted" (defScope s_lifted) f cdv A outer s H E).nox G B (defBody s_lifted) b_lifted :=
  have nd := nd_lifted
  pds_cons (pds_set (i := 2) nd (pd_v 1)) (pds_cons (pds_for PassesOwn.never rfl (pdi_seq (pd_v 0)) (pdg_tup rfl (pdg_cons (pdg_n (i := 3) nd) (pdg_cons (pdg_n (i := 4) nd) (pdg_nil)))) (pds_one (pds_if (pdt_le (pd_v 3) (pd_v 2)) (pds_one (pds_set (i := 2) nd (pd_sub (pd_add (pd_v 2) (pd_v 4)) (pd_v 3)))) (pds_nil)))) (pds_one (pds_ret (pd_v 2))))
/-! joined -/
def s_joined : Stmt := topS 17
theorem nd_joined : N_joined.Nodup := by decide +kernel
theorem sc_joined : FnScope N_joined ["spans"] (defScope s_joined) := C8.fnScope_by (by decide +kernel)
theorem der_joined (hb : Bi mg) (hG : K = G.K) (cdv : Value) (A : Around) (outer : List Env) (s : Shared) (H : Hp) (E : XK) (B : Bs) (hr : Room 0 (A.deeper (envOfC "joined" (defScope s_joined) s.heap.objs.size f cdv))) : PDSs (cxOf CX0 P w K mg base N_joined "joined" (defScope s_joined) f cdv A outer s H E).nox G B (defBody s_joined) b_joined :=
  have nd := nd_joined
  pds_cons (pds_set (i := 1) nd (pd_frz (pf_lst (pda_nil)))) (pds_cons (pds_for PassesOwn.never rfl (pdi_seq (pd_frz (pf_srtP hb (pda_cons (pd_v 0) (pda_nil))))) (pdg_tup rfl (pdg_cons (pdg_n (i := 2) nd) (pdg_cons (pdg_n (i := 3) nd) (pdg_nil)))) (pds_one (pds_if (pdt_gt (pd_v 3) (pd_v 2)) (pds_one (pds_if (pdt_w (pdw_and (pdt_ne hG hr (pd_v 1) (pd_frz (pf_lst (pda_nil)))) (pdw_and1 (pdt_le (pd_v 2) (pd_sx (pd_sx (pd_v 1) (pd_neg (pd_int))) (pd_int)))))) (pds_one (pds_set (i := 1) nd (pd_add (pd_slice (pd_v 1) (pdo_no) (pdo_so (pd_neg (pd_int)))) (pd_frz (pf_lst (pda_cons (pd_tup (pda_cons (pd_sx (pd_sx (pd_v 1) (pd_neg (pd_int))) (pd_int)) (pda_cons (pd_max2 rfl hb (pda_cons (pd_v 3) (pda_cons (pd_sx (pd_sx (pd_v 1) (pd_neg (pd_int))) (pd_int)) (pda_nil)))) (pda_nil)))) (pda_nil))))))) (pds_one (pds_set (i := 1) nd (pd_add (pd_v 1) (pd_frz (pf_lst (pda_cons (pd_tup (pda_cons (pd_v 2) (pda_cons (pd_v 3) (pda_nil)))) (pda_nil))))))))) (pds_nil)))) (pds_one (pds_ret (pd_tuple hb (pda_cons (pd_v 1) (pda_nil))))))
/-! chained -/
def s_chained : Stmt := topS 20
theorem nd_chained : N_chained.Nodup := by decide +kernel
theorem sc_chained : FnScope N_chained ["first", "second"] (defScope s_chained) := C8.fnScope_by (by decide +kernel)
theorem der_chained (hb : Bi mg) (k_lifted : Kn P w K mg base G 1 "lifted" S_lifted) (k_joined : Kn P w K mg base G 1 "joined" S_joined) (cdv : Value) (A : Around) (outer : List Env) (s : Shared) (H : Hp) (E : XK) (B : Bs) (hr : Room 1 (A.deeper (envOfC "chained" (defScope s_chained) s.heap.objs.size f cdv))) : PDSs (cxOf CX0 P w K mg base N_chained "chained" (defScope s_chained) f cdv A outer s H E).nox G B (defBody s_chained) b_chained :=
  have nd := nd_chained
  pds_one (pds_ret (pd_call k_joined (hr.mono (by decide)) (pda_cons (pd_add (pd_frz (pf_list hb (pda_cons (pd_v 0) (pda_nil)))) (pd_frz (pf_lc (own := [("begin", 2), ("end", 3)]) rfl nd (pdi_seq (pd_v 1)) (blkOk_by (N := N_chained) (sc := defScope s_chained) (by decide +kernel)) (fun _ _ _ _ _ => pdg_tup rfl (pdg_cons (pdg_n (i := 2) nd) (pdg_cons (pdg_n (i := 3) nd) (pdg_nil)))) (fun _ _ _ _ _ => pdts_nil) (fun _ _ _ _ _ => pd_tup (pda_cons (pd_call k_lifted (hr.mono (by decide)) (pda_cons (pd_v 0) (pda_cons (pd_v 2) (pda_nil)))) (pda_cons (pd_add (pd_call k_lifted (hr.mono (by decide)) (pda_cons (pd_v 0) (pda_cons (pd_sub (pd_v 3) (pd_int)) (pda_nil)))) (pd_int)) (pda_nil))))))) (pda_nil))))
/-! Cover.__init__ -/
def s_CoverX_initX : Stmt := inClass (topS 29) 1
theorem nd_CoverX_initX : N_CoverX_initX.Nodup := by decide +kernel
theorem sc_CoverX_initX : FnScope N_CoverX_initX ["self", "policies"] (defScope s_CoverX_initX) := C8.fnScope_by (by decide +kernel)
theorem der1_CoverX_initX (hb : Bi mg) (i_Shape : mg "Shape" = some (.ref (G.ca 1)) ∧ IsiOk G (.ref (G.ca 1)) is_Shape) (hG : K = G.K) (fl_1 : KnFl K G 1 "spans") (k_is_policy : Kn P w K mg base G 2 "is_policy" S_is_policy) (c_MOST_POLICIES : ∃ t, mg "MOST_POLICIES" = some (.int 8 t)) (k_chained : Kn P w K mg base G 2 "chained" S_chained) (cdv : Value) (A : Around) (outer : List Env) (s : Shared) (H : Hp) (E : XK) (B : Bs) (hr : Room 2 (A.deeper (envOfC "Cover.__init__" (defScope s_CoverX_initX) s.heap.objs.size f cdv))) : PDS (cxOf CX0 P w K mg base N_CoverX_initX "Cover.__init__" (defScope s_CoverX_initX) f cdv A outer s H E).nox G B (stAt s_CoverX_initX 0) b1_CoverX_initX :=
  have nd := nd_CoverX_initX
  pds_set (i := 2) nd (pd_tup (pda_nil))
theorem der2_CoverX_initX (hb : Bi mg) (i_Shape : mg "Shape" = some (.ref (G.ca 1)) ∧ IsiOk G (.ref (G.ca 1)) is_Shape) (hG : K = G.K) (fl_1 : KnFl K G 1 "spans") (k_is_policy : Kn P w K mg base G 2 "is_policy" S_is_policy) (c_MOST_POLICIES : ∃ t, mg "MOST_POLICIES" = some (.int 8 t)) (k_chained : Kn P w K mg base G 2 "chained" S_chained) (cdv : Value) (A : Around) (outer : List Env) (s : Shared) (H : Hp) (E : XK) (B : Bs) (hr : Room 2 (A.deeper (envOfC "Cover.__init__" (defScope s_CoverX_initX) s.heap.objs.size f cdv))) : PDS (cxOf CX0 P w K mg base N_CoverX_initX "Cover.__init__" (defScope s_CoverX_initX) f cdv A outer s H E).nox G B (stAt s_CoverX_initX 1) b2_CoverX_initX :=
  have nd := nd_CoverX_initX
  pds_if (pdt_w (pdw_and (pdt_eq hG hr (pd_len hb (pda_cons (pd_v 1) (pda_nil))) (pd_int)) (pdw_and1 (pdt_val (pd_isC hG hb i_Shape.1 i_Shape.2 (pd_sx (pd_v 1) (pd_int))))))) (pds_one (pds_set (i := 2) nd (pd_fldK fl_1 (pd_sx (pd_v 1) (pd_int))))) (pds_cons (pds_if (pdt_not (pdt_val (pd_all rfl hb (pda_cons (pd_frz (pf_lc (own := [("policy", 3)]) rfl nd (pdi_seq (pd_v 1)) (blkOk_by (N := N_CoverX_initX) (sc := defScope s_CoverX_initX) (by decide +kernel)) (fun _ _ _ _ _ => pdg_n (i := 3) nd) (fun _ _ _ _ _ => pdts_nil) (fun _ _ _ _ _ => pd_call k_is_policy (hr.mono (by decide)) (pda_cons (pd_v 3) (pda_nil))))) (pda_nil))))) (pds_one (pds_never)) (pds_nil)) (pds_cons (pds_if (pdt_gt (pd_len hb (pda_cons (pd_v 1) (pda_nil))) (pd_globI c_MOST_POLICIES)) (pds_one (pds_never)) (pds_nil)) (pds_one (pds_for PassesOwn.never rfl (pdi_seq (pd_v 1)) (pdg_tup rfl (pdg_cons (pdg_n (i := 4) nd) (pdg_cons (pdg_n (i := 5) nd) (pdg_nil)))) (pds_one (pds_set (i := 2) nd (pd_call k_chained (hr.mono (by decide)) (pda_cons (pd_v 2) (pda_cons (pd_tup (pda_cons (pd_tup (pda_cons (pd_v 4) (pda_cons (pd_add (pd_v 4) (pd_v 5)) (pda_nil)))) (pda_nil))) (pda_nil))))))))))
theorem der_CoverX_initX (hb : Bi mg) (i_Shape : mg "Shape" = some (.ref (G.ca 1)) ∧ IsiOk G (.ref (G.ca 1)) is_Shape) (hG : K = G.K) (fl_1 : KnFl K G 1 "spans") (k_is_policy : Kn P w K mg base G 2 "is_policy" S_is_policy) (c_MOST_POLICIES : ∃ t, mg "MOST_POLICIES" = some (.int 8 t)) (k_chained : Kn P w K mg base G 2 "chained" S_chained) (cdv : Value) (A : Around) (outer : List Env) (s : Shared) (H : Hp) (E : XK) (B : Bs) (hr : Room 2 (A.deeper (envOfC "Cover.__init__" (defScope s_CoverX_initX) s.heap.objs.size f cdv))) : PD (cxOf CX0 P w K mg base N_CoverX_initX "Cover.__init__" (defScope s_CoverX_initX) f cdv A outer s H E).nox G B (valOf (stAt s_CoverX_initX 2)) b_CoverX_initX :=
  have nd := nd_CoverX_initX
  pd_v 2
/-! Shape.__init__ -/
def s_ShapeX_initX : Stmt := inClass (topS 16) 0
theorem nd_ShapeX_initX : N_ShapeX_initX.Nodup := by decide +kernel
theorem sc_ShapeX_initX : FnScope N_ShapeX_initX ["self", "spans"] (defScope s_ShapeX_initX) := C8.fnScope_by (by decide +kernel)
theorem der_ShapeX_initX (cdv : Value) (A : Around) (outer : List Env) (s : Shared) (H : Hp) (E : XK) (B : Bs) (hr : Room 0 (A.deeper (envOfC "Shape.__init__" (defScope s_ShapeX_initX) s.heap.objs.size f cdv))) : PD (cxOf CX0 P w K mg base N_ShapeX_initX "Shape.__init__" (defScope s_ShapeX_initX) f cdv A outer s H E).nox G B (valOf (stAt s_ShapeX_initX 0)) b_ShapeX_initX :=
  have nd := nd_ShapeX_initX
  pd_v 1
/-! Cover.__add__ -/
def s_CoverX_addX : Stmt := inClass (topS 29) 16
theorem nd_CoverX_addX : N_CoverX_addX.Nodup := by decide +kernel
theorem sc_CoverX_addX : FnScope N_CoverX_addX ["self", "other"] (defScope s_CoverX_addX) := C8.fnScope_by (by decide +kernel)
theorem der_CoverX_addX (m_Cover : KnMk P w K mg base G 3 0 "Cover" S_CoverX_initX) (m_Shape : KnMk P w K mg base G 1 1 "Shape" S_ShapeX_initX) (fl_0 : KnFl K G 0 "spans") (k_chained : Kn P w K mg base G 2 "chained" S_chained) (cdv : Value) (A : Around) (outer : List Env) (s : Shared) (H : Hp) (E : XK) (B : Bs) (hr : Room 4 (A.deeper (envOfC "Cover.__add__" (defScope s_CoverX_addX) s.heap.objs.size f cdv))) : PDSs (cxOf CX0 P w K mg base N_CoverX_addX "Cover.__add__" (defScope s_CoverX_addX) f cdv A outer s H E).nox G B (defBody s_CoverX_addX) b_CoverX_addX :=
  have nd := nd_CoverX_addX
  pds_one (pds_ret (pd_makeK m_Cover (hr.mono (by decide)) (pda_cons (pd_makeK m_Shape (hr.mono (by decide)) (pda_cons (pd_call k_chained (hr.mono (by decide)) (pda_cons (pd_fldK fl_0 (pd_v 0)) (pda_cons (pd_fldK fl_0 (pd_v 1)) (pda_nil)))) (pda_nil))) (pda_nil))))
/-! _law_made -/
def s__law_made : Stmt := topS 46
theorem nd__law_made : N__law_made.Nodup := by decide +kernel
theorem sc__law_made : FnScope N__law_made ["some"] (defScope s__law_made) := C8.fnScope_by (by decide +kernel)
theorem der__law_made (m_Cover : KnMk P w K mg base G 3 0 "Cover" S_CoverX_initX) (o_Add : KnOp P w K mg base G 5 .Add S_CoverX_addX) (cdv : Value) (A : Around) (outer : List Env) (s : Shared) (H : Hp) (E : XK) (B : Bs) (hr : Room 5 (A.deeper (envOfC "_law_made" (defScope s__law_made) s.heap.objs.size f cdv))) : PDSs (cxOf CX0 P w K mg base N__law_made "_law_made" (defScope s__law_made) f cdv A outer s H E).nox G B (defBody s__law_made) b__law_made :=
  have nd := nd__law_made
  pds_cons (pds_set (i := 1) nd (pd_makeK0 m_Cover (hr.mono (by decide)))) (pds_cons (pds_for PassesOwn.never rfl (pdi_seq (pd_v 0)) (pdg_n (i := 2) nd) (pds_one (pds_set (i := 1) nd (pd_opK o_Add (hr.mono (by decide)) (pd_v 1) (pd_makeK m_Cover (hr.mono (by decide)) (pda_cons (pd_v 2) (pda_nil))))))) (pds_one (pds_ret (pd_v 1))))
/-! paid -/
def s_paid : Stmt := topS 18
theorem nd_paid : N_paid.Nodup := by decide +kernel
theorem sc_paid : FnScope N_paid ["spans", "bill"] (defScope s_paid) := C8.fnScope_by (by decide +kernel)
theorem der_paid (hb : Bi mg) (cdv : Value) (A : Around) (outer : List Env) (s : Shared) (H : Hp) (E : XK) (B : Bs) (hr : Room 0 (A.deeper (envOfC "paid" (defScope s_paid) s.heap.objs.size f cdv))) : PDSs (cxOf CX0 P w K mg base N_paid "paid" (defScope s_paid) f cdv A outer s H E).nox G B (defBody s_paid) b_paid :=
  have nd := nd_paid
  pds_one (pds_ret (pd_sum rfl hb (pda_cons (pd_frz (pf_lc (own := [("begin", 2), ("end", 3)]) rfl nd (pdi_seq (pd_v 0)) (blkOk_by (N := N_paid) (sc := defScope s_paid) (by decide +kernel)) (fun _ _ _ _ _ => pdg_tup rfl (pdg_cons (pdg_n (i := 2) nd) (pdg_cons (pdg_n (i := 3) nd) (pdg_nil)))) (fun _ _ _ _ _ => pdts_nil) (fun _ _ _ _ _ => pd_max2 rfl hb (pda_cons (pd_int) (pda_cons (pd_sub (pd_min2 rfl hb (pda_cons (pd_v 1) (pda_cons (pd_v 3) (pda_nil)))) (pd_v 2)) (pda_nil)))))) (pda_nil))))
/-! corners -/
def s_corners : Stmt := topS 21
theorem nd_corners : N_corners.Nodup := by decide +kernel
theorem sc_corners : FnScope N_corners ["first", "second"] (defScope s_corners) := C8.fnScope_by (by decide +kernel)
theorem der_corners (hb : Bi mg) (k_paid : Kn P w K mg base G 1 "paid" S_paid) (cdv : Value) (A : Around) (outer : List Env) (s : Shared) (H : Hp) (E : XK) (B : Bs) (hr : Room 1 (A.deeper (envOfC "corners" (defScope s_corners) s.heap.objs.size f cdv))) : PDSs (cxOf CX0 P w K mg base N_corners "corners" (defScope s_corners) f cdv A outer s H E).nox G B (defBody s_corners) b_corners :=
  have nd := nd_corners
  pds_cons (pds_set (i := 2) nd (pd_add (pd_add (pd_frz (pf_lst (pda_cons (pd_int) (pda_nil)))) (pd_frz (pf_lc2 (own := [("pair", 3), ("end", 4)]) rfl nd (pdi_seq (pd_v 0)) (blkOk_by (N := N_corners) (sc := defScope s_corners) (by decide +kernel)) (fun _ _ _ _ _ => pdg_n (i := 3) nd) (fun _ _ _ _ _ => pdts_nil) (fun _ _ _ _ _ => pdi_seq (pd_v 3)) (fun _ _ _ _ _ => pdg_n (i := 4) nd) (fun _ _ _ _ _ => pdts_nil) (fun _ _ _ _ _ => pd_v 4)))) (pd_frz (pf_lc2 (own := [("pair", 3), ("end", 4)]) rfl nd (pdi_seq (pd_v 1)) (blkOk_by (N := N_corners) (sc := defScope s_corners) (by decide +kernel)) (fun _ _ _ _ _ => pdg_n (i := 3) nd) (fun _ _ _ _ _ => pdts_nil) (fun _ _ _ _ _ => pdi_seq (pd_v 3)) (fun _ _ _ _ _ => pdg_n (i := 4) nd) (fun _ _ _ _ _ => pdts_nil) (fun _ _ _ _ _ => pd_v 4))))) (pds_cons (pds_par (i := 5) (j := 2) rfl nd (pda_cons (pd_frz (pf_lst (pda_cons (pd_int) (pda_nil)))) (pda_cons (pd_frz (pf_srtS rfl hb (pda_cons (pd_v 2) (pda_nil)))) (pda_nil)))) (pds_cons (pds_for PassesOwn.never rfl (pdi_zip hb.zip (pda_cons (pd_v 2) (pda_cons (pd_slice (pd_v 2) (pdo_so (pd_int)) (pdo_no)) (pda_nil)))) (pdg_tup rfl (pdg_cons (pdg_n (i := 6) nd) (pdg_cons (pdg_n (i := 7) nd) (pdg_nil)))) (pds_cons (pds_par (i := 8) (j := 9) rfl nd (pda_cons (pd_sub (pd_call k_paid (hr.mono (by decide)) (pda_cons (pd_v 0) (pda_cons (pd_v 6) (pda_nil)))) (pd_call k_paid (hr.mono (by decide)) (pda_cons (pd_v 1) (pda_cons (pd_v 6) (pda_nil))))) (pda_cons (pd_sub (pd_call k_paid (hr.mono (by decide)) (pda_cons (pd_v 0) (pda_cons (pd_v 7) (pda_nil)))) (pd_call k_paid (hr.mono (by decide)) (pda_cons (pd_v 1) (pda_cons (pd_v 7) (pda_nil))))) (pda_nil)))) (pds_cons (pds_if (pdt_lt (pd_mul (pd_v 8) (pd_v 9)) (pd_int)) (pds_one (pds_set (i := 5) nd (pd_add (pd_v 5) (pd_frz (pf_lst (pda_cons (pd_add (pd_v 6) (pd_abs hb (pda_cons (pd_v 8) (pda_nil)))) (pda_nil))))))) (pds_nil)) (pds_one (pds_set (i := 5) nd (pd_add (pd_v 5) (pd_frz (pf_lst (pda_cons (pd_v 7) (pda_nil)))))))))) (pds_one (pds_ret (pd_v 5)))))
/-! never_more -/
def s_never_more : Stmt := topS 24
theorem nd_never_more : N_never_more.Nodup := by decide +kernel
theorem sc_never_more : FnScope N_never_more ["first", "second"] (defScope s_never_more) := C8.fnScope_by (by decide +kernel)
theorem der_never_more (hb : Bi mg) (k_corners : Kn P w K mg base G 2 "corners" S_corners) (k_paid : Kn P w K mg base G 1 "paid" S_paid) (cdv : Value) (A : Around) (outer : List Env) (s : Shared) (H : Hp) (E : XK) (B : Bs) (hr : Room 2 (A.deeper (envOfC "never_more" (defScope s_never_more) s.heap.objs.size f cdv))) : PDSs (cxOf CX0 P w K mg base N_never_more "never_more" (defScope s_never_more) f cdv A outer s H E).nox G B (defBody s_never_more) b_never_more :=
  have nd := nd_never_more
  pds_one (pds_ret (pd_all rfl hb (pda_cons (pd_frz (pf_lc (own := [("point", 2)]) rfl nd (pdi_seq (pd_call k_corners (hr.mono (by decide)) (pda_cons (pd_v 0) (pda_cons (pd_v 1) (pda_nil))))) (blkOk_by (N := N_never_more) (sc := defScope s_never_more) (by decide +kernel)) (fun _ _ _ _ _ => pdg_n (i := 2) nd) (fun _ _ _ _ _ => pdts_nil) (fun _ _ _ _ _ => pd_le (pd_call k_paid (hr.mono (by decide)) (pda_cons (pd_v 0) (pda_cons (pd_v 2) (pda_nil)))) (pd_call k_paid (hr.mono (by decide)) (pda_cons (pd_v 1) (pda_cons (pd_v 2) (pda_nil))))))) (pda_nil))))
/-! Cover.at_most -/
def s_Cover_at_most : Stmt := inClass (topS 29) 15
theorem nd_Cover_at_most : N_Cover_at_most.Nodup := by decide +kernel
theorem sc_Cover_at_most : FnScope N_Cover_at_most ["self", "other"] (defScope s_Cover_at_most) := C8.fnScope_by (by decide +kernel)
theorem der_Cover_at_most (fl_0 : KnFl K G 0 "spans") (k_never_more : Kn P w K mg base G 3 "never_more" S_never_more) (cdv : Value) (A : Around) (outer : List Env) (s : Shared) (H : Hp) (E : XK) (B : Bs) (hr : Room 3 (A.deeper (envOfC "Cover.at_most" (defScope s_Cover_at_most) s.heap.objs.size f cdv))) : PDSs (cxOf CX0 P w K mg base N_Cover_at_most "Cover.at_most" (defScope s_Cover_at_most) f cdv A outer s H E).nox G B (defBody s_Cover_at_most) b_Cover_at_most :=
  have nd := nd_Cover_at_most
  pds_one (pds_ret (pd_call k_never_more (hr.mono (by decide)) (pda_cons (pd_fldK fl_0 (pd_v 0)) (pda_cons (pd_fldK fl_0 (pd_v 1)) (pda_nil)))))
/-! _law_between -/
def s__law_between : Stmt := topS 48
theorem nd__law_between : N__law_between.Nodup := by decide +kernel
theorem sc__law_between : FnScope N__law_between ["some", "row", "bills"] (defScope s__law_between) := C8.fnScope_by (by decide +kernel)
theorem der__law_between (k_worst_order : Kn P w K mg base G 4 "worst_order" S_worst_order) (k_best_order : Kn P w K mg base G 4 "best_order" S_best_order) (hb : Bi mg) (hG : K = G.K) (k__law_chain : Kn P w K mg base G 1 "_law_chain" S__law_chain) (k__law_made : Kn P w K mg base G 6 "_law_made" S__law_made) (t_at_most : KnMt P w K mg base G 4 "at_most" S_Cover_at_most) (n_at_most : (("at_most" : Str) == G.cf 0) = false) (cdv : Value) (A : Around) (outer : List Env) (s : Shared) (H : Hp) (E : XK) (B : Bs) (hr : Room 6 (A.deeper (envOfC "_law_between" (defScope s__law_between) s.heap.objs.size f cdv))) : PDSs (cxOf CX0 P w K mg base N__law_between "_law_between" (defScope s__law_between) f cdv A outer s H E).nox G B (defBody s__law_between) b__law_between :=
  have nd := nd__law_between
  pds_cons (pds_par (i := 3) (j := 4) rfl nd (pda_cons (pd_call k_best_order (hr.mono (by decide)) (pda_cons (pd_v 0) (pda_nil))) (pda_cons (pd_call k_worst_order (hr.mono (by decide)) (pda_cons (pd_v 0) (pda_nil))) (pda_nil)))) (pds_cons (pds_if (pdt_w (pdw_or (pdt_ne hG hr (pd_frz (pf_srtPT hb (pda_cons (pd_v 3) (pda_nil)))) (pd_frz (pf_srtPT hb (pda_cons (pd_v 0) (pda_nil))))) (pdw_or1 (pdt_ne hG hr (pd_frz (pf_srtPT hb (pda_cons (pd_v 4) (pda_nil)))) (pd_frz (pf_srtPT hb (pda_cons (pd_v 0) (pda_nil)))))))) (pds_one (pds_ret (pd_bl))) (pds_nil)) (pds_cons (pds_for PassesOwn.never rfl (pdi_seq (pd_v 2)) (pdg_n (i := 5) nd) (pds_one (pds_if (pdt_not (pdt_chain op_le opd_leI op_le opd_leI (pd_call k__law_chain (hr.mono (by decide)) (pda_cons (pd_v 4) (pda_cons (pd_v 5) (pda_nil)))) (pd_call k__law_chain (hr.mono (by decide)) (pda_cons (pd_v 1) (pda_cons (pd_v 5) (pda_nil)))) (pd_call k__law_chain (hr.mono (by decide)) (pda_cons (pd_v 3) (pda_cons (pd_v 5) (pda_nil)))))) (pds_one (pds_ret (pd_bl))) (pds_nil)))) (pds_one (pds_ret (pd_and (pd_mthK t_at_most n_at_most (hr.mono (by decide)) (pd_call k__law_made (hr.mono (by decide)) (pda_cons (pd_v 1) (pda_nil))) (pda_cons (pd_call k__law_made (hr.mono (by decide)) (pda_cons (pd_v 3) (pda_nil))) (pda_nil))) (pd_one (pd_mthK t_at_most n_at_most (hr.mono (by decide)) (pd_call k__law_made (hr.mono (by decide)) (pda_cons (pd_v 4) (pda_nil))) (pda_cons (pd_call k__law_made (hr.mono (by decide)) (pda_cons (pd_v 1) (pda_nil))) (pda_nil)))))))))
/-! _law_mixed -/
def s__law_mixed : Stmt := topS 45
theorem nd__law_mixed : N__law_mixed.Nodup := by decide +kernel
theorem sc__law_mixed : FnScope N__law_mixed ["deck", "some"] (defScope s__law_mixed) := C8.fnScope_by (by decide +kernel)
theorem der__law_mixed (hb : Bi mg) (hG : K = G.K) (k__law_pick : Kn P w K mg base G 1 "_law_pick" S__law_pick) (cdv : Value) (A : Around) (outer : List Env) (s : Shared) (H : Hp) (E : XK) (B : Bs) (hr : Room 1 (A.deeper (envOfC "_law_mixed" (defScope s__law_mixed) s.heap.objs.size f cdv))) : PDSs (cxOf CX0 P w K mg base N__law_mixed "_law_mixed" (defScope s__law_mixed) f cdv A outer s H E).nox G B (defBody s__law_mixed) b__law_mixed :=
  have nd := nd__law_mixed
  pds_cons (pds_parOO (i := 2) (j := 3) rfl nd (pf_list hb (pda_cons (pd_v 1) (pda_nil))) (pf_lst (pda_nil))) (pds_cons (pds_while PassesOwn.never (pdt_ne hG hr (pd_v 2) (pd_frz (pf_lst (pda_nil)))) (pds_one (pds_expr (pd_app (i := 3) (pe_bm PySem.F.plainAttrs_list PySem.F.slot_list_append PySem.F.type_list_append mt_append (pv _) (pa_cons (pd_popA (i := 2) (pe_bm PySem.F.plainAttrs_list PySem.F.slot_list_pop PySem.F.type_list_pop mt_popAt (pv _) (pa_cons (pd_call k__law_pick (hr.mono (by decide)) (pda_cons (pd_v 0) (pda_cons (pd_len hb (pda_cons (pd_v 2) (pda_nil))) (pda_nil)))) pa_nil))) pa_nil)))))) (pds_one (pds_ret (pd_tuple hb (pda_cons (pd_v 3) (pda_nil))))))
/-! Cover.ranges -/
def s_Cover_ranges : Stmt := inClass (topS 29) 4
theorem nd_Cover_ranges : N_Cover_ranges.Nodup := by decide +kernel
theorem sc_Cover_ranges : FnScope N_Cover_ranges ["self"] (defScope s_Cover_ranges) := C8.fnScope_by (by decide +kernel)
theorem der_Cover_ranges (hb : Bi mg) (fl_0 : KnFl K G 0 "spans") (cdv : Value) (A : Around) (outer : List Env) (s : Shared) (H : Hp) (E : XK) (B : Bs) (hr : Room 0 (A.deeper (envOfC "Cover.ranges" (defScope s_Cover_ranges) s.heap.objs.size f cdv))) : PDSs (cxOf CX0 P w K mg base N_Cover_ranges "Cover.ranges" (defScope s_Cover_ranges) f cdv A outer s H E).nox G B (defBody s_Cover_ranges) b_Cover_ranges :=
  have nd := nd_Cover_ranges
  pds_one (pds_ret (pd_tuple hb (pda_cons (pd_frz (pf_lc (own := [("begin", 1), ("end", 2)]) rfl nd (pdi_seq (pd_fldK fl_0 (pd_v 0))) (blkOk_by (N := N_Cover_ranges) (sc := defScope s_Cover_ranges) (by decide +kernel)) (fun _ _ _ _ _ => pdg_tup rfl (pdg_cons (pdg_n (i := 1) nd) (pdg_cons (pdg_n (i := 2) nd) (pdg_nil)))) (fun _ _ _ _ _ => pdts_nil) (fun _ _ _ _ _ => pd_tup (pda_cons (pd_add (pd_v 1) (pd_int)) (pda_cons (pd_v 2) (pda_nil)))))) (pda_nil))))
/-! Cover.__eq__ -/
def s_CoverX_eqX : Stmt := inClass (topS 29) 14
theorem nd_CoverX_eqX : N_CoverX_eqX.Nodup := by decide +kernel
theorem sc_CoverX_eqX : FnScope N_CoverX_eqX ["self", "other"] (defScope s_CoverX_eqX) := C8.fnScope_by (by decide +kernel)
theorem der_CoverX_eqX (fl_0 : KnFl K G 0 "spans") (hG : K = G.K) (hb : Bi mg) (i_Cover : mg "Cover" = some (.ref (G.ca 0)) ∧ IsiOk G (.ref (G.ca 0)) is_Cover) (cdv : Value) (A : Around) (outer : List Env) (s : Shared) (H : Hp) (E : XK) (B : Bs) (hr : Room 0 (A.deeper (envOfC "Cover.__eq__" (defScope s_CoverX_eqX) s.heap.objs.size f cdv))) : PDSs (cxOf CX0 P w K mg base N_CoverX_eqX "Cover.__eq__" (defScope s_CoverX_eqX) f cdv A outer s H E).nox G B (defBody s_CoverX_eqX) b_CoverX_eqX :=
  have nd := nd_CoverX_eqX
  pds_one (pds_ret (pd_and (pd_isC hG hb i_Cover.1 i_Cover.2 (pd_v 1)) (pd_one (pd_eq hG hr (pd_fldK fl_0 (pd_v 0)) (pd_fldK fl_0 (pd_v 1))))))
/-! need_policy -/
def s_need_policy : Stmt := topS 13
theorem nd_need_policy : N_need_policy.Nodup := by decide +kernel
theorem sc_need_policy : FnScope N_need_policy ["policy"] (defScope s_need_policy) := C8.fnScope_by (by decide +kernel)
theorem der_need_policy (k_is_policy : Kn P w K mg base G 2 "is_policy" S_is_policy) (cdv : Value) (A : Around) (outer : List Env) (s : Shared) (H : Hp) (E : XK) (B : Bs) (hr : Room 2 (A.deeper (envOfC "need_policy" (defScope s_need_policy) s.heap.objs.size f cdv))) : PDSs (cxOf CX0 P w K mg base N_need_policy "need_policy" (defScope s_need_policy) f cdv A outer s H E).nox G B (defBody s_need_policy) b_need_policy :=
  have nd := nd_need_policy
  pds_one (pds_if (pdt_not (pdt_val (pd_call k_is_policy (hr.mono (by decide)) (pda_cons (pd_v 0) (pda_nil))))) (pds_one (pds_never)) (pds_nil))
/-! commute -/
def s_commute : Stmt := topS 34
theorem nd_commute : N_commute.Nodup := by decide +kernel
theorem sc_commute : FnScope N_commute ["one", "other"] (defScope s_commute) := C8.fnScope_by (by decide +kernel)
theorem der_commute (k_need_policy : Kn P w K mg base G 3 "need_policy" S_need_policy) (hG : K = G.K) (cdv : Value) (A : Around) (outer : List Env) (s : Shared) (H : Hp) (E : XK) (B : Bs) (hr : Room 3 (A.deeper (envOfC "commute" (defScope s_commute) s.heap.objs.size f cdv))) : PDSs (cxOf CX0 P w K mg base N_commute "commute" (defScope s_commute) f cdv A outer s H E).nox G B (defBody s_commute) b_commute :=
  have nd := nd_commute
  pds_cons (pds_expr (pd_call k_need_policy (hr.mono (by decide)) (pda_cons (pd_v 0) (pda_nil)))) (pds_cons (pds_expr (pd_call k_need_policy (hr.mono (by decide)) (pda_cons (pd_v 1) (pda_nil)))) (pds_one (pds_ret (pd_eq hG hr (pd_sx (pd_v 0) (pd_int)) (pd_sx (pd_v 1) (pd_int))))))
/-! _law_sort -/
def s__law_sort : Stmt := topS 39
theorem nd__law_sort : N__law_sort.Nodup := by decide +kernel
theorem sc__law_sort : FnScope N__law_sort ["thing"] (defScope s__law_sort) := C8.fnScope_by (by decide +kernel)
theorem der__law_sort (hb : Bi mg) (hG : K = G.K) (cdv : Value) (A : Around) (outer : List Env) (s : Shared) (H : Hp) (E : XK) (B : Bs) (hr : Room 0 (A.deeper (envOfC "_law_sort" (defScope s__law_sort) s.heap.objs.size f cdv))) : PDSs (cxOf CX0 P w K mg base N__law_sort "_law_sort" (defScope s__law_sort) f cdv A outer s H E).nox G B (defBody s__law_sort) b__law_sort :=
  have nd := nd__law_sort
  pds_cons (pds_if (pdt_val (pd_isT hG hb hb.bool PyProof.Rows.boot_bool (pd_v 0))) (pds_one (pds_ret (pd_int))) (pds_nil)) (pds_cons (pds_if (pdt_val (pd_isT hG hb hb.int PyProof.Rows.boot_int (pd_v 0))) (pds_one (pds_ret (pd_int))) (pds_nil)) (pds_cons (pds_if (pdt_val (pd_isT hG hb hb.str PyProof.Rows.boot_str (pd_v 0))) (pds_one (pds_ret (pd_int))) (pds_nil)) (pds_cons (pds_if (pdt_val (pd_isT hG hb hb.list PyProof.Rows.boot_list (pd_v 0))) (pds_one (pds_ret (pd_int))) (pds_nil)) (pds_one (pds_ret (pd_if (pdt_val (pd_isT hG hb hb.tuple PyProof.Rows.boot_tuple (pd_v 0))) (pd_int) (pd_int)))))))
/-! _law_same -/
def s__law_same : Stmt := topS 40
theorem nd__law_same : N__law_same.Nodup := by decide +kernel
theorem sc__law_same : FnScope N__law_same ["told", "due"] (defScope s__law_same) := C8.fnScope_by (by decide +kernel)
theorem der__law_same (k__law_sort : Kn P w K mg base G 1 "_law_sort" S__law_sort) (hG : K = G.K) (cdv : Value) (A : Around) (outer : List Env) (s : Shared) (H : Hp) (E : XK) (B : Bs) (hr : Room 1 (A.deeper (envOfC "_law_same" (defScope s__law_same) s.heap.objs.size f cdv))) : PDSs (cxOf CX0 P w K mg base N__law_same "_law_same" (defScope s__law_same) f cdv A outer s H E).nox G B (defBody s__law_same) b__law_same :=
  have nd := nd__law_same
  pds_cons (pds_if (pdt_ne hG hr (pd_call k__law_sort (hr.mono (by decide)) (pda_cons (pd_v 0) (pda_nil))) (pd_call k__law_sort (hr.mono (by decide)) (pda_cons (pd_v 1) (pda_nil)))) (pds_one (pds_ret (pd_bl))) (pds_nil)) (pds_cons (pds_if (pdt_w (pdw_and (pdt_gt (pd_call k__law_sort (hr.mono (by decide)) (pda_cons (pd_v 0) (pda_nil))) (pd_int)) (pdw_and1 (pdt_lt (pd_call k__law_sort (hr.mono (by decide)) (pda_cons (pd_v 0) (pda_nil))) (pd_int))))) pdss_never (pds_nil)) (pds_one (pds_ret (pd_eq hG hr (pd_v 0) (pd_v 1)))))
/-! law -/
def s_law : Stmt := topS 49
theorem nd_law : N_law.Nodup := by decide +kernel
theorem sc_law : FnScope N_law ["script"] (defScope s_law) := C8.fnScope_by (by decide +kernel)
theorem der_law (k__law_deck : KnF P w K mg base G 1 "_law_deck" S__law_deck) (k__law_policies : Kn P w K mg base G 3 "_law_policies" S__law_policies) (hb : Bi mg) (k__law_orders : Kn P w K mg base G 1 "_law_orders" S__law_orders) (k__law_between : Kn P w K mg base G 7 "_law_between" S__law_between) (k__law_one : Kn P w K mg base G 2 "_law_one" S__law_one) (k__law_mixed : Kn P w K mg base G 2 "_law_mixed" S__law_mixed) (k__law_made : Kn P w K mg base G 6 "_law_made" S__law_made) (p_ranges : KnP P w K mg base G 1 "ranges" S_Cover_ranges) (k__law_pick : Kn P w K mg base G 1 "_law_pick" S__law_pick) (m_Cover : KnMk P w K mg base G 3 0 "Cover" S_CoverX_initX) (o_Eq : KnEq P w K mg base G 1 S_CoverX_eqX) (hG : K = G.K) (k_commute : Kn P w K mg base G 4 "commute" S_commute) (k__law_same : Kn P w K mg base G 2 "_law_same" S__law_same) (k_worst_order : Kn P w K mg base G 4 "worst_order" S_worst_order) (k_best_order : Kn P w K mg base G 4 "best_order" S_best_order) (a : Addr) (ns : List Int) (hl : ns.length ≤ 63) (cdv : Value) (A : Around) (outer : List Env) (s : Shared) (H : Hp) (E : XK) (B : Bs) (hB : SqL K B.H0 a (ns.map V.int)) (hF : ∀ u, B.H0 a = some u → a ∉ B.io) (hr : Room 7 (A.deeper (envOfC "law" (defScope s_law) s.heap.objs.size f cdv))) : PDSs (cxOf CX0 P w K mg base N_law "law" (defScope s_law) f cdv A outer s H E).nox G B (defBody s_law) (b_law a ns) :=
  have nd := nd_law
  pds_cons (pds_for PassesOwn.never rfl (pdi_seq (pd_slice (pd_scr hB hF hl) (pdo_no) (pdo_so (pd_int)))) (pdg_n (i := 1) nd) (pds_cons (pds_setO (i := 2) nd (pf_call k__law_deck (hr.mono (by decide)) (pda_cons (pd_v 1) (pda_cons (pd_int) (pda_nil))))) (pds_cons (pds_set (i := 3) nd (pd_call k__law_policies (hr.mono (by decide)) (pda_cons (pd_v 2) (pda_cons (pd_int) (pda_cons (pd_int) (pda_nil)))))) (pds_cons (pds_set (i := 4) nd (pd_add (pd_sum rfl hb (pda_cons (pd_frz (pf_lc (own := [("free", 5), ("limit", 6)]) rfl nd (pdi_seq (pd_v 3)) (blkOk_by (N := N_law) (sc := defScope s_law) (by decide +kernel)) (fun _ _ _ _ _ => pdg_tup rfl (pdg_cons (pdg_n (i := 5) nd) (pdg_cons (pdg_n (i := 6) nd) (pdg_nil)))) (fun _ _ _ _ _ => pdts_nil) (fun _ _ _ _ _ => pd_add (pd_v 5) (pd_v 6)))) (pda_nil))) (pd_int))) (pds_cons (pds_for PassesOwn.never rfl (pdi_seq (pd_call k__law_orders (hr.mono (by decide)) (pda_cons (pd_v 3) (pda_nil)))) (pdg_n (i := 7) nd) (pds_one (pds_if (pdt_not (pdt_val (pd_call k__law_between (hr.mono (by decide)) (pda_cons (pd_v 3) (pda_cons (pd_v 7) (pda_cons (pd_frz (pf_lrg rfl hb.range hb.list (pd_v 4))) (pda_nil))))))) (pds_one (pds_ret (pd_bl))) (pds_nil)))) (pds_cons (pds_set (i := 3) nd (pd_call k__law_policies (hr.mono (by decide)) (pda_cons (pd_v 2) (pda_cons (pd_int) (pda_cons (pd_call k__law_one (hr.mono (by decide)) (pda_cons (pd_v 2) (pda_cons (pd_frz (pf_lst (pda_cons (pd_int) (pda_cons (pd_pow (pd_int) (pd_int)) (pda_nil))))) (pda_nil)))) (pda_nil)))))) (pds_cons (pds_for PassesOwn.never rfl (pdi_range1 hb.range (pd_int)) (pdg_n (i := 8) nd) (pds_cons (pds_set (i := 7) nd (pd_call k__law_mixed (hr.mono (by decide)) (pda_cons (pd_v 2) (pda_cons (pd_v 3) (pda_nil))))) (pds_cons (pds_set (i := 9) nd (pd_add (pd_frz (pf_lc (own := [("first", 10), ("last", 11)]) rfl nd (pdi_seq (pd_prpK p_ranges (hr.mono (by decide)) (pd_call k__law_made (hr.mono (by decide)) (pda_cons (pd_v 7) (pda_nil))))) (blkOk_by (N := N_law) (sc := defScope s_law) (by decide +kernel)) (fun _ _ _ _ _ => pdg_tup rfl (pdg_cons (pdg_n (i := 10) nd) (pdg_cons (pdg_n (i := 11) nd) (pdg_nil)))) (fun _ _ _ _ _ => pdts_nil) (fun _ _ _ _ _ => pd_v 11))) (pd_frz (pf_lst (pda_cons (pd_call k__law_pick (hr.mono (by decide)) (pda_cons (pd_v 2) (pda_cons (pd_pow (pd_int) (pd_int)) (pda_nil)))) (pda_nil)))))) (pds_one (pds_if (pdt_not (pdt_val (pd_call k__law_between (hr.mono (by decide)) (pda_cons (pd_v 3) (pda_cons (pd_v 7) (pda_cons (pd_add (pd_v 9) (pd_frz (pf_lc (own := [("first", 10), ("last", 11)]) rfl nd (pdi_seq (pd_prpK p_ranges (hr.mono (by decide)) (pd_call k__law_made (hr.mono (by decide)) (pda_cons (pd_v 7) (pda_nil))))) (blkOk_by (N := N_law) (sc := defScope s_law) (by decide +kernel)) (fun _ _ _ _ _ => pdg_tup rfl (pdg_cons (pdg_n (i := 10) nd) (pdg_cons (pdg_n (i := 11) nd) (pdg_nil)))) (fun _ _ _ _ _ => pdts_nil) (fun _ _ _ _ _ => pd_sub (pd_v 10) (pd_int))))) (pda_nil))))))) (pds_one (pds_ret (pd_bl))) (pds_nil)))))) (pds_one (pds_for PassesOwn.never rfl (pdi_seq (pd_slice (pd_v 3) (pdo_no) (pdo_so (pd_int)))) (pdg_n (i := 12) nd) (pds_one (pds_for PassesOwn.never rfl (pdi_seq (pd_slice (pd_v 3) (pdo_no) (pdo_so (pd_int)))) (pdg_n (i := 13) nd) (pds_cons (pds_set (i := 14) nd (pd_eqK o_Eq (hr.mono (by decide)) (pd_makeK m_Cover (hr.mono (by decide)) (pda_cons (pd_v 12) (pda_cons (pd_v 13) (pda_nil)))) (pd_makeK m_Cover (hr.mono (by decide)) (pda_cons (pd_v 13) (pda_cons (pd_v 12) (pda_nil)))))) (pds_one (pds_if (pdt_w (pdw_or (pdt_not (pdt_val (pd_call k__law_same (hr.mono (by decide)) (pda_cons (pd_call k_commute (hr.mono (by decide)) (pda_cons (pd_v 12) (pda_cons (pd_v 13) (pda_nil)))) (pda_cons (pd_v 14) (pda_nil)))))) (pdw_or1 (pdt_ne hG hr (pd_v 14) (pd_eq hG hr (pd_sx (pd_v 12) (pd_int)) (pd_sx (pd_v 13) (pd_int))))))) (pds_one (pds_ret (pd_bl))) (pds_nil))))))))))))))) (pds_cons (pds_if (pdt_w (pdw_or (pdt_ne hG hr (pd_call k_best_order (hr.mono (by decide)) (pda_cons (pd_tup (pda_nil)) (pda_nil))) (pd_tup (pda_nil))) (pdw_or1 (pdt_ne hG hr (pd_call k_worst_order (hr.mono (by decide)) (pda_cons (pd_tup (pda_cons (pd_tup (pda_cons (pd_int) (pda_cons (pd_int) (pda_nil)))) (pda_nil))) (pda_nil))) (pd_tup (pda_cons (pd_tup (pda_cons (pd_int) (pda_cons (pd_int) (pda_nil)))) (pda_nil))))))) (pds_one (pds_ret (pd_bl))) (pds_nil)) (pds_one (pds_ret (pd_and (pd_eq hG hr (pd_call k_best_order (hr.mono (by decide)) (pda_cons (pd_tup (pda_cons (pd_tup (pda_cons (pd_int) (pda_cons (pd_int) (pda_nil)))) (pda_cons (pd_tup (pda_cons (pd_int) (pda_cons (pd_int) (pda_nil)))) (pda_nil)))) (pda_nil))) (pd_tup (pda_cons (pd_tup (pda_cons (pd_int) (pda_cons (pd_int) (pda_nil)))) (pda_cons (pd_tup (pda_cons (pd_int) (pda_cons (pd_int) (pda_nil)))) (pda_nil))))) (pd_one (pd_cmp op_isBl opd_isB (pd_call k_commute (hr.mono (by decide)) (pda_cons (pd_tup (pda_cons (pd_int) (pda_cons (pd_int) (pda_nil)))) (pda_cons (pd_tup (pda_cons (pd_int) (pda_cons (pd_int) (pda_nil)))) (pda_nil)))) (pd_bl)))))))
end
end DL
set_option Elab.async false
set_option linter.all false
set_option maxRecDepth 100000
set_option maxHeartbeats 0
namespace DL
open PySem PySem.Spec PyProof.Rows L2
def D__law_deck : He5.DefA := ⟨fun K => He.ga K "_law_deck", "_law_deck", "_law_deck", defArgs s__law_deck, defBody s__law_deck, defScope s__law_deck, [], []⟩
def D__law_pick : He5.DefA := ⟨fun K => He.ga K "_law_pick", "_law_pick", "_law_pick", defArgs s__law_pick, defBody s__law_pick, defScope s__law_pick, [], []⟩
def D__law_one : He5.DefA := ⟨fun K => He.ga K "_law_one", "_law_one", "_law_one", defArgs s__law_one, defBody s__law_one, defScope s__law_one, [], []⟩
def D__law_policies : He5.DefA := ⟨fun K => He.ga K "_law_policies", "_law_policies", "_law_policies", defArgs s__law_policies, defBody s__law_policies, defScope s__law_policies, [], []⟩
def D__law_orders : He5.DefA := ⟨fun K => He.ga K "_law_orders", "_law_orders", "_law_orders", defArgs s__law_orders, defBody s__law_orders, defScope s__law_orders, [], []⟩
def D_is_from : He5.DefA := ⟨fun K => He.ga K "is_from", "is_from", "is_from", defArgs s_is_from, defBody s_is_from, defScope s_is_from, [], []⟩
def D_is_policy : He5.DefA := ⟨fun K => He.ga K "is_policy", "is_policy", "is_policy", defArgs s_is_policy, defBody s_is_policy, defScope s_is_policy, [], []⟩
def D_need_policies : He5.DefA := ⟨fun K => He.ga K "need_policies", "need_policies", "need_policies", defArgs s_need_policies, defBody s_need_policies, defScope s_need_policies, [], []⟩
def D_worst_order : He5.DefA := ⟨fun K => He.ga K "worst_order", "worst_order", "worst_order", defArgs s_worst_order, defBody s_worst_order, defScope s_worst_order, [], []⟩
def D_best_order : He5.DefA := ⟨fun K => He.ga K "best_order", "best_order", "best_order", defArgs s_best_order, defBody s_best_order, defScope s_best_order, [], []⟩
def D__law_chain : He5.DefA := ⟨fun K => He.ga K "_law_chain", "_law_chain", "_law_chain", defArgs s__law_chain, defBody s__law_chain, defScope s__law_chain, [], []⟩
def D_lifted : He5.DefA := ⟨fun K => He.ga K "lifted", "lifted", "lifted", defArgs s_lifted, defBody s_lifted, defScope s_lifted, [], []⟩
def D_joined : He5.DefA := ⟨fun K => He.ga K "joined", "joined", "joined", defArgs s_joined, defBody s_joined, defScope s_joined, [], []⟩
def D_chained : He5.DefA := ⟨fun K => He.ga K "chained", "chained", "chained", defArgs s_chained, defBody s_chained, defScope s_chained, [], []⟩
def D_CoverX_initX : He5.DefA := ⟨fun K => He.ma K (He.ga K "Cover") "__init__", "__init__", "Cover.__init__", defArgs s_CoverX_initX, defBody s_CoverX_initX, defScope s_CoverX_initX, [], []⟩
def D_ShapeX_initX : He5.DefA := ⟨fun K => He.ma K (He.ga K "Shape") "__init__", "__init__", "Shape.__init__", defArgs s_ShapeX_initX, defBody s_ShapeX_initX, defScope s_ShapeX_initX, [], []⟩
def D_CoverX_addX : He5.DefA := ⟨fun K => He.ma K (He.ga K "Cover") "__add__", "__add__", "Cover.__add__", defArgs s_CoverX_addX, defBody s_CoverX_addX, defScope s_CoverX_addX, [], []⟩
def D__law_made : He5.DefA := ⟨fun K => He.ga K "_law_made", "_law_made", "_law_made", defArgs s__law_made, defBody s__law_made, defScope s__law_made, [], []⟩
def D_paid : He5.DefA := ⟨fun K => He.ga K "paid", "paid", "paid", defArgs s_paid, defBody s_paid, defScope s_paid, [], []⟩
def D_corners : He5.DefA := ⟨fun K => He.ga K "corners", "corners", "corners", defArgs s_corners, defBody s_corners, defScope s_corners, [], []⟩
def D_never_more : He5.DefA := ⟨fun K => He.ga K "never_more", "never_more", "never_more", defArgs s_never_more, defBody s_never_more, defScope s_never_more, [], []⟩
def D_Cover_at_most : He5.DefA := ⟨fun K => He.ma K (He.ga K "Cover") "at_most", "at_most", "Cover.at_most", defArgs s_Cover_at_most, defBody s_Cover_at_most, defScope s_Cover_at_most, [], []⟩
def D__law_between : He5.DefA := ⟨fun K => He.ga K "_law_between", "_law_between", "_law_between", defArgs s__law_between, defBody s__law_between, defScope s__law_between, [], []⟩
def D__law_mixed : He5.DefA := ⟨fun K => He.ga K "_law_mixed", "_law_mixed", "_law_mixed", defArgs s__law_mixed, defBody s__law_mixed, defScope s__law_mixed, [], []⟩
def D_Cover_ranges : He5.DefA := ⟨fun K => propG K (He.ga K "Cover") "ranges", "ranges", "Cover.ranges", defArgs s_Cover_ranges, defBody s_Cover_ranges, defScope s_Cover_ranges, [], []⟩
def D_CoverX_eqX : He5.DefA := ⟨fun K => He.ma K (He.ga K "Cover") "__eq__", "__eq__", "Cover.__eq__", defArgs s_CoverX_eqX, defBody s_CoverX_eqX, defScope s_CoverX_eqX, [], []⟩
def D_need_policy : He5.DefA := ⟨fun K => He.ga K "need_policy", "need_policy", "need_policy", defArgs s_need_policy, defBody s_need_policy, defScope s_need_policy, [], []⟩
def D_commute : He5.DefA := ⟨fun K => He.ga K "commute", "commute", "commute", defArgs s_commute, defBody s_commute, defScope s_commute, [], []⟩
def D__law_sort : He5.DefA := ⟨fun K => He.ga K "_law_sort", "_law_sort", "_law_sort", defArgs s__law_sort, defBody s__law_sort, defScope s__law_sort, [], []⟩
def D__law_same : He5.DefA := ⟨fun K => He.ga K "_law_same", "_law_same", "_law_same", defArgs s__law_same, defBody s__law_same, defScope s__law_same, [], []⟩
def D_law : He5.DefA := ⟨fun K => He.ga K "law", "law", "law", defArgs s_law, defBody s_law, defScope s_law, [], []⟩
def fnL : List He5.DefA := [D__law_deck, D__law_pick, D__law_one, D__law_policies, D__law_orders, D_is_from, D_is_policy, D_need_policies, D_worst_order, D_best_order, D__law_chain, D_lifted, D_joined, D_chained, D_CoverX_initX, D_ShapeX_initX, D_CoverX_addX, D__law_made, D_paid, D_corners, D_never_more, D_Cover_at_most, D__law_between, D__law_mixed, D_Cover_ranges, D_CoverX_eqX, D_need_policy, D_commute, D__law_sort, D__law_same, D_law]
def faL : List He.Fa := [.free "len", .free "sum", .free "max", .free "min", .free "abs", .free "sorted", .free "set", .free "tuple", .free "list", .free "range", .free "zip", .free "enumerate", .free "isinstance", .free "str", .free "int", .free "bool", .free "all", .free "any", .glo "Cover", .cls "Cover", .noat "Cover" "spans", .glo "Shape", .cls "Shape", .noat "Shape" "spans", .mkr "Cover", .mkr "Shape", .glo "_law_deck", .glo "_law_pick", .glo "_law_one", .glo "_law_policies", .glo "_law_orders", .glo "is_from", .glo "is_policy", .glo "need_policies", .glo "worst_order", .glo "best_order", .glo "_law_chain", .glo "lifted", .glo "joined", .glo "chained", .glo "_law_made", .glo "paid", .glo "corners", .glo "never_more", .glo "_law_between", .glo "_law_mixed", .glo "need_policy", .glo "commute", .glo "_law_sort", .glo "_law_same", .glo "law", .int "LARGEST_PART" 1000000, .int "MOST_POLICIES" 8, .meth "Cover" "at_most"]
def exL : List (PySem.W.Frag → Bool) := [fun K => cvB K (He.ga K "Cover") "MOST" 8, fun K => instB K (He.ga K "Shape"), fun K => kitF K (.type "tuple") (.ref (He.ga K "Shape")) false, fun K => kitF K (.ref (He.ga K "Shape")) (.ref (He.ga K "Shape")) true, fun K => opB K (He.ga K "Cover") "__add__", fun K => instB K (He.ga K "Cover"), fun K => kitF K (.type "tuple") (.ref (He.ga K "Cover")) false, fun K => kitF K (.ref (He.ga K "Cover")) (.ref (He.ga K "Cover")) true, fun K => propB K (He.ga K "Cover") "ranges", fun K => eqB K (He.ga K "Cover")]
def exB (K : PySem.W.Frag) : Bool := exL.all fun t => t K
theorem exB_ok {K : PySem.W.Frag} (h : exB K = true) (i : Nat) {t : PySem.W.Frag → Bool} (e : exL[i]? = some t) : t K = true := List.all_eq_true.mp h t (List.mem_of_getElem? e)
def GL (K : PySem.W.Frag) : Gm := ⟨K, fun c => match c with
  | 0 => He.ga K "Cover"
  | _ => He.ga K "Shape", fun _ => "spans"⟩
theorem l__law_deck : ∀ as K, S__law_deck as K → as.length = 2 := by
  rintro as K ⟨_, _, rfl, _⟩; rfl
theorem l__law_pick : ∀ as K, S__law_pick as K → as.length = 2 := by
  rintro as K ⟨_, _, _, rfl, _⟩; rfl
theorem l__law_one : ∀ as K, S__law_one as K → as.length = 2 := by
  rintro as K ⟨_, _, _, _, rfl, _⟩; rfl
theorem l__law_policies : ∀ as K, S__law_policies as K → as.length = 3 := by
  rintro as K ⟨_, _, _, _, rfl, _⟩; rfl
theorem l__law_orders : ∀ as K, S__law_orders as K → as.length = 1 := by
  rintro as K ⟨_, rfl, _⟩; rfl
theorem l_is_from : ∀ as K, S_is_from as K → as.length = 3 := by
  rintro as K ⟨_, _, _, rfl, _⟩; rfl
theorem l_is_policy : ∀ as K, S_is_policy as K → as.length = 1 := by
  rintro as K ⟨_, rfl, _⟩; rfl
theorem l_need_policies : ∀ as K, S_need_policies as K → as.length = 1 := by
  rintro as K ⟨_, rfl, _⟩; rfl
theorem l_worst_order : ∀ as K, S_worst_order as K → as.length = 1 := by
  rintro as K ⟨_, rfl, _⟩; rfl
theorem l_best_order : ∀ as K, S_best_order as K → as.length = 1 := by
  rintro as K ⟨_, rfl, _⟩; rfl
theorem l__law_chain : ∀ as K, S__law_chain as K → as.length = 2 := by
  rintro as K ⟨_, _, rfl, _⟩; rfl
theorem l_lifted : ∀ as K, S_lifted as K → as.length = 2 := by
  rintro as K ⟨_, _, rfl, _⟩; rfl
theorem l_joined : ∀ as K, S_joined as K → as.length = 1 := by
  rintro as K ⟨_, rfl, _⟩; rfl
theorem l_chained : ∀ as K, S_chained as K → as.length = 2 := by
  rintro as K ⟨_, _, rfl, _⟩; rfl
theorem l_ShapeX_initX : ∀ ds K, S_ShapeX_initX ds K → ds.length + 1 = 2 := by
  rintro ds K ⟨_, rfl, _⟩; rfl
theorem l_CoverX_addX : ∀ as K, S_CoverX_addX as K → as.length = 2 := by
  rintro as K ⟨_, _, rfl, _⟩; rfl
theorem l__law_made : ∀ as K, S__law_made as K → as.length = 1 := by
  rintro as K ⟨_, rfl, _⟩; rfl
theorem l_paid : ∀ as K, S_paid as K → as.length = 2 := by
  rintro as K ⟨_, _, rfl, _⟩; rfl
theorem l_corners : ∀ as K, S_corners as K → as.length = 2 := by
  rintro as K ⟨_, _, rfl, _⟩; rfl
theorem l_never_more : ∀ as K, S_never_more as K → as.length = 2 := by
  rintro as K ⟨_, _, rfl, _⟩; rfl
theorem l_Cover_at_most : ∀ as K, S_Cover_at_most as K → as.length = 2 := by
  rintro as K ⟨_, _, rfl, _⟩; rfl
theorem l__law_between : ∀ as K, S__law_between as K → as.length = 3 := by
  rintro as K ⟨_, _, _, rfl, _⟩; rfl
theorem l__law_mixed : ∀ as K, S__law_mixed as K → as.length = 2 := by
  rintro as K ⟨_, _, _, _, rfl, _⟩; rfl
theorem l_Cover_ranges : ∀ as K, S_Cover_ranges as K → as.length = 1 := by
  rintro as K ⟨_, rfl, _⟩; rfl
theorem l_CoverX_eqX : ∀ as K, S_CoverX_eqX as K → as.length = 2 := by
  rintro as K ⟨_, _, rfl, _⟩; rfl
theorem l_need_policy : ∀ as K, S_need_policy as K → as.length = 1 := by
  rintro as K ⟨_, rfl, _⟩; rfl
theorem l_commute : ∀ as K, S_commute as K → as.length = 2 := by
  rintro as K ⟨_, _, rfl, _⟩; rfl
theorem l__law_sort : ∀ as K, S__law_sort as K → as.length = 1 := by
  rintro as K ⟨_, rfl, _⟩; rfl
theorem l__law_same : ∀ as K, S__law_same as K → as.length = 2 := by
  rintro as K ⟨_, _, rfl, _⟩; rfl
abbrev RL : PySem.W.OpenRow := PySem.W.OpenLaw.row PySem.Challenge.rw_coverchains_k05_whole_best_and_worst_ord
abbrev hkL : PySem.W.Hook := hookC 6 faL fnL exB
def obL (s : PySem.W.SharedT) : AlC := obsCG 6 faL fnL exB (HandSHeadRun.getT s)
theorem obL_eq (s : PySem.W.SharedT) : obL s = hkL.obs s.abs := obsCG_eq (HandSHeadRun.getT_eq s)
def looseL : List Str := (["_wall", "CoverError", "InvalidPolicy", "InvalidBill", "InvalidEuro", "InvalidText", "TooMany", "LARGEST", "LARGEST_PART", "is_from", "is_policy", "need_policy", "need_bill", "Shape", "joined", "paid", "lifted", "chained", "corners", "larger", "smaller", "never_more", "MOST_POLICIES", "number_of", "policies_in"] : List Str) ++ (["Cover", "need_policies", "best_order", "worst_order", "commute", "_law_deck", "_law_pick", "_law_one", "_law_sort", "_law_same", "_law_chain", "_law_pays", "_law_pairs", "_law_policies", "_law_mixed", "_law_made", "_law_orders", "_law_between"] : List Str)
theorem runL (w : World) : HandSHeadRun.RunEq RL (PySem.W.view RL.prog [49]) hkL obL 6000 looseL w := by
  intro os
  kernel_rfl
section
variable {P : Program} {w : World} {K : PySem.W.Frag} {h : Heap} {mg : Str → Option Value} {f : Addr}
theorem factsL (X : K.In h) (Gn : h.Ns mainGlobals mg) (c : SaysC faL fnL exB K) :
    ∃ fd : FuncData, (∀ (s : Shared) (v : Value), BindsTo s fd ⟨[v], []⟩ [("script", v)]) ∧ ∀ base : Heap, K.In base → base.Ns mainGlobals mg → FnOk P w K mg base CX0 60 (He.ga K "law") fd ["script"] (spLaw K) := by
  obtain ⟨fd__law_deck, E__law_deck⟩ := c.a.def_ 0
  have F__law_deck : Fun K "_law_deck" "_law_deck" s__law_deck (He.ga K "_law_deck") fd__law_deck := He5.fun_of E__law_deck
  obtain ⟨fd__law_pick, E__law_pick⟩ := c.a.def_ 1
  have F__law_pick : Fun K "_law_pick" "_law_pick" s__law_pick (He.ga K "_law_pick") fd__law_pick := He5.fun_of E__law_pick
  obtain ⟨fd__law_one, E__law_one⟩ := c.a.def_ 2
  have F__law_one : Fun K "_law_one" "_law_one" s__law_one (He.ga K "_law_one") fd__law_one := He5.fun_of E__law_one
  obtain ⟨fd__law_policies, E__law_policies⟩ := c.a.def_ 3
  have F__law_policies : Fun K "_law_policies" "_law_policies" s__law_policies (He.ga K "_law_policies") fd__law_policies := He5.fun_of E__law_policies
  obtain ⟨fd__law_orders, E__law_orders⟩ := c.a.def_ 4
  have F__law_orders : Fun K "_law_orders" "_law_orders" s__law_orders (He.ga K "_law_orders") fd__law_orders := He5.fun_of E__law_orders
  obtain ⟨fd_is_from, E_is_from⟩ := c.a.def_ 5
  have F_is_from : Fun K "is_from" "is_from" s_is_from (He.ga K "is_from") fd_is_from := He5.fun_of E_is_from
  obtain ⟨fd_is_policy, E_is_policy⟩ := c.a.def_ 6
  have F_is_policy : Fun K "is_policy" "is_policy" s_is_policy (He.ga K "is_policy") fd_is_policy := He5.fun_of E_is_policy
  obtain ⟨fd_need_policies, E_need_policies⟩ := c.a.def_ 7
  have F_need_policies : Fun K "need_policies" "need_policies" s_need_policies (He.ga K "need_policies") fd_need_policies := He5.fun_of E_need_policies
  obtain ⟨fd_worst_order, E_worst_order⟩ := c.a.def_ 8
  have F_worst_order : Fun K "worst_order" "worst_order" s_worst_order (He.ga K "worst_order") fd_worst_order := He5.fun_of E_worst_order
  obtain ⟨fd_best_order, E_best_order⟩ := c.a.def_ 9
  have F_best_order : Fun K "best_order" "best_order" s_best_order (He.ga K "best_order") fd_best_order := He5.fun_of E_best_order
  obtain ⟨fd__law_chain, E__law_chain⟩ := c.a.def_ 10
  have F__law_chain : Fun K "_law_chain" "_law_chain" s__law_chain (He.ga K "_law_chain") fd__law_chain := He5.fun_of E__law_chain
  obtain ⟨fd_lifted, E_lifted⟩ := c.a.def_ 11
  have F_lifted : Fun K "lifted" "lifted" s_lifted (He.ga K "lifted") fd_lifted := He5.fun_of E_lifted
  obtain ⟨fd_joined, E_joined⟩ := c.a.def_ 12
  have F_joined : Fun K "joined" "joined" s_joined (He.ga K "joined") fd_joined := He5.fun_of E_joined
  obtain ⟨fd_chained, E_chained⟩ := c.a.def_ 13
  have F_chained : Fun K "chained" "chained" s_chained (He.ga K "chained") fd_chained := He5.fun_of E_chained
  obtain ⟨fd_CoverX_initX, E_CoverX_initX⟩ := c.a.def_ 14
  have F_CoverX_initX : Fun K "__init__" "Cover.__init__" s_CoverX_initX (He.ma K (He.ga K "Cover") "__init__") fd_CoverX_initX := He5.fun_of E_CoverX_initX
  obtain ⟨fd_ShapeX_initX, E_ShapeX_initX⟩ := c.a.def_ 15
  have F_ShapeX_initX : Fun K "__init__" "Shape.__init__" s_ShapeX_initX (He.ma K (He.ga K "Shape") "__init__") fd_ShapeX_initX := He5.fun_of E_ShapeX_initX
  obtain ⟨fd_CoverX_addX, E_CoverX_addX⟩ := c.a.def_ 16
  have F_CoverX_addX : Fun K "__add__" "Cover.__add__" s_CoverX_addX (He.ma K (He.ga K "Cover") "__add__") fd_CoverX_addX := He5.fun_of E_CoverX_addX
  obtain ⟨fd__law_made, E__law_made⟩ := c.a.def_ 17
  have F__law_made : Fun K "_law_made" "_law_made" s__law_made (He.ga K "_law_made") fd__law_made := He5.fun_of E__law_made
  obtain ⟨fd_paid, E_paid⟩ := c.a.def_ 18
  have F_paid : Fun K "paid" "paid" s_paid (He.ga K "paid") fd_paid := He5.fun_of E_paid
  obtain ⟨fd_corners, E_corners⟩ := c.a.def_ 19
  have F_corners : Fun K "corners" "corners" s_corners (He.ga K "corners") fd_corners := He5.fun_of E_corners
  obtain ⟨fd_never_more, E_never_more⟩ := c.a.def_ 20
  have F_never_more : Fun K "never_more" "never_more" s_never_more (He.ga K "never_more") fd_never_more := He5.fun_of E_never_more
  obtain ⟨fd_Cover_at_most, E_Cover_at_most⟩ := c.a.def_ 21
  have F_Cover_at_most : Fun K "at_most" "Cover.at_most" s_Cover_at_most (He.ma K (He.ga K "Cover") "at_most") fd_Cover_at_most := He5.fun_of E_Cover_at_most
  obtain ⟨fd__law_between, E__law_between⟩ := c.a.def_ 22
  have F__law_between : Fun K "_law_between" "_law_between" s__law_between (He.ga K "_law_between") fd__law_between := He5.fun_of E__law_between
  obtain ⟨fd__law_mixed, E__law_mixed⟩ := c.a.def_ 23
  have F__law_mixed : Fun K "_law_mixed" "_law_mixed" s__law_mixed (He.ga K "_law_mixed") fd__law_mixed := He5.fun_of E__law_mixed
  obtain ⟨fd_Cover_ranges, E_Cover_ranges⟩ := c.a.def_ 24
  have F_Cover_ranges : Fun K "ranges" "Cover.ranges" s_Cover_ranges (propG K (He.ga K "Cover") "ranges") fd_Cover_ranges := He5.fun_of E_Cover_ranges
  obtain ⟨fd_CoverX_eqX, E_CoverX_eqX⟩ := c.a.def_ 25
  have F_CoverX_eqX : Fun K "__eq__" "Cover.__eq__" s_CoverX_eqX (He.ma K (He.ga K "Cover") "__eq__") fd_CoverX_eqX := He5.fun_of E_CoverX_eqX
  obtain ⟨fd_need_policy, E_need_policy⟩ := c.a.def_ 26
  have F_need_policy : Fun K "need_policy" "need_policy" s_need_policy (He.ga K "need_policy") fd_need_policy := He5.fun_of E_need_policy
  obtain ⟨fd_commute, E_commute⟩ := c.a.def_ 27
  have F_commute : Fun K "commute" "commute" s_commute (He.ga K "commute") fd_commute := He5.fun_of E_commute
  obtain ⟨fd__law_sort, E__law_sort⟩ := c.a.def_ 28
  have F__law_sort : Fun K "_law_sort" "_law_sort" s__law_sort (He.ga K "_law_sort") fd__law_sort := He5.fun_of E__law_sort
  obtain ⟨fd__law_same, E__law_same⟩ := c.a.def_ 29
  have F__law_same : Fun K "_law_same" "_law_same" s__law_same (He.ga K "_law_same") fd__law_same := He5.fun_of E__law_same
  obtain ⟨fd_law, E_law⟩ := c.a.def_ 30
  have F_law : Fun K "law" "law" s_law (He.ga K "law") fd_law := He5.fun_of E_law
  have bl := FunD.bindsA (ps := ["script"]) E_law fun _ _ _ _ _ _ us hl => match us, hl with | [_], _ => rfl
  refine ⟨fd_law, fun s v => bl s [v] rfl, fun base KB GB => ?_⟩
  have B__law_deck : Binds K fd__law_deck ["cell", "turn"] [] := F__law_deck.binds fun _ _ _ _ _ _ us hl => match us, hl with | [_, _], _ => rfl
  have B__law_pick : Binds K fd__law_pick ["deck", "limit"] [] := F__law_pick.binds fun _ _ _ _ _ _ us hl => match us, hl with | [_, _], _ => rfl
  have B__law_one : Binds K fd__law_one ["deck", "some"] [] := F__law_one.binds fun _ _ _ _ _ _ us hl => match us, hl with | [_, _], _ => rfl
  have B__law_policies : Binds K fd__law_policies ["deck", "most_so", "wide"] [] := F__law_policies.binds fun _ _ _ _ _ _ us hl => match us, hl with | [_, _, _], _ => rfl
  have B__law_orders : Binds K fd__law_orders ["some"] [] := F__law_orders.binds fun _ _ _ _ _ _ us hl => match us, hl with | [_], _ => rfl
  have B_is_from : Binds K fd_is_from ["value", "low", "high"] [] := F_is_from.binds fun _ _ _ _ _ _ us hl => match us, hl with | [_, _, _], _ => rfl
  have B_is_policy : Binds K fd_is_policy ["value"] [] := F_is_policy.binds fun _ _ _ _ _ _ us hl => match us, hl with | [_], _ => rfl
  have B_need_policies : Binds K fd_need_policies ["policies"] [] := F_need_policies.binds fun _ _ _ _ _ _ us hl => match us, hl with | [_], _ => rfl
  have B_worst_order : Binds K fd_worst_order ["policies"] [] := F_worst_order.binds fun _ _ _ _ _ _ us hl => match us, hl with | [_], _ => rfl
  have B_best_order : Binds K fd_best_order ["policies"] [] := F_best_order.binds fun _ _ _ _ _ _ us hl => match us, hl with | [_], _ => rfl
  have B__law_chain : Binds K fd__law_chain ["some", "bill"] [] := F__law_chain.binds fun _ _ _ _ _ _ us hl => match us, hl with | [_, _], _ => rfl
  have B_lifted : Binds K fd_lifted ["spans", "rank"] [] := F_lifted.binds fun _ _ _ _ _ _ us hl => match us, hl with | [_, _], _ => rfl
  have B_joined : Binds K fd_joined ["spans"] [] := F_joined.binds fun _ _ _ _ _ _ us hl => match us, hl with | [_], _ => rfl
  have B_chained : Binds K fd_chained ["first", "second"] [] := F_chained.binds fun _ _ _ _ _ _ us hl => match us, hl with | [_, _], _ => rfl
  have B_ShapeX_initX : Binds K fd_ShapeX_initX ["self", "spans"] [] := F_ShapeX_initX.binds fun _ _ _ _ _ _ us hl => match us, hl with | [_, _], _ => rfl
  have B_CoverX_addX : Binds K fd_CoverX_addX ["self", "other"] [] := F_CoverX_addX.binds fun _ _ _ _ _ _ us hl => match us, hl with | [_, _], _ => rfl
  have B__law_made : Binds K fd__law_made ["some"] [] := F__law_made.binds fun _ _ _ _ _ _ us hl => match us, hl with | [_], _ => rfl
  have B_paid : Binds K fd_paid ["spans", "bill"] [] := F_paid.binds fun _ _ _ _ _ _ us hl => match us, hl with | [_, _], _ => rfl
  have B_corners : Binds K fd_corners ["first", "second"] [] := F_corners.binds fun _ _ _ _ _ _ us hl => match us, hl with | [_, _], _ => rfl
  have B_never_more : Binds K fd_never_more ["first", "second"] [] := F_never_more.binds fun _ _ _ _ _ _ us hl => match us, hl with | [_, _], _ => rfl
  have B_Cover_at_most : Binds K fd_Cover_at_most ["self", "other"] [] := F_Cover_at_most.binds fun _ _ _ _ _ _ us hl => match us, hl with | [_, _], _ => rfl
  have B__law_between : Binds K fd__law_between ["some", "row", "bills"] [] := F__law_between.binds fun _ _ _ _ _ _ us hl => match us, hl with | [_, _, _], _ => rfl
  have B__law_mixed : Binds K fd__law_mixed ["deck", "some"] [] := F__law_mixed.binds fun _ _ _ _ _ _ us hl => match us, hl with | [_, _], _ => rfl
  have B_Cover_ranges : Binds K fd_Cover_ranges ["self"] [] := F_Cover_ranges.binds fun _ _ _ _ _ _ us hl => match us, hl with | [_], _ => rfl
  have B_CoverX_eqX : Binds K fd_CoverX_eqX ["self", "other"] [] := F_CoverX_eqX.binds fun _ _ _ _ _ _ us hl => match us, hl with | [_, _], _ => rfl
  have B_need_policy : Binds K fd_need_policy ["policy"] [] := F_need_policy.binds fun _ _ _ _ _ _ us hl => match us, hl with | [_], _ => rfl
  have B_commute : Binds K fd_commute ["one", "other"] [] := F_commute.binds fun _ _ _ _ _ _ us hl => match us, hl with | [_, _], _ => rfl
  have B__law_sort : Binds K fd__law_sort ["thing"] [] := F__law_sort.binds fun _ _ _ _ _ _ us hl => match us, hl with | [_], _ => rfl
  have B__law_same : Binds K fd__law_same ["told", "due"] [] := F__law_same.binds fun _ _ _ _ _ _ us hl => match us, hl with | [_, _], _ => rfl
  let G : Gm := GL K
  have hG : K = G.K := rfl
  have hb : Bi mg := ⟨He.free_ok X Gn (c.a.fact 0), He.free_ok X Gn (c.a.fact 1), He.free_ok X Gn (c.a.fact 2), He.free_ok X Gn (c.a.fact 3), He.free_ok X Gn (c.a.fact 4), He.free_ok X Gn (c.a.fact 5), He.free_ok X Gn (c.a.fact 6), He.free_ok X Gn (c.a.fact 7), He.free_ok X Gn (c.a.fact 8), He.free_ok X Gn (c.a.fact 9), He.free_ok X Gn (c.a.fact 10), He.free_ok X Gn (c.a.fact 11), He.free_ok X Gn (c.a.fact 12), He.free_ok X Gn (c.a.fact 13), He.free_ok X Gn (c.a.fact 14), He.free_ok X Gn (c.a.fact 15), He.free_ok X Gn (c.a.fact 16), He.free_ok X Gn (c.a.fact 17)⟩
  have c_LARGEST_PART : ∃ t, mg "LARGEST_PART" = some (.int 1000000 t) := He.int_ok X Gn (c.a.fact 51)
  have v_Cover_MOST : mg "Cover" = some (.ref (G.ca 0)) ∧ CvI K (G.ca 0) "MOST" 8 := ⟨He.glo_ok X Gn (c.a.fact 18), cvB_ok (exB_ok c.x 0 rfl)⟩
  have i_Shape : mg "Shape" = some (.ref (G.ca 1)) ∧ IsiOk G (.ref (G.ca 1)) is_Shape := ⟨He.glo_ok X Gn (c.a.fact 21), isi_own (fun n b e => by
      by_cases q : n = "tuple"
      · subst q
        rw [if_pos rfl] at e
        cases e
        exact of_decide_eq_true (exB_ok c.x 2 rfl)
      · rw [if_neg q] at e
        cases e) (fun c' b e => by
      by_cases q : c' = 1
      · subst q
        rw [if_pos rfl] at e
        cases e
        exact ⟨instB_ok (He.cls_ok (c.a.fact 22)) (exB_ok c.x 1 rfl), of_decide_eq_true (exB_ok c.x 3 rfl)⟩
      · rw [if_neg q] at e
        cases e)⟩
  have fl_1 : KnFl K G 1 "spans" := ⟨He.cls_ok (c.a.fact 22), He.noat_ok (c.a.fact 23), rfl⟩
  have c_MOST_POLICIES : ∃ t, mg "MOST_POLICIES" = some (.int 8 t) := He.int_ok X Gn (c.a.fact 52)
  have fl_0 : KnFl K G 0 "spans" := ⟨He.cls_ok (c.a.fact 19), He.noat_ok (c.a.fact 20), rfl⟩
  have n_at_most : (("at_most" : Str) == G.cf 0) = false := by
    show (("at_most" : Str) == ("spans" : Str)) = false
    decide
  have i_Cover : mg "Cover" = some (.ref (G.ca 0)) ∧ IsiOk G (.ref (G.ca 0)) is_Cover := ⟨He.glo_ok X Gn (c.a.fact 18), isi_own (fun n b e => by
      by_cases q : n = "tuple"
      · subst q
        rw [if_pos rfl] at e
        cases e
        exact of_decide_eq_true (exB_ok c.x 6 rfl)
      · rw [if_neg q] at e
        cases e) (fun c' b e => by
      by_cases q : c' = 0
      · subst q
        rw [if_pos rfl] at e
        cases e
        exact ⟨instB_ok (He.cls_ok (c.a.fact 19)) (exB_ok c.x 5 rfl), of_decide_eq_true (exB_ok c.x 7 rfl)⟩
      · rw [if_neg q] at e
        cases e)⟩
  have O__law_deck : FnOk P w K mg base CX0 1 (He.ga K "_law_deck") fd__law_deck ["cell", "turn"] (spOfF G S__law_deck) := fnF F__law_deck sc__law_deck l__law_deck (fun cdv A outer s H E B hr => der__law_deck  cdv A outer s H E B hr) d__law_deck
  have k__law_deck : KnF P w K mg base G 1 "_law_deck" S__law_deck := ⟨_, _, _, He.glo_ok X Gn (c.a.fact 26), E__law_deck.kp, B__law_deck, O__law_deck⟩
  have O__law_pick : FnOk P w K mg base CX0 1 (He.ga K "_law_pick") fd__law_pick ["deck", "limit"] (spOf G S__law_pick) := fnD F__law_pick sc__law_pick l__law_pick (fun cdv A outer s H E B hr => der__law_pick  cdv A outer s H E B hr) d__law_pick
  have k__law_pick : Kn P w K mg base G 1 "_law_pick" S__law_pick := ⟨_, _, _, He.glo_ok X Gn (c.a.fact 27), E__law_pick.kp, B__law_pick, O__law_pick⟩
  have O__law_one : FnOk P w K mg base CX0 2 (He.ga K "_law_one") fd__law_one ["deck", "some"] (spOf G S__law_one) := fnD F__law_one sc__law_one l__law_one (fun cdv A outer s H E B hr => der__law_one hb k__law_pick cdv A outer s H E B hr) d__law_one
  have k__law_one : Kn P w K mg base G 2 "_law_one" S__law_one := ⟨_, _, _, He.glo_ok X Gn (c.a.fact 28), E__law_one.kp, B__law_one, O__law_one⟩
  have O__law_policies : FnOk P w K mg base CX0 3 (He.ga K "_law_policies") fd__law_policies ["deck", "most_so", "wide"] (spOf G S__law_policies) := fnD F__law_policies sc__law_policies l__law_policies (fun cdv A outer s H E B hr => der__law_policies hb k__law_pick k__law_one cdv A outer s H E B hr) d__law_policies
  have k__law_policies : Kn P w K mg base G 3 "_law_policies" S__law_policies := ⟨_, _, _, He.glo_ok X Gn (c.a.fact 29), E__law_policies.kp, B__law_policies, O__law_policies⟩
  have O__law_orders : FnOk P w K mg base CX0 1 (He.ga K "_law_orders") fd__law_orders ["some"] (spOf G S__law_orders) := fnD F__law_orders sc__law_orders l__law_orders (fun cdv A outer s H E B hr => der__law_orders hb cdv A outer s H E B hr) d__law_orders
  have k__law_orders : Kn P w K mg base G 1 "_law_orders" S__law_orders := ⟨_, _, _, He.glo_ok X Gn (c.a.fact 30), E__law_orders.kp, B__law_orders, O__law_orders⟩
  have O_is_from : FnOk P w K mg base CX0 1 (He.ga K "is_from") fd_is_from ["value", "low", "high"] (spOf G S_is_from) := fnD F_is_from sc_is_from l_is_from (fun cdv A outer s H E B hr => der_is_from hb hG cdv A outer s H E B hr) d_is_from
  have k_is_from : Kn P w K mg base G 1 "is_from" S_is_from := ⟨_, _, _, He.glo_ok X Gn (c.a.fact 31), E_is_from.kp, B_is_from, O_is_from⟩
  have O_is_policy : FnOk P w K mg base CX0 2 (He.ga K "is_policy") fd_is_policy ["value"] (spOf G S_is_policy) := fnD F_is_policy sc_is_policy l_is_policy (fun cdv A outer s H E B hr => der_is_policy hb hG c_LARGEST_PART k_is_from cdv A outer s H E B hr) d_is_policy
  have k_is_policy : Kn P w K mg base G 2 "is_policy" S_is_policy := ⟨_, _, _, He.glo_ok X Gn (c.a.fact 32), E_is_policy.kp, B_is_policy, O_is_policy⟩
  have O_need_policies : FnOk P w K mg base CX0 3 (He.ga K "need_policies") fd_need_policies ["policies"] (spOf G S_need_policies) := fnD F_need_policies sc_need_policies l_need_policies (fun cdv A outer s H E B hr => der_need_policies hb v_Cover_MOST hG k_is_policy cdv A outer s H E B hr) d_need_policies
  have k_need_policies : Kn P w K mg base G 3 "need_policies" S_need_policies := ⟨_, _, _, He.glo_ok X Gn (c.a.fact 33), E_need_policies.kp, B_need_policies, O_need_policies⟩
  have O_worst_order : FnOk P w K mg base CX0 4 (He.ga K "worst_order") fd_worst_order ["policies"] (spOf G S_worst_order) := fnD F_worst_order sc_worst_order l_worst_order (fun cdv A outer s H E B hr => der_worst_order k_need_policies hb cdv A outer s H E B hr) d_worst_order
  have k_worst_order : Kn P w K mg base G 4 "worst_order" S_worst_order := ⟨_, _, _, He.glo_ok X Gn (c.a.fact 34), E_worst_order.kp, B_worst_order, O_worst_order⟩
  have O_best_order : FnOk P w K mg base CX0 4 (He.ga K "best_order") fd_best_order ["policies"] (spOf G S_best_order) := fnD F_best_order sc_best_order l_best_order (fun cdv A outer s H E B hr => der_best_order k_need_policies hb cdv A outer s H E B hr) d_best_order
  have k_best_order : Kn P w K mg base G 4 "best_order" S_best_order := ⟨_, _, _, He.glo_ok X Gn (c.a.fact 35), E_best_order.kp, B_best_order, O_best_order⟩
  have O__law_chain : FnOk P w K mg base CX0 1 (He.ga K "_law_chain") fd__law_chain ["some", "bill"] (spOf G S__law_chain) := fnD F__law_chain sc__law_chain l__law_chain (fun cdv A outer s H E B hr => der__law_chain hb cdv A outer s H E B hr) d__law_chain
  have k__law_chain : Kn P w K mg base G 1 "_law_chain" S__law_chain := ⟨_, _, _, He.glo_ok X Gn (c.a.fact 36), E__law_chain.kp, B__law_chain, O__law_chain⟩
  have O_lifted : FnOk P w K mg base CX0 1 (He.ga K "lifted") fd_lifted ["spans", "rank"] (spOf G S_lifted) := fnD F_lifted sc_lifted l_lifted (fun cdv A outer s H E B hr => der_lifted  cdv A outer s H E B hr) d_lifted
  have k_lifted : Kn P w K mg base G 1 "lifted" S_lifted := ⟨_, _, _, He.glo_ok X Gn (c.a.fact 37), E_lifted.kp, B_lifted, O_lifted⟩
  have O_joined : FnOk P w K mg base CX0 1 (He.ga K "joined") fd_joined ["spans"] (spOf G S_joined) := fnD F_joined sc_joined l_joined (fun cdv A outer s H E B hr => der_joined hb hG cdv A outer s H E B hr) d_joined
  have k_joined : Kn P w K mg base G 1 "joined" S_joined := ⟨_, _, _, He.glo_ok X Gn (c.a.fact 38), E_joined.kp, B_joined, O_joined⟩
  have O_chained : FnOk P w K mg base CX0 2 (He.ga K "chained") fd_chained ["first", "second"] (spOf G S_chained) := fnD F_chained sc_chained l_chained (fun cdv A outer s H E B hr => der_chained hb k_lifted k_joined cdv A outer s H E B hr) d_chained
  have k_chained : Kn P w K mg base G 2 "chained" S_chained := ⟨_, _, _, He.glo_ok X Gn (c.a.fact 39), E_chained.kp, B_chained, O_chained⟩
  have O_CoverX_initX : FnR P w K mg base CX0 3 (He.ma K (He.ga K "Cover") "__init__") (spMk G 0 S_CoverX_initX) := initStar (c := 0) (ps := []) rfl F_CoverX_initX sc_CoverX_initX (fun kV doc pm an cdv ct us rest hl => by
      match us, hl with
      | [u], _ => cases rest <;> rfl) rfl (⟨He.cls_ok (c.a.fact 19), He.noat_ok (c.a.fact 20), rfl⟩ : KnFl K G 0 "spans").cl (⟨He.cls_ok (c.a.fact 19), He.noat_ok (c.a.fact 20), rfl⟩ : KnFl K G 0 "spans").na rfl (.inl rfl) (by decide) (by decide) (fun _ _ _ _ _ _ => rfl) (fun cdv A outer s H E B hr => ⟨der1_CoverX_initX hb i_Shape hG fl_1 k_is_policy c_MOST_POLICIES k_chained cdv A outer s H E B hr, der2_CoverX_initX hb i_Shape hG fl_1 k_is_policy c_MOST_POLICIES k_chained cdv A outer s H E B hr, der_CoverX_initX hb i_Shape hG fl_1 k_is_policy c_MOST_POLICIES k_chained cdv A outer s H E B hr⟩) d_Cover_init
  have m_Cover : KnMk P w K mg base G 3 0 "Cover" S_CoverX_initX := ⟨_, He.glo_ok X Gn (c.a.fact 18), He.mkr_ok (c.a.fact 24), O_CoverX_initX⟩
  have O_ShapeX_initX : FnOk P w K mg base CX0 1 (He.ma K (He.ga K "Shape") "__init__") fd_ShapeX_initX ["self", "spans"] (spMk G 1 S_ShapeX_initX) := initD (c := 1) rfl F_ShapeX_initX sc_ShapeX_initX l_ShapeX_initX rfl (⟨He.cls_ok (c.a.fact 22), He.noat_ok (c.a.fact 23), rfl⟩ : KnFl K G 1 "spans").cl (⟨He.cls_ok (c.a.fact 22), He.noat_ok (c.a.fact 23), rfl⟩ : KnFl K G 1 "spans").na rfl (.inl rfl) (by decide) (by decide) (fun _ _ _ _ _ _ => rfl) (fun cdv A outer s H E B hr => der_ShapeX_initX  cdv A outer s H E B hr) d_Shape_init
  have m_Shape : KnMk P w K mg base G 1 1 "Shape" S_ShapeX_initX := ⟨_, He.glo_ok X Gn (c.a.fact 21), He.mkr_ok (c.a.fact 25), DL.FnOk.r O_ShapeX_initX B_ShapeX_initX⟩
  have O_CoverX_addX : FnOk P w K mg base CX0 5 (He.ma K (He.ga K "Cover") "__add__") fd_CoverX_addX ["self", "other"] (spOf G S_CoverX_addX) := fnD F_CoverX_addX sc_CoverX_addX l_CoverX_addX (fun cdv A outer s H E B hr => der_CoverX_addX m_Cover m_Shape fl_0 k_chained cdv A outer s H E B hr) d_Cover_add
  have o_Add : KnOp P w K mg base G 5 .Add S_CoverX_addX := ⟨_, (opB_ok (exB_ok c.x 4 rfl)).1, (opB_ok (exB_ok c.x 4 rfl)).2.1, (opB_ok (exB_ok c.x 4 rfl)).2.2, DL.FnOk.r O_CoverX_addX B_CoverX_addX⟩
  have O__law_made : FnOk P w K mg base CX0 6 (He.ga K "_law_made") fd__law_made ["some"] (spOf G S__law_made) := fnD F__law_made sc__law_made l__law_made (fun cdv A outer s H E B hr => der__law_made m_Cover o_Add cdv A outer s H E B hr) d__law_made
  have k__law_made : Kn P w K mg base G 6 "_law_made" S__law_made := ⟨_, _, _, He.glo_ok X Gn (c.a.fact 40), E__law_made.kp, B__law_made, O__law_made⟩
  have O_paid : FnOk P w K mg base CX0 1 (He.ga K "paid") fd_paid ["spans", "bill"] (spOf G S_paid) := fnD F_paid sc_paid l_paid (fun cdv A outer s H E B hr => der_paid hb cdv A outer s H E B hr) d_paid
  have k_paid : Kn P w K mg base G 1 "paid" S_paid := ⟨_, _, _, He.glo_ok X Gn (c.a.fact 41), E_paid.kp, B_paid, O_paid⟩
  have O_corners : FnOk P w K mg base CX0 2 (He.ga K "corners") fd_corners ["first", "second"] (spOf G S_corners) := fnD F_corners sc_corners l_corners (fun cdv A outer s H E B hr => der_corners hb k_paid cdv A outer s H E B hr) d_corners
  have k_corners : Kn P w K mg base G 2 "corners" S_corners := ⟨_, _, _, He.glo_ok X Gn (c.a.fact 42), E_corners.kp, B_corners, O_corners⟩
  have O_never_more : FnOk P w K mg base CX0 3 (He.ga K "never_more") fd_never_more ["first", "second"] (spOf G S_never_more) := fnD F_never_more sc_never_more l_never_more (fun cdv A outer s H E B hr => der_never_more hb k_corners k_paid cdv A outer s H E B hr) d_never_more
  have k_never_more : Kn P w K mg base G 3 "never_more" S_never_more := ⟨_, _, _, He.glo_ok X Gn (c.a.fact 43), E_never_more.kp, B_never_more, O_never_more⟩
  have O_Cover_at_most : FnOk P w K mg base CX0 4 (He.ma K (He.ga K "Cover") "at_most") fd_Cover_at_most ["self", "other"] (spOf G S_Cover_at_most) := fnD F_Cover_at_most sc_Cover_at_most l_Cover_at_most (fun cdv A outer s H E B hr => der_Cover_at_most fl_0 k_never_more cdv A outer s H E B hr) d_Cover_at_most
  have t_at_most : KnMt P w K mg base G 4 "at_most" S_Cover_at_most := ⟨_, _, _, He.cls_ok (c.a.fact 19), He.meth_ok (c.a.fact 53), O_Cover_at_most, B_Cover_at_most⟩
  have O__law_between : FnOk P w K mg base CX0 7 (He.ga K "_law_between") fd__law_between ["some", "row", "bills"] (spOf G S__law_between) := fnD F__law_between sc__law_between l__law_between (fun cdv A outer s H E B hr => der__law_between k_worst_order k_best_order hb hG k__law_chain k__law_made t_at_most n_at_most cdv A outer s H E B hr) d__law_between
  have k__law_between : Kn P w K mg base G 7 "_law_between" S__law_between := ⟨_, _, _, He.glo_ok X Gn (c.a.fact 44), E__law_between.kp, B__law_between, O__law_between⟩
  have O__law_mixed : FnOk P w K mg base CX0 2 (He.ga K "_law_mixed") fd__law_mixed ["deck", "some"] (spOf G S__law_mixed) := fnD F__law_mixed sc__law_mixed l__law_mixed (fun cdv A outer s H E B hr => der__law_mixed hb hG k__law_pick cdv A outer s H E B hr) d__law_mixed
  have k__law_mixed : Kn P w K mg base G 2 "_law_mixed" S__law_mixed := ⟨_, _, _, He.glo_ok X Gn (c.a.fact 45), E__law_mixed.kp, B__law_mixed, O__law_mixed⟩
  have O_Cover_ranges : FnOk P w K mg base CX0 1 (propG K (He.ga K "Cover") "ranges") fd_Cover_ranges ["self"] (spOf G S_Cover_ranges) := fnD F_Cover_ranges sc_Cover_ranges l_Cover_ranges (fun cdv A outer s H E B hr => der_Cover_ranges hb fl_0 cdv A outer s H E B hr) d_Cover_ranges
  have p_ranges : KnP P w K mg base G 1 "ranges" S_Cover_ranges := ⟨_, _, _, _, He.cls_ok (c.a.fact 19), propB_ok (exB_ok c.x 8 rfl), O_Cover_ranges, B_Cover_ranges⟩
  have O_CoverX_eqX : FnOk P w K mg base CX0 1 (He.ma K (He.ga K "Cover") "__eq__") fd_CoverX_eqX ["self", "other"] (spOf G S_CoverX_eqX) := fnD F_CoverX_eqX sc_CoverX_eqX l_CoverX_eqX (fun cdv A outer s H E B hr => der_CoverX_eqX fl_0 hG hb i_Cover cdv A outer s H E B hr) d_Cover_eq
  have o_Eq : KnEq P w K mg base G 1 S_CoverX_eqX := ⟨_, (eqB_ok (exB_ok c.x 9 rfl)).1, (eqB_ok (exB_ok c.x 9 rfl)).2.1, (eqB_ok (exB_ok c.x 9 rfl)).2.2, DL.FnOk.r O_CoverX_eqX B_CoverX_eqX⟩
  have O_need_policy : FnOk P w K mg base CX0 3 (He.ga K "need_policy") fd_need_policy ["policy"] (spOf G S_need_policy) := fnD F_need_policy sc_need_policy l_need_policy (fun cdv A outer s H E B hr => der_need_policy k_is_policy cdv A outer s H E B hr) d_need_policy
  have k_need_policy : Kn P w K mg base G 3 "need_policy" S_need_policy := ⟨_, _, _, He.glo_ok X Gn (c.a.fact 46), E_need_policy.kp, B_need_policy, O_need_policy⟩
  have O_commute : FnOk P w K mg base CX0 4 (He.ga K "commute") fd_commute ["one", "other"] (spOf G S_commute) := fnD F_commute sc_commute l_commute (fun cdv A outer s H E B hr => der_commute k_need_policy hG cdv A outer s H E B hr) d_commute
  have k_commute : Kn P w K mg base G 4 "commute" S_commute := ⟨_, _, _, He.glo_ok X Gn (c.a.fact 47), E_commute.kp, B_commute, O_commute⟩
  have O__law_sort : FnOk P w K mg base CX0 1 (He.ga K "_law_sort") fd__law_sort ["thing"] (spOf G S__law_sort) := fnD F__law_sort sc__law_sort l__law_sort (fun cdv A outer s H E B hr => der__law_sort hb hG cdv A outer s H E B hr) d__law_sort
  have k__law_sort : Kn P w K mg base G 1 "_law_sort" S__law_sort := ⟨_, _, _, He.glo_ok X Gn (c.a.fact 48), E__law_sort.kp, B__law_sort, O__law_sort⟩
  have O__law_same : FnOk P w K mg base CX0 2 (He.ga K "_law_same") fd__law_same ["told", "due"] (spOf G S__law_same) := fnD F__law_same sc__law_same l__law_same (fun cdv A outer s H E B hr => der__law_same k__law_sort hG cdv A outer s H E B hr) d__law_same
  have k__law_same : Kn P w K mg base G 2 "_law_same" S__law_same := ⟨_, _, _, He.glo_ok X Gn (c.a.fact 49), E__law_same.kp, B__law_same, O__law_same⟩
  have O_law : FnOk P w K mg base CX0 8 (He.ga K "law") fd_law ["script"] (spLaw K) := lawD (G := G) F_law sc_law (fun a ns hl cdv A outer s H E B hB hF hr => der_law k__law_deck k__law_policies hb k__law_orders k__law_between k__law_one k__law_mixed k__law_made p_ranges k__law_pick m_Cover o_Eq hG k_commute k__law_same k_worst_order k_best_order a ns hl cdv A outer s H E B hB hF hr) d_law
  exact O_law.mono (by decide)
end
end DL
open PySem PySem.W PySem.Calls PyProof.Rows
theorem PySem.Challenge.cw_coverchains_k05_whole_best_and_worst_ord_holds : PySem.Challenge.rw_coverchains_k05_whole_best_and_worst_ord.Holds := by
  w_on; o_law
  refine HandSHeadRun.head_any (r := OpenLaw.row PySem.Challenge.rw_coverchains_k05_whole_best_and_worst_ord) (q := view (OpenLaw.row PySem.Challenge.rw_coverchains_k05_whole_best_and_worst_ord).prog [49]) (H := DL.hkL) (ob := DL.obL) (M := 6000) (loose := DL.looseL) (d := HandSHeadRun.topDef (OpenLaw.row PySem.Challenge.rw_coverchains_k05_whole_best_and_worst_ord).prog 49) (kwd := []) DL.obL_eq
    (by kernel_rfl) (fun s => by kernel_rfl) DL.runL (by kernel_rfl) (by kernel_rfl) (by kernel_rfl) (by rfl) (by first | assumption | decide +kernel) (by decide +kernel) ⟨rfl, rfl, rfl, rfl, rfl, by decide +kernel⟩ ?hw ?hc
  case hw => w_witness2
  case hc =>
    refine L2.walk_ofE (l := PySem.Challenge.rw_coverchains_k05_whole_best_and_worst_ord) (n := 63) (k := 60) (x := "script") (CX := L2.CX0) rfl (by decide) (by kernel_rfl) ⟨rfl, by decide, by decide⟩ ?F (fun _ _ _ _ z => z)
    intro w mg fa h Y G hmg0
    obtain ⟨K, KX, c⟩ := Y
    have hmg : mg ("law" : PySem.Str) = some (.ref fa) := by
      have e : (HandSHeadRun.topDef (OpenLaw.row PySem.Challenge.rw_coverchains_k05_whole_best_and_worst_ord).prog 49).name = ("law" : PySem.Str) := by kernel_rfl
      rw [← e]
      exact hmg0
    have hfa : fa = He.ga K "law" := by
      have e := He.glo_ok KX G (c.a.fact 50)
      rw [hmg] at e
      cases e
      rfl
    subst hfa
    obtain ⟨fd, hb, hF⟩ := DL.factsL (P := (PySem.Challenge.rw_coverchains_k05_whole_best_and_worst_ord).prog) (w := w) KX G c
    exact ⟨K, fd, DL.spLaw K, KX, hb, fun H a ns hl _ hS => ⟨a, ns, rfl, hS, hl, fun _ => rfl⟩, hF⟩
