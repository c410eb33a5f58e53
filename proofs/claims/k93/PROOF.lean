import PyProof.Rows.All
import Wide.All
import OpenK.AllK
import Wide.FinOn
import HandS.ForMost
import HandS.IsInst
import HandS.Deep
import KE.SortData
import HandS.RaiseMore
import HandS.Strs
import HandS.SetKeys
import PySem.Challenge.RW_sameanswer_k93_papers_and_logs_as_texts
set_option Elab.async false
set_option linter.all false
set_option maxRecDepth 100000
/-! MM: a layer of mirrors over the hand layer: data without heap, a state of slots, and programs over it. -/
namespace MM
open PySem PySem.Spec PyProof.Rows L2

/-- data, without the heap; fl: a list that is read only (the script); wh: the handle of the drawing dict -/
inductive D where
  | non
  | bl (b : Bool)
  | int (i : Int)
  | str (s : Str)
  | tup (ds : List D)
  | lst (ds : List D)
  | fl (ds : List D)
  | wh
  | ty (n : String)

/-- the drawing dict's address and its list's -/
abbrev WA := Option (Addr × Addr)
/-- the draws and the place -/
abbrev WS := Option (List Int × Int)

def NW (wa : WA) (a : Addr) : Prop := ∀ x y, wa = some (x, y) → a ≠ x

def TK (K : PySem.W.Frag) (a : Addr) (xs : List V) : Prop :=
  ∃ (o : Obj) (its : Array Value) (n : Nat), K.lookup a = some o ∧ o.cls = .type "tuple" ∧ o.data = .seq its n ∧ its.size ≤ sizeLine ∧ Vals xs its.toList
def LK (K : PySem.W.Frag) (a : Addr) (xs : List V) : Prop :=
  ∃ (o : Obj) (its : Array Value) (n : Nat), K.lookup a = some o ∧ o.cls = .type "list" ∧ o.dict = none ∧ o.data = .seq its n ∧ its.size ≤ sizeLine ∧ Vals xs its.toList

mutual
inductive Rep (K : PySem.W.Frag) (O : Addr → Prop) (wa : WA) (H : Hp) : V → D → Prop
  | non : Rep K O wa H .non .non
  | bl (b : Bool) : Rep K O wa H (.bl b) (.bl b)
  | int (i : Int) : Rep K O wa H (.int i) (.int i)
  | str (x : Str) : Rep K O wa H (.str x) (.str x)
  | tup {a : Addr} {xs : List V} {ds : List D} : ¬ O a → H a = some (.tup xs) → Reps K O wa H xs ds → Rep K O wa H (.ref a) (.tup ds)
  | tupK {a : Addr} {xs : List V} {ds : List D} : TK K a xs → Reps K O wa H xs ds → Rep K O wa H (.ref a) (.tup ds)
  | lst {a : Addr} {xs : List V} {ds : List D} : ¬ O a → H a = some (.lst xs) → Reps K O wa H xs ds → Rep K O wa H (.ref a) (.lst ds)
  | fl {a : Addr} {xs : List V} {ds : List D} : ¬ O a → Rd H a (.lst xs) → Reps K O wa H xs ds → Rep K O wa H (.ref a) (.fl ds)
  | flK {a : Addr} {xs : List V} {ds : List D} : LK K a xs → Reps K O wa H xs ds → Rep K O wa H (.ref a) (.fl ds)
  | wh {x y : Addr} : wa = some (x, y) → Rep K O wa H (.ref x) .wh
  | ty (n : String) : Rep K O wa H (.ty n) (.ty n)
inductive Reps (K : PySem.W.Frag) (O : Addr → Prop) (wa : WA) (H : Hp) : List V → List D → Prop
  | nil : Reps K O wa H [] []
  | cons {v : V} {vs : List V} {d : D} {ds : List D} : Rep K O wa H v d → Reps K O wa H vs ds → Reps K O wa H (v :: vs) (d :: ds)
end

section
variable {K : PySem.W.Frag} {O O' : Addr → Prop} {wa : WA} {H H' : Hp}
/-- what is known outside O stays, and stays outside -/
def Kp (O O' : Addr → Prop) (H H' : Hp) : Prop := ∀ a o, ¬ O a → H a = some o → H' a = some o ∧ ¬ O' a
theorem Kp.refl : Kp O O H H := fun a o h e => ⟨e, h⟩
theorem Kp.trans {O1 : Addr → Prop} {H1 : Hp} (p : Kp O O1 H H1) (q : Kp O1 O' H1 H') : Kp O O' H H' := fun a o h e =>
  q a o (p a o h e).2 (p a o h e).1
mutual
theorem Rep.kp (k : Kp O O' H H') : ∀ (d : D) {v : V}, Rep K O wa H v d → Rep K O' wa H' v d
  | .non, _, h => by cases h; exact .non
  | .bl b, _, h => by cases h; exact .bl b
  | .int i, _, h => by cases h; exact .int i
  | .str s, _, h => by cases h; exact .str s
  | .wh, _, h => by cases h with | wh e => exact .wh e
  | .ty n, _, h => by cases h; exact .ty n
  | .tup ds, _, h => by
    cases h with
    | tup n e r => exact .tup (k _ _ n e).2 (k _ _ n e).1 (Reps.kp k ds r)
    | tupK e r => exact .tupK e (Reps.kp k ds r)
  | .lst ds, _, h => by
    cases h with
    | lst n e r => exact .lst (k _ _ n e).2 (k _ _ n e).1 (Reps.kp k ds r)
  | .fl ds, _, h => by
    cases h with
    | fl n e r =>
      rcases e with e | ⟨o, e⟩
      · exact .fl (k _ _ n e).2 (.inl (k _ _ n e).1) (Reps.kp k ds r)
      · exact .fl (k _ _ n e).2 (.inr ⟨o, (k _ _ n e).1⟩) (Reps.kp k ds r)
    | flK e r => exact .flK e (Reps.kp k ds r)
theorem Reps.kp (k : Kp O O' H H') : ∀ (ds : List D) {vs : List V}, Reps K O wa H vs ds → Reps K O' wa H' vs ds
  | [], _, h => by cases h; exact .nil
  | d :: ds, _, h => by cases h with | cons a b => exact .cons (Rep.kp k d a) (Reps.kp k ds b)
end
theorem Reps.length : ∀ {vs : List V} {ds : List D}, Reps K O wa H vs ds → vs.length = ds.length
  | [], [], _ => rfl
  | _ :: vs, _ :: ds, h => by cases h with | cons a b => exact congrArg Nat.succ (Reps.length b)
  | [], _ :: _, h => by cases h
  | _ :: _, [], h => by cases h
theorem Reps.get : ∀ {vs : List V} {ds : List D} {i : Nat} {d : D}, Reps K O wa H vs ds → ds[i]? = some d → ∃ v, vs[i]? = some v ∧ Rep K O wa H v d
  | [], [], i, d, h, e => by simp at e
  | v :: vs, d' :: ds, 0, d, h, e => by
    cases h with
    | cons a b =>
      simp at e
      subst e
      exact ⟨v, rfl, a⟩
  | v :: vs, d' :: ds, i + 1, d, h, e => by
    cases h with
    | cons a b =>
      obtain ⟨w, e1, r⟩ := Reps.get (i := i) b (by simpa using e)
      exact ⟨w, by simpa using e1, r⟩
  | [], _ :: _, _, _, h, _ => by cases h
  | _ :: _, [], _, _, h, _ => by cases h
theorem Reps.append : ∀ {vs ws : List V} {ds es : List D}, Reps K O wa H vs ds → Reps K O wa H ws es → Reps K O wa H (vs ++ ws) (ds ++ es)
  | [], _, [], _, _, h => h
  | _ :: _, _, _ :: _, _, .cons a b, h => .cons a (Reps.append b h)
  | [], _, _ :: _, _, h, _ => by cases h
  | _ :: _, _, [], _, h, _ => by cases h
theorem Reps.take : ∀ {vs : List V} {ds : List D} (n : Nat), Reps K O wa H vs ds → Reps K O wa H (vs.take n) (ds.take n)
  | _, _, 0, _ => .nil
  | [], [], _ + 1, h => h
  | _ :: _, _ :: _, n + 1, .cons a b => .cons a (Reps.take n b)
  | [], _ :: _, _ + 1, h => by cases h
  | _ :: _, [], _ + 1, h => by cases h
theorem Reps.drop : ∀ {vs : List V} {ds : List D} (n : Nat), Reps K O wa H vs ds → Reps K O wa H (vs.drop n) (ds.drop n)
  | _, _, 0, h => h
  | [], [], _ + 1, h => h
  | _ :: _, _ :: _, n + 1, .cons a b => Reps.drop n b
  | [], _ :: _, _ + 1, h => by cases h
  | _ :: _, [], _ + 1, h => by cases h
theorem Reps.ints : ∀ {vs : List V} {ns : List Int}, Reps K O wa H vs (ns.map D.int) → vs = ns.map V.int
  | [], [], _ => rfl
  | _ :: _, n :: ns, .cons a b => by
    cases a
    rw [List.map_cons, Reps.ints b]
  | [], _ :: _, h => by cases h
  | _ :: _, [], h => by cases h
theorem Reps.of_ints : ∀ (ns : List Int), Reps K O wa H (ns.map V.int) (ns.map D.int)
  | [] => .nil
  | n :: ns => .cons (.int n) (Reps.of_ints ns)
theorem Reps.strs : ∀ {vs : List V} {ns : List Str}, Reps K O wa H vs (ns.map D.str) → vs = ns.map V.str
  | [], [], _ => rfl
  | _ :: _, n :: ns, .cons a b => by
    cases a
    rw [List.map_cons, Reps.strs b]
  | [], _ :: _, h => by cases h
  | _ :: _, [], h => by cases h
theorem Reps.of_strs : ∀ (ns : List Str), Reps K O wa H (ns.map V.str) (ns.map D.str)
  | [] => .nil
  | n :: ns => .cons (.str n) (Reps.of_strs ns)
end

/-! ### the state -/
/-- a slot: nothing known, data that stays, a list that is this slot's own -/
inductive AV where
  | u
  | imm (d : D)
  | own (d : D)
structure S where
  ρ : List AV
  W : WS
/-- the call: the drawing dict, the callers' own objects, the heap at the entry -/
structure G where
  wa : WA
  Oc : Addr → Prop
  H0 : Hp
/-- the slots' own objects, and those of temporaries -/
structure Gh where
  own : Nat → Option Addr
  T : Addr → Prop
def OO (g : G) (γ : Gh) (a : Addr) : Prop := g.Oc a ∨ (∃ i, γ.own i = some a) ∨ γ.T a
def WRel (H : Hp) : WA → WS → Prop
  | none, none => True
  | some (x, y), some (ds, k) => x ≠ y ∧ H x = some (.dK [(.inr "draws", .ref y), (.inr "at", .int k)]) ∧ H y = some (.lst (ds.map V.int))
  | _, _ => False
/-- what stands at the own object p -/
inductive CAt (K : PySem.W.Frag) (O : Addr → Prop) (wa : WA) (H : Hp) (p : Addr) : D → Prop
  | lst {ds : List D} {vs : List V} : H p = some (.lst vs) → Reps K O wa H vs ds → CAt K O wa H p (.lst ds)
def SlotR (K : PySem.W.Frag) (O : Addr → Prop) (wa : WA) (own : Nat → Option Addr) (i : Nat) (σ : L2.St) (H : Hp) : AV → Prop
  | .u => True
  | .imm d => ∃ v, σ[i]? = some (some v) ∧ Rep K O wa H v d
  | .own d => ∃ p, own i = some p ∧ σ[i]? = some (some (.ref p)) ∧ CAt K O wa H p d
structure GOk (g : G) : Prop where
  oc : ∀ a, g.Oc a → ∃ o, g.H0 a = some o
  wo : ∀ x y, g.wa = some (x, y) → g.Oc x ∧ g.Oc y
structure SRel (K : PySem.W.Frag) (g : G) (γ : Gh) (σ : L2.St) (H : Hp) (s : S) : Prop where
  ok : GOk g
  fr : ∀ a o, NW g.wa a → g.H0 a = some o → H a = some o
  w : WRel H g.wa s.W
  inj : ∀ i j a, γ.own i = some a → γ.own j = some a → i = j
  fresh : ∀ i a, γ.own i = some a → g.H0 a = none
  tf : ∀ a, γ.T a → g.H0 a = none ∧ (∃ o, H a = some o) ∧ ∀ i, γ.own i ≠ some a
  len : σ.length = s.ρ.length
  slot : ∀ i av, s.ρ[i]? = some av → SlotR K (OO g γ) g.wa γ.own i σ H av
  ownd : ∀ i a, γ.own i = some a → ∃ d, s.ρ[i]? = some (.own d)

section
variable {K : PySem.W.Frag} {g : G} {γ γ' : Gh} {σ σ' : L2.St} {H H' : Hp} {s s' : S}
theorem CAt.dom {O : Addr → Prop} {wa : WA} {p : Addr} {d : D} (h : CAt K O wa H p d) : ∃ o, H p = some o := by
  cases h with
  | lst e _ => exact ⟨_, e⟩
theorem CAt.kp {O O' : Addr → Prop} {wa : WA} {p : Addr} {d : D} (k : Kp O O' H H') (e : ∀ o, H p = some o → H' p = some o) (h : CAt K O wa H p d) : CAt K O' wa H' p d := by
  cases h with
  | lst e1 r => exact .lst (e _ e1) (Reps.kp k _ r)
/-- an own object's slot -/
theorem SRel.at (R : SRel K g γ σ H s) {i : Nat} {a : Addr} (h : γ.own i = some a) : ∃ d, s.ρ[i]? = some (.own d) ∧ σ[i]? = some (some (.ref a)) ∧ CAt K (OO g γ) g.wa H a d := by
  obtain ⟨d, e⟩ := R.ownd i a h
  obtain ⟨p, e1, e2, c⟩ := R.slot i _ e
  have : p = a := Option.some.inj (e1.symm.trans h)
  subst this
  exact ⟨d, e, e2, c⟩
theorem SRel.nw (R : SRel K g γ σ H s) {i : Nat} {a : Addr} (h : γ.own i = some a) : NW g.wa a := fun x y e z => by
  obtain ⟨o, e1⟩ := R.ok.oc x (R.ok.wo x y e).1
  rw [← z, R.fresh i a h] at e1
  cases e1
theorem SRel.nwT (R : SRel K g γ σ H s) {a : Addr} (h : γ.T a) : NW g.wa a := fun x y e z => by
  obtain ⟨o, e1⟩ := R.ok.oc x (R.ok.wo x y e).1
  rw [← z, (R.tf a h).1] at e1
  cases e1
theorem WRel.x {wa : WA} {W : WS} (h : WRel H wa W) {x y : Addr} (e : wa = some (x, y)) : ∃ o, H x = some o := by
  subst e
  cases W with
  | none => exact h.elim
  | some w => exact ⟨_, h.2.1⟩
theorem WRel.ne {wa : WA} {W : WS} (h : WRel H wa W) {x y : Addr} (e : wa = some (x, y)) : x ≠ y := by
  subst e
  cases W with
  | none => exact h.elim
  | some w => exact h.1
theorem WRel.keep {wa : WA} {W : WS} (h : WRel H wa W) (k : ∀ x y, wa = some (x, y) → H' x = H x ∧ H' y = H y) : WRel H' wa W := by
  cases wa with
  | none => cases W with
    | none => exact h
    | some w => exact h.elim
  | some q => cases W with
    | none => exact h.elim
    | some w =>
      obtain ⟨a, b, c⟩ := h
      obtain ⟨e1, e2⟩ := k _ _ rfl
      exact ⟨a, e1.trans b, e2.trans c⟩
/-- the own objects are known -/
theorem SRel.dom (R : SRel K g γ σ H s) {a : Addr} (h : OO g γ a) : ∃ o, H a = some o := by
  rcases h with h | ⟨i, h⟩ | h
  · obtain ⟨o, e⟩ := R.ok.oc a h
    by_cases q : ∃ x y, g.wa = some (x, y) ∧ a = x
    · obtain ⟨x, y, q, rfl⟩ := q
      exact R.w.x q
    · exact ⟨o, R.fr a o (fun x y e z => q ⟨x, y, e, z⟩) e⟩
  · obtain ⟨d, _, _, c⟩ := R.at h
    exact c.dom
  · exact (R.tf a h).2.1
theorem SRel.wx (R : SRel K g γ σ H s) {x y : Addr} (e : g.wa = some (x, y)) : OO g γ x := .inl (R.ok.wo x y e).1
theorem SRel.new (R : SRel K g γ σ H s) {p : Addr} (h : H p = none) : g.H0 p = none ∧ ¬ OO g γ p := by
  refine ⟨?_, fun z => ?_⟩
  · cases e : g.H0 p with
    | none => rfl
    | some o =>
      by_cases q : ∃ x y, g.wa = some (x, y) ∧ p = x
      · obtain ⟨x, y, q, rfl⟩ := q
        obtain ⟨o, e2⟩ := R.w.x q
        rw [h] at e2
        cases e2
      · have := R.fr p o (fun x y e z => q ⟨x, y, e, z⟩) e
        rw [h] at this
        cases this
  · obtain ⟨o, e⟩ := R.dom z
    rw [h] at e
    cases e
/-- the heap grows -/
theorem SRel.grow (R : SRel K g γ σ H s) (e : ∀ a o, H a = some o → H' a = some o) : SRel K g γ σ H' s where
  ok := R.ok
  fr := fun a o n h => e _ _ (R.fr a o n h)
  w := by
    refine R.w.keep fun x y q => ?_
    obtain ⟨hx, hy⟩ := R.ok.wo x y q
    obtain ⟨o, ex⟩ := R.dom (a := x) (.inl hx)
    obtain ⟨o', ey⟩ := R.dom (a := y) (.inl hy)
    exact ⟨by rw [ex, e _ _ ex], by rw [ey, e _ _ ey]⟩
  inj := R.inj
  fresh := R.fresh
  tf := fun a h => ⟨(R.tf a h).1, by obtain ⟨o, q⟩ := (R.tf a h).2.1; exact ⟨o, e _ _ q⟩, (R.tf a h).2.2⟩
  len := R.len
  slot := fun i av h => by
    have q := R.slot i av h
    have k : Kp (OO g γ) (OO g γ) H H' := fun a o n h => ⟨e _ _ h, n⟩
    cases av with
    | u => exact q
    | imm d => obtain ⟨v, a, b⟩ := q; exact ⟨v, a, Rep.kp k d b⟩
    | own d => obtain ⟨p, a, b, c⟩ := q; exact ⟨p, a, b, c.kp k fun o h => e _ _ h⟩
  ownd := R.ownd

/-- behind an expression -/
structure KE (g : G) (γ γ' : Gh) (H H' : Hp) : Prop where
  T : γ'.T = γ.T
  own : ∀ i a, γ'.own i = some a → γ.own i = some a
  h : ∀ a o, NW g.wa a → H a = some o → H' a = some o
theorem KE.refl : KE g γ γ H H := ⟨rfl, fun _ _ h => h, fun _ _ _ h => h⟩
theorem KE.trans {γ1 : Gh} {H1 : Hp} (a : KE g γ γ1 H H1) (b : KE g γ1 γ' H1 H') : KE g γ γ' H H' :=
  ⟨b.T.trans a.T, fun i x h => a.own i x (b.own i x h), fun x o n h => b.h x o n (a.h x o n h)⟩
theorem KE.grow (e : ∀ a o, H a = some o → H' a = some o) : KE g γ γ H H' := ⟨rfl, fun _ _ h => h, fun _ _ _ h => e _ _ h⟩
theorem KE.oo (k : KE g γ γ' H H') {a : Addr} (h : OO g γ' a) : OO g γ a := by
  rcases h with h | ⟨i, h⟩ | h
  · exact .inl h
  · exact .inr (.inl ⟨i, k.own i a h⟩)
  · exact .inr (.inr (by rw [← k.T]; exact h))
theorem KE.kp (k : KE g γ γ' H H') (ok : GOk g) : Kp (OO g γ) (OO g γ') H H' := fun a o n h =>
  ⟨k.h a o (fun x y e z => n (.inl (by rw [z]; exact (ok.wo x y e).1))) h, fun z => n (k.oo z)⟩
/-- a value, or a slot's own object as it is now -/
def RepS (K : PySem.W.Frag) (g : G) (γ : Gh) (H : Hp) (v : V) (d : D) : Prop :=
  Rep K (OO g γ) g.wa H v d ∨ ∃ p, v = .ref p ∧ NW g.wa p ∧ CAt K (OO g γ) g.wa H p d
theorem RepS.ke {v : V} {d : D} (k : KE g γ γ' H H') (ok : GOk g) (h : RepS K g γ H v d) : RepS K g γ' H' v d := by
  rcases h with h | ⟨p, e, n, c⟩
  · exact .inl (Rep.kp (k.kp ok) d h)
  · exact .inr ⟨p, e, n, c.kp (k.kp ok) fun o q => k.h p o n q⟩
theorem Rep.ke {v : V} {d : D} (k : KE g γ γ' H H') (ok : GOk g) (h : Rep K (OO g γ) g.wa H v d) : Rep K (OO g γ') g.wa H' v d := Rep.kp (k.kp ok) d h
theorem Reps.ke {v : List V} {d : List D} (k : KE g γ γ' H H') (ok : GOk g) (h : Reps K (OO g γ) g.wa H v d) : Reps K (OO g γ') g.wa H' v d := Reps.kp (k.kp ok) d h

/-- a slot takes data that stays; its own object, if it had one, is let go -/
theorem SRel.setImm (R : SRel K g γ σ H s) {i : Nat} {v : V} {d : D} (hi : i < s.ρ.length) (r : Rep K (OO g γ) g.wa H v d) :
    ∃ γ', SRel K g γ' (σ.set i (some v)) H { s with ρ := s.ρ.set i (.imm d) } ∧ KE g γ γ' H H := by
  let γ' : Gh := ⟨fun j => if j = i then none else γ.own j, γ.T⟩
  have ow : ∀ j a, γ'.own j = some a → γ.own j = some a ∧ j ≠ i := fun j a h => by
    by_cases e : j = i
    · rw [show γ'.own j = none from if_pos e] at h
      cases h
    · exact ⟨by rw [← h]; exact (if_neg e).symm, e⟩
  have k : KE g γ γ' H H := ⟨rfl, fun j a h => (ow j a h).1, fun _ _ _ h => h⟩
  refine ⟨γ', ⟨R.ok, R.fr, R.w, fun a b x h1 h2 => R.inj a b x (ow _ _ h1).1 (ow _ _ h2).1, fun j a h => R.fresh j a (ow _ _ h).1, fun a h => ⟨(R.tf a h).1, (R.tf a h).2.1, fun j z => (R.tf a h).2.2 j (ow _ _ z).1⟩, ?_, fun j av h => ?_, fun j a h => ?_⟩, k⟩
  · show (σ.set i (some v)).length = (s.ρ.set i (.imm d)).length
    rw [List.length_set, List.length_set]
    exact R.len
  · have h : (s.ρ.set i (.imm d))[j]? = some av := h
    by_cases e : i = j
    · subst e
      rw [List.getElem?_set_self hi] at h
      cases h
      exact ⟨v, List.getElem?_set_self (by rw [R.len]; exact hi), r.ke k R.ok⟩
    · rw [List.getElem?_set_ne e] at h
      have q := R.slot j av h
      cases av with
      | u => exact True.intro
      | imm d' =>
        obtain ⟨w, a, b⟩ := q
        exact ⟨w, by rw [List.getElem?_set_ne e]; exact a, b.ke k R.ok⟩
      | own d' =>
        obtain ⟨p, a, b, c⟩ := q
        refine ⟨p, by rw [show γ'.own j = γ.own j from if_neg (fun z => e z.symm)]; exact a, by rw [List.getElem?_set_ne e]; exact b, c.kp (k.kp R.ok) fun _ h => h⟩
  · obtain ⟨h1, h2⟩ := ow j a h
    obtain ⟨d', q⟩ := R.ownd j a h1
    refine ⟨d', ?_⟩
    show (s.ρ.set i (.imm d))[j]? = _
    rw [List.getElem?_set_ne (fun z => h2 z.symm)]
    exact q
/-- slots forgotten -/
theorem SRel.setU (R : SRel K g γ σ H s) (i : Nat) (x : Option V) :
    ∃ γ', SRel K g γ' (σ.set i x) H { s with ρ := s.ρ.set i .u } ∧ KE g γ γ' H H := by
  let γ' : Gh := ⟨fun j => if j = i then none else γ.own j, γ.T⟩
  have ow : ∀ j a, γ'.own j = some a → γ.own j = some a ∧ j ≠ i := fun j a h => by
    by_cases e : j = i
    · rw [show γ'.own j = none from if_pos e] at h
      cases h
    · exact ⟨by rw [← h]; exact (if_neg e).symm, e⟩
  have k : KE g γ γ' H H := ⟨rfl, fun j a h => (ow j a h).1, fun _ _ _ h => h⟩
  refine ⟨γ', ⟨R.ok, R.fr, R.w, fun a b x h1 h2 => R.inj a b x (ow _ _ h1).1 (ow _ _ h2).1, fun j a h => R.fresh j a (ow _ _ h).1, fun a h => ⟨(R.tf a h).1, (R.tf a h).2.1, fun j z => (R.tf a h).2.2 j (ow _ _ z).1⟩, ?_, fun j av h => ?_, fun j a h => ?_⟩, k⟩
  · show (σ.set i x).length = (s.ρ.set i .u).length
    rw [List.length_set, List.length_set]
    exact R.len
  · have h : (s.ρ.set i .u)[j]? = some av := h
    by_cases e : i = j
    · subst e
      by_cases hi : i < s.ρ.length
      · rw [List.getElem?_set_self hi] at h
        cases h
        exact True.intro
      · rw [List.getElem?_eq_none (by rw [List.length_set]; omega)] at h
        cases h
    · rw [List.getElem?_set_ne e] at h
      have q := R.slot j av h
      cases av with
      | u => exact True.intro
      | imm d' =>
        obtain ⟨w, a, b⟩ := q
        exact ⟨w, by rw [List.getElem?_set_ne e]; exact a, b.ke k R.ok⟩
      | own d' =>
        obtain ⟨p, a, b, c⟩ := q
        refine ⟨p, by rw [show γ'.own j = γ.own j from if_neg (fun z => e z.symm)]; exact a, by rw [List.getElem?_set_ne e]; exact b, c.kp (k.kp R.ok) fun _ h => h⟩
  · obtain ⟨h1, h2⟩ := ow j a h
    obtain ⟨d', q⟩ := R.ownd j a h1
    refine ⟨d', ?_⟩
    show (s.ρ.set i .u)[j]? = _
    rw [List.getElem?_set_ne (fun z => h2 z.symm)]
    exact q
/-- an own object is let go: it stays from now on -/
theorem SRel.freeze (R : SRel K g γ σ H s) {i : Nat} {d : D} (hi : s.ρ[i]? = some (.own d)) :
    ∃ γ' p, σ[i]? = some (some (.ref p)) ∧ SRel K g γ' σ H { s with ρ := s.ρ.set i (.imm d) } ∧ KE g γ γ' H H ∧ Rep K (OO g γ') g.wa H (.ref p) d := by
  obtain ⟨p, hp, hs, hc⟩ := R.slot i _ hi
  let γ' : Gh := ⟨fun j => if j = i then none else γ.own j, γ.T⟩
  have ow : ∀ j a, γ'.own j = some a → γ.own j = some a ∧ j ≠ i := fun j a h => by
    by_cases e : j = i
    · rw [show γ'.own j = none from if_pos e] at h
      cases h
    · exact ⟨by rw [← h]; exact (if_neg e).symm, e⟩
  have k : KE g γ γ' H H := ⟨rfl, fun j a h => (ow j a h).1, fun _ _ _ h => h⟩
  have np : ¬ OO g γ' p := by
    rintro (h | ⟨j, h⟩ | h)
    · obtain ⟨o, e⟩ := R.ok.oc p h
      rw [R.fresh i p hp] at e
      cases e
    · obtain ⟨h1, h2⟩ := ow j p h
      exact h2 (R.inj j i p h1 hp)
    · exact (R.tf p h).2.2 i hp
  have r : Rep K (OO g γ') g.wa H (.ref p) d := by
    have c := hc.kp (k.kp R.ok) fun _ h => h
    cases c with
    | lst e r => exact .lst np e r
  have hi' : i < s.ρ.length := (List.getElem?_eq_some_iff.mp hi).1
  refine ⟨γ', p, hs, ⟨R.ok, R.fr, R.w, fun a b x h1 h2 => R.inj a b x (ow _ _ h1).1 (ow _ _ h2).1, fun j a h => R.fresh j a (ow _ _ h).1, fun a h => ⟨(R.tf a h).1, (R.tf a h).2.1, fun j z => (R.tf a h).2.2 j (ow _ _ z).1⟩, ?_, fun j av h => ?_, fun j a h => ?_⟩, k, r⟩
  · show σ.length = (s.ρ.set i (.imm d)).length
    rw [List.length_set]
    exact R.len
  · have h : (s.ρ.set i (.imm d))[j]? = some av := h
    by_cases e : i = j
    · subst e
      rw [List.getElem?_set_self hi'] at h
      cases h
      exact ⟨_, hs, r⟩
    · rw [List.getElem?_set_ne e] at h
      have q := R.slot j av h
      cases av with
      | u => exact True.intro
      | imm d' =>
        obtain ⟨w, a, b⟩ := q
        exact ⟨w, a, b.ke k R.ok⟩
      | own d' =>
        obtain ⟨p', a, b, c⟩ := q
        refine ⟨p', by rw [show γ'.own j = γ.own j from if_neg (fun z => e z.symm)]; exact a, b, c.kp (k.kp R.ok) fun _ h => h⟩
  · obtain ⟨h1, h2⟩ := ow j a h
    obtain ⟨d', q⟩ := R.ownd j a h1
    refine ⟨d', ?_⟩
    show (s.ρ.set i (.imm d))[j]? = _
    rw [List.getElem?_set_ne (fun z => h2 z.symm)]
    exact q
/-- a new object that is a temporary's own -/
def addT (γ : Gh) (p : Addr) : Gh := ⟨γ.own, fun a => γ.T a ∨ a = p⟩
theorem SRel.addT (R : SRel K g γ σ H s) {p : Addr} (h : H p = none) (o : HO) : SRel K g (addT γ p) σ (upd H p o) s := by
  obtain ⟨h0, np⟩ := R.new h
  have e : ∀ a u, H a = some u → upd H p o a = some u := fun a u q => by rw [upd_ne (ne_of_none q h)]; exact q
  have R' := R.grow e
  have kk : Kp (OO g γ) (OO g (MM.addT γ p)) H (upd H p o) := fun a u n q => ⟨e _ _ q, fun z => by
    rcases z with z | z | z | z
    · exact n (.inl z)
    · exact n (.inr (.inl z))
    · exact n (.inr (.inr z))
    · exact ne_of_none q h z⟩
  refine ⟨R.ok, R'.fr, R'.w, R.inj, R.fresh, fun a z => ?_, R.len, fun i av q => ?_, R.ownd⟩
  · rcases z with z | z
    · exact R'.tf a z
    · subst z
      refine ⟨h0, ⟨o, upd_same⟩, fun i q => np (.inr (.inl ⟨i, q⟩))⟩
  · have r := R.slot i av q
    cases av with
    | u => exact True.intro
    | imm d' =>
      obtain ⟨w, a, b⟩ := r
      exact ⟨w, a, Rep.kp kk _ b⟩
    | own d' =>
      obtain ⟨p', a, b, c⟩ := r
      exact ⟨p', a, b, c.kp kk fun u h => e _ _ h⟩
theorem SRel.updT (R : SRel K g γ σ H s) {p : Addr} (h : γ.T p) (o : HO) : SRel K g γ σ (upd H p o) s := by
  obtain ⟨h0, hd, ho⟩ := R.tf p h
  have e : ∀ a u, a ≠ p → H a = some u → upd H p o a = some u := fun a u n q => by rw [upd_ne n]; exact q
  have kk : Kp (OO g γ) (OO g γ) H (upd H p o) := fun a u n q => ⟨e _ _ (fun z => n (.inr (.inr (by rw [z]; exact h)))) q, n⟩
  refine ⟨R.ok, fun a u n q => ?_, ?_, R.inj, R.fresh, fun a z => ?_, R.len, fun i av q => ?_, R.ownd⟩
  · refine e _ _ (fun z => ?_) (R.fr a u n q)
    rw [z, h0] at q
    cases q
  · refine R.w.keep fun x y q => ?_
    obtain ⟨hx, hy⟩ := R.ok.wo x y q
    have h1 : x ≠ p := fun z => by obtain ⟨u, q⟩ := R.ok.oc x hx; rw [z, h0] at q; cases q
    have h2 : y ≠ p := fun z => by obtain ⟨u, q⟩ := R.ok.oc y hy; rw [z, h0] at q; cases q
    exact ⟨upd_ne h1, upd_ne h2⟩
  · by_cases q : a = p
    · subst q
      exact ⟨h0, ⟨o, upd_same⟩, ho⟩
    · obtain ⟨z1, ⟨u, z2⟩, z3⟩ := R.tf a z
      exact ⟨z1, ⟨u, e _ _ q z2⟩, z3⟩
  · have r := R.slot i av q
    cases av with
    | u => exact True.intro
    | imm d' =>
      obtain ⟨w, a, b⟩ := r
      exact ⟨w, a, Rep.kp kk _ b⟩
    | own d' =>
      obtain ⟨p', a, b, c⟩ := r
      exact ⟨p', a, b, c.kp kk fun u h => e _ _ (fun z => ho i (by rw [a, z])) h⟩
/-- the temporary is let go -/
theorem SRel.dropT {p : Addr} (R : SRel K g (MM.addT γ p) σ H s) : SRel K g γ σ H s := by
  have k : Kp (OO g (MM.addT γ p)) (OO g γ) H H := fun a u n q => ⟨q, fun z => n (by
    rcases z with z | z | z
    · exact .inl z
    · exact .inr (.inl z)
    · exact .inr (.inr (.inl z)))⟩
  refine ⟨R.ok, R.fr, R.w, R.inj, R.fresh, fun a z => R.tf a (.inl z), R.len, fun i av q => ?_, R.ownd⟩
  have r := R.slot i av q
  cases av with
  | u => exact True.intro
  | imm d' =>
    obtain ⟨w, a, b⟩ := r
    exact ⟨w, a, Rep.kp k _ b⟩
  | own d' =>
    obtain ⟨p', a, b, c⟩ := r
    exact ⟨p', a, b, c.kp k fun u h => h⟩
/-- the temporary becomes a slot's own -/
theorem SRel.setOwn {p : Addr} {d : D} {i : Nat} (R : SRel K g (MM.addT γ p) σ H s) (nT : ¬ γ.T p) (hi : i < s.ρ.length) (c : CAt K (OO g (MM.addT γ p)) g.wa H p d) :
    ∃ γ', γ'.T = γ.T ∧ SRel K g γ' (σ.set i (some (.ref p))) H { s with ρ := s.ρ.set i (.own d) } ∧ Kp (OO g (MM.addT γ p)) (OO g γ') H H := by
  obtain ⟨h0, hd, ho⟩ := R.tf p (.inr rfl)
  let γ' : Gh := ⟨fun j => if j = i then some p else γ.own j, γ.T⟩
  have ei : γ'.own i = some p := if_pos rfl
  have ow : ∀ j a, γ'.own j = some a → (γ.own j = some a ∧ j ≠ i) ∨ (j = i ∧ a = p) := fun j a h => by
    by_cases e : j = i
    · subst e
      rw [ei] at h
      cases h
      exact .inr ⟨rfl, rfl⟩
    · exact .inl ⟨by rw [← h]; exact (if_neg e).symm, e⟩
  have k : Kp (OO g (MM.addT γ p)) (OO g γ') H H := fun a u n q => ⟨q, fun z => n (by
    rcases z with z | ⟨j, z⟩ | z
    · exact .inl z
    · rcases ow j a z with ⟨z, _⟩ | ⟨_, z⟩
      · exact .inr (.inl ⟨j, z⟩)
      · exact .inr (.inr (.inr z))
    · exact .inr (.inr (.inl z)))⟩
  refine ⟨γ', rfl, ⟨R.ok, R.fr, R.w, fun a b x h1 h2 => ?_, fun j a h => ?_, fun a h => ?_, ?_, fun j av h => ?_, fun j a h => ?_⟩, k⟩
  · rcases ow a x h1 with ⟨h1, n1⟩ | ⟨e1, q1⟩
    · rcases ow b x h2 with ⟨h2, _⟩ | ⟨e2, q2⟩
      · exact R.inj a b x h1 h2
      · exact absurd (by rw [q2] at h1; exact h1) (ho a)
    · rcases ow b x h2 with ⟨h2, _⟩ | ⟨e2, q2⟩
      · exact absurd (by rw [q1] at h2; exact h2) (ho b)
      · rw [e1, e2]
  · rcases ow j a h with ⟨h, _⟩ | ⟨_, h⟩
    · exact R.fresh j a h
    · rw [h]; exact h0
  · refine ⟨(R.tf a (.inl h)).1, (R.tf a (.inl h)).2.1, fun j z => ?_⟩
    rcases ow j a z with ⟨z, _⟩ | ⟨_, z⟩
    · exact (R.tf a (.inl h)).2.2 j z
    · rw [z] at h; exact nT h
  · show (σ.set i (some (.ref p))).length = (s.ρ.set i (.own d)).length
    rw [List.length_set, List.length_set]
    exact R.len
  · have h : (s.ρ.set i (.own d))[j]? = some av := h
    by_cases e : i = j
    · subst e
      rw [List.getElem?_set_self hi] at h
      cases h
      exact ⟨p, ei, List.getElem?_set_self (by rw [R.len]; exact hi), c.kp k fun _ h => h⟩
    · rw [List.getElem?_set_ne e] at h
      have q := R.slot j av h
      cases av with
      | u => exact True.intro
      | imm d' =>
        obtain ⟨w, a, b⟩ := q
        exact ⟨w, by rw [List.getElem?_set_ne e]; exact a, Rep.kp k _ b⟩
      | own d' =>
        obtain ⟨p', a, b, c⟩ := q
        refine ⟨p', by rw [show γ'.own j = γ.own j from if_neg (fun z => e z.symm)]; exact a, by rw [List.getElem?_set_ne e]; exact b, c.kp k fun _ h => h⟩
  · rcases ow j a h with ⟨h1, h2⟩ | ⟨h1, h2⟩
    · obtain ⟨d', q⟩ := R.ownd j a h1
      refine ⟨d', ?_⟩
      show (s.ρ.set i (.own d))[j]? = _
      rw [List.getElem?_set_ne (fun z => h2 z.symm)]
      exact q
    · subst h1
      exact ⟨d, List.getElem?_set_self hi⟩
/-- a slot's own object changes -/
theorem SRel.updOwn (R : SRel K g γ σ H s) {i : Nat} {p : Addr} (hp : γ.own i = some p) {o : HO} {d : D} (c : CAt K (OO g γ) g.wa (upd H p o) p d) :
    SRel K g γ σ (upd H p o) { s with ρ := s.ρ.set i (.own d) } ∧ Kp (OO g γ) (OO g γ) H (upd H p o) := by
  have h0 := R.fresh i p hp
  have e : ∀ a u, a ≠ p → H a = some u → upd H p o a = some u := fun a u n q => by rw [upd_ne n]; exact q
  have kk : Kp (OO g γ) (OO g γ) H (upd H p o) := fun a u n q => ⟨e _ _ (fun z => n (.inr (.inl ⟨i, by rw [z]; exact hp⟩))) q, n⟩
  obtain ⟨d0, hd0, hs0, _⟩ := R.at hp
  have hi : i < s.ρ.length := (List.getElem?_eq_some_iff.mp hd0).1
  refine ⟨⟨R.ok, fun a u n q => ?_, ?_, R.inj, R.fresh, fun a z => ?_, ?_, fun j av q => ?_, fun j a h => ?_⟩, kk⟩
  · refine e _ _ (fun z => ?_) (R.fr a u n q)
    rw [z, h0] at q
    cases q
  · refine R.w.keep fun x y q => ?_
    obtain ⟨hx, hy⟩ := R.ok.wo x y q
    have h1 : x ≠ p := fun z => by obtain ⟨u, q⟩ := R.ok.oc x hx; rw [z, h0] at q; cases q
    have h2 : y ≠ p := fun z => by obtain ⟨u, q⟩ := R.ok.oc y hy; rw [z, h0] at q; cases q
    exact ⟨upd_ne h1, upd_ne h2⟩
  · obtain ⟨z1, ⟨u, z2⟩, z3⟩ := R.tf a z
    exact ⟨z1, ⟨u, e _ _ (fun q => z3 i (by rw [q]; exact hp)) z2⟩, z3⟩
  · show σ.length = (s.ρ.set i (.own d)).length
    rw [List.length_set]
    exact R.len
  · have q : (s.ρ.set i (.own d))[j]? = some av := q
    by_cases ej : i = j
    · subst ej
      rw [List.getElem?_set_self hi] at q
      cases q
      exact ⟨p, hp, hs0, c⟩
    · rw [List.getElem?_set_ne ej] at q
      have r := R.slot j av q
      cases av with
      | u => exact True.intro
      | imm d' =>
        obtain ⟨w, a, b⟩ := r
        exact ⟨w, a, Rep.kp kk _ b⟩
      | own d' =>
        obtain ⟨p', a, b, c⟩ := r
        exact ⟨p', a, b, c.kp kk fun u h => e _ _ (fun z => ej (R.inj i j p hp (by rw [a, z]))) h⟩
  · obtain ⟨d', q⟩ := R.ownd j a h
    by_cases ej : i = j
    · subst ej
      exact ⟨d, List.getElem?_set_self hi⟩
    · refine ⟨d', ?_⟩
      show (s.ρ.set i (.own d))[j]? = _
      rw [List.getElem?_set_ne ej]
      exact q
/-- behind a call -/
theorem SRel.call (R : SRel K g γ σ H s) {W : WS} (e : ∀ a o, NW g.wa a → H a = some o → H' a = some o) (w : WRel H' g.wa W) : SRel K g γ σ H' { s with W := W } := by
  have kk : Kp (OO g γ) (OO g γ) H H' := fun a u n q => ⟨e _ _ (fun x y z1 z2 => n (.inl (by rw [z2]; exact (R.ok.wo x y z1).1))) q, n⟩
  refine ⟨R.ok, fun a o n h => e _ _ n (R.fr a o n h), w, R.inj, R.fresh, fun a z => ?_, R.len, fun i av h => ?_, R.ownd⟩
  · obtain ⟨u, q⟩ := (R.tf a z).2.1
    exact ⟨(R.tf a z).1, ⟨u, e _ _ (R.nwT z) q⟩, (R.tf a z).2.2⟩
  · have q := R.slot i av h
    cases av with
    | u => exact True.intro
    | imm d' =>
      obtain ⟨w, a, b⟩ := q
      exact ⟨w, a, Rep.kp kk _ b⟩
    | own d' =>
      obtain ⟨p', a, b, c⟩ := q
      exact ⟨p', a, b, c.kp kk fun u h => e _ _ (R.nw a) h⟩
end
end MM

set_option Elab.async false
set_option linter.all false
set_option maxRecDepth 100000
/-! MM, second part: what a reading and a mirror have to do with each other; the rules. -/
namespace MM
open PySem PySem.Spec PyProof.Rows L2
abbrev M (α : Type) := S → Option (α × S)
inductive Out where
  | nx (s : S)
  | rt (d : D) (W : WS)
  | bk (s : S)
  | ct (s : S)
abbrev MStm := S → Option Out

section
variable (K : PySem.W.Frag)
def TEok (t : TE) (m : M D) : Prop := ∀ (g : G) (γ : Gh) (σ : L2.St) (H : Hp) (s : S) (d : D) (s' : S), SRel K g γ σ H s → m s = some (d, s') →
  ∀ Q : VK, (∀ γ' v H', SRel K g γ' σ H' s' → KE g γ γ' H H' → Rep K (OO g γ') g.wa H' v d → Q v H') → t σ H Q
def TBok (t : TE) (m : M D) : Prop := ∀ (g : G) (γ : Gh) (σ : L2.St) (H : Hp) (s : S) (d : D) (s' : S), SRel K g γ σ H s → m s = some (d, s') →
  ∀ Q : VK, (∀ γ' v H', SRel K g γ' σ H' s' → KE g γ γ' H H' → RepS K g γ' H' v d → Q v H') → t σ H Q
/-- a new list, nobody else's -/
def TFok (t : TE) (m : M D) : Prop := ∀ (g : G) (γ : Gh) (σ : L2.St) (H : Hp) (s : S) (d : D) (s' : S), SRel K g γ σ H s → m s = some (d, s') →
  ∀ Q : VK, (∀ γ' p H', SRel K g (addT γ' p) σ H' s' → ¬ γ'.T p → KE g γ γ' H H' → H p = none → CAt K (OO g (addT γ' p)) g.wa H' p d → Q (.ref p) H') → t σ H Q
def TTok (t : TT) (m : M Bool) : Prop := ∀ (g : G) (γ : Gh) (σ : L2.St) (H : Hp) (s : S) (b : Bool) (s' : S), SRel K g γ σ H s → m s = some (b, s') →
  ∀ Q : Bool → Hp → Prop, (∀ γ' H', SRel K g γ' σ H' s' → KE g γ γ' H H' → Q b H') → t σ H Q
def TAok (t : TA) (m : M (List D)) : Prop := ∀ (g : G) (γ : Gh) (σ : L2.St) (H : Hp) (s : S) (ds : List D) (s' : S), SRel K g γ σ H s → m s = some (ds, s') →
  ∀ Q : List V → Hp → Prop, (∀ γ' vs H', SRel K g γ' σ H' s' → KE g γ γ' H H' → Reps K (OO g γ') g.wa H' vs ds → Q vs H') → t σ H Q
/-- arguments of built-ins: borrowed or not -/
def RepsS (g : G) (γ : Gh) (H : Hp) : List V → List D → Prop
  | [], [] => True
  | v :: vs, d :: ds => RepS K g γ H v d ∧ RepsS g γ H vs ds
  | _, _ => False
def TABok (t : TA) (m : M (List D)) : Prop := ∀ (g : G) (γ : Gh) (σ : L2.St) (H : Hp) (s : S) (ds : List D) (s' : S), SRel K g γ σ H s → m s = some (ds, s') →
  ∀ Q : List V → Hp → Prop, (∀ γ' vs H', SRel K g γ' σ H' s' → KE g γ γ' H H' → RepsS K g γ' H' vs ds → Q vs H') → t σ H Q
def Fin (g : G) (γ : Gh) (H : Hp) : Out → Ends → Prop
  | .nx s', E => ∀ γ' σ' H', SRel K g γ' σ' H' s' → γ'.T = γ.T → Kp (OO g γ) (OO g γ') H H' → E.nx σ' H'
  | .rt d W, E => ∀ v H', (∀ a o, NW g.wa a → g.H0 a = some o → H' a = some o) → WRel H' g.wa W → Rep K g.Oc g.wa H' v d → E.rt v H'
  | .bk s', E => ∀ γ' σ' H', SRel K g γ' σ' H' s' → γ'.T = γ.T → Kp (OO g γ) (OO g γ') H H' → E.bk σ' H'
  | .ct s', E => ∀ γ' σ' H', SRel K g γ' σ' H' s' → γ'.T = γ.T → Kp (OO g γ) (OO g γ') H H' → E.ct σ' H'
def TSok (t : TS) (m : MStm) : Prop := ∀ (g : G) (γ : Gh) (σ : L2.St) (H : Hp) (s : S) (o : Out), SRel K g γ σ H s → m s = some o →
  ∀ E : Ends, Fin K g γ H o E → t E σ H
/-- what a walk yields -/
def ItOk (g : G) (J : It) (v0 : V) (d0 : D) (ds : List D) : Prop := ∀ (O : Addr → Prop) (H : Hp), (∀ a, O a → ∃ o, H a = some o) → Rep K O g.wa H v0 d0 →
  (∀ i d, ds[i]? = some d → J.go i H ∧ ∀ x H', J.yld i H x H' → (∀ a o, H a = some o → H' a = some o) ∧ Rep K O g.wa H' x d) ∧ (∀ i, ds.length ≤ i → J.stop i H)
def TIok (wi : TI) (m : M (List D)) : Prop := ∀ (g : G) (γ : Gh) (σ : L2.St) (H : Hp) (s : S) (ds : List D) (s' : S), SRel K g γ σ H s → m s = some (ds, s') →
  ∀ R : It → Hp → Prop, (∀ γ' J H' v0 d0, SRel K g γ' σ H' s' → KE g γ γ' H H' → Rep K (OO g γ') g.wa H' v0 d0 → ItOk K g J v0 d0 ds → R J H') → wi σ H R
/-- a target: vs the slots that it may store -/
def TGok (t : TG) (vs : List Nat) (m : D → S → Option S) : Prop := ∀ (g : G) (γ : Gh) (σ : L2.St) (H : Hp) (s : S) (v : V) (d : D) (s' : S), SRel K g γ σ H s → Rep K (OO g γ) g.wa H v d → m d s = some s' →
  ∀ Q : L2.St → Hp → Prop, (∀ γ' σ', SRel K g γ' σ' H s' → KE g γ γ' H H → wipe σ' vs = wipe σ vs → Q σ' H) → t v σ H Q
def TGsok (t : TGs) (vs : List Nat) (m : List D → S → Option S) : Prop := ∀ (g : G) (γ : Gh) (σ : L2.St) (H : Hp) (s : S) (xs : List V) (ds : List D) (s' : S), SRel K g γ σ H s → Reps K (OO g γ) g.wa H xs ds → m ds s = some s' →
  ∀ Q : L2.St → Hp → Prop, (∀ γ' σ', SRel K g γ' σ' H s' → KE g γ γ' H H → wipe σ' vs = wipe σ vs → Q σ' H) → t xs σ H Q
end
/-- what is new behind an expression was new ahead of it -/
theorem KE.back {K : PySem.W.Frag} {g : G} {γ γ' : Gh} {H H' : Hp} {σ : L2.St} {s' : S} {p : Addr} (k : KE g γ γ' H H') (R : SRel K g γ' σ H' s') (h : H' p = none) : H p = none := by
  cases e : H p with
  | none => rfl
  | some o =>
    by_cases q : ∃ x y, g.wa = some (x, y) ∧ p = x
    · obtain ⟨x, y, q, rfl⟩ := q
      obtain ⟨o, e2⟩ := R.w.x q
      rw [h] at e2
      cases e2
    · have := k.h p o (fun x y e z => q ⟨x, y, e, z⟩) e
      rw [h] at this
      cases this
structure ME (X : Cx) (e : Expr) (t : TE) (m : M D) : Prop where
  pe : PE X e t
  ok : TEok X.K t m
structure MB (X : Cx) (e : Expr) (t : TE) (m : M D) : Prop where
  pe : PE X e t
  ok : TBok X.K t m
structure MF (X : Cx) (e : Expr) (t : TE) (m : M D) : Prop where
  pe : PE X e t
  ok : TFok X.K t m
structure MT (X : Cx) (e : Expr) (t : TT) (m : M Bool) : Prop where
  pt : PT X e t
  ok : TTok X.K t m
structure MA (X : Cx) (es : List Expr) (t : TA) (m : M (List D)) : Prop where
  pa : PA X es t
  ok : TAok X.K t m
structure MAB (X : Cx) (es : List Expr) (t : TA) (m : M (List D)) : Prop where
  pa : PA X es t
  ok : TABok X.K t m
structure MS (X : Cx) (st : Stmt) (t : TS) (m : MStm) : Prop where
  ps : PS X st t
  ok : TSok X.K t m
structure MSs (X : Cx) (st : List Stmt) (t : TS) (m : MStm) : Prop where
  ps : PSs X st t
  ok : TSok X.K t m
structure MI (X : Cx) (tg e : Expr) (wi : TI) (m : M (List D)) : Prop where
  pi : PI X tg e wi
  ok : TIok X.K wi m
structure MG (X : Cx) (e : Expr) (t : TG) (vs : List Nat) (m : D → S → Option S) : Prop where
  pg : PG X e t
  ok : TGok X.K t vs m
structure MGs (X : Cx) (es : List Expr) (t : TGs) (vs : List Nat) (m : List D → S → Option S) : Prop where
  pg : PGs X es t
  ok : TGsok X.K t vs m

section
variable {X : Cx} {e a b c : Expr} {t ta tb tc : TE} {m ma mb mc : M D} {pos : Pos}
theorem ME.brw (h : ME X e t m) : MB X e t m := ⟨h.pe, fun g γ σ H s d s' R e Q q => h.ok g γ σ H s d s' R e Q fun γ' v H' R' k r => q γ' v H' R' k (.inl r)⟩
theorem MF.frz (h : MF X e t m) : ME X e t m := ⟨h.pe, fun g γ σ H s d s' R e Q q => h.ok g γ σ H s d s' R e Q fun γ' p H' R' nT k _ c => by
  have np : ¬ OO g γ' p := by
    obtain ⟨h0, hd, ho⟩ := R'.tf p (.inr rfl)
    rintro (z | ⟨i, z⟩ | z)
    · obtain ⟨o, q⟩ := R'.ok.oc p z
      rw [h0] at q
      cases q
    · exact ho i z
    · exact nT z
  have kk : Kp (OO g (addT γ' p)) (OO g γ') H' H' := fun a u n q => ⟨q, fun z => n (by
    rcases z with z | z | z
    · exact .inl z
    · exact .inr (.inl z)
    · exact .inr (.inr (.inl z)))⟩
  refine q γ' _ H' R'.dropT k ?_
  cases c with
  | lst e1 r => exact .lst np e1 (Reps.kp kk _ r)⟩

/-! ### names and constants -/
def mVar (i : Nat) : M D := fun s => match s.ρ[i]? with
  | some (.imm d) => some (d, s)
  | some (.own d) => some (d, { s with ρ := s.ρ.set i (.imm d) })
  | _ => none
def mVarB (i : Nat) : M D := fun s => match s.ρ[i]? with
  | some (.imm d) => some (d, s)
  | some (.own d) => some (d, s)
  | _ => none
def mC (d : D) : M D := fun s => some (d, s)
theorem tvar_ok {K : PySem.W.Frag} {i : Nat} : TEok K (tVar i) (mVar i) := fun g γ σ H s d s' R e Q q => by
  unfold mVar at e
  cases h : s.ρ[i]? with
  | none => rw [h] at e; cases e
  | some av =>
    rw [h] at e
    cases av with
    | u => cases e
    | imm d' =>
      cases e
      obtain ⟨v, hv, r⟩ := R.slot i _ h
      exact ⟨v, hv, q γ v H R .refl r⟩
    | own d' =>
      cases e
      obtain ⟨γ', p, hp, R', k, r⟩ := R.freeze h
      exact ⟨_, hp, q γ' _ H R' k r⟩
theorem tvarB_ok {K : PySem.W.Frag} {i : Nat} : TBok K (tVar i) (mVarB i) := fun g γ σ H s d s' R e Q q => by
  unfold mVarB at e
  cases h : s.ρ[i]? with
  | none => rw [h] at e; cases e
  | some av =>
    rw [h] at e
    cases av with
    | u => cases e
    | imm d' =>
      cases e
      obtain ⟨v, hv, r⟩ := R.slot i _ h
      exact ⟨v, hv, q γ v H R .refl (.inl r)⟩
    | own d' =>
      cases e
      obtain ⟨p, hp, hv, c⟩ := R.slot i _ h
      exact ⟨_, hv, q γ _ H R .refl (.inr ⟨p, rfl, R.nw hp, c⟩)⟩
theorem tc_ok {K : PySem.W.Frag} {v : V} {d : D} (h : ∀ O wa H, Rep K O wa H v d) : TEok K (tC v) (mC d) := fun g γ σ H s d' s' R e Q q => by
  cases e
  exact q γ v H R .refl (h _ _ _)
theorem me_var (i : Nat) {x : Str} (hN : X.N[i]? = some x := by rfl) (hv : Vis X.env.scope x := by first | exact Or.inl rfl | exact Or.inr (Or.inl rfl) | exact Or.inr (Or.inr rfl)) (hd : (x == ("__debug__" : Str)) = false := by decide)
    (hcd : (x == ("__classdict__" : Str)) = false := by decide) : ME X (.Name x pos) (tVar i) (mVar i) := ⟨pe_var hN hv hd hcd, tvar_ok⟩
theorem mb_var (i : Nat) {x : Str} (hN : X.N[i]? = some x := by rfl) (hv : Vis X.env.scope x := by first | exact Or.inl rfl | exact Or.inr (Or.inl rfl) | exact Or.inr (Or.inr rfl)) (hd : (x == ("__debug__" : Str)) = false := by decide)
    (hcd : (x == ("__classdict__" : Str)) = false := by decide) : MB X (.Name x pos) (tVar i) (mVarB i) := ⟨pe_var hN hv hd hcd, tvarB_ok⟩
theorem me_int {i : Int} {j} : ME X (.Constant (.int i) j pos) (tC (.int i)) (mC (.int i)) := ⟨pe_int, tc_ok fun _ _ _ => .int i⟩
theorem me_str {i : Str} {j} : ME X (.Constant (.str i) j pos) (tC (.str i)) (mC (.str i)) := ⟨pe_str, tc_ok fun _ _ _ => .str i⟩
theorem me_bl {i : Bool} {j} : ME X (.Constant (.bool i) j pos) (tC (.bl i)) (mC (.bl i)) := ⟨pe_bl, tc_ok fun _ _ _ => .bl i⟩
theorem me_non {j} : ME X (.Constant .none j pos) (tC .non) (mC .non) := ⟨pe_non, tc_ok fun _ _ _ => .non⟩
/-- a text or a number that the module holds -/
theorem me_globS {x : Str} {v : Str} {u : Value} (hg : Gl X x) (hm : X.mg x = some u) (r : RelV (.str v) u) (hdb : (x == ("__debug__" : Str)) = false := by decide) : ME X (.Name x pos) (tC (.str v)) (mC (.str v)) := ⟨pe_glob hg hm r hdb, tc_ok fun _ _ _ => .str v⟩
theorem me_globI {x : Str} {v : Int} {u : Value} (hg : Gl X x) (hm : X.mg x = some u) (r : RelV (.int v) u) (hdb : (x == ("__debug__" : Str)) = false := by decide) : ME X (.Name x pos) (tC (.int v)) (mC (.int v)) := ⟨pe_glob hg hm r hdb, tc_ok fun _ _ _ => .int v⟩

/-! ### operations on values -/
/-- the reading r of a two-place operation does what f does on data -/
def R2ok (K : PySem.W.Frag) (r : R2) (f : D → D → Option D) : Prop := ∀ (g : G) (γ : Gh) (σ : L2.St) (H : Hp) (s : S) (x y : V) (d e z : D), SRel K g γ σ H s → RepS K g γ H x d → RepS K g γ H y e → f d e = some z →
  ∀ Q : VK, (∀ v H', (∀ a o, H a = some o → H' a = some o) → Rep K (OO g γ) g.wa H' v z → Q v H') → r x y H Q
def mOp (f : D → D → Option D) (ma mb : M D) : M D := fun s => match ma s with
  | none => none
  | some (x, s1) => match mb s1 with
    | none => none
    | some (y, s2) => match f x y with
      | none => none
      | some z => some (z, s2)
theorem top_ok {K : PySem.W.Frag} {r : R2} {f : D → D → Option D} (hr : R2ok K r f) (ha : TBok K ta ma) (hb : TBok K tb mb) : TEok K (tOp r ta tb) (mOp f ma mb) := fun g γ σ H s d s' R e Q q => by
  unfold mOp at e
  cases h1 : ma s with
  | none => rw [h1] at e; cases e
  | some p1 =>
    obtain ⟨x, s1⟩ := p1
    rw [h1] at e
    cases h2 : mb s1 with
    | none => simp only [h2] at e; cases e
    | some p2 =>
      obtain ⟨y, s2⟩ := p2
      simp only [h2] at e
      cases h3 : f x y with
      | none => rw [h3] at e; cases e
      | some z =>
        rw [h3] at e
        cases e
        refine ha g γ σ H s x s1 R h1 _ fun γ1 v1 H1 R1 k1 r1 => ?_
        refine hb g γ1 σ H1 s1 y _ R1 h2 _ fun γ2 v2 H2 R2 k2 r2 => ?_
        refine hr g γ2 σ H2 _ v1 v2 x y _ R2 (r1.ke k2 R.ok) r2 h3 Q fun v H3 e3 r3 => ?_
        exact q γ2 v H3 (R2.grow e3) ((k1.trans k2).trans (.grow e3)) r3
theorem me_op {op : Operator} {r : R2} {f : D → D → Option D} (ho : OpR X (binaryOp op) r) (hr : R2ok X.K r f) (ha : MB X a ta ma) (hb : MB X b tb mb) : ME X (.BinOp a op b pos) (tOp r ta tb) (mOp f ma mb) :=
  ⟨pe_op ho ha.pe hb.pe, top_ok hr ha.ok hb.ok⟩
theorem me_cmp {op : CmpOp} {r : R2} {f : D → D → Option D} (ho : OpR X (compareOp op) r) (hr : R2ok X.K r f) (ha : MB X a ta ma) (hb : MB X b tb mb) (hm : behindInMarks op b = false) : ME X (.Compare a [op] [b] pos) (tOp r ta tb) (mOp f ma mb) :=
  ⟨pe_cmpR ho ha.pe hb.pe hm, top_ok hr ha.ok hb.ok⟩
theorem me_ix {r : R2} {f : D → D → Option D} (ho : IxR X r) (hr : R2ok X.K r f) (ha : MB X a ta ma) (hb : MB X b tb mb) (hs : PlainIx b) : ME X (.Subscript a b pos) (tOp r ta tb) (mOp f ma mb) :=
  ⟨pe_ix ho ha.pe hb.pe hs, top_ok hr ha.ok hb.ok⟩
theorem OpR.or {f : Value → Value → Sem Value} {r r' : R2} (h : OpR X f r) (h' : OpR X f r') : OpR X f (fun x y H Q => r x y H Q ∨ r' x y H Q) := by
  intro pins s σ H x y v u Q I rx ry q
  rcases q with q | q
  · exact h pins s σ H x y v u Q I rx ry q
  · exact h' pins s σ H x y v u Q I rx ry q
/-- one of two readings, as the data say -/
theorem R2ok.or {K : PySem.W.Frag} {r r' : R2} {f f' : D → D → Option D} (h : R2ok K r f) (h' : R2ok K r' f') : R2ok K (fun x y H Q => r x y H Q ∨ r' x y H Q) (fun x y => (f x y).or (f' x y)) := fun g γ σ H s x y d e z R rx ry hz Q q => by
  cases h1 : f d e with
  | some w =>
    simp only [h1, Option.some_or] at hz
    cases hz
    exact .inl (h g γ σ H s x y d e _ R rx ry h1 Q q)
  | none =>
    simp only [h1, Option.none_or] at hz
    exact .inr (h' g γ σ H s x y d e _ R rx ry hz Q q)
def U1ok (K : PySem.W.Frag) (r : V → Hp → VK → Prop) (f : D → Option D) : Prop := ∀ (g : G) (γ : Gh) (σ : L2.St) (H : Hp) (s : S) (x : V) (d z : D), SRel K g γ σ H s → RepS K g γ H x d → f d = some z →
  ∀ Q : VK, (∀ v H', (∀ a o, H a = some o → H' a = some o) → Rep K (OO g γ) g.wa H' v z → Q v H') → r x H Q
def mUn (f : D → Option D) (ma : M D) : M D := fun s => match ma s with
  | none => none
  | some (x, s1) => match f x with
    | none => none
    | some z => some (z, s1)
theorem me_un {op : UnaryOp} {r : V → Hp → VK → Prop} {f : D → Option D} (ho : UnR X (unaryOp op) r) (hr : U1ok X.K r f) (ha : MB X a ta ma) : ME X (.UnaryOp op a pos) (tUn r ta) (mUn f ma) :=
  ⟨pe_un ho ha.pe, fun g γ σ H s d s' R e Q q => by
    unfold mUn at e
    cases h1 : ma s with
    | none => rw [h1] at e; cases e
    | some p1 =>
      obtain ⟨x, s1⟩ := p1
      simp only [h1] at e
      cases h3 : f x with
      | none => rw [h3] at e; cases e
      | some z =>
        rw [h3] at e
        cases e
        refine ha.ok g γ σ H s x _ R h1 _ fun γ1 v1 H1 R1 k1 r1 => ?_
        refine hr g γ1 σ H1 _ v1 x _ R1 r1 h3 Q fun v H3 e3 r3 => ?_
        exact q γ1 v H3 (R1.grow e3) (k1.trans (.grow e3)) r3⟩
theorem RepS.int {K : PySem.W.Frag} {g : G} {γ : Gh} {H : Hp} {x : V} {i : Int} (h : RepS K g γ H x (.int i)) : x = .int i := by
  rcases h with h | ⟨p, _, _, c⟩
  · cases h; rfl
  · cases c
theorem RepS.str {K : PySem.W.Frag} {g : G} {γ : Gh} {H : Hp} {x : V} {i : Str} (h : RepS K g γ H x (.str i)) : x = .str i := by
  rcases h with h | ⟨p, _, _, c⟩
  · cases h; rfl
  · cases c
theorem RepS.bl {K : PySem.W.Frag} {g : G} {γ : Gh} {H : Hp} {x : V} {i : Bool} (h : RepS K g γ H x (.bl i)) : x = .bl i := by
  rcases h with h | ⟨p, _, _, c⟩
  · cases h; rfl
  · cases c
theorem RepS.lst {K : PySem.W.Frag} {g : G} {γ : Gh} {H : Hp} {x : V} {ds : List D} (h : RepS K g γ H x (.lst ds)) : ∃ p vs, x = .ref p ∧ H p = some (.lst vs) ∧ Reps K (OO g γ) g.wa H vs ds := by
  rcases h with h | ⟨p, e, _, c⟩
  · cases h with | lst n e r => exact ⟨_, _, rfl, e, r⟩
  · cases c with | lst e1 r => exact ⟨p, _, e, e1, r⟩
theorem RepS.tup {K : PySem.W.Frag} {g : G} {γ : Gh} {H : Hp} {x : V} {ds : List D} (h : RepS K g γ H x (.tup ds)) : ∃ p vs, x = .ref p ∧ SqT K H p vs ∧ Reps K (OO g γ) g.wa H vs ds := by
  rcases h with h | ⟨p, e, _, c⟩
  · cases h with
    | tup n e r => exact ⟨_, _, rfl, .inl (.inl e), r⟩
    | tupK e r => exact ⟨_, _, rfl, .inr e, r⟩
  · cases c
theorem RepS.fl {K : PySem.W.Frag} {g : G} {γ : Gh} {H : Hp} {x : V} {ds : List D} (h : RepS K g γ H x (.fl ds)) : ∃ p vs, x = .ref p ∧ SqL K H p vs ∧ Reps K (OO g γ) g.wa H vs ds := by
  rcases h with h | ⟨p, e, _, c⟩
  · cases h with
    | fl n e r => exact ⟨_, _, rfl, .inl e, r⟩
    | flK e r => exact ⟨_, _, rfl, .inr e, r⟩
  · cases c
/-- two ints in -/
def dI (f : Int → Int → Int) : D → D → Option D
  | .int i, .int j => some (.int (f i j))
  | _, _ => none
def dIC (C : Int → Int → Prop) [∀ i j, Decidable (C i j)] (f : Int → Int → Int) : D → D → Option D
  | .int i, .int j => if C i j then some (.int (f i j)) else none
  | _, _ => none
def dIb (f : Int → Int → Bool) : D → D → Option D
  | .int i, .int j => some (.bl (f i j))
  | _, _ => none
theorem dI_some {f : Int → Int → Int} : ∀ {d e z : D}, dI f d e = some z → ∃ i j, d = .int i ∧ e = .int j ∧ z = .int (f i j)
  | d, e, z, h => by
    unfold dI at h
    split at h
    · cases h
      exact ⟨_, _, rfl, rfl, rfl⟩
    · cases h
theorem dIC_some {C : Int → Int → Prop} [∀ i j, Decidable (C i j)] {f : Int → Int → Int} : ∀ {d e z : D}, dIC C f d e = some z → ∃ i j, d = .int i ∧ e = .int j ∧ C i j ∧ z = .int (f i j)
  | d, e, z, h => by
    unfold dIC at h
    split at h
    · split at h
      · cases h
        exact ⟨_, _, rfl, rfl, by assumption, rfl⟩
      · cases h
    · cases h
theorem dIb_some {f : Int → Int → Bool} : ∀ {d e z : D}, dIb f d e = some z → ∃ i j, d = .int i ∧ e = .int j ∧ z = .bl (f i j)
  | d, e, z, h => by
    unfold dIb at h
    split at h
    · cases h
      exact ⟨_, _, rfl, rfl, rfl⟩
    · cases h
theorem r2_I0 {K : PySem.W.Frag} {f : Int → Int → Int} : R2ok K (rI0 fun i j => .int (f i j)) (dI f) := fun g γ σ H s x y d e z R rx ry hz Q q => by
  obtain ⟨i, j, rfl, rfl, rfl⟩ := dI_some hz
  exact ⟨_, _, rx.int, ry.int, q _ H (fun _ _ h => h) (.int _)⟩
theorem r2_I {K : PySem.W.Frag} {C : Int → Int → Prop} [∀ i j, Decidable (C i j)] {f : Int → Int → Int} : R2ok K (rI C fun i j => .int (f i j)) (dIC C f) := fun g γ σ H s x y d e z R rx ry hz Q q => by
  obtain ⟨i, j, rfl, rfl, hC, rfl⟩ := dIC_some hz
  exact ⟨_, _, rx.int, ry.int, hC, q _ H (fun _ _ h => h) (.int _)⟩
theorem r2_Ib {K : PySem.W.Frag} {f : Int → Int → Bool} : R2ok K (rI0 fun i j => .bl (f i j)) (dIb f) := fun g γ σ H s x y d e z R rx ry hz Q q => by
  obtain ⟨i, j, rfl, rfl, rfl⟩ := dIb_some hz
  exact ⟨_, _, rx.int, ry.int, q _ H (fun _ _ h => h) (.bl _)⟩
end
end MM

set_option Elab.async false
set_option linter.all false
set_option maxRecDepth 100000
/-! MM, third part: tests, calls, displays, walks, comprehensions, statements, defs. -/
namespace MM
open PySem PySem.Spec PyProof.Rows L2
section
variable {X : Cx} {e a b c : Expr} {t ta tb tc : TE} {m ma mb mc : M D} {pos : Pos} {K : PySem.W.Frag}

/-! ### tests -/
def mTest (m : M D) : M Bool := fun s => match m s with
  | some (.bl b, s1) => some (b, s1)
  | _ => none
theorem mTest_some {m : M D} {s : S} {b : Bool} {s' : S} (h : mTest m s = some (b, s')) : m s = some (.bl b, s') := by
  unfold mTest at h
  split at h
  · cases h; assumption
  · cases h
theorem ttest_ok (h : TEok K t m) : TTok K (tTest t) (mTest m) := fun g γ σ H s b s' R e Q q =>
  h g γ σ H s _ s' R (mTest_some e) _ fun γ' v H' R' k r => by cases r; exact ⟨_, rfl, q γ' H' R' k⟩
theorem tB_ok (h : TEok K t m) : TTok K (tB t) (mTest m) := fun g γ σ H s b s' R e Q q =>
  h g γ σ H s _ s' R (mTest_some e) _ fun γ' v H' R' k r => by cases r; exact ⟨_, rfl, q γ' H' R' k⟩
theorem mt_val (h : ME X e t m) (he : ∀ whole, isTrue e X.env whole = (do let v ← whole; standAt e.pos; holding [v] (truthy v)) := by intro _; rfl) : MT X e (tB t) (mTest m) := ⟨pt_val h.pe he, tB_ok h.ok⟩
theorem mt_cmp {op : CmpOp} {r : R2} {f : D → D → Option D} (ho : OpR X (compareOp op) r) (hr : R2ok X.K r f) (ha : MB X a ta ma) (hb : MB X b tb mb) (hm : behindInMarks op b = false) : MT X (.Compare a [op] [b] pos) (tTest (tOp r ta tb)) (mTest (mOp f ma mb)) :=
  ⟨pt_cmpR ho ha.pe hb.pe hm, ttest_ok (top_ok hr ha.ok hb.ok)⟩
def mAnd (p q : M Bool) : M Bool := fun s => match p s with
  | none => none
  | some (true, s1) => q s1
  | some (false, s1) => some (false, s1)
def mOr (p q : M Bool) : M Bool := fun s => match p s with
  | none => none
  | some (true, s1) => some (true, s1)
  | some (false, s1) => q s1
def mNot (p : M Bool) : M Bool := fun s => match p s with
  | none => none
  | some (b, s1) => some (!b, s1)
structure MW (X : Cx) (e : Expr) (t : TT) (m : M Bool) : Prop where
  pw : PW X e t
  ok : TTok X.K t m
variable {p q : M Bool} {tp tq : TT} {rest : List Expr}
theorem tand_ok (hp : TTok K tp p) (hq : TTok K tq q) : TTok K (tAnd tp tq) (mAnd p q) := fun g γ σ H s b s' R e Q z => by
  unfold mAnd at e
  cases h1 : p s with
  | none => rw [h1] at e; cases e
  | some r =>
    obtain ⟨c, s1⟩ := r
    rw [h1] at e
    cases c with
    | true =>
      refine hp g γ σ H s true s1 R h1 _ fun γ1 H1 R1 k1 => ?_
      refine iteT ?_
      exact hq g γ1 σ H1 s1 b s' R1 e Q fun γ2 H2 R2 k2 => z γ2 H2 R2 (k1.trans k2)
    | false =>
      cases e
      refine hp g γ σ H s false _ R h1 _ fun γ1 H1 R1 k1 => ?_
      exact iteF (z γ1 H1 R1 k1)
theorem tor_ok (hp : TTok K tp p) (hq : TTok K tq q) : TTok K (tOr tp tq) (mOr p q) := fun g γ σ H s b s' R e Q z => by
  unfold mOr at e
  cases h1 : p s with
  | none => rw [h1] at e; cases e
  | some r =>
    obtain ⟨c, s1⟩ := r
    rw [h1] at e
    cases c with
    | false =>
      refine hp g γ σ H s false s1 R h1 _ fun γ1 H1 R1 k1 => ?_
      refine iteF ?_
      exact hq g γ1 σ H1 s1 b s' R1 e Q fun γ2 H2 R2 k2 => z γ2 H2 R2 (k1.trans k2)
    | true =>
      cases e
      refine hp g γ σ H s true _ R h1 _ fun γ1 H1 R1 k1 => ?_
      exact iteT (z γ1 H1 R1 k1)
theorem tnot_ok (hp : TTok K tp p) : TTok K (tNot tp) (mNot p) := fun g γ σ H s b s' R e Q z => by
  unfold mNot at e
  cases h1 : p s with
  | none => rw [h1] at e; cases e
  | some r =>
    obtain ⟨c, s1⟩ := r
    rw [h1] at e
    cases e
    exact hp g γ σ H s c _ R h1 _ fun γ1 H1 R1 k1 => z γ1 H1 R1 k1
theorem mw_and1 (h : MT X a tp p) : MW X (.BoolOp .And [a] pos) tp p := ⟨pw_and1 h.pt, h.ok⟩
theorem mw_or1 (h : MT X a tp p) : MW X (.BoolOp .Or [a] pos) tp p := ⟨pw_or1 h.pt, h.ok⟩
theorem mw_and (h : MT X a tp p) (h' : MW X (.BoolOp .And (b :: rest) pos) tq q) : MW X (.BoolOp .And (a :: b :: rest) pos) (tAnd tp tq) (mAnd p q) := ⟨pw_and h.pt h'.pw, tand_ok h.ok h'.ok⟩
theorem mw_or (h : MT X a tp p) (h' : MW X (.BoolOp .Or (b :: rest) pos) tq q) : MW X (.BoolOp .Or (a :: b :: rest) pos) (tOr tp tq) (mOr p q) := ⟨pw_or h.pt h'.pw, tor_ok h.ok h'.ok⟩
theorem MW.tst (h : MW X e tp p) : MT X e tp p := ⟨h.pw.pt, h.ok⟩
theorem mt_not (h : MT X a tp p) : MT X (.UnaryOp .Not a pos) (tNot tp) (mNot p) := ⟨pt_not h.pt, tnot_ok h.ok⟩
/-- and, or, not as values, over bools -/
def mAndV (ma mb : M D) : M D := fun s => match ma s with
  | some (.bl true, s1) => mb s1
  | some (.bl false, s1) => some (.bl false, s1)
  | _ => none
def mOrV (ma mb : M D) : M D := fun s => match ma s with
  | some (.bl true, s1) => some (.bl true, s1)
  | some (.bl false, s1) => mb s1
  | _ => none
def mNotV (ma : M D) : M D := fun s => match ma s with
  | some (.bl b, s1) => some (.bl (!b), s1)
  | _ => none
theorem me_one {op} (h : ME X a t m) : ME X (.BoolOp op [a] pos) t m := ⟨pe_one h.pe, h.ok⟩
theorem me_and (ha : ME X a ta ma) (hb : ME X (.BoolOp .And (b :: rest) pos) tb mb) : ME X (.BoolOp .And (a :: b :: rest) pos) (tAndV ta tb) (mAndV ma mb) := ⟨pe_and ha.pe hb.pe, fun g γ σ H s d s' R e Q z => by
  unfold mAndV at e
  split at e
  · refine ha.ok g γ σ H s _ _ R (by assumption) _ fun γ1 v H1 R1 k1 r => ?_
    cases r
    refine ⟨true, rfl, iteT ?_⟩
    exact hb.ok g γ1 σ H1 _ d s' R1 e Q fun γ2 v2 H2 R2 k2 => z γ2 v2 H2 R2 (k1.trans k2)
  · cases e
    refine ha.ok g γ σ H s _ _ R (by assumption) _ fun γ1 v H1 R1 k1 r => ?_
    cases r
    exact ⟨false, rfl, iteF (z γ1 _ H1 R1 k1 (.bl false))⟩
  · cases e⟩
theorem me_or (ha : ME X a ta ma) (hb : ME X (.BoolOp .Or (b :: rest) pos) tb mb) : ME X (.BoolOp .Or (a :: b :: rest) pos) (tOrV ta tb) (mOrV ma mb) := ⟨pe_or ha.pe hb.pe, fun g γ σ H s d s' R e Q z => by
  unfold mOrV at e
  split at e
  · cases e
    refine ha.ok g γ σ H s _ _ R (by assumption) _ fun γ1 v H1 R1 k1 r => ?_
    cases r
    exact ⟨true, rfl, iteT (z γ1 _ H1 R1 k1 (.bl true))⟩
  · refine ha.ok g γ σ H s _ _ R (by assumption) _ fun γ1 v H1 R1 k1 r => ?_
    cases r
    refine ⟨false, rfl, iteF ?_⟩
    exact hb.ok g γ1 σ H1 _ d s' R1 e Q fun γ2 v2 H2 R2 k2 => z γ2 v2 H2 R2 (k1.trans k2)
  · cases e⟩
theorem me_not (ha : ME X a ta ma) : ME X (.UnaryOp .Not a pos) (tNotV ta) (mNotV ma) := ⟨pe_not ha.pe, fun g γ σ H s d s' R e Q z => by
  unfold mNotV at e
  split at e
  · cases e
    refine ha.ok g γ σ H s _ _ R (by assumption) _ fun γ1 v H1 R1 k1 r => ?_
    cases r
    exact ⟨_, rfl, z γ1 _ H1 R1 k1 (.bl _)⟩
  · cases e⟩
def mIf (p : M Bool) (ma mb : M D) : M D := fun s => match p s with
  | none => none
  | some (true, s1) => ma s1
  | some (false, s1) => mb s1
theorem me_if (hp : MT X c tp p) (ha : ME X a ta ma) (hb : ME X b tb mb) : ME X (.IfExp c a b pos) (tIf tp ta tb) (mIf p ma mb) := ⟨pe_ifExp hp.pt ha.pe hb.pe, fun g γ σ H s d s' R e Q z => by
  unfold mIf at e
  cases h1 : p s with
  | none => rw [h1] at e; cases e
  | some r =>
    obtain ⟨c, s1⟩ := r
    rw [h1] at e
    cases c with
    | true =>
      refine hp.ok g γ σ H s true s1 R h1 _ fun γ1 H1 R1 k1 => ?_
      refine iteT ?_
      exact ha.ok g γ1 σ H1 s1 d s' R1 e Q fun γ2 v H2 R2 k2 => z γ2 v H2 R2 (k1.trans k2)
    | false =>
      refine hp.ok g γ σ H s false s1 R h1 _ fun γ1 H1 R1 k1 => ?_
      refine iteF ?_
      exact hb.ok g γ1 σ H1 s1 d s' R1 e Q fun γ2 v H2 R2 k2 => z γ2 v H2 R2 (k1.trans k2)⟩

/-! ### argument lists, displays, calls -/
variable {es : List Expr} {tr : TA} {mr : M (List D)}
def mNil : M (List D) := fun s => some ([], s)
def mCons (m : M D) (mr : M (List D)) : M (List D) := fun s => match m s with
  | none => none
  | some (d, s1) => match mr s1 with
    | none => none
    | some (ds, s2) => some (d :: ds, s2)
theorem mCons_some {m : M D} {mr : M (List D)} {s s' : S} {ds : List D} (h : mCons m mr s = some (ds, s')) : ∃ d r s1, m s = some (d, s1) ∧ mr s1 = some (r, s') ∧ ds = d :: r := by
  unfold mCons at h
  cases h1 : m s with
  | none => rw [h1] at h; cases h
  | some p1 =>
    obtain ⟨d, s1⟩ := p1
    simp only [h1] at h
    cases h2 : mr s1 with
    | none => simp only [h2] at h; cases h
    | some p2 =>
      obtain ⟨r, s2⟩ := p2
      simp only [h2] at h
      cases h
      exact ⟨d, r, s1, rfl, h2, rfl⟩
theorem ma_nil : MA X [] tNil mNil := ⟨pa_nil, fun g γ σ H s ds s' R e Q z => by cases e; exact z γ [] H R .refl .nil⟩
theorem ma_cons (ha : ME X e t m) (hr : MA X es tr mr) (hs : starEach (e :: es) X.env = (false, eval e X.env) :: starEach es X.env := by rfl) : MA X (e :: es) (tCons t tr) (mCons m mr) := ⟨pa_cons ha.pe hr.pa hs, fun g γ σ H s ds s' R e Q z => by
  obtain ⟨d, r, s1, h1, h2, rfl⟩ := mCons_some e
  refine ha.ok g γ σ H s d s1 R h1 _ fun γ1 v H1 R1 k1 r1 => ?_
  refine hr.ok g γ1 σ H1 s1 r s' R1 h2 _ fun γ2 vs H2 R2 k2 r2 => ?_
  exact z γ2 _ H2 R2 (k1.trans k2) (.cons (r1.ke k2 R.ok) r2)⟩
theorem mab_nil : MAB X [] tNil mNil := ⟨pa_nil, fun g γ σ H s ds s' R e Q z => by cases e; exact z γ [] H R .refl True.intro⟩
theorem mab_cons (ha : MB X e t m) (hr : MAB X es tr mr) (hs : starEach (e :: es) X.env = (false, eval e X.env) :: starEach es X.env := by rfl) : MAB X (e :: es) (tCons t tr) (mCons m mr) := ⟨pa_cons ha.pe hr.pa hs, fun g γ σ H s ds s' R e Q z => by
  obtain ⟨d, r, s1, h1, h2, rfl⟩ := mCons_some e
  refine ha.ok g γ σ H s d s1 R h1 _ fun γ1 v H1 R1 k1 r1 => ?_
  refine hr.ok g γ1 σ H1 s1 r s' R1 h2 _ fun γ2 vs H2 R2 k2 r2 => ?_
  exact z γ2 _ H2 R2 (k1.trans k2) ⟨r1.ke k2 R.ok, r2⟩⟩
/-- the size that is still allowed: 2 ^ 24 -/
abbrev big (n : Nat) : Bool := decide (n ≤ 16777216)
theorem big_of {n : Nat} (h : big n = true) : n ≤ sizeLine := of_decide_eq_true h
def mTup (mr : M (List D)) : M D := fun s => match mr s with
  | none => none
  | some (ds, s1) => if big ds.length then some (.tup ds, s1) else none
def mLst (mr : M (List D)) : M D := fun s => match mr s with
  | none => none
  | some (ds, s1) => if big ds.length then some (.lst ds, s1) else none
theorem mTup_some {s s' : S} {d : D} (h : mTup mr s = some (d, s')) : ∃ ds, mr s = some (ds, s') ∧ d = .tup ds ∧ big ds.length = true := by
  unfold mTup at h
  cases h1 : mr s with
  | none => rw [h1] at h; cases h
  | some p1 =>
    obtain ⟨ds, s1⟩ := p1
    simp only [h1] at h
    split at h
    · cases h; exact ⟨ds, rfl, rfl, by assumption⟩
    · cases h
theorem mLst_some {s s' : S} {d : D} (h : mLst mr s = some (d, s')) : ∃ ds, mr s = some (ds, s') ∧ d = .lst ds ∧ big ds.length = true := by
  unfold mLst at h
  cases h1 : mr s with
  | none => rw [h1] at h; cases h
  | some p1 =>
    obtain ⟨ds, s1⟩ := p1
    simp only [h1] at h
    split at h
    · cases h; exact ⟨ds, rfl, rfl, by assumption⟩
    · cases h
theorem grow_upd {H : Hp} {p : Addr} {o : HO} (h : H p = none) : ∀ a u, H a = some u → upd H p o a = some u := fun a u q => by rw [upd_ne (ne_of_none q h)]; exact q
theorem kp_grow {O : Addr → Prop} {H H' : Hp} (h : ∀ a u, H a = some u → H' a = some u) : Kp O O H H' := fun a u n q => ⟨h a u q, n⟩
theorem me_tup {x1} (h : MA X es tr mr) : ME X (.Tuple es x1 pos) (tTup tr) (mTup mr) := ⟨pe_tup h.pa, fun g γ σ H s d s' R e Q z => by
  obtain ⟨ds, h1, rfl, hb⟩ := mTup_some e
  refine h.ok g γ σ H s ds s' R h1 _ fun γ1 vs H1 R1 k1 r1 => ⟨by rw [r1.length]; exact big_of hb, fun p hp => ?_⟩
  refine z γ1 _ _ (R1.grow (grow_upd hp)) (k1.trans (.grow (grow_upd hp))) ?_
  exact .tup (R1.new hp).2 upd_same (Reps.kp (kp_grow (grow_upd hp)) _ r1)⟩
theorem kp_addT {g : G} {γ : Gh} {H : Hp} {p : Addr} {o : HO} (h : H p = none) : Kp (OO g γ) (OO g (addT γ p)) H (upd H p o) := fun a u n q => ⟨grow_upd h a u q, fun z => by
  rcases z with z | z | z | z
  · exact n (.inl z)
  · exact n (.inr (.inl z))
  · exact n (.inr (.inr z))
  · exact ne_of_none q h z⟩
theorem mf_lst (h : MA X es tr mr) : MF X (.List es pos) (tLst tr) (mLst mr) := ⟨pe_lst h.pa, fun g γ σ H s d s' R e Q z => by
  obtain ⟨ds, h1, rfl, hb⟩ := mLst_some e
  refine h.ok g γ σ H s ds s' R h1 _ fun γ1 vs H1 R1 k1 r1 => ⟨by rw [r1.length]; exact big_of hb, fun p hp => ?_⟩
  refine z γ1 p _ (R1.addT hp _) (fun q => (R1.new hp).2 (.inr (.inr q))) (k1.trans (.grow (grow_upd hp))) (k1.back R1 hp) ?_
  exact .lst upd_same (Reps.kp (kp_addT hp) _ r1)⟩

/-- a def's promise: it does what the mirror f does -/
def spM (K : PySem.W.Frag) (n : Nat) (f : List D → WS → Option (D × WS)) : Sp := fun vs H Q _ => ∃ (g : G) (ds : List D) (W : WS) (d : D) (W' : WS), g.H0 = H ∧ GOk g ∧ ds.length = n ∧ Reps K g.Oc g.wa H vs ds ∧ WRel H g.wa W ∧ f ds W = some (d, W') ∧
  ∀ v H', (∀ a o, NW g.wa a → H a = some o → H' a = some o) → WRel H' g.wa W' → Rep K g.Oc g.wa H' v d → Q v H'
def mCall (n : Nat) (f : List D → WS → Option (D × WS)) (mr : M (List D)) : M D := fun s => match mr s with
  | none => none
  | some (ds, s1) => if ds.length = n then match f ds s1.W with
    | none => none
    | some (d, W) => some (d, { s1 with W := W }) else none
theorem mCall_some {n : Nat} {f : List D → WS → Option (D × WS)} {s s' : S} {d : D} (h : mCall n f mr s = some (d, s')) : ∃ ds s1 W, mr s = some (ds, s1) ∧ ds.length = n ∧ f ds s1.W = some (d, W) ∧ s' = { s1 with W := W } := by
  unfold mCall at h
  cases h1 : mr s with
  | none => rw [h1] at h; cases h
  | some p1 =>
    obtain ⟨ds, s1⟩ := p1
    simp only [h1] at h
    split at h
    · cases h2 : f ds s1.W with
      | none => simp only [h2] at h; cases h
      | some p2 =>
        obtain ⟨d, W⟩ := p2
        simp only [h2] at h
        cases h
        exact ⟨ds, s1, W, rfl, by assumption, h2, rfl⟩
    · cases h
theorem tcall_ok {n : Nat} {f : List D → WS → Option (D × WS)} (h : TAok K tr mr) : TEok K (tCall (spM K n f) [] E0 tr) (mCall n f mr) := fun g γ σ H s d s' R e Q z => by
  obtain ⟨ds, s1, W, h1, hl, h2, rfl⟩ := mCall_some e
  refine h g γ σ H s ds s1 R h1 _ fun γ1 vs H1 R1 k1 r1 => ?_
  rw [List.append_nil]
  refine ⟨⟨g.wa, OO g γ1, H1⟩, ds, s1.W, d, W, rfl, ⟨fun a q => R1.dom q, fun x y q => ⟨.inl (R1.ok.wo x y q).1, .inl (R1.ok.wo x y q).2⟩⟩, hl, r1, R1.w, h2, fun v H' fr w r => ?_⟩
  exact z γ1 v H' (R1.call fr w) (k1.trans ⟨rfl, fun _ _ q => q, fr⟩) r
variable {x : Str} {pp : Pos}
theorem me_call {n k : Nat} {f : Addr} {fd : FuncData} {ps : List Str} {mf : List D → WS → Option (D × WS)} (F : FnOk X.prog X.w X.K X.mg X.base CX0 k f fd ps (spM X.K n mf)) (hr : Room k X.A) (hg : Gl X x) (hm : X.mg x = some (.ref f)) (hk : PySem.W.keepIn X.K (.ref f) = true) (hb : Binds X.K fd ps [])
    (ha : MA X (e :: es) tr mr) (hdb : (x == ("__debug__" : Str)) = false := by decide) (he : starEach (e :: es) X.env = (false, eval e X.env) :: starEach es X.env := by rfl) (hpl : (backTo pos (starEach es X.env)).any (·.1) = false := by rfl) :
    ME X (.Call (.Name x pp) (e :: es) [] pos) (tCall (spM X.K n mf) [] E0 tr) (mCall n mf mr) := ⟨pe_call F hr hg hm hk hb .nil pass0 ha.pa hdb he hpl, tcall_ok ha.ok⟩
/-- calls of built-ins -/
def C1ok (K : PySem.W.Frag) (r : List V → Hp → VK → Prop) (f : List D → Option D) : Prop := ∀ (g : G) (γ : Gh) (σ : L2.St) (H : Hp) (s : S) (vs : List V) (ds : List D) (z : D), SRel K g γ σ H s → RepsS K g γ H vs ds → f ds = some z →
  ∀ Q : VK, (∀ v H', (∀ a o, H a = some o → H' a = some o) → Rep K (OO g γ) g.wa H' v z → Q v H') → r vs H Q
def mCB (f : List D → Option D) (mr : M (List D)) : M D := fun s => match mr s with
  | none => none
  | some (ds, s1) => match f ds with
    | none => none
    | some d => some (d, s1)
theorem mCB_some {f : List D → Option D} {s s' : S} {d : D} (h : mCB f mr s = some (d, s')) : ∃ ds, mr s = some (ds, s') ∧ f ds = some d := by
  unfold mCB at h
  cases h1 : mr s with
  | none => rw [h1] at h; cases h
  | some p1 =>
    obtain ⟨ds, s1⟩ := p1
    simp only [h1] at h
    cases h2 : f ds with
    | none => simp only [h2] at h; cases h
    | some d => simp only [h2] at h; cases h; exact ⟨ds, rfl, h2⟩
theorem tcb_ok {r : List V → Hp → VK → Prop} {f : List D → Option D} (hr : C1ok K r f) (h : TABok K tr mr) : TEok K (tCB r tr) (mCB f mr) := fun g γ σ H s d s' R e Q z => by
  obtain ⟨ds, h1, h2⟩ := mCB_some e
  refine h g γ σ H s ds s' R h1 _ fun γ1 vs H1 R1 k1 r1 => ?_
  exact hr g γ1 σ H1 s' vs ds d R1 r1 h2 Q fun v H2 e2 r2 => z γ1 v H2 (R1.grow e2) (k1.trans (.grow e2)) r2
variable {id T : String} {r : List V → Hp → VK → Prop} {f : List D → Option D}
theorem me_cb (hc : CallR X (.builtin id) r) (hr : C1ok X.K r f) (hg : Gl X x) (hm : X.mg x = none) (hv : bootBuiltins x = some (.builtin id)) (ha : MAB X (e :: es) tr mr) (hn : x ≠ "__name__" := by decide) (hdb : (x == ("__debug__" : Str)) = false := by decide)
    (he : starEach (e :: es) X.env = (false, eval e X.env) :: starEach es X.env := by rfl) (hpl : (backTo pos (starEach es X.env)).any (·.1) = false := by rfl) : ME X (.Call (.Name x pp) (e :: es) [] pos) (tCB r tr) (mCB f mr) :=
  ⟨pe_callB hc hg hm hv ha.pa hn hdb he hpl, tcb_ok hr ha.ok⟩
theorem me_cty (hc : CallR X (.type T) r) (hr : C1ok X.K r f) (hg : Gl X x) (hm : X.mg x = none) (hv : bootBuiltins x = some (.type T)) (ha : MAB X (e :: es) tr mr) (hn : x ≠ "__name__" := by decide) (hdb : (x == ("__debug__" : Str)) = false := by decide)
    (he : starEach (e :: es) X.env = (false, eval e X.env) :: starEach es X.env := by rfl) (hpl : (backTo pos (starEach es X.env)).any (·.1) = false := by rfl) : ME X (.Call (.Name x pp) (e :: es) [] pos) (tCB r tr) (mCB f mr) :=
  ⟨pe_callTy hc hg hm hv ha.pa hn hdb he hpl, tcb_ok hr ha.ok⟩
theorem CallR.or {fv : Value} {r r' : List V → Hp → VK → Prop} (h : CallR X fv r) (h' : CallR X fv r') : CallR X fv (fun xs H Q => r xs H Q ∨ r' xs H Q) := by
  intro pins s σ H xs us Q I rr q
  rcases q with q | q
  · exact h pins s σ H xs us Q I rr q
  · exact h' pins s σ H xs us Q I rr q
theorem C1ok.or {r r' : List V → Hp → VK → Prop} {f f' : List D → Option D} (h : C1ok K r f) (h' : C1ok K r' f') : C1ok K (fun xs H Q => r xs H Q ∨ r' xs H Q) (fun ds => (f ds).or (f' ds)) := fun g γ σ H s vs ds z R rx hz Q q => by
  cases h1 : f ds with
  | some w =>
    simp only [h1, Option.some_or] at hz
    cases hz
    exact .inl (h g γ σ H s vs ds _ R rx h1 Q q)
  | none =>
    simp only [h1, Option.none_or] at hz
    exact .inr (h' g γ σ H s vs ds z R rx hz Q q)
theorem RepsS.one {g : G} {γ : Gh} {H : Hp} {vs : List V} {d : D} (h : RepsS K g γ H vs [d]) : ∃ v, vs = [v] ∧ RepS K g γ H v d := by
  match vs, h with
  | [v], h => exact ⟨v, rfl, h.1⟩
theorem RepsS.two {g : G} {γ : Gh} {H : Hp} {vs : List V} {d d' : D} (h : RepsS K g γ H vs [d, d']) : ∃ v v', vs = [v, v'] ∧ RepS K g γ H v d ∧ RepS K g γ H v' d' := by
  match vs, h with
  | [v, v'], h => exact ⟨v, v', rfl, h.1, h.2.1⟩
/-- methods of texts: o.m(e, ..) by values -/
def mMeth (f : D → List D → Option D) (m : M D) (mr : M (List D)) : M D := fun s => match m s with
  | none => none
  | some (d, s1) => match mr s1 with
    | none => none
    | some (ds, s2) => match f d ds with
      | none => none
      | some z => some (z, s2)
theorem mMeth_some {f : D → List D → Option D} {s s' : S} {z : D} (h : mMeth f m mr s = some (z, s')) : ∃ d ds s1, m s = some (d, s1) ∧ mr s1 = some (ds, s') ∧ f d ds = some z := by
  unfold mMeth at h
  cases h1 : m s with
  | none => rw [h1] at h; cases h
  | some p1 =>
    obtain ⟨d, s1⟩ := p1
    simp only [h1] at h
    cases h2 : mr s1 with
    | none => simp only [h2] at h; cases h
    | some p2 =>
      obtain ⟨r, s2⟩ := p2
      simp only [h2] at h
      cases h3 : f d r with
      | none => simp only [h3] at h; cases h
      | some z => simp only [h3] at h; cases h; exact ⟨d, r, s1, rfl, h2, h3⟩
end
end MM

set_option Elab.async false
set_option linter.all false
set_option maxRecDepth 100000
/-! MM, fourth part: targets, walks, comprehensions, statements, defs. -/
namespace MM
open PySem PySem.Spec PyProof.Rows L2
section
variable {X : Cx} {e a b c tg iter elt : Expr} {t ta tb tc te : TE} {m ma mb mc me : M D} {pos : Pos} {K : PySem.W.Frag} {es : List Expr} {tr : TA} {mr : M (List D)} {x : Str}

/-! ### targets -/
def gN (i : Nat) : D → S → Option S := fun d s => if i < s.ρ.length then some { s with ρ := s.ρ.set i (.imm d) } else none
theorem wipe_set {σ : L2.St} {x : Option V} : ∀ {vs : List Nat} {i : Nat}, i ∈ vs → wipe (σ.set i x) vs = wipe σ vs := by
  have key : ∀ (vs : List Nat) (i j : Nat) (x : Option V) (σ : L2.St), (wipe (σ.set i x) vs)[j]? = if j ∈ vs then (if j < σ.length then some none else none) else (σ.set i x)[j]? := by
    intro vs
    induction vs with
    | nil => intro i j x σ; simp [wipe]
    | cons v vs ih =>
      intro i j x σ
      unfold wipe
      rw [List.getElem?_set]
      by_cases h : v = j
      · subst h
        simp [wipe_length]
      · rw [if_neg h, ih]
        simp only [List.mem_cons]
        have h' : ¬ j = v := fun z => h z.symm
        simp [h']
  have key0 : ∀ (vs : List Nat) (j : Nat) (σ : L2.St), (wipe σ vs)[j]? = if j ∈ vs then (if j < σ.length then some none else none) else σ[j]? := by
    intro vs
    induction vs with
    | nil => intro j σ; simp [wipe]
    | cons v vs ih =>
      intro j σ
      unfold wipe
      rw [List.getElem?_set]
      by_cases h : v = j
      · subst h
        simp [wipe_length]
      · rw [if_neg h, ih]
        simp only [List.mem_cons]
        have h' : ¬ j = v := fun z => h z.symm
        simp [h']
  intro vs i hi
  apply List.ext_getElem?
  intro j
  rw [key, key0]
  split
  · rfl
  · rename_i hj
    rw [List.getElem?_set_ne (fun z => hj (by rw [← z]; exact hi))]
theorem wipe_get {σ : L2.St} : ∀ {vs : List Nat} {j : Nat}, j ∉ vs → (wipe σ vs)[j]? = σ[j]?
  | [], _, _ => rfl
  | v :: vs, j, h => by
    unfold wipe
    rw [List.getElem?_set_ne (fun z => h (by rw [z]; exact List.mem_cons_self))]
    exact wipe_get fun z => h (List.mem_cons_of_mem _ z)
theorem mg_name {i : Nat} {vs : List Nat} (hi : i ∈ vs) (hN : X.N.Nodup) (hx : X.N[i]? = some x) (hl : Loc X.env.scope x) (hf : X.fn x = true ∨ X.env.scope.names.lookup x = some .local := by first | exact .inl rfl | exact .inr rfl | assumption) :
    MG X (.Name x pos) (gName i) vs (gN i) := ⟨pg_name hN hx hl hf, fun g γ σ H s v d s' R r e Q z => by
  unfold gN at e
  split at e
  · cases e
    obtain ⟨γ', R', k⟩ := R.setImm (by assumption) r
    exact z γ' _ R' k (wipe_set hi)
  · cases e⟩
def gsN : List D → S → Option S := fun ds s => match ds with
  | [] => some s
  | _ => none
def gsC (m : D → S → Option S) (r : List D → S → Option S) : List D → S → Option S := fun ds s => match ds with
  | d :: ds => match m d s with
    | none => none
    | some s1 => r ds s1
  | [] => none
theorem mgs_nil {vs : List Nat} : MGs X [] gNil vs gsN := ⟨pgs_nil, fun g γ σ H s xs ds s' R r e Q z => by
  unfold gsN at e
  split at e
  · cases e
    cases r
    exact ⟨rfl, z γ σ R .refl rfl⟩
  · cases e⟩
theorem mgs_cons {vs : List Nat} {tg : TG} {tgs : TGs} {m : D → S → Option S} {r : List D → S → Option S} (h : MG X e tg vs m) (h' : MGs X es tgs vs r)
    (hs : (assignEach (e :: es) X.env).map (·.2) = assign e X.env :: (assignEach es X.env).map (·.2) := by rfl) : MGs X (e :: es) (gCons tg tgs) vs (gsC m r) := ⟨pgs_cons h.pg h'.pg hs, fun g γ σ H s xs ds s' R rr e Q z => by
  unfold gsC at e
  split at e
  · rename_i d ds
    cases h1 : m d s with
    | none => simp only [h1] at e; cases e
    | some s1 =>
      simp only [h1] at e
      cases rr with
      | cons r1 r2 =>
        refine ⟨_, _, rfl, ?_⟩
        refine h.ok g γ σ H s _ d s1 R r1 h1 _ fun γ1 σ1 R1 k1 w1 => ?_
        refine h'.ok g γ1 σ1 H s1 _ ds s' R1 (r2.ke k1 R.ok) e _ fun γ2 σ2 R2 k2 w2 => ?_
        exact z γ2 σ2 R2 (k1.trans k2) (w2.trans w1)
  · cases e⟩
def gT (n : Nat) (r : List D → S → Option S) : D → S → Option S := fun d s => match d with
  | .tup ds => if ds.length = n then r ds s else none
  | _ => none
theorem Rep.tup_inv {O : Addr → Prop} {wa : WA} {H : Hp} {v : V} {ds : List D} (h : Rep K O wa H v (.tup ds)) : ∃ p vs, v = .ref p ∧ SqT K H p vs ∧ Reps K O wa H vs ds := by
  cases h with
  | tup n e r => exact ⟨_, _, rfl, .inl (.inl e), r⟩
  | tupK e r => exact ⟨_, _, rfl, .inr e, r⟩
theorem mg_tup {vs : List Nat} {k : Nat} {tgs : TGs} {r : List D → S → Option S} {n : Nat} (hc : X.calm = true) (h : MGs X es tgs vs r) (hn : (assignEach es X.env).length = n := by rfl) (hst : (assignEach es X.env).findIdx? (·.1) = none := by rfl) :
    MG X (.Tuple es k pos) (gTup X.K n tgs) vs (gT n r) := ⟨pg_tup hc h.pg hn hst, fun g γ σ H s v d s' R rr e Q z => by
  unfold gT at e
  split at e
  · split at e
    · obtain ⟨p, xs, rfl, q, rs⟩ := rr.tup_inv
      refine ⟨p, xs, rfl, q, ?_, ?_⟩
      · rw [rs.length]; assumption
      · exact h.ok g γ σ H s xs _ s' R rs e Q z
    · cases e
  · cases e⟩

/-! ### walks -/
theorem itl_ok {g : G} {p : Addr} {d0 : D} {ds : List D} (hl : ∀ (O : Addr → Prop) (H : Hp), Rep K O g.wa H (.ref p) d0 → ∃ vs, SqL K H p vs ∧ Reps K O g.wa H vs ds) (un : ∀ (H : Hp) vs vs', SqL K H p vs → SqL K H p vs' → True) : ItOk K g (Itl K p) (.ref p) d0 ds := fun O H _ r => by
  obtain ⟨vs, q, rs⟩ := hl O H r
  refine ⟨fun i d h => ?_, fun i h => ⟨vs, q, by rw [rs.length]; exact h⟩⟩
  obtain ⟨v, hv, rv⟩ := rs.get h
  refine ⟨⟨vs, v, q, hv⟩, fun x H' y => ?_⟩
  obtain ⟨rfl, y⟩ := y
  refine ⟨fun _ _ h => h, ?_⟩
  have := (y vs q).symm.trans hv
  cases this
  exact rv
theorem itt_ok {g : G} {p : Addr} {ds : List D} : ItOk K g (Itt K p) (.ref p) (.tup ds) ds := fun O H _ r => by
  obtain ⟨p', vs, e, q, rs⟩ := r.tup_inv
  cases e
  refine ⟨fun i d h => ?_, fun i h => ⟨vs, q, by rw [rs.length]; exact h⟩⟩
  obtain ⟨v, hv, rv⟩ := rs.get h
  refine ⟨⟨vs, v, q, hv⟩, fun x H' y => ?_⟩
  obtain ⟨rfl, y⟩ := y
  refine ⟨fun _ _ h => h, ?_⟩
  have := (y vs q).symm.trans hv
  cases this
  exact rv
/-- a text, sign by sign -/
def chars (z : Str) : List D := z.cps.toList.map fun c => .str ⟨#[c]⟩
theorem its_ok {g : G} {z : Str} : ItOk K g (Its z) .non .non (chars z) := fun O H _ r => by
  refine ⟨fun i d h => ?_, fun i h => ?_⟩
  · unfold chars at h
    rw [List.getElem?_map, Array.getElem?_toList] at h
    cases hc : z.cps[i]? with
    | none => rw [hc] at h; cases h
    | some c =>
      rw [hc] at h
      cases h
      refine ⟨(Array.getElem?_eq_some_iff.mp hc).1, fun x H' y => ?_⟩
      obtain ⟨rfl, c', e, rfl⟩ := y
      rw [hc] at e
      cases e
      exact ⟨fun _ _ h => h, .str _⟩
  · unfold chars at h
    rw [List.length_map, Array.length_toList] at h
    exact h
def ranged (lo : Int) (n : Nat) : List D := (List.range n).map fun i => .int (lo + (i : Nat))
theorem itr_ok {g : G} {lo : Int} {n : Nat} : ItOk K g (Itr lo n) .non .non (ranged lo n) := fun O H _ r => by
  refine ⟨fun i d h => ?_, fun i h => ?_⟩
  · unfold ranged at h
    rw [List.getElem?_map] at h
    by_cases hi : i < n
    · rw [List.getElem?_range hi] at h
      cases h
      refine ⟨hi, fun x H' y => ?_⟩
      obtain ⟨rfl, rfl⟩ := y
      exact ⟨fun _ _ h => h, .int _⟩
    · rw [List.getElem?_eq_none (by simpa using hi)] at h
      cases h
  · unfold ranged at h
    show n ≤ i
    simpa using h
/-- the items of a list, of a tuple, of a text -/
def items : D → Option (List D)
  | .lst ds => some ds
  | .tup ds => some ds
  | .fl ds => some ds
  | .str z => some (chars z)
  | _ => none
def mIter (m : M D) : M (List D) := fun s => match m s with
  | none => none
  | some (d, s1) => match items d with
    | none => none
    | some ds => some (ds, s1)
theorem PI.or {w w' : TI} (h : PI X tg iter w) (h' : PI X tg iter w') : PI X tg iter (fun σ H R => w σ H R ∨ w' σ H R) := ⟨fun pins s σ H R I q => by
  rcases q with q | q
  · exact h.run pins s σ H R I q
  · exact h'.run pins s σ H R I q⟩
theorem mi_seq (h : ME X iter te m) : MI X tg iter (fun σ H R => iList X.K te σ H R ∨ (iTup X.K te σ H R ∨ iStr te σ H R)) (mIter m) := ⟨PI.or (pi_list h.pe) (PI.or (pi_tup h.pe) (pi_str h.pe)), fun g γ σ H s ds s' R e Q z => by
  unfold mIter at e
  cases h1 : m s with
  | none => rw [h1] at e; cases e
  | some p1 =>
    obtain ⟨d, s1⟩ := p1
    simp only [h1] at e
    cases h2 : items d with
    | none => simp only [h2] at e; cases e
    | some ds' =>
      simp only [h2] at e
      cases e
      cases d with
      | lst ds =>
        cases h2
        refine .inl (h.ok g γ σ H s _ _ R h1 _ fun γ1 v H1 R1 k1 r1 => ?_)
        cases r1 with
        | lst n e1 r =>
          rename_i a xs
          refine ⟨_, rfl, ⟨_, .inl (.inl e1)⟩, z γ1 _ H1 (.ref a) (.lst ds) R1 k1 (.lst n e1 r) (itl_ok (fun O H r => ?_) fun _ _ _ _ _ => True.intro)⟩
          cases r with
          | lst n e r => exact ⟨_, .inl (.inl e), r⟩
      | fl ds =>
        cases h2
        refine .inl (h.ok g γ σ H s _ _ R h1 _ fun γ1 v H1 R1 k1 r1 => ?_)
        have r1' := r1
        cases r1 with
        | fl n e1 r =>
          rename_i a xs
          refine ⟨_, rfl, ⟨_, .inl e1⟩, z γ1 _ H1 (.ref a) (.fl ds) R1 k1 r1' (itl_ok (fun O H r => ?_) fun _ _ _ _ _ => True.intro)⟩
          cases r with
          | fl n e r => exact ⟨_, .inl e, r⟩
          | flK e r => exact ⟨_, .inr e, r⟩
        | flK e1 r =>
          rename_i a xs
          refine ⟨_, rfl, ⟨_, .inr e1⟩, z γ1 _ H1 (.ref a) (.fl ds) R1 k1 r1' (itl_ok (fun O H r => ?_) fun _ _ _ _ _ => True.intro)⟩
          cases r with
          | fl n e r => exact ⟨_, .inl e, r⟩
          | flK e r => exact ⟨_, .inr e, r⟩
      | tup ds =>
        cases h2
        refine .inr (.inl (h.ok g γ σ H s _ _ R h1 _ fun γ1 v H1 R1 k1 r1 => ?_))
        obtain ⟨a, xs, rfl, q, r⟩ := r1.tup_inv
        exact ⟨_, rfl, ⟨_, q⟩, z γ1 _ H1 (.ref a) (.tup ds) R1 k1 r1 itt_ok⟩
      | str y =>
        cases h2
        refine .inr (.inr (h.ok g γ σ H s _ _ R h1 _ fun γ1 v H1 R1 k1 r1 => ?_))
        cases r1
        exact ⟨y, rfl, z γ1 _ H1 .non .non R1 k1 .non its_ok⟩
      | _ => cases h2⟩
def mRng1 (mr : M (List D)) : M (List D) := fun s => match mr s with
  | some ([.int j], s1) => if -(2 ^ 62) ≤ j ∧ j < 2 ^ 62 then some (ranged 0 j.toNat, s1) else none
  | _ => none
def mRng2 (mr : M (List D)) : M (List D) := fun s => match mr s with
  | some ([.int i, .int j], s1) => if -(2 ^ 62) ≤ i ∧ i < 2 ^ 62 ∧ -(2 ^ 62) ≤ j ∧ j < 2 ^ 62 then some (ranged i (j - i).toNat, s1) else none
  | _ => none
theorem mi_range1 {p pos : Pos} (hg : Gl X "range") (hm : X.mg "range" = none) (ha : MAB X [a] tr mr) (hs : starEach [a] X.env = [(false, eval a X.env)] := by rfl) : MI X tg (.Call (.Name "range" p) [a] [] pos) (iRng1 tr) (mRng1 mr) :=
  ⟨pi_range1 hg hm ha.pa hs, fun g γ σ H s ds s' R e Q z => by
    unfold mRng1 at e
    split at e
    · split at e
      · rename_i hb
        cases e
        refine ha.ok g γ σ H s _ _ R (by assumption) _ fun γ1 vs H1 R1 k1 r1 => ?_
        obtain ⟨v, rfl, rv⟩ := r1.one
        rw [rv.int]
        exact ⟨_, rfl, hb.1, hb.2, z γ1 _ H1 .non .non R1 k1 .non itr_ok⟩
      · cases e
    · cases e⟩
theorem mi_range2 {p pos : Pos} (hg : Gl X "range") (hm : X.mg "range" = none) (ha : MAB X [a, b] tr mr) (hs : starEach [a, b] X.env = [(false, eval a X.env), (false, eval b X.env)] := by rfl) (hs2 : starEach [b] X.env = [(false, eval b X.env)] := by rfl) :
    MI X tg (.Call (.Name "range" p) [a, b] [] pos) (iRng2 tr) (mRng2 mr) :=
  ⟨pi_range2 hg hm ha.pa hs hs2, fun g γ σ H s ds s' R e Q z => by
    unfold mRng2 at e
    split at e
    · split at e
      · rename_i hb
        cases e
        refine ha.ok g γ σ H s _ _ R (by assumption) _ fun γ1 vs H1 R1 k1 r1 => ?_
        obtain ⟨v, v', rfl, rv, rv'⟩ := r1.two
        rw [rv.int, rv'.int]
        exact ⟨_, _, rfl, hb, z γ1 _ H1 .non .non R1 k1 .non itr_ok⟩
      · cases e
    · cases e⟩

/-! ### comprehensions -/
def wipeS (vs : List Nat) (s : S) : S := { s with ρ := vs.foldr (fun i ρ => ρ.set i .u) s.ρ }
def lcRun (vs : List Nat) (mg : D → S → Option S) (mt : M Bool) (me : M D) : List D → S → List D → Option (List D × S)
  | [], s, acc => some (acc, s)
  | d :: ds, s, acc => match mg d s with
    | none => none
    | some s1 => match mt s1 with
      | none => none
      | some (false, s2) => lcRun vs mg mt me ds (wipeS vs s2) acc
      | some (true, s2) => match me s2 with
        | none => none
        | some (y, s3) => if acc.length < 16777216 then lcRun vs mg mt me ds (wipeS vs s3) (acc ++ [y]) else none
def mLc (vs : List Nat) (mi : M (List D)) (mg : D → S → Option S) (mt : M Bool) (me : M D) : M D := fun s => match mi s with
  | none => none
  | some (ds, s1) => match lcRun vs mg mt me ds (wipeS vs s1) [] with
    | none => none
    | some (acc, s2) => some (.lst acc, s2)
theorem SRel.wipe {g : G} {γ : Gh} {σ : L2.St} {H : Hp} : ∀ (vs : List Nat) {s : S}, SRel K g γ σ H s → ∃ γ', SRel K g γ' (L2.wipe σ vs) H (wipeS vs s) ∧ KE g γ γ' H H
  | [], s, R => ⟨γ, R, .refl⟩
  | v :: vs, s, R => by
    obtain ⟨γ1, R1, k1⟩ := SRel.wipe vs R
    obtain ⟨γ2, R2, k2⟩ := R1.setU v none
    exact ⟨γ2, R2, k1.trans k2⟩
theorem wipeS_get {vs : List Nat} {s : S} : ∀ (j : Nat), j ∈ vs → (wipeS vs s).ρ[j]? = if j < s.ρ.length then some .u else none := by
  have len : ∀ vs : List Nat, (vs.foldr (fun i (ρ : List AV) => ρ.set i .u) s.ρ).length = s.ρ.length := by
    intro vs
    induction vs with
    | nil => rfl
    | cons v vs ih => rw [List.foldr_cons, List.length_set, ih]
  intro j hj
  show (vs.foldr (fun i ρ => ρ.set i .u) s.ρ)[j]? = _
  induction vs with
  | nil => cases hj
  | cons v vs ih =>
    rw [List.foldr_cons, List.getElem?_set, len]
    by_cases h : v = j
    · rw [if_pos h, h]
    · rw [if_neg h]
      rcases List.mem_cons.mp hj with z | z
      · exact absurd z.symm h
      · exact ih z
/-- slots of which nothing is known may hold anything -/
theorem SRel.unwipe {g : G} {γ : Gh} {σ σ' : L2.St} {H : Hp} {s : S} {vs : List Nat} (R : SRel K g γ σ' H (wipeS vs s)) (e : σ' = L2.wipe σ vs) : SRel K g γ σ H (wipeS vs s) := by
  subst e
  refine ⟨R.ok, R.fr, R.w, R.inj, R.fresh, R.tf, by rw [← R.len, wipe_length], fun i av h => ?_, R.ownd⟩
  by_cases hi : i ∈ vs
  · rw [wipeS_get i hi] at h
    split at h
    · cases h
      exact True.intro
    · cases h
  · have q := R.slot i av h
    cases av with
    | u => exact True.intro
    | imm d =>
      obtain ⟨v, a, r⟩ := q
      exact ⟨v, by rw [← wipe_get hi]; exact a, r⟩
    | own d =>
      obtain ⟨p, a, b, r⟩ := q
      exact ⟨p, a, by rw [← wipe_get hi]; exact b, r⟩
theorem wipe_wipe {σ : L2.St} {vs : List Nat} : wipe (wipe σ vs) vs = wipe σ vs := by
  have key0 : ∀ (vs : List Nat) (j : Nat) (σ : L2.St), (wipe σ vs)[j]? = if j ∈ vs then (if j < σ.length then some none else none) else σ[j]? := by
    intro vs
    induction vs with
    | nil => intro j σ; simp [wipe]
    | cons v vs ih =>
      intro j σ
      unfold wipe
      rw [List.getElem?_set]
      by_cases h : v = j
      · subst h
        simp [wipe_length]
      · rw [if_neg h, ih]
        simp only [List.mem_cons]
        have h' : ¬ j = v := fun z => h z.symm
        simp [h']
  apply List.ext_getElem?
  intro j
  rw [key0, key0, wipe_length]
  split <;> rfl
theorem foldr_len {vs : List Nat} {ρ : List AV} : (vs.foldr (fun i (ρ : List AV) => ρ.set i .u) ρ).length = ρ.length := by
  induction vs with
  | nil => rfl
  | cons v vs ih => rw [List.foldr_cons, List.length_set, ih]
theorem tlc_ok {wi : TI} {g : TG} {tt : TT} {te : TE} {vs : List Nat} {mi : M (List D)} {mg : D → S → Option S} {mt : M Bool} {me : M D} (hi : TIok K wi mi) (hg : TGok K g vs mg) (ht : TTok K tt mt) (he : TEok K te me) :
    TFok K (tLc wi g tt te vs) (mLc vs mi mg mt me) := fun G γ σ H s d s' R e Q z => by
  unfold mLc at e
  cases h1 : mi s with
  | none => rw [h1] at e; cases e
  | some p1 =>
    obtain ⟨ds, s1⟩ := p1
    simp only [h1] at e
    cases h2 : lcRun vs mg mt me ds (wipeS vs s1) [] with
    | none => simp only [h2] at e; cases e
    | some p2 =>
      obtain ⟨out, s2⟩ := p2
      simp only [h2] at e
      cases e
      refine hi G γ σ H s ds s1 R h1 _ fun γ1 J H1 v0 d0 R1 k1 r0 it => ?_
      intro Da hD
      obtain ⟨γ2, R2, k2⟩ := R1.wipe vs
      have nD : ¬ OO G γ1 Da := (R1.new hD).2
      have R3 : SRel K G (addT γ2 Da) (wipe σ vs) (upd H1 Da (.lst [])) (wipeS vs s1) := R2.addT hD _
      have nT2 : ¬ γ2.T Da := fun q => (R2.new hD).2 (.inr (.inr q))
      -- the invariant
      refine ⟨fun i m H3 => i + m = ds.length ∧ ∃ γ3 sW acc vacc, SRel K G (addT γ3 Da) (wipe σ vs) H3 (wipeS vs sW) ∧ KE G (addT γ2 Da) (addT γ3 Da) (upd H1 Da (.lst [])) (upd H3 Da (.lst [])) ∧ ¬ γ3.T Da ∧ H3 Da = some (.lst vacc) ∧ Reps K (OO G (addT γ3 Da)) G.wa H3 vacc acc ∧ γ3.T = γ2.T ∧ (∀ i a, γ3.own i = some a → γ2.own i = some a) ∧
          Rep K (OO G (addT γ3 Da)) G.wa H3 v0 d0 ∧ lcRun vs mg mt me (ds.drop i) (wipeS vs sW) acc = some (out, s'), ⟨ds.length, by omega, γ2, s1, [], [], R3, by rw [L2.upd_upd]; exact .refl, nT2, upd_same, .nil, rfl, fun _ _ h => h, Rep.kp (kp_addT hD) _ (r0.ke k2 R1.ok), h2⟩, fun i m H3 w => ?_⟩
      obtain ⟨him, γ3, sW, acc, vacc, R4, ke, nT3, hDa, racc, eT, eo, r04, run⟩ := w
      have it4 := it (OO G (addT γ3 Da)) H3 (fun a q => R4.dom q) r04
      by_cases hlt : i < ds.length
      · have hd : ds[i]? = some ds[i] := List.getElem?_eq_getElem hlt
        obtain ⟨go, yl⟩ := it4.1 i _ hd
        refine .inr ⟨go, _, fun H' h => h, fun x H' y => ?_⟩
        obtain ⟨ext, rx⟩ := yl x H' y
        have R5 := R4.grow ext
        have k5 : KE G (addT γ3 Da) (addT γ3 Da) H3 H' := .grow ext
        rw [List.drop_eq_getElem_cons hlt] at run
        unfold lcRun at run
        cases h3 : mg ds[i] (wipeS vs sW) with
        | none => simp only [h3] at run; cases run
        | some t1 =>
          simp only [h3] at run
          refine hg G _ _ _ _ x _ t1 R5 rx h3 _ fun γ6 σ6 R6 k6 w6 => ⟨by rw [w6, wipe_wipe], ?_⟩
          -- γ6 is again of the form with Da apart
          cases h4 : mt t1 with
          | none => simp only [h4] at run; cases run
          | some q4 =>
            obtain ⟨bb, t2⟩ := q4
            simp only [h4] at run
            refine ht G γ6 σ6 H' t1 bb t2 R6 h4 _ fun γ7 H7 R7 k7 => ?_
            have next : ∀ (γ8 : Gh) (H8 : Hp) (t3 : S) (acc' : List D) (vacc' : List V), SRel K G γ8 σ6 H8 t3 → KE G (addT γ3 Da) γ8 H3 H8 → Reps K (OO G γ8) G.wa H8 vacc' acc' → lcRun vs mg mt me (ds.drop (i + 1)) (wipeS vs t3) acc' = some (out, s') →
                ∃ m', m' < m ∧ (i + 1) + m' = ds.length ∧ ∃ γ3 sW acc vacc, SRel K G (addT γ3 Da) (wipe σ vs) (upd H8 Da (.lst vacc')) (wipeS vs sW) ∧ KE G (addT γ2 Da) (addT γ3 Da) (upd H1 Da (.lst [])) (upd (upd H8 Da (.lst vacc')) Da (.lst [])) ∧ ¬ γ3.T Da ∧ (upd H8 Da (.lst vacc')) Da = some (.lst vacc) ∧ Reps K (OO G (addT γ3 Da)) G.wa (upd H8 Da (.lst vacc')) vacc acc ∧ γ3.T = γ2.T ∧ (∀ i a, γ3.own i = some a → γ2.own i = some a) ∧
                  Rep K (OO G (addT γ3 Da)) G.wa (upd H8 Da (.lst vacc')) v0 d0 ∧ lcRun vs mg mt me (ds.drop (i + 1)) (wipeS vs sW) acc = some (out, s') := by
              intro γ8 H8 t3 acc' vacc' R8 k8 rr8 run8
              obtain ⟨γ9, R9, k9⟩ := R8.wipe vs
              rw [w6, wipe_wipe] at R9
              have kk := k8.trans k9
              have eT9 : γ9.T = (addT γ3 Da).T := kk.T
              have e9 : addT ⟨γ9.own, γ3.T⟩ Da = γ9 := by
                show Gh.mk γ9.own (addT γ3 Da).T = γ9
                rw [← eT9]
              have TD : γ9.T Da := by rw [eT9]; exact .inr rfl
              have R10 := R9.updT TD (.lst vacc')
              have kp9 : Kp (OO G γ9) (OO G γ9) H8 (upd H8 Da (.lst vacc')) := fun a u n q => ⟨by rw [upd_ne (fun z => n (.inr (.inr (by rw [z]; exact TD))))]; exact q, n⟩
              refine ⟨m - 1, by omega, by omega, ⟨γ9.own, γ3.T⟩, t3, acc', vacc', ?_⟩
              rw [e9]
              refine ⟨R10, ?_, nT3, upd_same, Reps.kp kp9 _ (rr8.ke k9 R8.ok), eT, fun j a h => eo j a (kk.own j a h), Rep.kp kp9 _ (r04.ke kk R4.ok), run8⟩
              refine ke.trans ⟨by rw [eT9], fun j a h => kk.own j a h, fun a o n h => ?_⟩
              by_cases z : a = Da
              · subst z
                rw [upd_same] at h ⊢
                exact h
              · rw [upd_ne z] at h
                rw [upd_ne z, upd_ne z]
                exact kk.h a o n h
            cases bb with
            | false =>
              simp only at run
              refine iteF ?_
              have hc8 : KE G (addT γ3 Da) γ7 H3 H7 := (k5.trans k6).trans k7
              have hDa7 : H7 Da = some (.lst vacc) := hc8.h _ _ (R4.nwT (.inr rfl)) hDa
              have q := next γ7 H7 t2 acc vacc R7 hc8 (racc.ke hc8 R4.ok) run
              rw [show upd H7 Da (.lst vacc) = H7 from funext fun a => by
                by_cases z : a = Da
                · rw [z, upd_same, hDa7]
                · rw [upd_ne z]] at q
              exact q
            | true =>
              refine iteT ?_
              cases h5 : me t2 with
              | none => simp only [h5] at run; cases run
              | some q5 =>
                obtain ⟨y5, t3⟩ := q5
                simp only [h5] at run
                split at run
                · rename_i hsz
                  refine he G γ7 σ6 H7 t2 y5 t3 R7 h5 _ fun γ8 v8 H8 R8 k8 r8 => ?_
                  have hc8 : KE G (addT γ3 Da) γ8 H3 H8 := ((k5.trans k6).trans k7).trans k8
                  have hDa8 : H8 Da = some (.lst vacc) := hc8.h _ _ (R4.nwT (.inr rfl)) hDa
                  refine ⟨vacc, hDa8, ?_, ?_⟩
                  · rw [racc.length]; exact hsz
                  · exact next γ8 H8 t3 (acc ++ [y5]) (vacc ++ [v8]) R8 hc8 ((racc.ke hc8 R4.ok).append (.cons r8 .nil)) run
                · cases run
      · have ei : i = ds.length := by omega
        subst ei
        refine .inl ⟨it4.2 _ (Nat.le_refl _), ?_⟩
        rw [List.drop_length] at run
        cases run
        refine z γ3 Da H3 (R4.unwipe rfl) nT3 ?_ (k1.back R1 hD) (.lst hDa racc)
        refine (k1.trans k2).trans ⟨eT, eo, fun a o n h => ?_⟩
        have na : a ≠ Da := ne_of_none h hD
        have q := ke.h a o n (by rw [upd_ne na]; exact h)
        rw [upd_ne na] at q
        exact q
end
end MM

set_option Elab.async false
set_option linter.all false
set_option maxRecDepth 100000
/-! MM, fifth part: comprehensions as expressions, statements, defs. -/
namespace MM
open PySem PySem.Spec PyProof.Rows L2
section
variable {X : Cx} {e a b c tg iter elt : Expr} {t ta tb tc te : TE} {m ma mb mc me : M D} {pos spos : Pos} {K : PySem.W.Frag} {es : List Expr} {tr : TA} {mr : M (List D)} {x y : Str}

structure MTs (X : Cx) (ifs : List Expr) (t : TT) (m : M Bool) : Prop where
  pt : PTs X ifs t
  ok : TTok X.K t m
def mYes : M Bool := fun s => some (true, s)
theorem mts_nil : MTs X [] tYes mYes := ⟨pts_nil, fun g γ σ H s b s' R e Q z => by cases e; exact z γ H R .refl⟩
theorem mts_one {tc : TT} {p : M Bool} (h : MT X c tc p) : MTs X [c] tc p := ⟨pts_one h.pt, h.ok⟩
theorem mf_lc {ifs : List Expr} {scope : Scope} {own : List (Str × Nat)} {wi : TI} {g : TG} {tt : TT} {mi : M (List D)} {mg : D → S → Option S} {mt : M Bool} (hc : X.calm = true) (hN : X.N.Nodup) (hi : MI X tg iter wi mi) (ok : BlkOk X.N X.env.scope scope own)
    (hg : ∀ (s : Shared) (H : Hp) (C : Addr) (cl : List (Str × Addr)) (fp : List Addr), MG (X.blk s H scope (compEnvC scope cl C X.env) fp) tg g (own.map (·.2)) mg)
    (ht : ∀ (s : Shared) (H : Hp) (C : Addr) (cl : List (Str × Addr)) (fp : List Addr), MTs (X.blk s H scope (compEnvC scope cl C X.env) fp) ifs tt mt)
    (he : ∀ (s : Shared) (H : Hp) (C : Addr) (cl : List (Str × Addr)) (fp : List Addr), ME (X.blk s H scope (compEnvC scope cl C X.env) fp) elt te me) (hs : ∀ x, foldedSetIterable iter X.env x = pure x := by intro _; rfl) :
    MF X (.ListComp elt [⟨tg, iter, ifs, 0⟩] scope pos) (tLc wi g tt te (own.map (·.2))) (mLc (own.map (·.2)) mi mg mt me) :=
  ⟨pe_lc hc hN hi.pi ok (fun s H C cl fp => (hg s H C cl fp).pg) (fun s H C cl fp => (ht s H C cl fp).pt) (fun s H C cl fp => (he s H C cl fp).pe) hs,
    tlc_ok hi.ok (hg X.s_0 X.H_0 0 [] []).ok (ht X.s_0 X.H_0 0 [] []).ok (he X.s_0 X.H_0 0 [] []).ok⟩

/-! ### statements -/
theorem Fin.pre {g : G} {γ γ' : Gh} {H H' : Hp} {o : Out} {E : Ends} (h : Fin K g γ H o E) (hT : γ'.T = γ.T) (k : Kp (OO g γ) (OO g γ') H H') : Fin K g γ' H' o E := by
  cases o with
  | nx s => exact fun γ2 σ2 H2 R2 t2 k2 => h γ2 σ2 H2 R2 (t2.trans hT) (k.trans k2)
  | rt d W => exact h
  | bk s => exact fun γ2 σ2 H2 R2 t2 k2 => h γ2 σ2 H2 R2 (t2.trans hT) (k.trans k2)
  | ct s => exact fun γ2 σ2 H2 R2 t2 k2 => h γ2 σ2 H2 R2 (t2.trans hT) (k.trans k2)
def mSkip : MStm := fun s => some (.nx s)
def mSeq (m r : MStm) : MStm := fun s => match m s with
  | none => none
  | some (.nx s1) => r s1
  | some (.rt d W) => some (.rt d W)
  | some (.bk s1) => some (.bk s1)
  | some (.ct s1) => some (.ct s1)
variable {st : Stmt} {sts : List Stmt} {u v : TS} {mu mv : MStm}
theorem tseq_ok (hu : TSok K u mu) (hv : TSok K v mv) : TSok K (tSeq u v) (mSeq mu mv) := fun g γ σ H s o R e E f => by
  unfold mSeq at e
  cases h1 : mu s with
  | none => rw [h1] at e; cases e
  | some o1 =>
    rw [h1] at e
    refine hu g γ σ H s o1 R h1 _ ?_
    cases o1 with
    | nx s1 => exact fun γ' σ' H' R' hT k => hv g γ' σ' H' s1 o R' e E (f.pre hT k)
    | rt d W => cases e; exact f
    | bk s1 => cases e; exact f
    | ct s1 => cases e; exact f
theorem mss_nil : MSs X [] tNext mSkip := ⟨pss_nil, fun g γ σ H s o R e E f => by cases e; exact f γ σ H R rfl .refl⟩
theorem mss_cons (h : MS X st u mu) (h' : MSs X sts v mv) : MSs X (st :: sts) (tSeq u v) (mSeq mu mv) := ⟨pss_cons h.ps h'.ps, tseq_ok h.ok h'.ok⟩
theorem mss_one (h : MS X st u mu) : MSs X [st] u mu := ⟨pss_one h.ps, h.ok⟩
def mNever : MStm := fun _ => none
theorem ms_never : MS X st tNever mNever := ⟨ps_never, fun g γ σ H s o R e E f => by cases e⟩
theorem mss_never : MSs X sts tNever mNever := ⟨pss_never, fun g γ σ H s o R e E f => by cases e⟩
theorem ms_pass : MS X (.Pass pos) tNext mSkip := ⟨ps_pass, fun g γ σ H s o R e E f => by cases e; exact f γ σ H R rfl .refl⟩
def mBrk : MStm := fun s => some (.bk s)
def mCnt : MStm := fun s => some (.ct s)
theorem ms_break : MS X (.Break pos) tBreak mBrk := ⟨ps_break, fun g γ σ H s o R e E f => by cases e; exact f γ σ H R rfl .refl⟩
theorem ms_continue : MS X (.Continue pos) tCont mCnt := ⟨ps_continue, fun g γ σ H s o R e E f => by cases e; exact f γ σ H R rfl .refl⟩
def mRet (m : M D) : MStm := fun s => match m s with
  | none => none
  | some (d, s1) => some (.rt d s1.W)
theorem tret_ok (h : TEok K t m) : TSok K (tRet t) (mRet m) := fun g γ σ H s o R e E f => by
  unfold mRet at e
  cases h1 : m s with
  | none => rw [h1] at e; cases e
  | some p1 =>
    obtain ⟨d, s1⟩ := p1
    simp only [h1] at e
    cases e
    exact h g γ σ H s d s1 R h1 _ fun γ' v H' R' k r => f v H' (fun a o n h => R'.fr a o n h) R'.w (Rep.kp (fun a u n q => ⟨q, fun z => n (.inl z)⟩) d r)
theorem ms_ret (h : ME X e t m) : MS X (.Return (some e) pos) (tRet t) (mRet m) := ⟨ps_ret h.pe, tret_ok h.ok⟩
def mRetN : MStm := fun s => some (.rt .non s.W)
theorem ms_retN : MS X (.Return none pos) tRetN mRetN := ⟨ps_retN, fun g γ σ H s o R e E f => by cases e; exact f _ H (fun a o n h => R.fr a o n h) R.w .non⟩
def mIfS (p : M Bool) (ma mb : MStm) : MStm := fun s => match p s with
  | none => none
  | some (true, s1) => ma s1
  | some (false, s1) => mb s1
theorem KE.kpo {g : G} {γ γ' : Gh} {H H' : Hp} (k : KE g γ γ' H H') (ok : GOk g) : γ'.T = γ.T ∧ Kp (OO g γ) (OO g γ') H H' := ⟨k.T, k.kp ok⟩
theorem ms_if {tp : TT} {p : M Bool} {as bs : List Stmt} (hp : MT X c tp p) (ha : MSs X as u mu) (hb : MSs X bs v mv) : MS X (.If c as bs pos) (tIfS tp u v) (mIfS p mu mv) := ⟨ps_if hp.pt ha.ps hb.ps, fun g γ σ H s o R e E f => by
  unfold mIfS at e
  cases h1 : p s with
  | none => rw [h1] at e; cases e
  | some r =>
    obtain ⟨bb, s1⟩ := r
    rw [h1] at e
    refine hp.ok g γ σ H s bb s1 R h1 _ fun γ1 H1 R1 k1 => ?_
    obtain ⟨hT, kk⟩ := k1.kpo R.ok
    cases bb with
    | true => exact iteT (ha.ok g γ1 σ H1 s1 o R1 e E (f.pre hT kk))
    | false => exact iteF (hb.ok g γ1 σ H1 s1 o R1 e E (f.pre hT kk))⟩
/-- name = e, data that stays -/
def mAsg (m : M D) (g : D → S → Option S) : MStm := fun s => match m s with
  | none => none
  | some (d, s1) => match g d s1 with
    | none => none
    | some s2 => some (.nx s2)
theorem tasg_ok {tg : TG} {vs : List Nat} {g : D → S → Option S} (h : TEok K t m) (hg : TGok K tg vs g) : TSok K (tAsg t tg) (mAsg m g) := fun G γ σ H s o R e E f => by
  unfold mAsg at e
  cases h1 : m s with
  | none => rw [h1] at e; cases e
  | some p1 =>
    obtain ⟨d, s1⟩ := p1
    simp only [h1] at e
    cases h2 : g d s1 with
    | none => simp only [h2] at e; cases e
    | some s2 =>
      simp only [h2] at e
      cases e
      refine h G γ σ H s d s1 R h1 _ fun γ1 v H1 R1 k1 r1 => ?_
      refine hg G γ1 σ H1 s1 v d s2 R1 r1 h2 _ fun γ2 σ2 R2 k2 _ => ?_
      obtain ⟨hT, kk⟩ := (k1.trans k2).kpo R.ok
      exact f γ2 σ2 H1 R2 hT kk
theorem gname_ok {i : Nat} : TGok K (gName i) [i] (gN i) := fun g γ σ H s v d s' R r e Q z => by
  unfold gN at e
  split at e
  · cases e
    obtain ⟨γ', R', k⟩ := R.setImm (by assumption) r
    exact z γ' _ R' k (wipe_set List.mem_cons_self)
  · cases e
theorem ms_set {i : Nat} {pos' : Pos} (hN : X.N.Nodup) (hi : X.N[i]? = some x) (hx : Loc X.env.scope x) (he : ME X e t m) (hs : swapsWith e (some (.Name x pos')) pos.line X.env = pure false := by rfl) (hf : X.fn x = true ∨ X.env.scope.names.lookup x = some .local := by first | exact .inl rfl | exact .inr rfl | assumption) :
    MS X (.Assign [.Name x pos'] e pos) (tAsg t (gName i)) (mAsg m (gN i)) := ⟨ps_set hN hi hx he.pe hs hf, tasg_ok he.ok gname_ok⟩
theorem ms_asg {tgt : TG} {vs : List Nat} {g : D → S → Option S} (he : ME X e t m) (hg : MG X tg tgt vs g) (hs : swapsWithSole [tg] e pos.line X.env = pure false := by rfl) (hw : swappedStores [tg] e X.env = pure none := by rfl)
    (h1 : (assignEach [tg] X.env).map (·.2) = [assign tg X.env] := by rfl) : MS X (.Assign [tg] e pos) (tAsg t tgt) (mAsg m g) := ⟨ps_asg he.pe hg.pg hs hw h1, tasg_ok he.ok hg.ok⟩
/-- name = a new list, the name's own from then on -/
def mOwn (m : M D) (i : Nat) : MStm := fun s => match m s with
  | none => none
  | some (d, s1) => if i < s1.ρ.length then some (.nx { s1 with ρ := s1.ρ.set i (.own d) }) else none
theorem town_ok {i : Nat} (h : TFok K t m) : TSok K (tAsg t (gName i)) (mOwn m i) := fun G γ σ H s o R e E f => by
  unfold mOwn at e
  cases h1 : m s with
  | none => rw [h1] at e; cases e
  | some p1 =>
    obtain ⟨d, s1⟩ := p1
    simp only [h1] at e
    split at e
    · cases e
      refine h G γ σ H s d s1 R h1 _ fun γ1 p H1 R1 nT k1 hp0 c1 => ?_
      obtain ⟨γ2, hT2, R2, k2⟩ := R1.setOwn nT (by assumption) c1
      have hT : γ2.T = γ.T := hT2.trans k1.T
      refine f γ2 _ H1 R2 hT ?_
      intro a o n q
      have q1 := k1.kp R.ok a o n q
      refine ⟨q1.1, fun z => ?_⟩
      have z1 : ¬ OO G (addT γ1 p) a := fun w => by
        rcases w with w | w | w | w
        · exact q1.2 (.inl w)
        · exact q1.2 (.inr (.inl w))
        · exact q1.2 (.inr (.inr w))
        · exact ne_of_none q hp0 w
      exact (k2 a o z1 q1.1).2 z
    · cases e
theorem ms_own {i : Nat} {pos' : Pos} (hN : X.N.Nodup) (hi : X.N[i]? = some x) (hx : Loc X.env.scope x) (he : MF X e t m) (hs : swapsWith e (some (.Name x pos')) pos.line X.env = pure false := by rfl) (hf : X.fn x = true ∨ X.env.scope.names.lookup x = some .local := by first | exact .inl rfl | exact .inr rfl | assumption) :
    MS X (.Assign [.Name x pos'] e pos) (tAsg t (gName i)) (mOwn m i) := ⟨ps_set hN hi hx he.pe hs hf, town_ok he.ok⟩
/-- y = [.. for ..] -/
theorem tF_tE (h : TFok K t m) : TEok K t m := fun g γ σ H s d s' R e Q q => h g γ σ H s d s' R e Q fun γ' p H' R' nT k _ c => by
  have np : ¬ OO g γ' p := by
    obtain ⟨h0, hd, ho⟩ := R'.tf p (.inr rfl)
    rintro (z | ⟨i, z⟩ | z)
    · obtain ⟨o, q⟩ := R'.ok.oc p z
      rw [h0] at q
      cases q
    · exact ho i z
    · exact nT z
  have kk : Kp (OO g (addT γ' p)) (OO g γ') H' H' := fun a u n q => ⟨q, fun z => n (by
    rcases z with z | z | z
    · exact .inl z
    · exact .inr (.inl z)
    · exact .inr (.inr (.inl z)))⟩
  refine q γ' _ H' R'.dropT k ?_
  cases c with
  | lst e1 r => exact .lst np e1 (Reps.kp kk _ r)
theorem ms_setLc {i : Nat} {py : Pos} {ifs : List Expr} {scope : Scope} {own : List (Str × Nat)} {wi : TI} {g : TG} {tt : TT} {mi : M (List D)} {mg : D → S → Option S} {mt : M Bool} (hc : X.calm = true) (hN : X.N.Nodup) (hy : X.N[i]? = some y) (hyl : X.env.scope.names.lookup y = some .local)
    (hsw : swapsWith (.ListComp elt [⟨tg, iter, ifs, 0⟩] scope pos) (some (.Name y py)) spos.line X.env = pure true) (hi : MI X tg iter wi mi) (ok : BlkOk X.N X.env.scope scope own)
    (hg : ∀ (s : Shared) (H : Hp) (C : Addr) (cl : List (Str × Addr)) (fp : List Addr), MG (X.blk s H scope (compEnvC scope cl C X.env) fp) tg g (own.map (·.2)) mg)
    (ht : ∀ (s : Shared) (H : Hp) (C : Addr) (cl : List (Str × Addr)) (fp : List Addr), MTs (X.blk s H scope (compEnvC scope cl C X.env) fp) ifs tt mt)
    (he : ∀ (s : Shared) (H : Hp) (C : Addr) (cl : List (Str × Addr)) (fp : List Addr), ME (X.blk s H scope (compEnvC scope cl C X.env) fp) elt te me) (hs : ∀ x, foldedSetIterable iter X.env x = pure x := by intro _; rfl) :
    MS X (.Assign [.Name y py] (.ListComp elt [⟨tg, iter, ifs, 0⟩] scope pos) spos) (tAsg (tLc wi g tt te (own.map (·.2))) (gName i)) (mAsg (mLc (own.map (·.2)) mi mg mt me) (gN i)) :=
  ⟨ps_setLc hc hN hy hyl hsw hi.pi ok (fun s H C cl fp => (hg s H C cl fp).pg) (fun s H C cl fp => (ht s H C cl fp).pt) (fun s H C cl fp => (he s H C cl fp).pe) hs,
    tasg_ok (tF_tE (tlc_ok hi.ok (hg X.s_0 X.H_0 0 [] []).ok (ht X.s_0 X.H_0 0 [] []).ok (he X.s_0 X.H_0 0 [] []).ok)) gname_ok⟩
theorem ms_ownLc {i : Nat} {py : Pos} {ifs : List Expr} {scope : Scope} {own : List (Str × Nat)} {wi : TI} {g : TG} {tt : TT} {mi : M (List D)} {mg : D → S → Option S} {mt : M Bool} (hc : X.calm = true) (hN : X.N.Nodup) (hy : X.N[i]? = some y) (hyl : X.env.scope.names.lookup y = some .local)
    (hsw : swapsWith (.ListComp elt [⟨tg, iter, ifs, 0⟩] scope pos) (some (.Name y py)) spos.line X.env = pure true) (hi : MI X tg iter wi mi) (ok : BlkOk X.N X.env.scope scope own)
    (hg : ∀ (s : Shared) (H : Hp) (C : Addr) (cl : List (Str × Addr)) (fp : List Addr), MG (X.blk s H scope (compEnvC scope cl C X.env) fp) tg g (own.map (·.2)) mg)
    (ht : ∀ (s : Shared) (H : Hp) (C : Addr) (cl : List (Str × Addr)) (fp : List Addr), MTs (X.blk s H scope (compEnvC scope cl C X.env) fp) ifs tt mt)
    (he : ∀ (s : Shared) (H : Hp) (C : Addr) (cl : List (Str × Addr)) (fp : List Addr), ME (X.blk s H scope (compEnvC scope cl C X.env) fp) elt te me) (hs : ∀ x, foldedSetIterable iter X.env x = pure x := by intro _; rfl) :
    MS X (.Assign [.Name y py] (.ListComp elt [⟨tg, iter, ifs, 0⟩] scope pos) spos) (tAsg (tLc wi g tt te (own.map (·.2))) (gName i)) (mOwn (mLc (own.map (·.2)) mi mg mt me) i) :=
  ⟨ps_setLc hc hN hy hyl hsw hi.pi ok (fun s H C cl fp => (hg s H C cl fp).pg) (fun s H C cl fp => (ht s H C cl fp).pt) (fun s H C cl fp => (he s H C cl fp).pe) hs,
    town_ok (tlc_ok hi.ok (hg X.s_0 X.H_0 0 [] []).ok (ht X.s_0 X.H_0 0 [] []).ok (he X.s_0 X.H_0 0 [] []).ok)⟩
/-- a, b = e1, e2 -/
def mPar (i j : Nat) (mr : M (List D)) : MStm := fun s => match mr s with
  | some ([d, d'], s1) => if i < s1.ρ.length ∧ j < s1.ρ.length then some (.nx { s1 with ρ := (s1.ρ.set i (.imm d)).set j (.imm d') }) else none
  | _ => none
theorem ms_par {i j : Nat} {px py pt : Pos} {kt k2 pt2} (hc : X.calm = true) (hN : X.N.Nodup) (hi : X.N[i]? = some x) (hj : X.N[j]? = some y) (hij : i ≠ j)
    (hx : X.env.scope.names.lookup x = some .local) (hy : X.env.scope.names.lookup y = some .local) (ha : MA X [a, b] tr mr)
    (hw : swappedStores [.Tuple [.Name x px, .Name y py] kt pt] (.Tuple [a, b] k2 pt2) X.env = pure (some [x, y]))
    (hs : swapsWithSole [.Tuple [.Name x px, .Name y py] kt pt] (.Tuple [a, b] k2 pt2) pos.line X.env = pure false := by rfl) :
    MS X (.Assign [.Tuple [.Name x px, .Name y py] kt pt] (.Tuple [a, b] k2 pt2) pos) (tPar i j tr) (mPar i j mr) := ⟨ps_par hc hN hi hj hij hx hy ha.pa hw hs, fun g γ σ H s o R e E f => by
  unfold mPar at e
  split at e
  · split at e
    · rename_i hb
      cases e
      refine ha.ok g γ σ H s _ _ R (by assumption) _ fun γ1 vs H1 R1 k1 r1 => ?_
      cases r1 with
      | cons r1 r2 =>
        cases r2 with
        | cons r2 r3 =>
          cases r3
          refine ⟨_, _, rfl, ?_⟩
          obtain ⟨γ2, R2, k2⟩ := R1.setImm hb.1 r1
          obtain ⟨γ3, R3, k3⟩ := R2.setImm (i := j) (by rw [List.length_set]; exact hb.2) (r2.ke k2 R1.ok)
          obtain ⟨hT, kk⟩ := ((k1.trans k2).trans k3).kpo R.ok
          exact f γ3 _ H1 R3 hT kk
    · cases e
  · cases e⟩
/-- a method that changes a slot's own list: f of the list and the arguments; the value is dropped -/
def isOwnL : Option AV → Bool
  | some (.own (.lst _)) => true
  | _ => false
def mMut (i : Nat) (f : List D → List D → Option (List D)) (mr : M (List D)) : MStm := fun s => if isOwnL s.ρ[i]? then match mr s with
  | none => none
  | some (es, s1) => match s1.ρ[i]? with
    | some (.own (.lst ds)) => match f ds es with
      | none => none
      | some ds' => some (.nx { s1 with ρ := s1.ρ.set i (.own (.lst ds')) })
    | _ => none
  else none
theorem isOwnL_some {o : Option AV} (h : isOwnL o = true) : ∃ ds, o = some (.own (.lst ds)) := by
  unfold isOwnL at h
  split at h
  · exact ⟨_, rfl⟩
  · cases h
/-- what the method's rule has to do -/
def MutOk (K : PySem.W.Frag) (r : V → List V → Hp → VK → Prop) (f : List D → List D → Option (List D)) : Prop :=
  ∀ (O : Addr → Prop) (wa : WA) (H : Hp) (p : Addr) (vs : List V) (ds es ds' : List D) (xs : List V) (Q : VK), O p → H p = some (.lst vs) → Reps K O wa H vs ds → Reps K O wa H xs es → f ds es = some ds' →
    (∀ v vs', Reps K O wa H vs' ds' → Q v (upd H p (.lst vs'))) → r (.ref p) xs H Q
theorem mMut_some {i : Nat} {f : List D → List D → Option (List D)} {s : S} {o : Out} (h : mMut i f mr s = some o) : ∃ ds0 es s1 ds ds', s.ρ[i]? = some (.own (.lst ds0)) ∧ mr s = some (es, s1) ∧ s1.ρ[i]? = some (.own (.lst ds)) ∧ f ds es = some ds' ∧ o = .nx { s1 with ρ := s1.ρ.set i (.own (.lst ds')) } := by
  unfold mMut at h
  split at h
  · rename_i hs
    obtain ⟨ds0, h0⟩ := isOwnL_some hs
    cases h1 : mr s with
    | none => simp only [h1] at h; cases h
    | some p1 =>
      obtain ⟨es, s1⟩ := p1
      simp only [h1] at h
      split at h
      · rename_i ds hs1
        cases h2 : f ds es with
        | none => simp only [h2] at h; cases h
        | some ds' =>
          simp only [h2] at h
          cases h
          exact ⟨ds0, es, s1, ds, ds', h0, rfl, hs1, h2, rfl⟩
      · cases h
  · cases h
theorem tmut_ok {i : Nat} {r : V → List V → Hp → VK → Prop} {f : List D → List D → Option (List D)} (hr : MutOk K r f) (h : TAok K tr mr) : TSok K (tDrop (tBM K "list" r (tVar i) tr)) (mMut i f mr) := fun g γ σ H s o R e E z => by
  obtain ⟨ds0, es, s1, ds, ds', h0, h1, h2, h3, rfl⟩ := mMut_some e
  obtain ⟨p, hp, hv, c0⟩ := R.slot i _ h0
  cases c0 with
  | lst e0 r0 =>
    refine ⟨_, hv, .inl ⟨rfl, _, .inl (.inl e0)⟩, ?_⟩
    refine h g γ σ H s es s1 R h1 _ fun γ1 xs H1 R1 k1 r1 => ?_
    obtain ⟨p1, hp1, hv1, c1⟩ := R1.slot i _ h2
    have ep : p1 = p := Option.some.inj ((k1.own i p1 hp1).symm.trans hp)
    subst ep
    cases c1 with
    | lst e1 rr1 =>
      refine hr (OO g γ1) g.wa H1 _ _ ds es ds' xs _ (.inr (.inl ⟨i, hp1⟩)) e1 rr1 r1 h3 fun v vs' r' => ?_
      have kk : Kp (OO g γ1) (OO g γ1) H1 (upd H1 p1 (.lst vs')) := fun a u n q => ⟨by rw [upd_ne (fun w => n (.inr (.inl ⟨i, by rw [w]; exact hp1⟩)))]; exact q, n⟩
      obtain ⟨R2, k2⟩ := R1.updOwn hp1 (o := .lst vs') (d := .lst ds') (.lst upd_same (Reps.kp kk _ r'))
      exact z γ1 _ _ R2 k1.T ((k1.kp R.ok).trans k2)
def fApp : List D → List D → Option (List D) := fun ds es => match es with
  | [d] => if ds.length < 16777216 then some (ds ++ [d]) else none
  | _ => none
theorem app_ok : MutOk K rAppend fApp := fun O wa H p vs ds es ds' xs Q op e r rx h q => by
  unfold fApp at h
  split at h
  · split at h
    · cases h
      cases rx with
      | cons r1 r2 =>
        cases r2
        exact ⟨p, vs, _, rfl, rfl, e, by rw [r.length]; assumption, q _ _ (r.append (.cons r1 .nil))⟩
    · cases h
  · cases h
theorem ms_mut {i : Nat} {id : String} {name : Str} {apos cpos : Pos} {r : V → List V → Hp → VK → Prop} {f : List D → List D → Option (List D)} (slot : Slot "list" name id) (hty : typeOf (.builtin id) = pure (.type "method_descriptor")) (hm : MtM X id r) (hr : MutOk X.K r f)
    {px : Pos} (hN : X.N[i]? = some x) (hv : Vis X.env.scope x) (ha : MA X (e :: es) tr mr) (hd : (x == ("__debug__" : Str)) = false) (hcd : (x == ("__classdict__" : Str)) = false)
    (hbase : attributeBase (.Name x px) name X.env (eval (.Name x px) X.env) = eval (.Name x px) X.env)
    (hfew : ((backTo cpos (starEach (e :: es) X.env)).all (fun x => !x.1) && (backToKw cpos (keywordEach [] X.env)).all (fun x => x.1.isSome)
      && decide ((e :: es).length + ([] : List Keyword).length + (if ([] : List Keyword).isEmpty then 0 else 1) < 30)) = true)
    (hline : (apos.endLine == cpos.line) = true) (hs : starEach (e :: es) X.env = (false, eval e X.env) :: starEach es X.env) (hplain : (backTo cpos (starEach es X.env)).any (·.1) = false)
    (hsw : swapsWith (.Call (.Attribute (.Name x px) name apos) (e :: es) [] cpos) none pos.line X.env = pure false) :
    MS X (.Expr (.Call (.Attribute (.Name x px) name apos) (e :: es) [] cpos) pos) (tDrop (tBM X.K "list" r (tVar i) tr)) (mMut i f mr) :=
  ⟨ps_expr (pe_bm PySem.F.plainAttrs_list slot hty hm (pe_var hN hv hd hcd) ha.pa hbase hfew hline hs hplain) hsw, tmut_ok hr ha.ok⟩
theorem ms_append {i : Nat} {apos cpos px : Pos} (hN : X.N[i]? = some x) (hv : Vis X.env.scope x) (ha : MA X (e :: es) tr mr) (hd : (x == ("__debug__" : Str)) = false := by decide) (hcd : (x == ("__classdict__" : Str)) = false := by decide)
    (hbase : attributeBase (.Name x px) "append" X.env (eval (.Name x px) X.env) = eval (.Name x px) X.env := by rfl)
    (hfew : ((backTo cpos (starEach (e :: es) X.env)).all (fun x => !x.1) && (backToKw cpos (keywordEach [] X.env)).all (fun x => x.1.isSome)
      && decide ((e :: es).length + ([] : List Keyword).length + (if ([] : List Keyword).isEmpty then 0 else 1) < 30)) = true := by rfl)
    (hline : (apos.endLine == cpos.line) = true := by rfl) (hs : starEach (e :: es) X.env = (false, eval e X.env) :: starEach es X.env := by rfl) (hplain : (backTo cpos (starEach es X.env)).any (·.1) = false := by rfl)
    (hsw : swapsWith (.Call (.Attribute (.Name x px) "append" apos) (e :: es) [] cpos) none pos.line X.env = pure false := by rfl) :
    MS X (.Expr (.Call (.Attribute (.Name x px) "append" apos) (e :: es) [] cpos) pos) (tDrop (tBM X.K "list" rAppend (tVar i) tr)) (mMut i fApp mr) :=
  ms_mut PySem.F.slot_list_append PySem.F.type_list_append mt_append app_ok hN hv ha hd hcd hbase hfew hline hs hplain hsw

/-! ### loops -/
def forRun (mg : D → S → Option S) (mb : MStm) : List D → S → Option Out
  | [], s => some (.nx s)
  | d :: ds, s => match mg d s with
    | none => none
    | some s1 => match mb s1 with
      | none => none
      | some (.nx s2) => forRun mg mb ds s2
      | some (.ct s2) => forRun mg mb ds s2
      | some (.bk s2) => some (.nx s2)
      | some (.rt d W) => some (.rt d W)
def mFor (mi : M (List D)) (mg : D → S → Option S) (mb : MStm) : MStm := fun s => match mi s with
  | none => none
  | some (ds, s1) => forRun mg mb ds s1
theorem tfor_ok {wi : TI} {tgt : TG} {tb : TS} {vs : List Nat} {mi : M (List D)} {mg : D → S → Option S} {mb : MStm} (hi : TIok K wi mi) (hg : TGok K tgt vs mg) (hb : TSok K tb mb) : TSok K (tFor wi tgt tb) (mFor mi mg mb) := fun g γ σ H s o R e E f => by
  unfold mFor at e
  cases h1 : mi s with
  | none => rw [h1] at e; cases e
  | some p1 =>
    obtain ⟨ds, s1⟩ := p1
    simp only [h1] at e
    refine hi g γ σ H s ds s1 R h1 _ fun γ1 J H1 v0 d0 R1 k1 r0 it => ?_
    obtain ⟨hT1, kk1⟩ := k1.kpo R.ok
    refine ⟨fun i m σ H => i + m = ds.length ∧ ∃ γ2 s2, SRel K g γ2 σ H s2 ∧ γ2.T = γ.T ∧ Kp (OO g γ) (OO g γ2) H1 H ∧ Rep K (OO g γ2) g.wa H v0 d0 ∧ Fin K g γ2 H o E ∧ forRun mg mb (ds.drop i) s2 = some o, ⟨ds.length, by omega, γ1, s1, R1, hT1, ?_, r0, f.pre hT1 kk1, e⟩, fun i m σ2 H2 w => ?_⟩
    · exact fun a u n q => ⟨q, fun z => n (k1.oo z)⟩
    · obtain ⟨him, γ2, s2, R2, hT2, kk2, r2, f2, run⟩ := w
      have it2 := it (OO g γ2) H2 (fun a q => R2.dom q) r2
      by_cases hlt : i < ds.length
      · have hd : ds[i]? = some ds[i] := List.getElem?_eq_getElem hlt
        obtain ⟨go, yl⟩ := it2.1 i _ hd
        rw [List.drop_eq_getElem_cons hlt] at run
        unfold forRun at run
        refine .inr ⟨go, fun σ' H' => ∃ m', m' < m ∧ (i + 1) + m' = ds.length ∧ ∃ γ2 s2, SRel K g γ2 σ' H' s2 ∧ γ2.T = γ.T ∧ Kp (OO g γ) (OO g γ2) H1 H' ∧ Rep K (OO g γ2) g.wa H' v0 d0 ∧ Fin K g γ2 H' o E ∧ forRun mg mb (ds.drop (i + 1)) s2 = some o, fun σ' H' h => h, fun x H' y => ?_⟩
        obtain ⟨ext, rx⟩ := yl x H' y
        have R3 := R2.grow ext
        have kp3 : Kp (OO g γ2) (OO g γ2) H2 H' := kp_grow ext
        cases h2 : mg ds[i] s2 with
        | none => simp only [h2] at run; cases run
        | some s3 =>
          simp only [h2] at run
          refine hg g γ2 σ2 H' s2 x _ s3 R3 rx h2 _ fun γ4 σ4 R4 k4 _ => ?_
          obtain ⟨hT4, kk4⟩ := k4.kpo R3.ok
          cases h3 : mb s3 with
          | none => simp only [h3] at run; cases run
          | some o4 =>
            simp only [h3] at run
            refine hb g γ4 σ4 H' s3 o4 R4 h3 _ ?_
            have goOn : ∀ s5, forRun mg mb (ds.drop (i + 1)) s5 = some o → ∀ γ' σ' H'', SRel K g γ' σ' H'' s5 → γ'.T = γ4.T → Kp (OO g γ4) (OO g γ') H' H'' →
                ∃ m', m' < m ∧ (i + 1) + m' = ds.length ∧ ∃ γ2 s2, SRel K g γ2 σ' H'' s2 ∧ γ2.T = γ.T ∧ Kp (OO g γ) (OO g γ2) H1 H'' ∧ Rep K (OO g γ2) g.wa H'' v0 d0 ∧ Fin K g γ2 H'' o E ∧ forRun mg mb (ds.drop (i + 1)) s2 = some o := fun s5 run5 γ' σ' H'' R' hT' kk' =>
              have kt := (kp3.trans kk4).trans kk'
              ⟨m - 1, by omega, by omega, γ', s5, R', hT'.trans (hT4.trans hT2), kk2.trans kt, Rep.kp kt _ r2, f2.pre (hT'.trans hT4) kt, run5⟩
            cases o4 with
            | nx s5 => exact goOn s5 run
            | ct s5 => exact goOn s5 run
            | bk s5 =>
              cases run
              exact fun γ' σ' H'' R' hT' kk' => f2 γ' σ' H'' R' (hT'.trans hT4) ((kp3.trans kk4).trans kk')
            | rt d W =>
              cases run
              exact f2
      · have ei : i = ds.length := by omega
        subst ei
        rw [List.drop_length] at run
        cases run
        exact .inl ⟨it2.2 _ (Nat.le_refl _), f2 γ2 σ2 H2 R2 rfl .refl⟩
theorem ms_for {wi : TI} {tgt : TG} {tb : TS} {vs : List Nat} {mi : M (List D)} {mg : D → S → Option S} {mb : MStm} {body : List Stmt} (hp : PassesOwn (model X.prog X.w) X.A X.env X.xe) (hc : X.calm = true) (hi : MI X tg iter wi mi) (hg : MG X tg tgt vs mg) (hb : MSs X body tb mb)
    (hs : ∀ x, foldedSetIterable iter X.env x = pure x := by intro _; rfl) : MS X (.For tg iter body [] pos) (tFor wi tgt tb) (mFor mi mg mb) := ⟨ps_for hp hc hi.pi hg.pg hb.ps hs, tfor_ok hi.ok hg.ok hb.ok⟩
def whileRun (p : M Bool) (mb : MStm) : Nat → S → Option Out
  | 0, _ => none
  | n + 1, s => match p s with
    | none => none
    | some (false, s1) => some (.nx s1)
    | some (true, s1) => match mb s1 with
      | none => none
      | some (.nx s2) => whileRun p mb n s2
      | some (.ct s2) => whileRun p mb n s2
      | some (.bk s2) => some (.nx s2)
      | some (.rt d W) => some (.rt d W)
theorem twhile_ok {tp : TT} {tb : TS} {p : M Bool} {mb : MStm} (hp : TTok K tp p) (hb : TSok K tb mb) (fuel : Nat) : TSok K (tWhile tp tb) (whileRun p mb fuel) := fun g γ σ H s o R e E f => by
  refine ⟨fun m σ' H' => ∃ γ2 s2, SRel K g γ2 σ' H' s2 ∧ γ2.T = γ.T ∧ Fin K g γ2 H' o E ∧ whileRun p mb m s2 = some o, ⟨fuel, γ, s, R, rfl, f, e⟩, fun m σ2 H2 w => ?_⟩
  obtain ⟨γ2, s2, R2, hT2, f2, run⟩ := w
  cases m with
  | zero => cases run
  | succ m =>
    unfold whileRun at run
    cases h1 : p s2 with
    | none => simp only [h1] at run; cases run
    | some q =>
      obtain ⟨bb, s3⟩ := q
      simp only [h1] at run
      refine hp g γ2 σ2 H2 s2 bb s3 R2 h1 _ fun γ3 H3 R3 k3 => ?_
      obtain ⟨hT3, kk3⟩ := k3.kpo R2.ok
      cases bb with
      | false =>
        cases run
        exact iteF (f2 γ3 _ H3 R3 hT3 kk3)
      | true =>
        simp only at run
        refine iteT ⟨fun σ' H' => ∃ m', m' < m + 1 ∧ ∃ γ2 s2, SRel K g γ2 σ' H' s2 ∧ γ2.T = γ.T ∧ Fin K g γ2 H' o E ∧ whileRun p mb m' s2 = some o, fun σ' H' h => h, ?_⟩
        cases h2 : mb s3 with
        | none => simp only [h2] at run; cases run
        | some o4 =>
          simp only [h2] at run
          refine hb g γ3 σ2 H3 s3 o4 R3 h2 _ ?_
          have goOn : ∀ s5, whileRun p mb m s5 = some o → ∀ γ' σ' H'', SRel K g γ' σ' H'' s5 → γ'.T = γ3.T → Kp (OO g γ3) (OO g γ') H3 H'' → ∃ m', m' < m + 1 ∧ ∃ γ2 s2, SRel K g γ2 σ' H'' s2 ∧ γ2.T = γ.T ∧ Fin K g γ2 H'' o E ∧ whileRun p mb m' s2 = some o := fun s5 run5 γ' σ' H'' R' hT' kk' =>
            ⟨m, by omega, γ', s5, R', hT'.trans (hT3.trans hT2), f2.pre (hT'.trans hT3) (kk3.trans kk'), run5⟩
          cases o4 with
          | nx s5 => exact goOn s5 run
          | ct s5 => exact goOn s5 run
          | bk s5 =>
            cases run
            exact fun γ' σ' H'' R' hT' kk' => f2 γ' σ' H'' R' (hT'.trans hT3) (kk3.trans kk')
          | rt d W =>
            cases run
            exact f2
theorem ms_while {tp : TT} {tb : TS} {p : M Bool} {mb : MStm} {body : List Stmt} (hpo : PassesOwn (model X.prog X.w) X.A X.env X.xe) (hp : MT X c tp p) (hb : MSs X body tb mb) (fuel : Nat) : MS X (.While c body [] pos) (tWhile tp tb) (whileRun p mb fuel) := ⟨ps_while hpo hp.pt hb.ps, twhile_ok hp.ok hb.ok fuel⟩

/-! ### defs -/
def mDef (n N : Nat) (m : MStm) : List D → WS → Option (D × WS) := fun ds W => match m ⟨ds.map .imm ++ List.replicate (N - n) .u, W⟩ with
  | some (.rt d W') => some (d, W')
  | some (.nx s) => some (.non, s.W)
  | _ => none
theorem start_rel {g : G} {vs : List V} {ds : List D} {W : WS} {N : List Str} (ok : GOk g) (w : WRel g.H0 g.wa W) (r : Reps K g.Oc g.wa g.H0 vs ds) : SRel K g ⟨fun _ => none, fun _ => False⟩ (L2.start N vs) g.H0 ⟨ds.map .imm ++ List.replicate (N.length - ds.length) .u, W⟩ := by
  have hl := r.length
  refine ⟨ok, fun a o n h => h, w, fun i j a h _ => (nomatch (show (none : Option Addr) = some a from h)), fun i a h => (nomatch (show (none : Option Addr) = some a from h)), fun a h => False.elim h, ?_, fun i av h => ?_, fun i a h => (nomatch (show (none : Option Addr) = some a from h))⟩
  · unfold L2.start
    simp [hl]
  · have k : Kp g.Oc (OO g ⟨fun _ => none, fun _ => False⟩) g.H0 g.H0 := fun a o n q => ⟨q, fun z => by
      rcases z with z | ⟨i, z⟩ | z
      · exact n z
      · cases z
      · exact z⟩
    by_cases hi : i < ds.length
    · rw [List.getElem?_append_left (by rw [List.length_map]; exact hi), List.getElem?_map, List.getElem?_eq_getElem hi] at h
      cases h
      obtain ⟨v, hv, rv⟩ := r.get (List.getElem?_eq_getElem hi)
      refine ⟨v, ?_, Rep.kp k _ rv⟩
      unfold L2.start
      rw [List.getElem?_append_left (by rw [List.length_map, hl]; exact hi), List.getElem?_map, hv]
      rfl
    · rw [List.getElem?_append_right (by rw [List.length_map]; omega), List.getElem?_replicate] at h
      split at h
      · cases h; exact True.intro
      · cases h
variable {P : Program} {w : World} {mg : Str → Option Value} {base : Heap}
theorem fn_ok {xn qual : Str} {f : Addr} {fd : FuncData} {N ps : List Str} {k : Nat} {m : MStm} (F : Fun K xn qual st f fd) (Sc : FnScope N ps (defScope st))
    (hbody : ∀ (cdv : Value) (A : Around) (outer : List Env) (s : Shared) (H : Hp) (E : XK), Room k (A.deeper (envOfC qual (defScope st) s.heap.objs.size f cdv)) →
      ∃ t, MSs (cxOf CX0 P w K mg base N qual (defScope st) f cdv A outer s H E).nox (defBody st) t m) : FnOk P w K mg base CX0 (k + 1) f fd ps (spM K ps.length (mDef ps.length N.length m)) := by
  refine F.ok Sc (fun vs H Q E h => ?_) (fun cdv A outer s H vs Q E hr h => ?_)
  · obtain ⟨g, ds, W, d, W', _, _, hl, r, _⟩ := h
    rw [r.length, hl]
  · obtain ⟨g, ds, W, d, W', rfl, ok, hl, r, wr, e, q⟩ := h
    obtain ⟨t, ht⟩ := hbody cdv A outer s g.H0 E hr
    refine ⟨t, ht.ps, ?_⟩
    unfold mDef at e
    have R := start_rel (N := N) ok wr r
    rw [hl] at R
    cases h1 : m ⟨ds.map .imm ++ List.replicate (N.length - ps.length) .u, W⟩ with
    | none => rw [h1] at e; cases e
    | some o =>
      rw [h1] at e
      refine ht.ok g _ _ _ _ o R h1 _ ?_
      cases o with
      | nx s1 =>
        cases e
        intro γ' σ' H' R' _ _
        exact q .non H' (fun a o n h => R'.fr a o n h) R'.w .non
      | rt d' W2 =>
        cases e
        exact fun v H' fr wr r => q v H' fr wr r
      | bk s1 => cases e
      | ct s1 => cases e
/-- nothing is promised yet -/
theorem fn_none {f : Addr} {fd : FuncData} {ps : List Str} {k n : Nat} : FnOk P w K mg base CX0 k f fd ps (spM K n fun _ _ => none) := by
  have no : ∀ vs H Q E, ¬ spM K n (fun _ _ => none) vs H Q E := fun vs H Q E h => by
    obtain ⟨g, ds, W, d, W', _, _, _, _, _, e, _⟩ := h
    cases e
  exact ⟨fun vs H Q E h => absurd h (no vs H Q E), fun A outer s H args us vs Q E _ _ _ _ h => absurd h (no vs H Q E)⟩
end
end MM

set_option Elab.async false
set_option linter.all false
set_option maxRecDepth 100000
/-! MM, sixth part: the operations on data. -/
namespace MM
open PySem PySem.Spec PyProof.Rows L2
variable {K : PySem.W.Frag} {X : Cx}
/-! ### data as the library tells it -/
mutual
def toP : D → PyData
  | .non => .none
  | .bl b => .bool b
  | .int i => .int i
  | .str s => .str s
  | .tup ds => .tuple (toPs ds)
  | .lst ds => .list (toPs ds)
  | .fl ds => .list (toPs ds)
  | .wh => .dict []
  | .ty _ => .dict []
def toPs : List D → List PyData
  | [] => []
  | d :: ds => toP d :: toPs ds
end
theorem toPs_map : ∀ ds : List D, toPs ds = ds.map toP
  | [] => rfl
  | d :: ds => by rw [toPs, toPs_map ds, List.map_cons]
mutual
theorem Rep.dp {O : Addr → Prop} {wa : WA} {H : Hp} : ∀ (d : D) {v : V}, Rep K O wa H v d → (toP d).canLay0 = true → Dp K H v (toP d)
  | .non, _, h, _ => by cases h; exact .non
  | .bl b, _, h, _ => by cases h; exact .bl b
  | .int i, _, h, _ => by cases h; exact .int i
  | .str s, _, h, _ => by cases h; exact .str s
  | .wh, _, h, c => by simp [toP, PyData.canLay0] at c
  | .ty n, _, h, c => by simp [toP, PyData.canLay0] at c
  | .tup ds, _, h, c => by
    simp only [toP, PyData.canLay0] at c ⊢
    cases h with
    | tup n e r => exact .tup (.inl (.inl e)) (Reps.dp ds r c)
    | tupK e r => exact .tup (.inr e) (Reps.dp ds r c)
  | .lst ds, _, h, c => by
    simp only [toP, PyData.canLay0] at c ⊢
    cases h with
    | lst n e r => exact .lst (.inl (.inl e)) (Reps.dp ds r c)
  | .fl ds, _, h, c => by
    simp only [toP, PyData.canLay0] at c ⊢
    cases h with
    | fl n e r => exact .lst (.inl e) (Reps.dp ds r c)
    | flK e r => exact .lst (.inr e) (Reps.dp ds r c)
theorem Reps.dp {O : Addr → Prop} {wa : WA} {H : Hp} : ∀ (ds : List D) {vs : List V}, Reps K O wa H vs ds → PyData.canLayAll0 (toPs ds) = true → DpAll K H vs (toPs ds)
  | [], _, h, _ => by cases h; exact .nil
  | d :: ds, _, h, c => by
    simp only [toPs, PyData.canLayAll0, Bool.and_eq_true] at c
    cases h with | cons a b => exact .cons (Rep.dp d a c.1) (Reps.dp ds b c.2)
end
theorem RepS.dp {g : G} {γ : Gh} {H : Hp} {v : V} {d : D} (h : RepS K g γ H v d) (c : (toP d).canLay0 = true) : Dp K H v (toP d) := by
  rcases h with h | ⟨p, rfl, _, h⟩
  · exact Rep.dp d h c
  · cases h with
    | lst e r =>
      simp only [toP, PyData.canLay0] at c ⊢
      exact .lst (.inl (.inl e)) (Reps.dp _ r c)
abbrev shp (d : D) : Bool := SeqAt.shaped (toP d)
theorem shp_lay {d : D} (h : shp d = true) : (toP d).canLay0 = true := SeqAt.canLay_of_shaped h

/-! ### == and != -/
def deqB : D → D → Option Bool
  | .int i, .int j => some (decide (i = j))
  | .str x, .str y => some (decide (x = y))
  | a, b => if shp a && shp b then some (PyData.eqv (toP a) (toP b)) else none
def dEq (a b : D) : Option D := (deqB a b).map .bl
def dNe (a b : D) : Option D := (deqB a b).map fun k => .bl (!k)
def rEqA (K : PySem.W.Frag) : R2 := fun x y H Q => rEq x y H Q ∨ rEqD K x y H Q
def rNeA (K : PySem.W.Frag) : R2 := fun x y H Q => rNe x y H Q ∨ rNeD K x y H Q
theorem deqB_cases {a b : D} {k : Bool} (h : deqB a b = some k) : (∃ i j, a = .int i ∧ b = .int j ∧ k = decide (i = j)) ∨ (∃ i j, a = .str i ∧ b = .str j ∧ k = decide (i = j)) ∨ (shp a = true ∧ shp b = true ∧ k = PyData.eqv (toP a) (toP b)) := by
  unfold deqB at h
  split at h
  · cases h; exact .inl ⟨_, _, rfl, rfl, rfl⟩
  · cases h; exact .inr (.inl ⟨_, _, rfl, rfl, rfl⟩)
  · split at h
    · rename_i hs
      cases h
      rw [Bool.and_eq_true] at hs
      exact .inr (.inr ⟨hs.1, hs.2, rfl⟩)
    · cases h
theorem dec_V_int {i j : Int} : decide (V.int i = V.int j) = decide (i = j) := by
  by_cases h : i = j
  · subst h; simp
  · have : ¬ V.int i = V.int j := fun z => h (V.int.inj z)
    simp [h]
theorem dec_V_str {i j : Str} : decide (V.str i = V.str j) = decide (i = j) := by
  by_cases h : i = j
  · subst h; simp
  · have : ¬ V.str i = V.str j := fun z => h (V.str.inj z)
    simp [h]
theorem eq_ok : R2ok K (rEqA K) dEq := fun g γ σ H s x y d e z R rx ry hz Q q => by
  unfold dEq at hz
  cases h : deqB d e with
  | none => rw [h] at hz; cases hz
  | some k =>
    rw [h] at hz
    cases hz
    rcases deqB_cases h with ⟨i, j, rfl, rfl, rfl⟩ | ⟨i, j, rfl, rfl, rfl⟩ | ⟨s1, s2, rfl⟩
    · rw [rx.int, ry.int]
      refine .inl ⟨rfl, ?_⟩
      rw [dec_V_int]
      exact q _ H (fun _ _ h => h) (.bl _)
    · rw [rx.str, ry.str]
      refine .inl ⟨rfl, ?_⟩
      rw [dec_V_str]
      exact q _ H (fun _ _ h => h) (.bl _)
    · exact .inr ⟨_, _, rx.dp (shp_lay s1), ry.dp (shp_lay s2), s1, s2, q _ H (fun _ _ h => h) (.bl _)⟩
theorem ne_ok : R2ok K (rNeA K) dNe := fun g γ σ H s x y d e z R rx ry hz Q q => by
  unfold dNe at hz
  cases h : deqB d e with
  | none => rw [h] at hz; cases hz
  | some k =>
    rw [h] at hz
    cases hz
    rcases deqB_cases h with ⟨i, j, rfl, rfl, rfl⟩ | ⟨i, j, rfl, rfl, rfl⟩ | ⟨s1, s2, rfl⟩
    · rw [rx.int, ry.int]
      refine .inl ⟨rfl, ?_⟩
      rw [dec_V_int]
      exact q _ H (fun _ _ h => h) (.bl _)
    · rw [rx.str, ry.str]
      refine .inl ⟨rfl, ?_⟩
      rw [dec_V_str]
      exact q _ H (fun _ _ h => h) (.bl _)
    · exact .inr ⟨_, _, rx.dp (shp_lay s1), ry.dp (shp_lay s2), s1, s2, q _ H (fun _ _ h => h) (.bl _)⟩
theorem or_eq (hu : X.A.units + 64 < cLine) : OpR X (compareOp .Eq) (rEqA X.K) := OpR.or op_eq (op_eqD hu)
theorem or_ne (hu : X.A.units + 64 < cLine) : OpR X (compareOp .NotEq) (rNeA X.K) := OpR.or op_ne (op_neD hu)

/-! ### + -/
def dAdd : D → D → Option D
  | .int i, .int j => some (.int (i + j))
  | .str x, .str y => if big (x.length + y.length) then some (.str (x ++ y)) else none
  | .lst xs, .lst ys => if big (xs.length + ys.length) then some (.lst (xs ++ ys)) else none
  | _, _ => none
def rAddA : R2 := fun x y H Q => rI0 (fun i j => .int (i + j)) x y H Q ∨ ((∃ i j, x = .str i ∧ y = .str j ∧ i.length + j.length ≤ sizeLine ∧ Q (.str (i ++ j)) H) ∨ rCat x y H Q)
theorem or_add : OpR X (binaryOp .Add) rAddA := OpR.or op_add (OpR.or op_add_str op_cat)
theorem add_ok : R2ok K rAddA dAdd := fun g γ σ H s x y d e z R rx ry hz Q q => by
  unfold dAdd at hz
  split at hz
  · cases hz
    exact .inl ⟨_, _, rx.int, ry.int, q _ H (fun _ _ h => h) (.int _)⟩
  · split at hz
    · cases hz
      exact .inr (.inl ⟨_, _, rx.str, ry.str, big_of (by assumption), q _ H (fun _ _ h => h) (.str _)⟩)
    · cases hz
  · split at hz
    · cases hz
      obtain ⟨p, vs, rfl, hp, rp⟩ := rx.lst
      obtain ⟨p', vs', rfl, hp', rp'⟩ := ry.lst
      refine .inr (.inr ⟨p, p', vs, vs', rfl, rfl, hp, hp', by rw [rp.length, rp'.length]; exact big_of (by assumption), fun a ha => ?_⟩)
      refine q _ _ (grow_upd ha) (.lst (R.new ha).2 upd_same ?_)
      exact Reps.kp (kp_grow (grow_upd ha)) _ (rp.append rp')
    · cases hz
  · cases hz

/-! ### numbers -/
instance {i j : Int} : Decidable (CMul i j) := inferInstanceAs (Decidable (_ ∨ _))
instance {i j : Int} : Decidable (CDiv i j) := inferInstanceAs (Decidable (_ ∧ _))
instance {i j : Int} : Decidable (CPow i j) := inferInstanceAs (Decidable (_ ∧ _))
def dSub : D → D → Option D := dI fun i j => i - j
def dMul : D → D → Option D := dIC CMul fun i j => i * j
def dMod : D → D → Option D := dIC (fun _ j => 0 < j) fun i j => i % j
def dFdiv : D → D → Option D := dIC CDiv fun i j => i / j
def dPow : D → D → Option D := dIC CPow fun i j => i ^ j.toNat
theorem sub_ok : R2ok K (rI0 fun i j => .int (i - j)) dSub := r2_I0
theorem mul_ok : R2ok K (rI CMul fun i j => .int (i * j)) dMul := r2_I
theorem mod_ok : R2ok K (rI (fun _ j => 0 < j) fun i j => .int (i % j)) dMod := r2_I
theorem fdiv_ok : R2ok K (rI CDiv fun i j => .int (i / j)) dFdiv := r2_I
theorem pow_ok : R2ok K (rI CPow fun i j => .int (i ^ j.toNat)) dPow := r2_I
def dLt : D → D → Option D := dIb fun i j => decide (i < j)
def dLe : D → D → Option D := dIb fun i j => decide (i ≤ j)
def dGt : D → D → Option D := dIb fun i j => decide (j < i)
def dGe : D → D → Option D := dIb fun i j => decide (j ≤ i)
theorem lt_ok : R2ok K (rI0 fun i j => .bl (decide (i < j))) dLt := r2_Ib
theorem le_ok : R2ok K (rI0 fun i j => .bl (decide (i ≤ j))) dLe := r2_Ib
theorem gt_ok : R2ok K (rI0 fun i j => .bl (decide (j < i))) dGt := r2_Ib
theorem ge_ok : R2ok K (rI0 fun i j => .bl (decide (j ≤ i))) dGe := r2_Ib
def dNeg : D → Option D
  | .int i => some (.int (-i))
  | _ => none
theorem neg_ok : U1ok K (rU fun i => .int (-i)) dNeg := fun g γ σ H s x d z R rx hz Q q => by
  unfold dNeg at hz
  split at hz
  · cases hz
    exact ⟨_, rx.int, q _ H (fun _ _ h => h) (.int _)⟩
  · cases hz

/-! ### in -/
def flatD : D → Bool
  | .non => true
  | .bl _ => true
  | .int _ => true
  | .str _ => true
  | _ => false
def toV : D → V
  | .bl b => .bl b
  | .int i => .int i
  | .str s => .str s
  | _ => .non
theorem Rep.flat {O : Addr → Prop} {wa : WA} {H : Hp} {v : V} {d : D} (h : Rep K O wa H v d) (f : flatD d = true) : v = toV d ∧ flatV v = true := by
  cases h <;> first | exact ⟨rfl, rfl⟩ | cases f
theorem Reps.flat {O : Addr → Prop} {wa : WA} {H : Hp} : ∀ {vs : List V} {ds : List D}, Reps K O wa H vs ds → ds.all flatD = true → vs = ds.map toV ∧ vs.all flatV = true
  | [], [], _, _ => ⟨rfl, rfl⟩
  | _ :: _, _ :: _, .cons a b, f => by
    rw [List.all_cons, Bool.and_eq_true] at f
    obtain ⟨e, h⟩ := a.flat f.1
    obtain ⟨e', h'⟩ := Reps.flat b f.2
    exact ⟨by rw [e, e']; rfl, by rw [List.all_cons, h, h']; rfl⟩
  | [], _ :: _, h, _ => by cases h
  | _ :: _, [], h, _ => by cases h
theorem RepS.flat {g : G} {γ : Gh} {H : Hp} {v : V} {d : D} (h : RepS K g γ H v d) (f : flatD d = true) : v = toV d ∧ flatV v = true := by
  rcases h with h | ⟨p, _, _, c⟩
  · exact h.flat f
  · cases c; cases f
/-- one sign in a text; a flat thing in a list or a tuple of such -/
def inB (d : D) : D → Option Bool
  | .str z => match d with
    | .str c => match c.cps.toList with
      | [k] => some (decide (k ∈ z.cps.toList))
      | _ => none
    | _ => none
  | .lst ds => if flatD d && ds.all flatD then some (inV (toV d) (ds.map toV)) else none
  | .tup ds => if flatD d && ds.all flatD then some (inV (toV d) (ds.map toV)) else none
  | .fl ds => if flatD d && ds.all flatD then some (inV (toV d) (ds.map toV)) else none
  | _ => none
def dIn (a b : D) : Option D := (inB a b).map .bl
def dNotIn (a b : D) : Option D := (inB a b).map fun k => .bl (!k)
def rSgn (neg : Bool) : R2 := fun x y H Q => ∃ (c : Nat) (z : Str), x = .str ⟨#[c]⟩ ∧ y = .str z ∧ Q (.bl (if neg then !decide (c ∈ z.cps.toList) else decide (c ∈ z.cps.toList))) H
def rInA (K : PySem.W.Frag) (neg : Bool) : R2 := fun x y H Q => rSgn neg x y H Q ∨ rIn K neg x y H Q
theorem or_in : OpR X (compareOp .In) (rInA X.K false) := OpR.or op_in_sign op_in_seq
theorem or_notIn : OpR X (compareOp .NotIn) (rInA X.K true) := OpR.or op_notIn_sign op_notIn_seq
theorem sgn_of {c : Str} {k : Nat} (h : c.cps.toList = [k]) : c = ⟨#[k]⟩ := Str.ext' (Array.toList_inj.mp h)
theorem in_core {neg : Bool} {g : G} {γ : Gh} {σ : L2.St} {H : Hp} {s : S} {x y : V} {d e : D} {k : Bool} (R : SRel K g γ σ H s) (rx : RepS K g γ H x d) (ry : RepS K g γ H y e) (hz : inB d e = some k) {Q : VK}
    (q : ∀ v H', (∀ a o, H a = some o → H' a = some o) → Rep K (OO g γ) g.wa H' v (.bl (if neg then !k else k)) → Q v H') : rInA K neg x y H Q := by
  unfold inB at hz
  split at hz
  · split at hz
    · split at hz
      · rename_i c k' hc
        cases hz
        rw [rx.str, ry.str, sgn_of hc]
        exact .inl ⟨k', _, rfl, rfl, q _ H (fun _ _ h => h) (.bl _)⟩
      · cases hz
    · cases hz
  · split at hz
    · rename_i hf
      cases hz
      rw [Bool.and_eq_true] at hf
      obtain ⟨p, vs, rfl, hp, rp⟩ := ry.lst
      obtain ⟨e1, f1⟩ := rx.flat hf.1
      obtain ⟨e2, f2⟩ := rp.flat hf.2
      refine .inr ⟨p, vs, rfl, .inl (.inl (.inl hp)), f1, f2, ?_⟩
      rw [e1, e2]
      exact q _ H (fun _ _ h => h) (.bl _)
    · cases hz
  · split at hz
    · rename_i hf
      cases hz
      rw [Bool.and_eq_true] at hf
      obtain ⟨p, vs, rfl, hp, rp⟩ := ry.tup
      obtain ⟨e1, f1⟩ := rx.flat hf.1
      obtain ⟨e2, f2⟩ := rp.flat hf.2
      refine .inr ⟨p, vs, rfl, .inr hp, f1, f2, ?_⟩
      rw [e1, e2]
      exact q _ H (fun _ _ h => h) (.bl _)
    · cases hz
  · split at hz
    · rename_i hf
      cases hz
      rw [Bool.and_eq_true] at hf
      obtain ⟨p, vs, rfl, hp, rp⟩ := ry.fl
      obtain ⟨e1, f1⟩ := rx.flat hf.1
      obtain ⟨e2, f2⟩ := rp.flat hf.2
      refine .inr ⟨p, vs, rfl, .inl hp, f1, f2, ?_⟩
      rw [e1, e2]
      exact q _ H (fun _ _ h => h) (.bl _)
    · cases hz
  · cases hz
theorem in_ok : R2ok K (rInA K false) dIn := fun g γ σ H s x y d e z R rx ry hz Q q => by
  unfold dIn at hz
  cases h : inB d e with
  | none => rw [h] at hz; cases hz
  | some k => rw [h] at hz; cases hz; exact in_core R rx ry h q
theorem notIn_ok : R2ok K (rInA K true) dNotIn := fun g γ σ H s x y d e z R rx ry hz Q q => by
  unfold dNotIn at hz
  cases h : inB d e with
  | none => rw [h] at hz; cases hz
  | some k => rw [h] at hz; cases hz; exact in_core (neg := true) R rx ry h q

/-! ### items, slices -/
def dIx : D → D → Option D
  | .lst ds, .int i => atI ds i
  | .tup ds, .int i => atI ds i
  | .fl ds, .int i => atI ds i
  | .str z, .int i => if big z.length then (atI z.cps.toList i).map fun c => .str ⟨#[c]⟩ else none
  | _, _ => none
theorem atI_rep {O : Addr → Prop} {wa : WA} {H : Hp} {vs : List V} {ds : List D} {i : Int} {d : D} (r : Reps K O wa H vs ds) (h : atI ds i = some d) : ∃ v, atI vs i = some v ∧ Rep K O wa H v d := by
  unfold atI at h ⊢
  rw [r.length]
  cases e : ixN ds.length i with
  | none => rw [e] at h; cases h
  | some j =>
    rw [e] at h
    exact r.get h
theorem ix_ok : R2ok K (rIx K) dIx := fun g γ σ H s x y d e z R rx ry hz Q q => by
  unfold dIx at hz
  split at hz
  · obtain ⟨p, vs, rfl, hp, rp⟩ := rx.lst
    obtain ⟨v, hv, rv⟩ := atI_rep rp hz
    exact .inl ⟨p, vs, _, v, rfl, ry.int, .inl (.inl hp), hv, q v H (fun _ _ h => h) rv⟩
  · obtain ⟨p, vs, rfl, hp, rp⟩ := rx.tup
    obtain ⟨v, hv, rv⟩ := atI_rep rp hz
    exact .inr (.inl ⟨p, vs, _, v, rfl, ry.int, hp, hv, q v H (fun _ _ h => h) rv⟩)
  · obtain ⟨p, vs, rfl, hp, rp⟩ := rx.fl
    obtain ⟨v, hv, rv⟩ := atI_rep rp hz
    exact .inl ⟨p, vs, _, v, rfl, ry.int, hp, hv, q v H (fun _ _ h => h) rv⟩
  · split at hz
    · rename_i zz i hb
      cases hc : atI zz.cps.toList i with
      | none => rw [hc] at hz; cases hz
      | some c =>
        rw [hc] at hz
        cases hz
        exact .inr (.inr ⟨zz, i, c, rx.str, ry.int, big_of hb, hc, q _ H (fun _ _ h => h) (.str _)⟩)
    · cases hz
  · cases hz
/-- the bounds of a slice -/
abbrev MO := S → Option (Option Int × S)
def TOok (K : PySem.W.Frag) (t : TO) (m : MO) : Prop := ∀ (g : G) (γ : Gh) (σ : L2.St) (H : Hp) (s : S) (o : Option Int) (s' : S), SRel K g γ σ H s → m s = some (o, s') →
  ∀ Q : Option Int → Hp → Prop, (∀ γ' H', SRel K g γ' σ H' s' → KE g γ γ' H H' → Q o H') → t σ H Q
structure MOO (X : Cx) (e : Option Expr) (t : TO) (m : MO) : Prop where
  po : PO X e t
  ok : TOok X.K t m
def oNone : MO := fun s => some (none, s)
def oSome (m : M D) : MO := fun s => match m s with
  | some (.int i, s1) => some (some i, s1)
  | _ => none
theorem mo_none : MOO X none tNoPart oNone := ⟨po_none, fun g γ σ H s o s' R e Q q => by cases e; exact q γ H R .refl⟩
theorem mo_some {e : Expr} {t : TE} {m : M D} (h : ME X e t m) : MOO X (some e) (tPart t) (oSome m) := ⟨po_some h.pe, fun g γ σ H s o s' R e Q q => by
  unfold oSome at e
  split at e
  · cases e
    refine h.ok g γ σ H s _ _ R (by assumption) _ fun γ' v H' R' k r => ?_
    cases r
    exact ⟨_, rfl, q γ' H' R' k⟩
  · cases e⟩
def cutD (xs : List D) (lo hi : Option Int) : List D := (xs.drop (HT.sIx xs.length 0 lo)).take (HT.sIx xs.length xs.length hi - HT.sIx xs.length 0 lo)
def dSl : D → Option Int → Option Int → Option D
  | .lst ds, lo, hi => some (.lst (cutD ds lo hi))
  | .str z, lo, hi => if big z.length then some (.str (cutS z lo hi)) else none
  | _, _, _ => none
def mSl (m : M D) (ml mh : MO) : M D := fun s => match m s with
  | none => none
  | some (d, s1) => match ml s1 with
    | none => none
    | some (lo, s2) => match mh s2 with
      | none => none
      | some (hi, s3) => match dSl d lo hi with
        | none => none
        | some z => some (z, s3)
def rSlA (K : PySem.W.Frag) : V → Option Int → Option Int → Hp → VK → Prop := fun x lo hi H Q => rSlL K x lo hi H Q ∨ rSlS x lo hi H Q
theorem cut_rep {O : Addr → Prop} {wa : WA} {H : Hp} {vs : List V} {ds : List D} {lo hi : Option Int} (r : Reps K O wa H vs ds) : Reps K O wa H (cutV vs lo hi) (cutD ds lo hi) := by
  unfold cutV cutD
  rw [r.length]
  exact (r.drop _).take _
theorem me_slice {e : Expr} {lo hi : Option Expr} {p2 pos : Pos} {t : TE} {tl th : TO} {m : M D} {ml mh : MO} (he : MB X e t m) (hl : MOO X lo tl ml) (hh : MOO X hi th mh) : ME X (.Subscript e (.Slice lo hi none p2) pos) (tSl (rSlA X.K) t tl th) (mSl m ml mh) :=
  ⟨pe_slice (SlR.or sl_list sl_str) he.pe hl.po hh.po, fun g γ σ H s d s' R ee Q q => by
    unfold mSl at ee
    cases h1 : m s with
    | none => rw [h1] at ee; cases ee
    | some p1 =>
      obtain ⟨d1, s1⟩ := p1
      simp only [h1] at ee
      cases h2 : ml s1 with
      | none => simp only [h2] at ee; cases ee
      | some p2 =>
        obtain ⟨lo', s2⟩ := p2
        simp only [h2] at ee
        cases h3 : mh s2 with
        | none => simp only [h3] at ee; cases ee
        | some p3 =>
          obtain ⟨hi', s3⟩ := p3
          simp only [h3] at ee
          cases h4 : dSl d1 lo' hi' with
          | none => simp only [h4] at ee; cases ee
          | some z =>
            simp only [h4] at ee
            cases ee
            refine he.ok g γ σ H s d1 s1 R h1 _ fun γ1 v1 H1 R1 k1 r1 => ?_
            refine hl.ok g γ1 σ H1 s1 lo' s2 R1 h2 _ fun γ2 H2 R2 k2 => ?_
            refine hh.ok g γ2 σ H2 s2 hi' _ R2 h3 _ fun γ3 H3 R3 k3 => ?_
            have r3 := r1.ke (k2.trans k3) R.ok
            have kk := k1.trans (k2.trans k3)
            unfold dSl at h4
            split at h4
            · cases h4
              obtain ⟨p, vs, rfl, hp, rp⟩ := r3.lst
              refine .inl ⟨p, vs, rfl, .inl (.inl hp), fun a ha => ?_⟩
              refine q γ3 _ _ (R3.grow (grow_upd ha)) (kk.trans (.grow (grow_upd ha))) (.lst (R3.new ha).2 upd_same ?_)
              exact Reps.kp (kp_grow (grow_upd ha)) _ (cut_rep rp)
            · split at h4
              · cases h4
                exact .inr ⟨_, r3.str, big_of (by assumption), q γ3 _ H3 R3 kk (.str _)⟩
              · cases h4
            · cases h4⟩
end MM

set_option Elab.async false
set_option linter.all false
set_option maxRecDepth 100000
/-! MM, seventh part: built-in functions and methods of texts. -/
namespace MM
open PySem PySem.Spec PyProof.Rows L2
variable {K : PySem.W.Frag} {X : Cx}

/-! ### len -/
def fLen : List D → Option D
  | [.lst ds] => some (.int ds.length)
  | [.tup ds] => some (.int ds.length)
  | [.fl ds] => some (.int ds.length)
  | [.str z] => if big z.length then some (.int z.length) else none
  | _ => none
def rLenA (K : PySem.W.Frag) : List V → Hp → VK → Prop := fun xs H Q => ∃ x n, xs = [x] ∧ LenV K x H n ∧ Q (.int n) H
theorem len_ok : C1ok K (rLenA K) fLen := fun g γ σ H s vs ds z R r h Q q => by
  unfold fLen at h
  split at h
  · cases h
    obtain ⟨v, rfl, rv⟩ := r.one
    obtain ⟨p, xs, rfl, hp, rp⟩ := rv.lst
    exact ⟨_, xs.length, rfl, .inl ⟨xs, .inl (.inl hp), rfl⟩, by rw [rp.length]; exact q _ H (fun _ _ h => h) (.int _)⟩
  · cases h
    obtain ⟨v, rfl, rv⟩ := r.one
    obtain ⟨p, xs, rfl, hp, rp⟩ := rv.tup
    exact ⟨_, xs.length, rfl, .inr ⟨xs, hp, rfl⟩, by rw [rp.length]; exact q _ H (fun _ _ h => h) (.int _)⟩
  · cases h
    obtain ⟨v, rfl, rv⟩ := r.one
    obtain ⟨p, xs, rfl, hp, rp⟩ := rv.fl
    exact ⟨_, xs.length, rfl, .inl ⟨xs, hp, rfl⟩, by rw [rp.length]; exact q _ H (fun _ _ h => h) (.int _)⟩
  · split at h
    · cases h
      obtain ⟨v, rfl, rv⟩ := r.one
      rw [rv.str]
      exact ⟨_, _, rfl, ⟨big_of (by assumption), rfl⟩, q _ H (fun _ _ h => h) (.int _)⟩
    · cases h
  · cases h

/-! ### str, int, abs -/
def fStr : List D → Option D
  | [.int i] => if i.natAbs.log2 < 1920 then some (.str (Str.ofString (toString i))) else none
  | [.str z] => some (.str z)
  | _ => none
def rStrA : List V → Hp → VK → Prop := fun xs H Q => (∃ i, xs = [.int i] ∧ i.natAbs.log2 < 1920 ∧ Q (.str (toString i)) H) ∨ ∃ a, xs = [.str a] ∧ Q (.str a) H
theorem cr_strA : CallR X (.type "str") rStrA := CallR.or call_str_int SkE.call_str_str
theorem str_ok : C1ok K rStrA fStr := fun g γ σ H s vs ds z R r h Q q => by
  unfold fStr at h
  split at h
  · split at h
    · cases h
      obtain ⟨v, rfl, rv⟩ := r.one
      rw [rv.int]
      exact .inl ⟨_, rfl, by assumption, q _ H (fun _ _ h => h) (.str _)⟩
    · cases h
  · cases h
    obtain ⟨v, rfl, rv⟩ := r.one
    rw [rv.str]
    exact .inr ⟨_, rfl, q _ H (fun _ _ h => h) (.str _)⟩
  · cases h
def fInt : List D → Option D
  | [.int i] => some (.int i)
  | [.bl k] => some (.int (if k then 1 else 0))
  | [.str z] => if z.length ≤ 640 then (PySem.intText? z).map .int else none
  | _ => none
def rIntA : List V → Hp → VK → Prop := fun xs H Q => ((∃ i, xs = [.int i] ∧ Q (.int i) H) ∨ ∃ k, xs = [.bl k] ∧ Q (.int (if k then 1 else 0)) H) ∨ ∃ a n, xs = [.str a] ∧ PySem.intText? a = some n ∧ a.length ≤ 640 ∧ Q (.int n) H
theorem cr_intA : CallR X (.type "int") rIntA := CallR.or call_int1 call_int_str
theorem int_ok : C1ok K rIntA fInt := fun g γ σ H s vs ds z R r h Q q => by
  unfold fInt at h
  split at h
  · cases h
    obtain ⟨v, rfl, rv⟩ := r.one
    rw [rv.int]
    exact .inl (.inl ⟨_, rfl, q _ H (fun _ _ h => h) (.int _)⟩)
  · cases h
    obtain ⟨v, rfl, rv⟩ := r.one
    rw [rv.bl]
    exact .inl (.inr ⟨_, rfl, q _ H (fun _ _ h => h) (.int _)⟩)
  · split at h
    · rename_i zz hz
      cases e : PySem.intText? zz with
      | none => rw [e] at h; cases h
      | some n =>
        rw [e] at h
        cases h
        obtain ⟨v, rfl, rv⟩ := r.one
        rw [rv.str]
        exact .inr ⟨_, n, rfl, e, hz, q _ H (fun _ _ h => h) (.int _)⟩
    · cases h
  · cases h
def fAbs : List D → Option D
  | [.int i] => some (.int (if i < 0 then -i else i))
  | _ => none
def rAbsA : List V → Hp → VK → Prop := fun xs H Q => ∃ i, xs = [.int i] ∧ Q (.int (if i < 0 then -i else i)) H
theorem abs_ok : C1ok K rAbsA fAbs := fun g γ σ H s vs ds z R r h Q q => by
  unfold fAbs at h
  split at h
  · cases h
    obtain ⟨v, rfl, rv⟩ := r.one
    rw [rv.int]
    exact ⟨_, rfl, q _ H (fun _ _ h => h) (.int _)⟩
  · cases h

/-! ### tuple, list -/
def fTuple : List D → Option D
  | [.lst ds] => some (.tup ds)
  | [.fl ds] => some (.tup ds)
  | [.tup ds] => some (.tup ds)
  | _ => none
def rTupleA (K : PySem.W.Frag) : List V → Hp → VK → Prop := fun xs H Q => ∃ p ys, xs = [.ref p] ∧ ((SqL K H p ys ∧ ∀ l, H l = none → Q (.ref l) (upd H l (.tup ys))) ∨ (SqT K H p ys ∧ Q (.ref p) H))
theorem tuple_ok : C1ok K (rTupleA K) fTuple := fun g γ σ H s vs ds z R r h Q q => by
  unfold fTuple at h
  split at h
  · cases h
    obtain ⟨v, rfl, rv⟩ := r.one
    obtain ⟨p, xs, rfl, hp, rp⟩ := rv.lst
    exact ⟨p, xs, rfl, .inl ⟨.inl (.inl hp), fun a ha => q _ _ (grow_upd ha) (.tup (R.new ha).2 upd_same (Reps.kp (kp_grow (grow_upd ha)) _ rp))⟩⟩
  · cases h
    obtain ⟨v, rfl, rv⟩ := r.one
    obtain ⟨p, xs, rfl, hp, rp⟩ := rv.fl
    exact ⟨p, xs, rfl, .inl ⟨hp, fun a ha => q _ _ (grow_upd ha) (.tup (R.new ha).2 upd_same (Reps.kp (kp_grow (grow_upd ha)) _ rp))⟩⟩
  · cases h
    obtain ⟨v, rfl, rv⟩ := r.one
    rcases rv with rv' | ⟨p, _, _, c⟩
    case inr => cases c
    obtain ⟨p, xs, rfl, hp, rp⟩ := rv'.tup_inv
    exact ⟨p, xs, rfl, .inr ⟨hp, q _ H (fun _ _ h => h) rv'⟩⟩
  · cases h

/-! ### isinstance -/
def tyName : D → Option String
  | .non => some "NoneType"
  | .bl _ => some "bool"
  | .int _ => some "int"
  | .str _ => some "str"
  | .tup _ => some "tuple"
  | .lst _ => some "list"
  | .fl _ => some "list"
  | _ => none
def fIsi : List D → Option D
  | [d, .ty n] => match tyName d with
    | none => none
    | some a => (kitB a n).map .bl
  | _ => none
theorem me_ty {x : Str} {n : String} {pos : Pos} (hg : Gl X x) (hm : X.mg x = none) (hv : bootBuiltins x = some (.type n)) (hn : x ≠ "__name__" := by decide) (hd : (x == ("__debug__" : Str)) = false := by decide) : ME X (.Name x pos) (tC (.ty n)) (mC (.ty n)) :=
  ⟨pe_bltn hg hm hv rfl hn hd, tc_ok fun _ _ _ => .ty n⟩
theorem RepS.tyx {g : G} {γ : Gh} {H : Hp} {v : V} {d : D} {n : String} (h : RepS K g γ H v d) (e : tyName d = some n) : TyX K H v (.type n) := by
  cases d with
  | non =>
    cases e
    rcases h with h | ⟨p, _, _, c⟩
    · cases h; exact .base .non
    · cases c
  | bl b => cases e; rw [h.bl]; exact .base (.bl _)
  | int i => cases e; rw [h.int]; exact .base (.int _)
  | str z => cases e; rw [h.str]; exact .base (.str _)
  | tup ds =>
    cases e
    rcases h with h | ⟨p, _, _, c⟩
    · cases h with
      | tup n e r => exact .base (.tup e)
      | tupK e r => obtain ⟨o, its, m, hl, hc, _⟩ := e; exact .kTuple hl hc
    · cases c
  | lst ds => cases e; obtain ⟨p, xs, rfl, hp, rp⟩ := h.lst; exact .base (.lst hp)
  | fl ds =>
    cases e
    rcases h with h | ⟨p, _, _, c⟩
    · cases h with
      | fl n e r =>
        rcases e with e | ⟨o, e⟩
        · exact .base (.lst e)
        · exact .base (.frz e)
      | flK e r => obtain ⟨o, its, m, hl, hc, _⟩ := e; exact .kList hl hc
    · cases c
  | _ => cases e
theorem isi_ok : C1ok K (rIsi K) fIsi := fun g γ σ H s vs ds z R r h Q q => by
  unfold fIsi at h
  split at h
  · rename_i d n
    cases e : tyName d with
    | none => simp only [e] at h; cases h
    | some a =>
      simp only [e] at h
      cases e2 : kitB a n with
      | none => rw [e2] at h; cases h
      | some b =>
        rw [e2] at h
        cases h
        obtain ⟨v, v', rfl, rv, rv'⟩ := r.two
        have ev : v' = .ty n := by
          rcases rv' with h | ⟨p, _, _, c⟩
          · cases h; rfl
          · cases c
        subst ev
        exact ⟨v, _, _, _, b, rfl, .ty n, rv.tyx e, kit_ty e2, q _ H (fun _ _ h => h) (.bl _)⟩
  · cases h

/-! ### texts: join, split -/
def strsOf : List D → Option (List Str)
  | [] => some []
  | .str z :: r => (strsOf r).map (z :: ·)
  | _ :: _ => none
theorem strsOf_some : ∀ {ds : List D} {ys : List Str}, strsOf ds = some ys → ds = ys.map .str
  | [], _, h => by cases h; rfl
  | d :: r, ys, h => by
    unfold strsOf at h
    split at h
    · cases h; rename_i h2; cases h2
    · rename_i z r' h2
      injection h2 with h3 h4
      subst h3
      subst h4
      cases e : strsOf r with
      | none => rw [e] at h; cases h
      | some zs =>
        rw [e] at h
        cases h
        rw [strsOf_some e]
        rfl
    · cases h
theorem strsOf_map : ∀ ys : List Str, strsOf (ys.map .str) = some ys
  | [] => rfl
  | y :: ys => by
    show (strsOf (ys.map .str)).map (y :: ·) = _
    rw [strsOf_map ys]
    rfl
def seqOf : D → Option (List D)
  | .lst ds => some ds
  | .tup ds => some ds
  | _ => none
def fJoin : D → D → Option D := fun a b => match a with
  | .str a => match seqOf b with
    | none => none
    | some ds => match strsOf ds with
      | none => none
      | some ys => if (ys.map (·.length)).sum + ys.length * a.length ≤ 16777216 then some (.str (Txt.join a ys)) else none
  | _ => none
def fSplit : D → D → Option D := fun a b => match a with
  | .str a => match b with
    | .str b => if (b.length == 0) = false ∧ a.length + 2 ≤ 16777216 then some (.lst ((Txt.split a b).map .str)) else none
    | _ => none
  | _ => none
def mM1 (f : D → D → Option D) (ma mb : M D) : M D := mOp f ma mb
/-- a method of a text with one argument, by values -/
def T1ok (K : PySem.W.Frag) (r : V → List V → Hp → VK → Prop) (f : D → D → Option D) : Prop := ∀ (g : G) (γ : Gh) (σ : L2.St) (H : Hp) (s : S) (x y : V) (d e z : D), SRel K g γ σ H s → RepS K g γ H x d → RepS K g γ H y e → f d e = some z →
  ∀ Q : VK, (∀ v H', (∀ a o, H a = some o → H' a = some o) → Rep K (OO g γ) g.wa H' v z → Q v H') → r x [y] H Q
theorem tM1_ok {r : V → List V → Hp → VK → Prop} {f : D → D → Option D} {ta tb : TE} {ma mb : M D} (hr : T1ok K r f) (hs : ∀ d e z, f d e = some z → ∃ w, d = .str w) (ha : TBok K ta ma) (hb : TBok K tb mb) : TEok K (tM1 r ta tb) (mOp f ma mb) := fun g γ σ H s d s' R e Q q => by
  unfold mOp at e
  cases h1 : ma s with
  | none => rw [h1] at e; cases e
  | some p1 =>
    obtain ⟨x, s1⟩ := p1
    rw [h1] at e
    cases h2 : mb s1 with
    | none => simp only [h2] at e; cases e
    | some p2 =>
      obtain ⟨y, s2⟩ := p2
      simp only [h2] at e
      cases h3 : f x y with
      | none => rw [h3] at e; cases e
      | some z =>
        rw [h3] at e
        cases e
        obtain ⟨w, hw⟩ := hs _ _ _ h3
        refine ha g γ σ H s x s1 R h1 _ fun γ1 v1 H1 R1 k1 r1 => ⟨⟨w, by subst hw; exact r1.str⟩, ?_⟩
        refine hb g γ1 σ H1 s1 y _ R1 h2 _ fun γ2 v2 H2 R2 k2 r2 => ?_
        refine hr g γ2 σ H2 _ v1 v2 x y _ R2 (r1.ke k2 R.ok) r2 h3 Q fun v H3 e3 r3 => ?_
        exact q γ2 v H3 (R2.grow e3) ((k1.trans k2).trans (.grow e3)) r3
theorem fJoin_some {d e z : D} (h : fJoin d e = some z) : ∃ a ys, d = .str a ∧ (e = .lst (ys.map .str) ∨ e = .tup (ys.map .str)) ∧ (ys.map (·.length)).sum + ys.length * a.length ≤ 16777216 ∧ z = .str (Txt.join a ys) := by
  unfold fJoin at h
  split at h
  · rename_i a
    cases h1 : seqOf e with
    | none => simp only [h1] at h; cases h
    | some ds =>
      simp only [h1] at h
      cases h2 : strsOf ds with
      | none => simp only [h2] at h; cases h
      | some ys =>
        simp only [h2] at h
        split at h
        · cases h
          have := strsOf_some h2
          subst this
          refine ⟨a, ys, rfl, ?_, by assumption, rfl⟩
          unfold seqOf at h1
          split at h1
          · cases h1; exact .inl rfl
          · cases h1; exact .inr rfl
          · cases h1
        · cases h
  · cases h
def rJoinA (K : PySem.W.Frag) : V → List V → Hp → VK → Prop := fun x xs H Q => ∃ a p, ∃ ys : List Str, x = .str a ∧ xs = [.ref p] ∧ (SqL K H p (ys.map V.str) ∨ SqT K H p (ys.map V.str)) ∧
    (ys.map (·.length)).sum + ys.length * a.length ≤ 16777216 ∧ Q (.str (Txt.join a ys)) H
theorem join_ok : T1ok K (rJoinA K) fJoin := fun g γ σ H s x y d e z R rx ry h Q q => by
  obtain ⟨a, ys, rfl, he, hl, rfl⟩ := fJoin_some h
  rcases he with rfl | rfl
  · obtain ⟨p, xs, rfl, hp, rp⟩ := ry.lst
    rw [rp.strs] at hp
    exact ⟨a, p, ys, rx.str, rfl, .inl (.inl (.inl hp)), hl, q _ H (fun _ _ h => h) (.str _)⟩
  · obtain ⟨p, xs, rfl, hp, rp⟩ := ry.tup
    rw [rp.strs] at hp
    exact ⟨a, p, ys, rx.str, rfl, .inr hp, hl, q _ H (fun _ _ h => h) (.str _)⟩
theorem fSplit_some {d e z : D} (h : fSplit d e = some z) : ∃ a b, d = .str a ∧ e = .str b ∧ (b.length == 0) = false ∧ a.length + 2 ≤ 16777216 ∧ z = .lst ((Txt.split a b).map .str) := by
  unfold fSplit at h
  split at h
  · split at h
    · split at h
      · rename_i hc
        cases h
        exact ⟨_, _, rfl, rfl, hc.1, hc.2, rfl⟩
      · cases h
    · cases h
  · cases h
def rSplitA : V → List V → Hp → VK → Prop := fun x xs H Q => ∃ a b, x = .str a ∧ xs = [.str b] ∧ (b.length == 0) = false ∧ a.length + 2 ≤ sizeLine ∧ rNewStrs (Txt.split a b) H Q
theorem split_ok : T1ok K rSplitA fSplit := fun g γ σ H s x y d e z R rx ry h Q q => by
  obtain ⟨a, b, rfl, rfl, h1, h2, rfl⟩ := fSplit_some h
  refine ⟨a, b, rx.str, by rw [ry.str], h1, h2, fun p hp => ?_⟩
  exact q _ _ (grow_upd hp) (.lst (R.new hp).2 upd_same (Reps.of_strs _))
variable {o e : Expr} {to te : TE} {mo me : M D}
theorem me_join {apos pos : Pos} (ho : MB X o to mo) (he : MB X e te me) (hs : starEach [e] X.env = [(false, eval e X.env)] := by rfl) (hbase : attributeBase o "join" X.env (eval o X.env) = eval o X.env := by rfl) (hline : (apos.endLine == pos.line) = true := by rfl) :
    ME X (.Call (.Attribute o "join" apos) [e] [] pos) (tM1 (rJoinA X.K) to te) (mOp fJoin mo me) :=
  ⟨pe_join ho.pe he.pe hs hbase hline, tM1_ok join_ok (fun d e z h => by obtain ⟨a, _, h, _⟩ := fJoin_some h; exact ⟨a, h⟩) ho.ok he.ok⟩
theorem me_split {apos pos : Pos} (ho : MB X o to mo) (he : MB X e te me) (hs : starEach [e] X.env = [(false, eval e X.env)] := by rfl) (hbase : attributeBase o "split" X.env (eval o X.env) = eval o X.env := by rfl) (hline : (apos.endLine == pos.line) = true := by rfl) :
    ME X (.Call (.Attribute o "split" apos) [e] [] pos) (tM1 rSplitA to te) (mOp fSplit mo me) :=
  ⟨pe_split ho.pe he.pe hs hbase hline, tM1_ok split_ok (fun d e z h => by obtain ⟨a, _, h, _⟩ := fSplit_some h; exact ⟨a, h⟩) ho.ok he.ok⟩

/-! ### sorted -/
def isTC : PyData → Bool
  | .tuple (_ :: _) => true
  | _ => false
def isNT : PyData → Bool
  | .none => false
  | .tuple _ => false
  | _ => true
def sortableB (ds : List PyData) : Bool := (ds.all fun a => ds.all fun b => PySem.W.alike a b) && (ds.all isTC || ds.all isNT) && (ds.all SeqAt.shaped) && big ds.length
def leD (a b : D) : Bool := PySem.W.dataLe false toP a b
def dSort (ds : List D) : Option (List D) := if sortableB (ds.map toP) then some (ds.mergeSort leD) else none
def rSortD (K : PySem.W.Frag) : List V → Hp → VK → Prop := fun vs H Q => ∃ (a : Addr) (bs : List (V × D)), vs = [.ref a] ∧ SqL K H a (bs.map (·.1)) ∧ (∀ b, b ∈ bs → Dp K H b.1 (toP b.2)) ∧ sortableB (bs.map fun b => toP b.2) = true ∧
  ∀ p, H p = none → Q (.ref p) (upd H p (.lst ((bs.mergeSort fun x y => leD x.2 y.2).map (·.1))))
theorem vals_each : ∀ {bs : List (V × D)} {us : List Value}, Vals (bs.map (·.1)) us → PySem.W.EachIs (fun u b => RelV b.1 u) us bs
  | [], _, .nil => .nil
  | b :: bs, _, .cons r t => .cons r (vals_each t)
theorem each_vals : ∀ {bs : List (V × D)} {us : List Value}, PySem.W.EachIs (fun u b => RelV b.1 u) us bs → Vals (bs.map (·.1)) us
  | [], _, .nil => .nil
  | b :: bs, _, .cons r t => .cons r (each_vals t)
theorem each_reads {bs : List (V × D)} {us : List Value} {h : Heap} (e : PySem.W.EachIs (fun u b => RelV b.1 u) us bs) (hd : ∀ b, b ∈ bs → ∀ u, RelV b.1 u → ∃ as, Reads h u (toP b.2) as) : PySem.W.EachIs (fun v (b : V × D) => ∃ as, Reads h v (toP b.2) as) us bs := by
  induction e with
  | nil => exact .nil
  | cons r t ih => exact .cons (hd _ List.mem_cons_self _ r) (ih fun b hb => hd b (List.mem_cons_of_mem _ hb))
theorem cr_sortD (hu : X.A.units + 70 < cLine) : CallR X (.builtin "sorted") (rSortD X.K) := by
  intro pins s σ H vs us Q I r h
  obtain ⟨a, bs, rfl, hs, hd, hok, q⟩ := h
  obtain ⟨its, rv, hl, _⟩ := I.list hs
  rw [Vals.ref1 r]
  unfold sortableB at hok
  simp only [Bool.and_eq_true, List.all_eq_true, Bool.or_eq_true] at hok
  obtain ⟨⟨⟨hal, hk⟩, hsh⟩, hbig⟩ := hok
  have hbig := big_of hbig
  rw [List.length_map] at hbig
  have e := vals_each rv
  have er := each_reads (h := s.heap) e fun b hb u ru => Dp.reads I _ _ _ (hd b hb) ru
  refine PySem.W.sorted_data (enc := fun b : V × D => toP b.2) hl.isList e er (fun d h1 d' h2 => hal d h1 d' h2) ?_ hbig (fun b hb => ?_) fun out ho eo => ?_
  · rcases hk with hk | hk
    · refine .inl fun d h1 => ?_
      have := hk d h1
      unfold isTC at this
      split at this
      · exact ⟨_, _, rfl⟩
      · cases this
    · refine .inr fun d h1 => ?_
      have := hk d h1
      unfold isNT at this
      split at this
      · cases this
      · cases this
      · rename_i n1 n2
        exact ⟨fun z => n1 z, fun xs z => n2 xs z⟩
  · have := SeqAt.depth_of_shaped (hsh _ (List.mem_map.mpr ⟨b, hb, rfl⟩))
    omega
  · obtain ⟨ep, he'⟩ := PyProof.Rows.sortedAll_at s.heap its out.toArray
    have ev := each_vals eo
    have hlen : ((bs.mergeSort fun x y => leD x.2 y.2).map (·.1)).length ≤ sizeLine := by rw [List.length_map, List.length_mergeSort]; exact hbig
    refine ⟨.ref _, upd H (s.heap.objs.size + 1) (.lst ((bs.mergeSort fun x y => leD x.2 y.2).map (·.1))), I.laid (t' := s.toks) (fun _ _ => PyProof.Rows.sortedAll_old) (Nat.le_succ _) ⟨hlen, out, ep, ev, he'⟩, rfl, q _ (I.hok.fresh (Nat.le_succ _))⟩
def fSorted : List D → Option D
  | [.lst ds] => (dSort ds).map .lst
  | _ => none
theorem reps_zip {O : Addr → Prop} {wa : WA} {H : Hp} : ∀ {vs : List V} {ds : List D}, Reps K O wa H vs ds → (vs.zip ds).map (·.1) = vs ∧ (vs.zip ds).map (·.2) = ds ∧ ∀ b, b ∈ vs.zip ds → Rep K O wa H b.1 b.2
  | [], [], _ => ⟨rfl, rfl, fun b h => by cases h⟩
  | v :: vs, d :: ds, .cons r t => by
    obtain ⟨e1, e2, e3⟩ := reps_zip t
    refine ⟨by rw [List.zip_cons_cons, List.map_cons, e1], by rw [List.zip_cons_cons, List.map_cons, e2], fun b h => ?_⟩
    rw [List.zip_cons_cons] at h
    rcases List.mem_cons.mp h with rfl | h
    · exact r
    · exact e3 b h
  | [], _ :: _, h => by cases h
  | _ :: _, [], h => by cases h
theorem reps_of {O : Addr → Prop} {wa : WA} {H : Hp} : ∀ {bs : List (V × D)}, (∀ b, b ∈ bs → Rep K O wa H b.1 b.2) → Reps K O wa H (bs.map (·.1)) (bs.map (·.2))
  | [], _ => .nil
  | b :: bs, h => .cons (h b List.mem_cons_self) (reps_of fun c hc => h c (List.mem_cons_of_mem _ hc))
theorem sorted_ok : C1ok K (rSortD K) fSorted := fun g γ σ H s vs ds z R r h Q q => by
  unfold fSorted at h
  split at h
  · rename_i es
    cases e : dSort es with
    | none => rw [e] at h; cases h
    | some out =>
      rw [e] at h
      cases h
      unfold dSort at e
      split at e
      · rename_i hok
        cases e
        obtain ⟨v, rfl, rv⟩ := r.one
        obtain ⟨p, xs, rfl, hp, rp⟩ := rv.lst
        obtain ⟨e1, e2, e3⟩ := reps_zip rp
        refine ⟨p, xs.zip es, rfl, by rw [e1]; exact .inl (.inl hp), fun b hb => ?_, ?_, fun a ha => ?_⟩
        · refine Rep.dp _ (e3 b hb) ?_
          unfold sortableB at hok
          simp only [Bool.and_eq_true, List.all_eq_true] at hok
          refine SeqAt.canLay_of_shaped (hok.1.2 _ (List.mem_map.mpr ⟨b.2, ?_, rfl⟩))
          have : b.2 ∈ (xs.zip es).map (·.2) := List.mem_map.mpr ⟨b, hb, rfl⟩
          rwa [e2] at this
        · rw [show (xs.zip es).map (fun b => toP b.2) = ((xs.zip es).map (·.2)).map toP from by rw [List.map_map]; rfl, e2]
          exact hok
        · refine q _ _ (grow_upd ha) (.lst (R.new ha).2 upd_same ?_)
          have e4 : ((xs.zip es).mergeSort fun x y => leD x.2 y.2).map (·.2) = es.mergeSort leD := by
            rw [List.map_mergeSort (f := fun b : V × D => b.2) (s := leD) (fun a _ b _ => rfl), e2]
          rw [← e4]
          refine reps_of fun b hb => Rep.kp (kp_grow (grow_upd ha)) _ (e3 b ?_)
          exact (List.mem_mergeSort).mp hb
      · cases e
  · cases h
end MM

set_option Elab.async false
set_option linter.all false
set_option maxRecDepth 100000
/-! MM, eighth part: len(set(xs)) over whole numbers and texts. -/
namespace MM
open PySem PySem.Spec PyProof.Rows L2
/-- each once, in the order of their first -/
def metS {α : Type} [DecidableEq α] (a : List α) (k : α) : List α := if k ∈ a then a else a ++ [k]
def met {α : Type} [DecidableEq α] (l : List α) : List α := l.foldl metS []
theorem met_snoc {α : Type} [DecidableEq α] (l : List α) (k : α) : met (l ++ [k]) = metS (met l) k := by
  unfold met
  rw [List.foldl_append]
  rfl
theorem met_le {α : Type} [DecidableEq α] : ∀ (l a : List α), (l.foldl metS a).length ≤ a.length + l.length
  | [], a => Nat.le_refl _
  | k :: l, a => by
    have ih := met_le l (metS a k)
    have h : (metS a k).length ≤ a.length + 1 := by
      unfold metS
      split
      · omega
      · rw [List.length_append, List.length_singleton]; omega
    rw [List.foldl_cons, List.length_cons]
    omega
theorem met_len {α : Type} [DecidableEq α] (l : List α) : (met l).length ≤ l.length := by
  have h := met_le l []
  rw [List.length_nil, Nat.zero_add] at h
  exact h
theorem metS_mem {α : Type} [DecidableEq α] {a : List α} {k j : α} : j ∈ metS a k ↔ j ∈ a ∨ j = k := by
  unfold metS
  split
  · rename_i h
    exact ⟨.inl, fun z => z.elim id fun z => z ▸ h⟩
  · rw [List.mem_append, List.mem_singleton]
section
variable {prog : Program} {w : World} {κ : Type} [DecidableEq κ] {knd : KeyKind prog w κ} {A : Around} {R : Result → Shared → Prop} {I : Addr} {fp wr : List Addr} {GG : Array GenState → Array GenState → Prop} {n : Nat} {P : Nat → Value → Prop} {St : Nat → Shared → Prop}
def metAt (val : Nat → κ) (i : Nat) : List κ := met ((List.range i).map val)
theorem metAt_succ (val : Nat → κ) (i : Nat) : metAt val (i + 1) = metS (metAt val i) (val i) := by
  unfold metAt
  rw [List.range_succ, List.map_append, List.map_singleton, met_snoc]
theorem metAt_len (val : Nat → κ) (i : Nat) : (metAt val i).length ≤ i := by
  have := met_len ((List.range i).map val)
  rwa [List.length_map, List.length_range] at this
theorem setOf_congr {h : Heap} {a : Addr} {S S' : κ → Bool} {n n' : Nat} (hS : h.SetOf knd a S n) (e : ∀ k, S k = S' k) (en : n = n') : h.SetOf knd a S' n' := by
  have e' : S = S' := funext e
  subst e' en
  exact hS
theorem setOf_kept {h h' : Heap} {a : Addr} {S : κ → Bool} {n : Nat} (hS : h.SetOf knd a S n) (k : ∀ o, h.get? a = some o → h'.get? a = some o) : h'.SetOf knd a S n := by
  obtain ⟨o, es, ep, t, ho, r⟩ := hS
  exact ⟨o, es, ep, t, k o ho, r⟩
theorem set_loop (W : WalksS prog w A.in1 I fp wr GG n P St) (a : Addr) (ha : a ∉ fp) (val : Nat → κ) (hval : ∀ i v, P i v → knd.is (val i) v = true ∧ v.scannable = true) (hb : n + 1 < scanBound) :
    ∀ (k i : Nat) (s : Shared), n - i = k → i ≤ n → St i s → s.heap.SetOf knd a (fun j => decide (j ∈ metAt val i)) (metAt val i).length →
      (∀ s', Moved (a :: wr) GG s s' → s'.heap.SetOf knd a (fun j => decide (j ∈ metAt val n)) (metAt val n).length → R (.ok (.ret .none)) s') →
      codeAny (model prog w) A (.builtin "set.update.loop" ⟨[.ref a, .ref I], []⟩) R s := by
  have nw : a ∉ wr := fun h => ha (W.sub _ h)
  have sub : ∀ b ∈ wr, b ∈ a :: wr := fun b hb => List.mem_cons_of_mem _ hb
  intro k
  induction k with
  | zero =>
    intro i s hk hi st hS hR
    obtain rfl : i = n := by omega
    refine codeAny_builtin PyProof.Rows.F.entry_set_update_loop ?_
    rw [Around.under_plainId PyProof.Rows.F.plain_set_update_loop _]
    show wpAny _ A.in1 (pyNext (.ref I) >>= _) _ _ s
    refine wpAny_bind (W.done s _ _ st fun s' hm => ?_)
    show wpAny _ A.in1 (ret Value.none) _ _ s'
    exact wpAny_pure (hR s' (hm.mono sub) (setOf_kept hS fun o e => hm.heap a o nw e))
  | succ k ih =>
    intro i s hk hi st hS hR
    have lt : i < n := by omega
    refine codeAny_builtin PyProof.Rows.F.entry_set_update_loop ?_
    rw [Around.under_plainId PyProof.Rows.F.plain_set_update_loop _]
    show wpAny _ A.in1 (pyNext (.ref I) >>= _) _ _ s
    refine wpAny_bind (W.item i s _ _ lt st fun v s' hP st' hm => ?_)
    obtain ⟨his, hsc⟩ := hval i v hP
    have hS' := setOf_kept hS fun o e => hm.heap a o nw e
    show wpAny _ A.in1 (holding [v] (setAdd a v) >>= _) _ _ s'
    refine wpAny_bind (wpAny_holding ?_)
    unfold setAdd
    refine wpAny_holding (wpAny_bind (knd.pyHash (k := val i) his ?_))
    have hl := metAt_len val i
    refine wpAny_setAddHashed_of (knd := knd) (s := { s' with toks := s'.toks + 1 }) his hsc hS' (by omega) fun h' hsb hS2 => ?_
    have hS3 : h'.SetOf knd a (fun j => decide (j ∈ metAt val (i + 1))) (metAt val (i + 1)).length := by
      refine setOf_congr hS2 (fun j => ?_) ?_
      · rw [metAt_succ]
        have e : (j ∈ metS (metAt val i) (val i)) = (j ∈ metAt val i ∨ j = val i) := propext metS_mem
        simp only [e, Bool.decide_or]
      · rw [metAt_succ]
        unfold metS
        by_cases q : val i ∈ metAt val i
        · simp [q]
        · simp [q]
    refine wpAny_pure ⟨plainId_quiet PyProof.Rows.F.plain_set_update_loop _, ih (i + 1) _ (by omega) lt (W.frame _ s' _ _ st' (Nat.le_succ _) fun b hb o e => ?_) hS3 fun s'' hm'' hS'' => ?_⟩
    · rw [hsb.2 b (fun h : b = a => ha (h ▸ hb))]
      exact e
    · refine hR s'' (Moved.trans W.gtrans ((hm.mono sub).then_heap (Nat.le_succ _) fun b o hb e => ?_) hm'') hS''
      rw [hsb.2 b (fun h : b = a => hb (h ▸ List.mem_cons_self))]
      exact e
end
section
variable {prog : Program} {w : World} {A : Around} {E : Value → Shared → Prop} {s : Shared} {κ : Type} [DecidableEq κ] {knd : KeyKind prog w κ}
set_option maxHeartbeats 3200000 in
/-- set(xs) of a list whose items are keys of one kind -/
theorem call_set_keys {l : Addr} {items : Array Value} (val : Nat → κ) {Q : Value → Shared → Prop} (hh : A.handled = none) (hl : s.heap.IsList l items) (hval : ∀ i v, items[i]? = some v → knd.is (val i) v = true ∧ v.scannable = true) (hb : items.size + 1 < scanBound)
    (h : ∀ (h' : Heap) (tk : Nat), h'.SetOf knd s.heap.objs.size (fun j => decide (j ∈ metAt val items.size)) (metAt val items.size).length → (∀ b o, b < s.heap.objs.size → s.heap.get? b = some o → h'.get? b = some o) → Q (.ref s.heap.objs.size) { s with heap := h', toks := tk }) :
    wpAny (model prog w) A (call (.type "set") [.ref l]) Q E s := by
  obtain ⟨c, tl, hmro⟩ := PySem.F.called_set.mro
  have hmade := PySem.F.called_set.made
  have hsub := PySem.F.called_set.sub
  have h1 := PySem.F.called_set.notType
  have h2 := PySem.F.called_set.canCreate
  have hct := PySem.F.typeCall_set_1 (.ref l)
  refine wpAny_call (codeAny_of_tree ?_)
  show wpAny _ _ (callAny (.type "set") _) _ _ _
  refine wpAny_pure ⟨Code.quiet_builtin _ (by decide +kernel), codeAny_builtin PySem.F.entry_type_call ?_⟩
  rw [Around.under_plain (weight_type_call_type "set" [.ref l] []) rfl]
  repeat (any_goals (first | assumption | wp_step))
  generalize hn : s.heap.objs.size = n at h ⊢
  refine codeAny_mono (code_set_new_1 (.ref l) (E := E) (Q₁ := fun obj t => ∃ led : Bool, obj = .ref s.heap.objs.size ∧ t = { s with heap := s.heap.push { cls := .type "set", dict := none, data := .set #[] 0 (.fresh 0 0 led) } }) fun led => ⟨led, rfl, rfl⟩) fun r t hr => ?_
  cases r with
  | error e => exact hr
  | ok fl =>
    cases fl with
    | ret obj =>
      obtain ⟨led, rfl, rfl⟩ := hr
      rw [hn]
      have hS : (s.heap.push { cls := .type "set", dict := none, data := .set #[] 0 (.fresh 0 0 led) }).get? n = some { cls := .type "set", dict := none, data := .set #[] 0 (.fresh 0 0 led) } := by
        rw [← hn]
        exact Heap.get?_push_size _ rfl
      have hT : Shared.TypeIs { s with heap := s.heap.push { cls := .type "set", dict := none, data := .set #[] 0 (.fresh 0 0 led) } } (.ref n) "set" := ⟨_, hS, rfl⟩
      have hli := PySem.F.called_set.init.lookup
      have hbi := PySem.F.called_set.init.bind (.ref n)
      repeat (any_goals (first | assumption | wp_step))
      refine codeAny_mono (codeAny_call_builtin (R := wants (fun r t => r = .none ∧ ∃ h' tk, t = { s with heap := h', toks := tk } ∧ h'.SetOf knd n (fun j => decide (j ∈ metAt val items.size)) (metAt val items.size).length ∧
          (∀ b o, b < n → s.heap.get? b = some o → h'.get? b = some o)) E) PySem.F.called_set.init.plain PySem.F.entry_set_init (check_set_init_1 hT ?_)) fun r2 t2 hr2 => ?_
      · obtain ⟨ol, hol, hcl, nl, hdl⟩ := hl
        obtain ⟨ocls, odict, odata, oslots⟩ := ol
        simp only at hcl hdl
        subst hcl hdl
        have hlS : l < n := hn ▸ Heap.lt_size hol
        have hol' : (s.heap.push { cls := .type "set", dict := none, data := .set #[] 0 (.fresh 0 0 led) }).get? l = some { cls := .type "list", dict := odict, data := .seq items nl, slots := oslots } := Heap.get?_push_of_some _ hol
        have f1 := PySem.F.sub_list_set
        have f2 := PySem.F.sub_list_frozenset
        have f3 : (Value.type "list" == Value.type "dict") = false := by decide
        have hl1 : (s.heap.push { cls := .type "set", dict := none, data := .set #[] 0 (.fresh 0 0 led) }).IsList l items := ⟨_, hol', rfl, nl, rfl⟩
        have hsz : (s.heap.push { cls := .type "set", dict := none, data := .set #[] 0 (.fresh 0 0 led) }).objs.size = n + 1 := by rw [Heap.size_push, hn]
        unfold Builtin.«set.__init__» noKeywords Builtin.Frozenset.updateFrom
        generalize hPI : pyIter = PI
        wp_walk
        subst hPI
        refine wpAny_pyIter_list hl1 ?_
        refine wpAny_bind (wpAny_runValue ?_)
        have hh3 : A.in1.in1.in1.handled = none := by simp [hh]
        have ne1 : l ≠ (s.heap.push { cls := .type "set", dict := none, data := .set #[] 0 (.fresh 0 0 led) }).objs.size := by rw [hsz]; exact Nat.ne_of_lt (Nat.lt_succ_of_lt hlS)
        have ne2 : n ∉ [(s.heap.push { cls := .type "set", dict := none, data := .set #[] 0 (.fresh 0 0 led) }).objs.size, l] := by
          rw [hsz]
          simp only [List.mem_cons, List.not_mem_nil, or_false, not_or]
          exact ⟨Nat.ne_of_lt (Nat.lt_succ_self _), Nat.ne_of_gt hlS⟩
        refine set_loop (knd := knd) ((Walks.list hh3 _ l ne1 items).toS) n ne2 val (fun i v hv => hval i v hv) hb (items.size - 0) 0 _ (by omega) (Nat.zero_le _) ⟨⟨_, Heap.get?_push_size _ rfl, rfl, rfl⟩, (hl1.push _)⟩ ?a0 ?aR
        case a0 =>
          have hget : ∀ o, ((s.heap.push { cls := .type "set", dict := none, data := .set #[] 0 (.fresh 0 0 led) }).push o).get? n = some { cls := .type "set", dict := none, data := .set #[] 0 (.fresh 0 0 led) } := fun o => Heap.get?_push_of_some _ hS
          refine setOf_congr ((PyProof.Rows.setObjOf_fresh (knd := knd) led).setOf ?_ (by unfold scanBound; omega)) (fun _ => rfl) rfl
          exact hget _
        case aR =>
          intro s' hm hS'
          obtain ⟨h', g', d', tk', os'⟩ := s'
          obtain rfl : g' = s.gens := hm.gens
          obtain rfl : d' = s.drawn := hm.drawn
          obtain rfl : os' = s.os := hm.os
          show wpAny _ _ _ _ _ _
          refine wpAny_pure ?_
          show wpAny _ _ (ret Value.none) _ _ _
          refine wpAny_pure ⟨rfl, h', tk', rfl, hS', fun b o hb e => ?_⟩
          refine hm.heap b o ?_ (Heap.get?_push_of_some _ (Heap.get?_push_of_some _ e))
          rw [hsz]
          simp only [List.mem_cons, List.not_mem_nil, or_false, not_or]
          exact ⟨Nat.ne_of_lt hb, Nat.ne_of_lt (Nat.lt_succ_of_lt hb)⟩
      · cases r2 with
        | error e => exact hr2
        | ok fl2 =>
          cases fl2 with
          | ret r =>
            obtain ⟨rfl, h', tk, rfl, hS', hk'⟩ := hr2
            repeat (any_goals (first | assumption | wp_step))
            exact h _ _ hS' hk'
          | _ => exact hr2.elim
    | _ => exact hr.elim
end

def keyOf : D → Option Key
  | .int i => some (.inl i)
  | .str z => some (.inr z)
  | _ => none
def keysOf : List D → Option (List Key)
  | [] => some []
  | d :: r => match keyOf d with
    | none => none
    | some k => (keysOf r).map (k :: ·)
theorem keyOf_rep {K : PySem.W.Frag} {O : Addr → Prop} {wa : WA} {H : Hp} {v : V} {d : D} {k : Key} (r : Rep K O wa H v d) (h : keyOf d = some k) : v = kV k := by
  cases d with
  | int i => cases h; cases r; rfl
  | str z => cases h; cases r; rfl
  | _ => cases h
theorem keysOf_rep {K : PySem.W.Frag} {O : Addr → Prop} {wa : WA} {H : Hp} : ∀ {vs : List V} {ds : List D} {ks : List Key}, Reps K O wa H vs ds → keysOf ds = some ks → vs = ks.map kV ∧ ks.length = ds.length
  | [], [], ks, _, h => by cases h; exact ⟨rfl, rfl⟩
  | v :: vs, d :: ds, ks, .cons a b, h => by
    unfold keysOf at h
    cases h1 : keyOf d with
    | none => rw [h1] at h; cases h
    | some k =>
      simp only [h1] at h
      cases h2 : keysOf ds with
      | none => rw [h2] at h; cases h
      | some r =>
        rw [h2] at h
        cases h
        obtain ⟨e1, e2⟩ := keysOf_rep b h2
        exact ⟨by rw [List.map_cons, keyOf_rep a h1, e1], by simp [e2]⟩
  | [], _ :: _, _, h, _ => by cases h
  | _ :: _, [], _, h, _ => by cases h
theorem key_is {k : Key} {u : Value} (r : RelV (kV k) u) : keyIs k u = true ∧ u.scannable = true := by
  refine ⟨?_, key_scan r⟩
  cases k with
  | inl i => obtain ⟨t, rfl⟩ := r; exact keyIs_int i t
  | inr x => obtain ⟨t, rfl⟩ := r; exact keyIs_str x t
theorem keys_val : ∀ {ks : List Key} {us : List Value}, Vals (ks.map kV) us → ∀ (i : Nat) (u : Value), us[i]? = some u → ∃ k, ks[i]? = some k ∧ RelV (kV k) u
  | [], _, .nil, i, u, h => by simp at h
  | k :: ks, u :: us, .cons r t, 0, w, h => by
    simp at h
    subst h
    exact ⟨k, rfl, r⟩
  | k :: ks, u :: us, .cons r t, i + 1, w, h => by
    obtain ⟨k', e, r'⟩ := keys_val t i w (by simpa using h)
    exact ⟨k', by simpa using e, r'⟩
theorem metAt_all {ks : List Key} : metAt (fun i => ks.getD i (.inl 0)) ks.length = met ks := by
  unfold metAt
  congr 1
  apply List.ext_getElem?
  intro i
  rw [List.getElem?_map]
  by_cases h : i < ks.length
  · rw [List.getElem?_range h, List.getElem?_eq_getElem h]
    simp [h]
  · rw [List.getElem?_eq_none (by simpa using h), List.getElem?_eq_none (by simpa using h)]
    rfl
/-- len(set(xs)) -/
def tLenSetK (K : PySem.W.Frag) (ta : TE) : TE := fun σ H Q => ta σ H fun x H1 => ∃ l ks, x = .ref l ∧ SqL K H1 l (ks.map kV) ∧ ks.length + 1 < scanBound ∧ Q (.int (met ks).length) H1
section
variable {X : Cx} {a : Expr} {ta : TE} {ma : M D} {p p2 q pos : Pos}
theorem pe_lenSetK (hc : X.calm = true) (hg : Gl X "len") (hm : X.mg "len" = none) (hg2 : Gl X "set") (hm2 : X.mg "set" = none) (ha : PE X a ta) (na : starEach [a] X.env = (false, eval a X.env) :: starEach [] X.env := by rfl) :
    PE X (.Call (.Name "len" p) [.Call (.Name "set" p2) [a] [] q] [] pos) (tLenSetK X.K ta) := by
  refine ⟨fun pins s σ H Q I h => ?_⟩
  refine Call_ (ld_blt I hg hm boot_len (PyProof.Rows.callWith_builtin1 (PyProof.Rows.args_cons ?_ rfl) rfl rfl))
  refine Call_ (ld_blt I hg2 hm2 boot_set (PyProof.Rows.callWith_type1 (PyProof.Rows.args_cons (thn (ha.run pins s σ H _ I h) fun v s1 ⟨x, H1, I1, r1, q1⟩ => PyProof.Rows.args_nil ?_) na) na rfl))
  obtain ⟨l, ks, rfl, hq, hb, q1⟩ := q1
  cases r1
  obtain ⟨its, r, pl, hz⟩ := I1.list hq
  have hl : its.toArray.size = ks.length := by rw [List.size_toArray, ← r.length, List.length_map]
  refine call_set_keys (knd := mixKind X.prog X.w) (fun i => ks.getD i (.inl 0)) (I1.ok.hd hc) pl.isList (fun i v hv => ?_) (by rw [hl]; exact hb) fun h' tk hS hk => PyProof.Rows.args_nil ?_
  · rw [List.getElem?_toArray] at hv
    obtain ⟨k, e, rk⟩ := keys_val r i v hv
    have e2 : ks.getD i (.inl 0) = k := by rw [List.getD_eq_getElem?_getD, e]; rfl
    show keyIs (ks.getD i (.inl 0)) v = true ∧ _
    rw [e2]
    exact key_is rk
  · rw [hl, metAt_all] at hS
    obtain ⟨o, es, ep, t, ho, hex, hd, _, _, _, hf, hn⟩ := hS
    have I2 : Inv X pins σ H1 { s1 with heap := h', toks := tk } := I1.kept fun b o e => hk b o (Heap.lt_size e) e
    have hm3 := met_len ks
    have hsb : scanBound < 2 ^ 63 := by decide
    refine call_len_set ho hex hd hf (by rw [hn]; omega) ⟨.int (met ks).length, H1, I2.tok _, ⟨_, by rw [hn]⟩, q1⟩
def mLenSet (ma : M D) : M D := fun s => match ma s with
  | some (.lst ds, s1) => match keysOf ds with
    | none => none
    | some ks => if ks.length + 1 < 1000 then some (.int (met ks).length, s1) else none
  | _ => none
theorem me_lenSet (hc : X.calm = true) (hg : Gl X "len") (hm : X.mg "len" = none) (hg2 : Gl X "set") (hm2 : X.mg "set" = none) (ha : MB X a ta ma) (na : starEach [a] X.env = (false, eval a X.env) :: starEach [] X.env := by rfl) :
    ME X (.Call (.Name "len" p) [.Call (.Name "set" p2) [a] [] q] [] pos) (tLenSetK X.K ta) (mLenSet ma) := ⟨pe_lenSetK hc hg hm hg2 hm2 ha.pe na, fun g γ σ H s d s' R e Q z => by
  unfold mLenSet at e
  split at e
  · rename_i ds s1 h1
    cases h2 : keysOf ds with
    | none => simp only [h2] at e; cases e
    | some ks =>
      simp only [h2] at e
      split at e
      · rename_i hb
        cases e
        refine ha.ok g γ σ H s _ _ R h1 _ fun γ1 v H1 R1 k1 r1 => ?_
        obtain ⟨p, xs, rfl, hp, rp⟩ := r1.lst
        obtain ⟨e1, e2⟩ := keysOf_rep rp h2
        rw [e1] at hp
        have hsb : 1000 ≤ scanBound := by decide
        exact ⟨p, ks, rfl, .inl (.inl hp), by omega, z γ1 _ H1 R1 k1 (.int _)⟩
      · cases e
  · cases e⟩
end
end MM

set_option Elab.async false
set_option linter.all false
set_option maxRecDepth 100000
/-! MM, ninth part: the drawing dict and the law's own start. -/
namespace MM
open PySem PySem.Spec PyProof.Rows L2
theorem hu7_of {A : Around} {k : Nat} (hr : Room k A) : A.units + 70 < cLine := by have := hr.un; omega
/-- what _law_next answers: the next draw by many, 0 behind the last one -/
def m_law_next : List D → WS → Option (D × WS)
  | [.wh, .int many], some (ds, k) => if 0 ≤ k ∧ 0 < many then (if (ds.length : Int) < k + 1 then some (.int 0, some (ds, k + 1)) else (ds[k.toNat]?).map fun x => (.int (x % many), some (ds, k + 1))) else none
  | _, _ => none
theorem next_some {ds : List D} {W W' : WS} {d : D} (h : m_law_next ds W = some (d, W')) : ∃ many xs k, ds = [.wh, .int many] ∧ W = some (xs, k) ∧ 0 ≤ k ∧ 0 < many ∧ W' = some (xs, k + 1) ∧
    (((xs.length : Int) < k + 1 ∧ d = .int 0) ∨ (¬ (xs.length : Int) < k + 1 ∧ ∃ x, xs[k.toNat]? = some x ∧ d = .int (x % many))) := by
  unfold m_law_next at h
  split at h
  · rename_i many xs k
    split at h
    · rename_i hc
      split at h
      · rename_i hl
        cases h
        exact ⟨many, xs, k, rfl, rfl, hc.1, hc.2, rfl, .inl ⟨hl, rfl⟩⟩
      · rename_i hl
        cases e : xs[k.toNat]? with
        | none => rw [e] at h; cases h
        | some x =>
          rw [e] at h
          cases h
          exact ⟨many, xs, k, rfl, rfl, hc.1, hc.2, rfl, .inr ⟨hl, x, e, rfl⟩⟩
    · cases h
  · cases h
section
variable {K : PySem.W.Frag}
abbrev kD : Key := .inr "draws"
abbrev kA : Key := .inr "at"
theorem key_ne : kD ≠ kA := by decide
theorem str_ne : ¬ Str.ofString "draws" = Str.ofString "at" := by decide
/-- the reading of _law_next's body -/
theorem next_reading {vs : List V} {H : Hp} {Q : VK} {E : XK} (h : spM K 2 m_law_next vs H Q E) :
    tSeq (sDAug (tVar 0) (tC (.str "at")) (tC (.int 1)) rAdd)
      (tSeq (tIfS (tTest (tOp (rI0 fun i j => .bl (decide (j < i))) (tDGet (tVar 0) (tC (.str "at"))) (tCB (fun xs H Q => ∃ x n, xs = [x] ∧ LenV K x H n ∧ Q (.int n) H) (tCons (tDGet (tVar 0) (tC (.str "draws"))) tNil))))
        (tRet (tC (.int 0))) tNext)
      (tRet (tOp (rI (fun _ j => 0 < j) fun i j => .int (i % j)) (tCB (fun xs H Q => (∃ i, xs = [.int i] ∧ Q (.int i) H) ∨ ∃ k, xs = [.bl k] ∧ Q (.int (if k then 1 else 0)) H) (tCons (tOp (rIxL K) (tDGet (tVar 0) (tC (.str "draws"))) (tOp (rI0 fun i j => .int (i - j)) (tDGet (tVar 0) (tC (.str "at"))) (tC (.int 1)))) tNil)) (tVar 1))))
      { nx := fun _ H' => Q .non H', rt := Q } (L2.start ["w", "many"] vs) H := by
  obtain ⟨g, ds, W, d, W', rfl, ok, hl, r, wr, e, q⟩ := h
  obtain ⟨many, xs, k, rfl, rfl, h0, h1, rfl, hcase⟩ := next_some e
  cases r with
  | cons r1 r2 =>
  cases r2 with
  | cons r2 r3 =>
  cases r3
  cases r1 with
  | @wh x y hw =>
  cases r2
  rw [hw] at wr
  obtain ⟨nxy, ex, ey⟩ := wr
  generalize hH : g.H0 = H at *
  have g1 : valV [(kD, V.ref y), (kA, V.int k)] kA = some (.int k) := by rw [valV_neg key_ne, valV_pos rfl]
  have g2 : valV [(kD, V.ref y), (kA, V.int k)] kD = some (.ref y) := valV_pos rfl
  have p1 : putK [(kD, V.ref y), (kA, V.int k)] kA (.int (k + 1)) = [(kD, V.ref y), (kA, V.int (k + 1))] := by
    unfold putK
    rw [if_pos (by simp)]
    simp [str_ne]
  have e1 : (upd H x (.dK [(kD, .ref y), (kA, .int (k + 1))])) x = some (.dK [(kD, .ref y), (kA, .int (k + 1))]) := upd_same
  have ey' : (upd H x (.dK [(kD, .ref y), (kA, .int (k + 1))])) y = some (.lst (xs.map V.int)) := by rw [upd_ne (fun z => nxy z.symm)]; exact ey
  have fin : ∀ v, Rep K g.Oc g.wa (upd H x (.dK [(kD, .ref y), (kA, .int (k + 1))])) v d → Q v (upd H x (.dK [(kD, .ref y), (kA, .int (k + 1))])) := fun v rv =>
    q v _ (fun a o n h => by rw [upd_ne (n x y hw)]; exact h) (by rw [hw]; exact ⟨nxy, e1, ey'⟩) rv
  have g3 : valV [(kD, V.ref y), (kA, V.int (k + 1))] kA = some (.int (k + 1)) := by rw [valV_neg key_ne, valV_pos rfl]
  have g4 : valV [(kD, V.ref y), (kA, V.int (k + 1))] kD = some (.ref y) := valV_pos rfl
  have d1 : DGet H x (.str "at") (some (.int k)) := g1 ▸ DGet.k (k := kA) ex
  have d3 : DGet (upd H x (.dK [(kD, .ref y), (kA, .int (k + 1))])) x (.str "at") (some (.int (k + 1))) := g3 ▸ DGet.k (k := kA) e1
  have d4 : DGet (upd H x (.dK [(kD, .ref y), (kA, .int (k + 1))])) x (.str "draws") (some (.ref y)) := g4 ▸ DGet.k (k := kD) e1
  have dp : DPut H x (.str "at") (.int (k + 1)) (upd H x (.dK [(kD, .ref y), (kA, .int (k + 1))])) := p1 ▸ DPut.k (k := kA) ex (by show 2 < sizeLine; decide)
  have lv : LenV K (.ref y) (upd H x (.dK [(kD, .ref y), (kA, .int (k + 1))])) xs.length := .inl ⟨_, .inl (.inl ey'), by rw [List.length_map]⟩
  refine ⟨_, rfl, x, .int k, rfl, d1, k, 1, rfl, rfl, _, dp, ?_⟩
  refine ⟨_, rfl, x, _, rfl, d3, _, rfl, x, _, rfl, d4, _, _, rfl, lv, _, _, rfl, rfl, _, rfl, ?_⟩
  rcases hcase with ⟨hlt, rfl⟩ | ⟨hlt, z, hz, rfl⟩
  · rw [decide_eq_true hlt]
    exact iteT (fin _ (.int 0))
  · rw [decide_eq_false hlt]
    refine iteF ?_
    refine ⟨_, rfl, x, _, rfl, d4, _, rfl, x, _, rfl, d3, _, _, rfl, rfl, ?_⟩
    refine ⟨y, _, _, .int z, rfl, rfl, .inl (.inl ey'), ?_, ?_⟩
    · have e2 : k + 1 - 1 = ((k.toNat : Nat) : Int) := by omega
      rw [e2]
      exact atI_nat (by rw [List.getElem?_map, hz]; rfl)
    · exact .inl ⟨z, rfl, _, rfl, z, many, rfl, rfl, h1, fin _ (.int _)⟩
/-- the reading of the law's body: the drawing dict is made, then the rest -/
theorem law_reading {u : TS} {m : MStm} {f : List D → WS → Option (D × WS)} {many : Int} {ns draws : List Int} {N : List Str} {a : Addr} {H : Hp} {Q : VK} {W' : WS} (hN : 2 ≤ N.length) (hu : TSok K u m) (hd : f [.fl (ns.map .int), .int many] none = some (.lst (draws.map .int), none))
    (hrun : m ⟨[.u, .imm .wh] ++ List.replicate (N.length - 2) .u, some (draws, 0)⟩ = some (.rt (.bl true) W')) (hS : SqL K H a (ns.map V.int)) (q : ∀ H', Q (.bl true) H') :
    tSeq (tAsg (tDisp [(tC (.str "draws"), tCall (spM K 2 f) [] E0 (tCons (tVar 0) (tCons (tC (.int many)) tNil))), (tC (.str "at"), tC (.int 0))]) (gName 1)) u { nx := fun _ H' => Q .non H', rt := Q } (L2.start N [.ref a]) H := by
  have s0 : (L2.start N [V.ref a])[0]? = some (some (.ref a)) := rfl
  intro p hp
  refine ⟨_, s0, ?_⟩
  have hS1 : SqL K (upd H p (.dK [])) a (ns.map V.int) := by
    rcases hS with (h | ⟨o, h⟩) | h
    · exact .inl (.inl (grow_upd hp _ _ h))
    · exact .inl (.inr ⟨o, grow_upd hp _ _ h⟩)
    · exact .inr h
  have rS : Rep K (fun _ => False) none (upd H p (.dK [])) (.ref a) (.fl (ns.map .int)) := by
    rcases hS1 with h | h
    · exact .fl id h (Reps.of_ints ns)
    · exact .flK h (Reps.of_ints ns)
  refine ⟨⟨none, fun _ => False, upd H p (.dK [])⟩, _, none, _, none, rfl, ⟨fun a h => h.elim, fun x y h => nomatch h⟩, rfl, .cons rS (.cons (.int many) .nil), True.intro, hd, fun v H' fr _ rv => ?_⟩
  have hp' : H' p = some (.dK []) := fr _ _ (fun x y h => nomatch h) upd_same
  cases rv with
  | lst nO e rr =>
  rename_i y vs
  have ev := rr.ints
  subst ev
  refine ⟨hp', [(kD, .ref y), (kA, .int 0)], rfl, (by show 2 ≤ 15; decide), ?_⟩
  have em : mergeK [] [(kD, V.ref y), (kA, V.int 0)] = [(kD, V.ref y), (kA, V.int 0)] := by
    show putK (putK [] kD (V.ref y)) kA (V.int 0) = _
    simp [putK, str_ne]
  rw [em]
  have nyp : p ≠ y := fun z => by
    rw [← z, hp'] at e
    cases e
  have e2 : (upd H' p (.dK [(kD, .ref y), (kA, .int 0)])) y = some (.lst (draws.map V.int)) := by rw [upd_ne (fun z => nyp z.symm)]; exact e
  generalize hH3 : upd H' p (.dK [(kD, .ref y), (kA, .int 0)]) = H3 at e2
  have e1 : H3 p = some (.dK [(kD, .ref y), (kA, .int 0)]) := by rw [← hH3]; exact upd_same
  have R : SRel K ⟨some (p, y), fun b => b = p ∨ b = y, H3⟩ ⟨fun _ => none, fun _ => False⟩ ((L2.start N [V.ref a]).set 1 (some (.ref p))) H3 ⟨[.u, .imm .wh] ++ List.replicate (N.length - 2) .u, some (draws, 0)⟩ := by
    refine ⟨⟨fun b h => ?_, fun x z h => ?_⟩, fun b o n h => h, ⟨nyp, e1, e2⟩, fun i j b h _ => (nomatch (show (none : Option Addr) = some b from h)), fun i b h => (nomatch (show (none : Option Addr) = some b from h)), fun b h => False.elim h, ?_, fun i av h => ?_, fun i b h => (nomatch (show (none : Option Addr) = some b from h))⟩
    · rcases h with rfl | rfl
      · exact ⟨_, e1⟩
      · exact ⟨_, e2⟩
    · cases h
      exact ⟨.inl rfl, .inr rfl⟩
    · rw [List.length_set]
      show (L2.start N [V.ref a]).length = _
      unfold L2.start
      simp
      omega
    · match i, h with
      | 0, h => cases h; exact True.intro
      | 1, h =>
        cases h
        refine ⟨.ref p, ?_, .wh rfl⟩
        rw [List.getElem?_set_self]
        unfold L2.start
        simp
        omega
      | i + 2, h =>
        have h' : (List.replicate (N.length - 2) AV.u)[i]? = some av := h
        rw [List.getElem?_replicate] at h'
        split at h'
        · cases h'; exact True.intro
        · cases h'
  exact hu _ _ _ _ _ _ R hrun _ fun v H' _ _ rv => by cases rv; exact q H'
end
end MM

set_option Elab.async false
set_option linter.all false
set_option maxRecDepth 100000
/-! MM, tenth part: the rules once more, the written part by its own name K (within a comprehension X.K is not it to the letter). -/
namespace MM
open PySem PySem.Spec PyProof.Rows L2
section
variable {X : Cx} {e a b c tg iter elt : Expr} {t ta tb tc te : TE} {m ma mb mc me : M D} {pos spos : Pos} {es : List Expr} {tr : TA} {mr : M (List D)} {x y : Str} {pp : Pos}
theorem kor_eq (K : PySem.W.Frag) (hK : X.K = K) (hu : X.A.units + 64 < cLine) : OpR X (compareOp .Eq) (rEqA K) := hK ▸ or_eq hu
theorem kor_ne (K : PySem.W.Frag) (hK : X.K = K) (hu : X.A.units + 64 < cLine) : OpR X (compareOp .NotEq) (rNeA K) := hK ▸ or_ne hu
theorem kor_in (K : PySem.W.Frag) (hK : X.K = K) : OpR X (compareOp .In) (rInA K false) := hK ▸ or_in
theorem kor_notIn (K : PySem.W.Frag) (hK : X.K = K) : OpR X (compareOp .NotIn) (rInA K true) := hK ▸ or_notIn
theorem kix (K : PySem.W.Frag) (hK : X.K = K) : IxR X (rIx K) := hK ▸ ix_seq
theorem kme_slice (K : PySem.W.Frag) (hK : X.K = K) {lo hi : Option Expr} {p2 : Pos} {tl th : TO} {ml mh : MO} (he : MB X e t m) (hl : MOO X lo tl ml) (hh : MOO X hi th mh) : ME X (.Subscript e (.Slice lo hi none p2) pos) (tSl (rSlA K) t tl th) (mSl m ml mh) := hK ▸ me_slice he hl hh
theorem kme_call (K : PySem.W.Frag) (hK : X.K = K) {n k : Nat} {f : Addr} {fd : FuncData} {ps : List Str} {mf : List D → WS → Option (D × WS)} (F : FnOk X.prog X.w X.K X.mg X.base CX0 k f fd ps (spM K n mf)) (hr : Room k X.A) (hg : Gl X x) (hm : X.mg x = some (.ref f)) (hk : PySem.W.keepIn X.K (.ref f) = true) (hb : Binds X.K fd ps [])
    (ha : MA X (e :: es) tr mr) (hdb : (x == ("__debug__" : Str)) = false := by decide) (he : starEach (e :: es) X.env = (false, eval e X.env) :: starEach es X.env := by rfl) (hpl : (backTo pos (starEach es X.env)).any (·.1) = false := by rfl) :
    ME X (.Call (.Name x pp) (e :: es) [] pos) (tCall (spM K n mf) [] E0 tr) (mCall n mf mr) := by
  subst hK
  exact me_call F hr hg hm hk hb ha hdb he hpl
theorem kmi_seq (K : PySem.W.Frag) (hK : X.K = K) (h : ME X iter te m) : MI X tg iter (fun σ H R => iList K te σ H R ∨ (iTup K te σ H R ∨ iStr te σ H R)) (mIter m) := hK ▸ mi_seq h
theorem kmg_tup (K : PySem.W.Frag) (hK : X.K = K) {vs : List Nat} {k : Nat} {tgs : TGs} {r : List D → S → Option S} {n : Nat} (hc : X.calm = true) (h : MGs X es tgs vs r) (hn : (assignEach es X.env).length = n := by rfl) (hst : (assignEach es X.env).findIdx? (·.1) = none := by rfl) :
    MG X (.Tuple es k pos) (gTup K n tgs) vs (gT n r) := hK ▸ mg_tup hc h hn hst
theorem kcr_len (K : PySem.W.Frag) (hK : X.K = K) : CallR X (.builtin "len") (rLenA K) := hK ▸ call_len
theorem kcr_isi (K : PySem.W.Frag) (hK : X.K = K) : CallR X (.builtin "isinstance") (rIsi K) := hK ▸ call_isi
theorem kcr_tuple (K : PySem.W.Frag) (hK : X.K = K) : CallR X (.type "tuple") (rTupleA K) := hK ▸ call_tuple_of
theorem kcr_sort (K : PySem.W.Frag) (hK : X.K = K) (hu : X.A.units + 70 < cLine) : CallR X (.builtin "sorted") (rSortD K) := hK ▸ cr_sortD hu
theorem kme_join (K : PySem.W.Frag) (hK : X.K = K) {o : Expr} {to : TE} {mo : M D} {apos : Pos} (ho : MB X o to mo) (he : MB X e te me) (hs : starEach [e] X.env = [(false, eval e X.env)] := by rfl) (hbase : attributeBase o "join" X.env (eval o X.env) = eval o X.env := by rfl) (hline : (apos.endLine == pos.line) = true := by rfl) :
    ME X (.Call (.Attribute o "join" apos) [e] [] pos) (tM1 (rJoinA K) to te) (mOp fJoin mo me) := hK ▸ me_join ho he hs hbase hline
theorem kme_lenSet (K : PySem.W.Frag) (hK : X.K = K) {p p2 q : Pos} (hc : X.calm = true) (hg : Gl X "len") (hm : X.mg "len" = none) (hg2 : Gl X "set") (hm2 : X.mg "set" = none) (ha : MB X a ta ma) (na : starEach [a] X.env = (false, eval a X.env) :: starEach [] X.env := by rfl) :
    ME X (.Call (.Name "len" p) [.Call (.Name "set" p2) [a] [] q] [] pos) (tLenSetK K ta) (mLenSet ma) := hK ▸ me_lenSet hc hg hm hg2 hm2 ha na
end
end MM
namespace MM
open PySem PySem.Spec PyProof.Rows L2
theorem kfn_ok {P : Program} {w : World} {K : PySem.W.Frag} {mg : Str → Option Value} {base : Heap} {st : Stmt} {xn qual : Str} {f : Addr} {fd : FuncData} {N ps : List Str} {k np nn : Nat} {m : MStm} (hp : ps.length = np) (hn : N.length = nn) (F : Fun K xn qual st f fd) (Sc : FnScope N ps (defScope st))
    (hbody : ∀ (cdv : Value) (A : Around) (outer : List Env) (s : Shared) (H : Hp) (E : XK), Room k (A.deeper (envOfC qual (defScope st) s.heap.objs.size f cdv)) →
      ∃ t, MSs (cxOf CX0 P w K mg base N qual (defScope st) f cdv A outer s H E).nox (defBody st) t m) : FnOk P w K mg base CX0 (k + 1) f fd ps (spM K np (mDef np nn m)) := by
  subst hp hn
  exact fn_ok F Sc hbody
end MM

set_option Elab.async false
set_option linter.all false
set_option maxRecDepth 100000
/-! MM, eleventh part: what a mirror answers, step by step (plain; no heap). -/
namespace MM
open PySem PySem.Spec PyProof.Rows L2
def Ret {α : Type} (m : M α) (s : S) (P : α → S → Prop) : Prop := ∃ a s', m s = some (a, s') ∧ P a s'
def RetS (m : MStm) (s : S) (P : Out → Prop) : Prop := ∃ o, m s = some o ∧ P o
section
variable {s : S} {P : D → S → Prop} {Pb : Bool → S → Prop} {Pl : List D → S → Prop} {Po : Option Int → S → Prop} {d : D} {i : Nat} {m ma mb : M D} {mr : M (List D)} {p q : M Bool}
theorem Ret.mono {α : Type} {m : M α} {P P' : α → S → Prop} (h : Ret m s P) (f : ∀ a s', P a s' → P' a s') : Ret m s P' := by
  obtain ⟨a, s', e, r⟩ := h
  exact ⟨a, s', e, f a s' r⟩
theorem r_c (h : P d s) : Ret (mC d) s P := ⟨d, s, rfl, h⟩
theorem r_vB (e : s.ρ[i]? = some (.imm d)) (h : P d s) : Ret (mVarB i) s P := ⟨d, s, by unfold mVarB; rw [e], h⟩
theorem r_vBo (e : s.ρ[i]? = some (.own d)) (h : P d s) : Ret (mVarB i) s P := ⟨d, s, by unfold mVarB; rw [e], h⟩
theorem r_v (e : s.ρ[i]? = some (.imm d)) (h : P d s) : Ret (mVar i) s P := ⟨d, s, by unfold mVar; rw [e], h⟩
theorem r_vo (e : s.ρ[i]? = some (.own d)) (h : P d ⟨s.ρ.set i (.imm d), s.W⟩) : Ret (mVar i) s P := ⟨d, _, by unfold mVar; rw [e], h⟩
theorem r_op {f : D → D → Option D} (h : Ret ma s fun a s1 => Ret mb s1 fun b s2 => ∃ z, f a b = some z ∧ P z s2) : Ret (mOp f ma mb) s P := by
  obtain ⟨a, s1, e1, b, s2, e2, z, e3, r⟩ := h
  exact ⟨z, s2, by unfold mOp; rw [e1]; simp only [e2, e3], r⟩
theorem r_un {f : D → Option D} (h : Ret ma s fun a s1 => ∃ z, f a = some z ∧ P z s1) : Ret (mUn f ma) s P := by
  obtain ⟨a, s1, e1, z, e3, r⟩ := h
  exact ⟨z, s1, by unfold mUn; rw [e1]; simp only [e3], r⟩
theorem r_nil (h : Pl [] s) : Ret mNil s Pl := ⟨[], s, rfl, h⟩
theorem r_cons (h : Ret m s fun d s1 => Ret mr s1 fun r s2 => Pl (d :: r) s2) : Ret (mCons m mr) s Pl := by
  obtain ⟨a, s1, e1, b, s2, e2, r⟩ := h
  exact ⟨a :: b, s2, by unfold mCons; rw [e1]; simp only [e2], r⟩
theorem r_tup (h : Ret mr s fun r s1 => r.length ≤ 16777216 ∧ P (.tup r) s1) : Ret (mTup mr) s P := by
  obtain ⟨a, s1, e1, hl, r⟩ := h
  exact ⟨_, s1, by unfold mTup; rw [e1]; exact if_pos (decide_eq_true hl), r⟩
theorem r_lst (h : Ret mr s fun r s1 => r.length ≤ 16777216 ∧ P (.lst r) s1) : Ret (mLst mr) s P := by
  obtain ⟨a, s1, e1, hl, r⟩ := h
  exact ⟨_, s1, by unfold mLst; rw [e1]; exact if_pos (decide_eq_true hl), r⟩
theorem r_cb {f : List D → Option D} (h : Ret mr s fun r s1 => ∃ z, f r = some z ∧ P z s1) : Ret (mCB f mr) s P := by
  obtain ⟨a, s1, e1, z, e3, r⟩ := h
  exact ⟨z, s1, by unfold mCB; rw [e1]; simp only [e3], r⟩
theorem r_call {n : Nat} {f : List D → WS → Option (D × WS)} (h : Ret mr s fun r s1 => r.length = n ∧ ∃ z W, f r s1.W = some (z, W) ∧ P z ⟨s1.ρ, W⟩) : Ret (mCall n f mr) s P := by
  obtain ⟨a, s1, e1, hl, z, W, e3, r⟩ := h
  exact ⟨z, _, by unfold mCall; rw [e1]; simp only [if_pos hl, e3], r⟩
theorem r_test (h : Ret m s fun d s1 => ∃ b, d = .bl b ∧ Pb b s1) : Ret (mTest m) s Pb := by
  obtain ⟨a, s1, e1, b, rfl, r⟩ := h
  exact ⟨b, s1, by unfold mTest; rw [e1], r⟩
theorem r_and (h : Ret p s fun b s1 => if b = true then Ret q s1 Pb else Pb false s1) : Ret (mAnd p q) s Pb := by
  obtain ⟨b, s1, e1, r⟩ := h
  cases b with
  | true =>
    obtain ⟨c, s2, e2, r⟩ := (if_pos rfl).mp r
    exact ⟨c, s2, by unfold mAnd; rw [e1]; exact e2, r⟩
  | false => exact ⟨false, s1, by unfold mAnd; rw [e1], (if_neg Bool.false_ne_true).mp r⟩
theorem r_or (h : Ret p s fun b s1 => if b = true then Pb true s1 else Ret q s1 Pb) : Ret (mOr p q) s Pb := by
  obtain ⟨b, s1, e1, r⟩ := h
  cases b with
  | false =>
    obtain ⟨c, s2, e2, r⟩ := (if_neg Bool.false_ne_true).mp r
    exact ⟨c, s2, by unfold mOr; rw [e1]; exact e2, r⟩
  | true => exact ⟨true, s1, by unfold mOr; rw [e1], (if_pos rfl).mp r⟩
theorem r_not (h : Ret p s fun b s1 => Pb (!b) s1) : Ret (mNot p) s Pb := by
  obtain ⟨b, s1, e1, r⟩ := h
  exact ⟨_, s1, by unfold mNot; rw [e1], r⟩
theorem r_andV (h : Ret ma s fun a s1 => ∃ b, a = .bl b ∧ if b = true then Ret mb s1 P else P (.bl false) s1) : Ret (mAndV ma mb) s P := by
  obtain ⟨a, s1, e1, b, rfl, r⟩ := h
  cases b with
  | true =>
    obtain ⟨c, s2, e2, r⟩ := (if_pos rfl).mp r
    exact ⟨c, s2, by unfold mAndV; rw [e1]; exact e2, r⟩
  | false => exact ⟨_, s1, by unfold mAndV; rw [e1], (if_neg Bool.false_ne_true).mp r⟩
theorem r_orV (h : Ret ma s fun a s1 => ∃ b, a = .bl b ∧ if b = true then P (.bl true) s1 else Ret mb s1 P) : Ret (mOrV ma mb) s P := by
  obtain ⟨a, s1, e1, b, rfl, r⟩ := h
  cases b with
  | false =>
    obtain ⟨c, s2, e2, r⟩ := (if_neg Bool.false_ne_true).mp r
    exact ⟨c, s2, by unfold mOrV; rw [e1]; exact e2, r⟩
  | true => exact ⟨_, s1, by unfold mOrV; rw [e1], (if_pos rfl).mp r⟩
theorem r_notV (h : Ret ma s fun a s1 => ∃ b, a = .bl b ∧ P (.bl (!b)) s1) : Ret (mNotV ma) s P := by
  obtain ⟨a, s1, e1, b, rfl, r⟩ := h
  exact ⟨_, s1, by unfold mNotV; rw [e1], r⟩
theorem r_if (h : Ret p s fun b s1 => if b = true then Ret ma s1 P else Ret mb s1 P) : Ret (mIf p ma mb) s P := by
  obtain ⟨b, s1, e1, r⟩ := h
  cases b with
  | true =>
    obtain ⟨c, s2, e2, r⟩ := (if_pos rfl).mp r
    exact ⟨c, s2, by unfold mIf; rw [e1]; exact e2, r⟩
  | false =>
    obtain ⟨c, s2, e2, r⟩ := (if_neg Bool.false_ne_true).mp r
    exact ⟨c, s2, by unfold mIf; rw [e1]; exact e2, r⟩
theorem o_none (h : Po none s) : Ret (oNone : M (Option Int)) s Po := ⟨none, s, rfl, h⟩
theorem o_some (h : Ret m s fun d s1 => ∃ i, d = .int i ∧ Po (some i) s1) : Ret (oSome m : M (Option Int)) s Po := by
  obtain ⟨a, s1, e1, b, rfl, r⟩ := h
  exact ⟨_, s1, by unfold oSome; rw [e1], r⟩
theorem r_sl {ml mh : MO} (h : Ret m s fun d s1 => Ret (ml : M (Option Int)) s1 fun lo s2 => Ret (mh : M (Option Int)) s2 fun hi s3 => ∃ z, dSl d lo hi = some z ∧ P z s3) : Ret (mSl m ml mh) s P := by
  obtain ⟨a, s1, e1, lo, s2, e2, hi, s3, e3, z, e4, r⟩ := h
  exact ⟨z, s3, by unfold mSl; rw [e1]; simp only [e2, e3, e4], r⟩
theorem r_iter (h : Ret m s fun d s1 => ∃ ds, items d = some ds ∧ Pl ds s1) : Ret (mIter m) s Pl := by
  obtain ⟨a, s1, e1, b, e2, r⟩ := h
  exact ⟨_, s1, by unfold mIter; rw [e1]; simp only [e2], r⟩
theorem r_rng1 (h : Ret mr s fun r s1 => ∃ j : Int, r = [.int j] ∧ (-(2 ^ 62) ≤ j ∧ j < 2 ^ 62) ∧ Pl (ranged 0 j.toNat) s1) : Ret (mRng1 mr) s Pl := by
  obtain ⟨a, s1, e1, j, rfl, e2, r⟩ := h
  exact ⟨_, s1, by unfold mRng1; rw [e1]; exact if_pos e2, r⟩
theorem r_rng2 (h : Ret mr s fun r s1 => ∃ i j : Int, r = [.int i, .int j] ∧ (-(2 ^ 62) ≤ i ∧ i < 2 ^ 62 ∧ -(2 ^ 62) ≤ j ∧ j < 2 ^ 62) ∧ Pl (ranged i (j - i).toNat) s1) : Ret (mRng2 mr) s Pl := by
  obtain ⟨a, s1, e1, i, j, rfl, e2, r⟩ := h
  exact ⟨_, s1, by unfold mRng2; rw [e1]; exact if_pos e2, r⟩
/-! statements -/
variable {A B : MStm} {PO : Out → Prop} {gg : D → S → Option S} {mi : M (List D)}
theorem RetS.mono {PO' : Out → Prop} (h : RetS A s PO) (f : ∀ o, PO o → PO' o) : RetS A s PO' := by
  obtain ⟨o, e, r⟩ := h
  exact ⟨o, e, f o r⟩
theorem s_skip (h : PO (.nx s)) : RetS mSkip s PO := ⟨_, rfl, h⟩
theorem s_seq (h : RetS A s fun o => match o with | .nx s1 => RetS B s1 PO | .rt d W => PO (.rt d W) | .bk s1 => PO (.bk s1) | .ct s1 => PO (.ct s1)) : RetS (mSeq A B) s PO := by
  obtain ⟨o, e, r⟩ := h
  cases o with
  | nx s1 =>
    obtain ⟨o2, e2, r2⟩ := r
    exact ⟨o2, by unfold mSeq; rw [e]; exact e2, r2⟩
  | _ => exact ⟨_, by unfold mSeq; rw [e], r⟩
theorem s_asg (h : Ret m s fun d s1 => ∃ s2, gg d s1 = some s2 ∧ PO (.nx s2)) : RetS (mAsg m gg) s PO := by
  obtain ⟨a, s1, e1, s2, e2, r⟩ := h
  exact ⟨_, by unfold mAsg; rw [e1]; simp only [e2], r⟩
theorem s_own (h : Ret m s fun d s1 => i < s1.ρ.length ∧ PO (.nx ⟨s1.ρ.set i (.own d), s1.W⟩)) : RetS (mOwn m i) s PO := by
  obtain ⟨a, s1, e1, e2, r⟩ := h
  exact ⟨_, by unfold mOwn; rw [e1]; exact if_pos e2, r⟩
theorem s_ret (h : Ret m s fun d s1 => PO (.rt d s1.W)) : RetS (mRet m) s PO := by
  obtain ⟨a, s1, e1, r⟩ := h
  exact ⟨_, by unfold mRet; rw [e1], r⟩
theorem s_if (h : Ret p s fun b s1 => if b = true then RetS A s1 PO else RetS B s1 PO) : RetS (mIfS p A B) s PO := by
  obtain ⟨b, s1, e1, r⟩ := h
  cases b with
  | true =>
    obtain ⟨c, e2, r⟩ := (if_pos rfl).mp r
    exact ⟨c, by unfold mIfS; rw [e1]; exact e2, r⟩
  | false =>
    obtain ⟨c, e2, r⟩ := (if_neg Bool.false_ne_true).mp r
    exact ⟨c, by unfold mIfS; rw [e1]; exact e2, r⟩
theorem s_par {j : Nat} (h : Ret mr s fun r s1 => ∃ d d', r = [d, d'] ∧ (i < s1.ρ.length ∧ j < s1.ρ.length) ∧ PO (.nx ⟨(s1.ρ.set i (.imm d)).set j (.imm d'), s1.W⟩)) : RetS (mPar i j mr) s PO := by
  obtain ⟨a, s1, e1, d, d', rfl, e2, r⟩ := h
  exact ⟨_, by unfold mPar; rw [e1]; exact if_pos e2, r⟩
theorem s_mut {f : List D → List D → Option (List D)} {ds0 : List D} (e0 : s.ρ[i]? = some (.own (.lst ds0))) (h : Ret mr s fun es s1 => ∃ ds ds', s1.ρ[i]? = some (.own (.lst ds)) ∧ f ds es = some ds' ∧ PO (.nx ⟨s1.ρ.set i (.own (.lst ds')), s1.W⟩)) : RetS (mMut i f mr) s PO := by
  obtain ⟨es, s1, e1, ds, ds', e2, e3, r⟩ := h
  refine ⟨_, ?_, r⟩
  unfold mMut
  rw [if_pos (show isOwnL s.ρ[i]? = true from by rw [e0]; rfl), e1]
  simp only [e2, e3]
/-- a loop whose turns all go on; I by what is left -/
theorem s_for (I : List D → S → Prop) (h : Ret mi s fun ds s1 => I ds s1) (turn : ∀ d ds s1, I (d :: ds) s1 → ∃ s2, gg d s1 = some s2 ∧ RetS A s2 fun o => match o with | .nx s3 => I ds s3 | .ct s3 => I ds s3 | .bk s3 => PO (.nx s3) | .rt d W => PO (.rt d W))
    (fin : ∀ s1, I [] s1 → PO (.nx s1)) : RetS (mFor mi gg A) s PO := by
  obtain ⟨ds, s1, e1, hi⟩ := h
  have key : ∀ (ds : List D) (s1 : S), I ds s1 → ∃ o, forRun gg A ds s1 = some o ∧ PO o := by
    intro ds
    induction ds with
    | nil => exact fun s1 h => ⟨_, rfl, fin s1 h⟩
    | cons d ds ih =>
      intro s1 h
      obtain ⟨s2, e2, o, e3, r⟩ := turn d ds s1 h
      unfold forRun
      simp only [e2, e3]
      cases o with
      | nx s3 => exact ih s3 r
      | ct s3 => exact ih s3 r
      | bk s3 => exact ⟨_, rfl, r⟩
      | rt d W => exact ⟨_, rfl, r⟩
  obtain ⟨o, e, r⟩ := key ds s1 hi
  exact ⟨o, by unfold mFor; rw [e1]; exact e, r⟩
/-- a comprehension; I by what is left and what is made -/
theorem r_lc {vs : List Nat} {mt : M Bool} {me : M D} (I : List D → S → List D → Prop) (h : Ret mi s fun ds s1 => I ds (wipeS vs s1) [])
    (turn : ∀ d ds s1 acc, I (d :: ds) s1 acc → ∃ s2, gg d s1 = some s2 ∧ Ret mt s2 fun b s3 => if b = true then Ret me s3 fun y s4 => acc.length < 16777216 ∧ I ds (wipeS vs s4) (acc ++ [y]) else I ds (wipeS vs s3) acc)
    (fin : ∀ s1 acc, I [] s1 acc → P (.lst acc) s1) : Ret (mLc vs mi gg mt me) s P := by
  obtain ⟨ds, s1, e1, hi⟩ := h
  have key : ∀ (ds : List D) (s1 : S) (acc : List D), I ds s1 acc → ∃ out s2, lcRun vs gg mt me ds s1 acc = some (out, s2) ∧ I [] s2 out := by
    intro ds
    induction ds with
    | nil => exact fun s1 acc h => ⟨acc, s1, rfl, h⟩
    | cons d ds ih =>
      intro s1 acc h
      obtain ⟨s2, e2, b, s3, e3, r⟩ := turn d ds s1 acc h
      unfold lcRun
      simp only [e2, e3]
      cases b with
      | false => exact ih _ _ ((if_neg Bool.false_ne_true).mp r)
      | true =>
        obtain ⟨y, s4, e4, hl, r⟩ := (if_pos rfl).mp r
        simp only [e4, if_pos hl]
        exact ih _ _ r
  obtain ⟨out, s2, e, r⟩ := key ds _ [] hi
  exact ⟨_, s2, by unfold mLc; rw [e1]; simp only [e], fin s2 out r⟩
theorem mYes_ret {Pb : Bool → S → Prop} (h : Pb true s) : Ret mYes s Pb := ⟨true, s, rfl, h⟩
/-- a def by its body -/
theorem def_ret {n N : Nat} {ds : List D} {W : WS} {R : D → WS → Prop} (h : RetS A ⟨ds.map .imm ++ List.replicate (N - n) .u, W⟩ fun o => match o with | .rt d W' => R d W' | .nx s => R .non s.W | _ => False) : ∃ d W', mDef n N A ds W = some (d, W') ∧ R d W' := by
  obtain ⟨o, e, r⟩ := h
  unfold mDef
  rw [e]
  cases o with
  | rt d W' => exact ⟨d, W', rfl, r⟩
  | nx s => exact ⟨_, _, rfl, r⟩
  | bk s => exact r.elim
  | ct s => exact r.elim
/-! leaves -/
theorem l_addS {x y : Str} {Q : D → Prop} (h : x.length + y.length ≤ 16777216) (q : Q (.str (x ++ y))) : ∃ z, dAdd (.str x) (.str y) = some z ∧ Q z := ⟨_, if_pos (decide_eq_true h), q⟩
theorem l_addI {x y : Int} {Q : D → Prop} (q : Q (.int (x + y))) : ∃ z, dAdd (.int x) (.int y) = some z ∧ Q z := ⟨_, rfl, q⟩
theorem l_subI {x y : Int} {Q : D → Prop} (q : Q (.int (x - y))) : ∃ z, dSub (.int x) (.int y) = some z ∧ Q z := ⟨_, rfl, q⟩
theorem l_mulI {x y : Int} {Q : D → Prop} (h : CMul x y) (q : Q (.int (x * y))) : ∃ z, dMul (.int x) (.int y) = some z ∧ Q z := ⟨_, if_pos h, q⟩
theorem l_modI {x y : Int} {Q : D → Prop} (h : 0 < y) (q : Q (.int (x % y))) : ∃ z, dMod (.int x) (.int y) = some z ∧ Q z := ⟨_, if_pos h, q⟩
theorem l_divI {x y : Int} {Q : D → Prop} (h : CDiv x y) (q : Q (.int (x / y))) : ∃ z, dFdiv (.int x) (.int y) = some z ∧ Q z := ⟨_, if_pos h, q⟩
theorem l_powI {x y : Int} {Q : D → Prop} (h : CPow x y) (q : Q (.int (x ^ y.toNat))) : ∃ z, dPow (.int x) (.int y) = some z ∧ Q z := ⟨_, if_pos h, q⟩
theorem l_negI {x : Int} {Q : D → Prop} (q : Q (.int (-x))) : ∃ z, dNeg (.int x) = some z ∧ Q z := ⟨_, rfl, q⟩
theorem l_eqI {x y : Int} {Q : D → Prop} (q : Q (.bl (decide (x = y)))) : ∃ z, dEq (.int x) (.int y) = some z ∧ Q z := ⟨_, rfl, q⟩
theorem l_eqS {x y : Str} {Q : D → Prop} (q : Q (.bl (decide (x = y)))) : ∃ z, dEq (.str x) (.str y) = some z ∧ Q z := ⟨_, rfl, q⟩
theorem l_neI {x y : Int} {Q : D → Prop} (q : Q (.bl (!decide (x = y)))) : ∃ z, dNe (.int x) (.int y) = some z ∧ Q z := ⟨_, rfl, q⟩
theorem l_neS {x y : Str} {Q : D → Prop} (q : Q (.bl (!decide (x = y)))) : ∃ z, dNe (.str x) (.str y) = some z ∧ Q z := ⟨_, rfl, q⟩
theorem l_ltI {x y : Int} {Q : D → Prop} (q : Q (.bl (decide (x < y)))) : ∃ z, dLt (.int x) (.int y) = some z ∧ Q z := ⟨_, rfl, q⟩
theorem l_leI {x y : Int} {Q : D → Prop} (q : Q (.bl (decide (x ≤ y)))) : ∃ z, dLe (.int x) (.int y) = some z ∧ Q z := ⟨_, rfl, q⟩
theorem l_gtI {x y : Int} {Q : D → Prop} (q : Q (.bl (decide (y < x)))) : ∃ z, dGt (.int x) (.int y) = some z ∧ Q z := ⟨_, rfl, q⟩
theorem l_geI {x y : Int} {Q : D → Prop} (q : Q (.bl (decide (y ≤ x)))) : ∃ z, dGe (.int x) (.int y) = some z ∧ Q z := ⟨_, rfl, q⟩
theorem l_lenS {x : Str} {Q : D → Prop} (h : x.length ≤ 16777216) (q : Q (.int x.length)) : ∃ z, fLen [.str x] = some z ∧ Q z := ⟨_, if_pos (decide_eq_true h), q⟩
theorem l_lenL {x : List D} {Q : D → Prop} (q : Q (.int x.length)) : ∃ z, fLen [.lst x] = some z ∧ Q z := ⟨_, rfl, q⟩
theorem l_lenT {x : List D} {Q : D → Prop} (q : Q (.int x.length)) : ∃ z, fLen [.tup x] = some z ∧ Q z := ⟨_, rfl, q⟩
theorem l_lenF {x : List D} {Q : D → Prop} (q : Q (.int x.length)) : ∃ z, fLen [.fl x] = some z ∧ Q z := ⟨_, rfl, q⟩
theorem l_ixL {x : List D} {i : Int} {d : D} {Q : D → Prop} (h : atI x i = some d) (q : Q d) : ∃ z, dIx (.lst x) (.int i) = some z ∧ Q z := ⟨d, h, q⟩
theorem l_ixT {x : List D} {i : Int} {d : D} {Q : D → Prop} (h : atI x i = some d) (q : Q d) : ∃ z, dIx (.tup x) (.int i) = some z ∧ Q z := ⟨d, h, q⟩
theorem l_ixF {x : List D} {i : Int} {d : D} {Q : D → Prop} (h : atI x i = some d) (q : Q d) : ∃ z, dIx (.fl x) (.int i) = some z ∧ Q z := ⟨d, h, q⟩
theorem l_ixS {x : Str} {i : Int} {c : Nat} {Q : D → Prop} (hl : x.length ≤ 16777216) (h : atI x.cps.toList i = some c) (q : Q (.str ⟨#[c]⟩)) : ∃ z, dIx (.str x) (.int i) = some z ∧ Q z := ⟨_, by show (if big x.length then _ else none) = _; rw [if_pos (decide_eq_true hl), h]; rfl, q⟩
theorem l_slS {x : Str} {lo hi : Option Int} {Q : D → Prop} (hl : x.length ≤ 16777216) (q : Q (.str (cutS x lo hi))) : ∃ z, dSl (.str x) lo hi = some z ∧ Q z := ⟨_, if_pos (decide_eq_true hl), q⟩
theorem l_slL {x : List D} {lo hi : Option Int} {Q : D → Prop} (q : Q (.lst (cutD x lo hi))) : ∃ z, dSl (.lst x) lo hi = some z ∧ Q z := ⟨_, rfl, q⟩
theorem l_gN {d : D} {Q : S → Prop} (h : i < s.ρ.length) (q : Q ⟨s.ρ.set i (.imm d), s.W⟩) : ∃ s2, gN i d s = some s2 ∧ Q s2 := ⟨_, if_pos h, q⟩
theorem l_strI {x : Int} {Q : D → Prop} (h : x.natAbs.log2 < 1920) (q : Q (.str (Str.ofString (toString x)))) : ∃ z, fStr [.int x] = some z ∧ Q z := ⟨_, if_pos h, q⟩
theorem l_join {a : Str} {ys : List Str} {Q : D → Prop} (h : (ys.map (·.length)).sum + ys.length * a.length ≤ 16777216) (q : Q (.str (Str.join a ys))) : ∃ z, fJoin (.str a) (.lst (ys.map .str)) = some z ∧ Q z := by
  refine ⟨_, ?_, q⟩
  unfold fJoin seqOf
  simp only [strsOf_map, if_pos h, TL.join_eq]
theorem l_split {a b : Str} {Q : D → Prop} (h0 : b.length ≠ 0) (h : a.length + 2 ≤ 16777216) (q : Q (.lst ((Txt.split a b).map .str))) : ∃ z, fSplit (.str a) (.str b) = some z ∧ Q z :=
  ⟨_, if_pos ⟨by simpa using h0, h⟩, q⟩
theorem l_intI {x : Int} {Q : D → Prop} (q : Q (.int x)) : ∃ z, fInt [.int x] = some z ∧ Q z := ⟨_, rfl, q⟩
theorem l_absI {x : Int} {Q : D → Prop} (q : Q (.int (if x < 0 then -x else x))) : ∃ z, fAbs [.int x] = some z ∧ Q z := ⟨_, rfl, q⟩
theorem l_tupL {x : List D} {Q : D → Prop} (q : Q (.tup x)) : ∃ z, fTuple [.lst x] = some z ∧ Q z := ⟨_, rfl, q⟩
theorem l_bl {b : Bool} {Q : Bool → Prop} (q : Q b) : ∃ c, D.bl b = .bl c ∧ Q c := ⟨b, rfl, q⟩
theorem l_int {b : Int} {Q : Int → Prop} (q : Q b) : ∃ c, D.int b = .int c ∧ Q c := ⟨b, rfl, q⟩
theorem l_itL {x : List D} {Q : List D → Prop} (q : Q x) : ∃ z, items (.lst x) = some z ∧ Q z := ⟨_, rfl, q⟩
theorem l_itT {x : List D} {Q : List D → Prop} (q : Q x) : ∃ z, items (.tup x) = some z ∧ Q z := ⟨_, rfl, q⟩
theorem l_itS {x : Str} {Q : List D → Prop} (q : Q (chars x)) : ∃ z, items (.str x) = some z ∧ Q z := ⟨_, rfl, q⟩
theorem l_app {ds : List D} {d : D} {Q : List D → Prop} (h : ds.length < 16777216) (q : Q (ds ++ [d])) : ∃ ds', fApp ds [d] = some ds' ∧ Q ds' := ⟨_, if_pos h, q⟩
end
end MM

set_option Elab.async false
set_option linter.all false
set_option maxRecDepth 100000
set_option maxHeartbeats 2000000
namespace Lw
open PySem PySem.Spec PyProof.Rows L2 MM
/-! ### the text -/
def topS (i : Nat) : Stmt := PySem.Challenge.pw_sameanswer_k93_papers_and_logs_as_texts.main.body.getD i (.Pass ⟨0, 0, 0, 0⟩)
abbrev s_is_numeral : Stmt := topS 8
abbrev s_is_name : Stmt := topS 9
abbrev s_pair_text : Stmt := topS 11
abbrev s_row_text : Stmt := topS 12
abbrev s_print_paper : Stmt := topS 13
abbrev s_print_log : Stmt := topS 14
abbrev s_rows_of : Stmt := topS 15
abbrev s_value_of : Stmt := topS 16
abbrev s_pair_of : Stmt := topS 17
abbrev s_entry_of : Stmt := topS 18
abbrev s_read_entries : Stmt := topS 19
abbrev s_read_paper : Stmt := topS 20
abbrev s_read_log : Stmt := topS 21
abbrev s_law_draws : Stmt := topS 23
abbrev s_law_next : Stmt := topS 24
abbrev s_law_pick : Stmt := topS 25
abbrev s_law_word : Stmt := topS 26
abbrev s_law_number : Stmt := topS 27
abbrev s_law_pairs : Stmt := topS 28
abbrev s_law_drawn : Stmt := topS 29
abbrev s_law_row : Stmt := topS 30
abbrev s_law_text : Stmt := topS 31
abbrev s_law_same : Stmt := topS 32
abbrev s_law : Stmt := topS 33
/-! ### what the top has written -/
structure Txt (K : PySem.W.Frag) (mg : Str → Option Value) where
  f_is_numeral : Addr
  fd_is_numeral : FuncData
  F_is_numeral : Fun K "is_numeral" "is_numeral" s_is_numeral f_is_numeral fd_is_numeral
  b_is_numeral : Binds K fd_is_numeral ["word"] []
  g_is_numeral : mg "is_numeral" = some (.ref f_is_numeral)
  f_is_name : Addr
  fd_is_name : FuncData
  F_is_name : Fun K "is_name" "is_name" s_is_name f_is_name fd_is_name
  b_is_name : Binds K fd_is_name ["word"] []
  g_is_name : mg "is_name" = some (.ref f_is_name)
  f_pair_text : Addr
  fd_pair_text : FuncData
  F_pair_text : Fun K "pair_text" "pair_text" s_pair_text f_pair_text fd_pair_text
  b_pair_text : Binds K fd_pair_text ["pair"] []
  g_pair_text : mg "pair_text" = some (.ref f_pair_text)
  f_row_text : Addr
  fd_row_text : FuncData
  F_row_text : Fun K "row_text" "row_text" s_row_text f_row_text fd_row_text
  b_row_text : Binds K fd_row_text ["word", "k", "pairs"] []
  g_row_text : mg "row_text" = some (.ref f_row_text)
  f_print_paper : Addr
  fd_print_paper : FuncData
  F_print_paper : Fun K "print_paper" "print_paper" s_print_paper f_print_paper fd_print_paper
  b_print_paper : Binds K fd_print_paper ["paper"] []
  g_print_paper : mg "print_paper" = some (.ref f_print_paper)
  f_print_log : Addr
  fd_print_log : FuncData
  F_print_log : Fun K "print_log" "print_log" s_print_log f_print_log fd_print_log
  b_print_log : Binds K fd_print_log ["log"] []
  g_print_log : mg "print_log" = some (.ref f_print_log)
  f_rows_of : Addr
  fd_rows_of : FuncData
  F_rows_of : Fun K "rows_of" "rows_of" s_rows_of f_rows_of fd_rows_of
  b_rows_of : Binds K fd_rows_of ["text"] []
  g_rows_of : mg "rows_of" = some (.ref f_rows_of)
  f_value_of : Addr
  fd_value_of : FuncData
  F_value_of : Fun K "value_of" "value_of" s_value_of f_value_of fd_value_of
  b_value_of : Binds K fd_value_of ["text", "row", "is_log"] []
  g_value_of : mg "value_of" = some (.ref f_value_of)
  f_pair_of : Addr
  fd_pair_of : FuncData
  F_pair_of : Fun K "pair_of" "pair_of" s_pair_of f_pair_of fd_pair_of
  b_pair_of : Binds K fd_pair_of ["text", "row", "is_log"] []
  g_pair_of : mg "pair_of" = some (.ref f_pair_of)
  f_entry_of : Addr
  fd_entry_of : FuncData
  F_entry_of : Fun K "entry_of" "entry_of" s_entry_of f_entry_of fd_entry_of
  b_entry_of : Binds K fd_entry_of ["text", "row", "word"] []
  g_entry_of : mg "entry_of" = some (.ref f_entry_of)
  f_read_entries : Addr
  fd_read_entries : FuncData
  F_read_entries : Fun K "read_entries" "read_entries" s_read_entries f_read_entries fd_read_entries
  b_read_entries : Binds K fd_read_entries ["text", "word"] []
  g_read_entries : mg "read_entries" = some (.ref f_read_entries)
  f_read_paper : Addr
  fd_read_paper : FuncData
  F_read_paper : Fun K "read_paper" "read_paper" s_read_paper f_read_paper fd_read_paper
  b_read_paper : Binds K fd_read_paper ["text"] []
  g_read_paper : mg "read_paper" = some (.ref f_read_paper)
  f_read_log : Addr
  fd_read_log : FuncData
  F_read_log : Fun K "read_log" "read_log" s_read_log f_read_log fd_read_log
  b_read_log : Binds K fd_read_log ["text"] []
  g_read_log : mg "read_log" = some (.ref f_read_log)
  f_law_draws : Addr
  fd_law_draws : FuncData
  F_law_draws : Fun K "_law_draws" "_law_draws" s_law_draws f_law_draws fd_law_draws
  b_law_draws : Binds K fd_law_draws ["script", "many"] []
  g_law_draws : mg "_law_draws" = some (.ref f_law_draws)
  f_law_next : Addr
  fd_law_next : FuncData
  F_law_next : Fun K "_law_next" "_law_next" s_law_next f_law_next fd_law_next
  b_law_next : Binds K fd_law_next ["w", "many"] []
  g_law_next : mg "_law_next" = some (.ref f_law_next)
  f_law_pick : Addr
  fd_law_pick : FuncData
  F_law_pick : Fun K "_law_pick" "_law_pick" s_law_pick f_law_pick fd_law_pick
  b_law_pick : Binds K fd_law_pick ["w", "rows"] []
  g_law_pick : mg "_law_pick" = some (.ref f_law_pick)
  f_law_word : Addr
  fd_law_word : FuncData
  F_law_word : Fun K "_law_word" "_law_word" s_law_word f_law_word fd_law_word
  b_law_word : Binds K fd_law_word ["w"] []
  g_law_word : mg "_law_word" = some (.ref f_law_word)
  f_law_number : Addr
  fd_law_number : FuncData
  F_law_number : Fun K "_law_number" "_law_number" s_law_number f_law_number fd_law_number
  b_law_number : Binds K fd_law_number ["w"] []
  g_law_number : mg "_law_number" = some (.ref f_law_number)
  f_law_pairs : Addr
  fd_law_pairs : FuncData
  F_law_pairs : Fun K "_law_pairs" "_law_pairs" s_law_pairs f_law_pairs fd_law_pairs
  b_law_pairs : Binds K fd_law_pairs ["w", "kind"] []
  g_law_pairs : mg "_law_pairs" = some (.ref f_law_pairs)
  f_law_drawn : Addr
  fd_law_drawn : FuncData
  F_law_drawn : Fun K "_law_drawn" "_law_drawn" s_law_drawn f_law_drawn fd_law_drawn
  b_law_drawn : Binds K fd_law_drawn ["w", "kind"] []
  g_law_drawn : mg "_law_drawn" = some (.ref f_law_drawn)
  f_law_row : Addr
  fd_law_row : FuncData
  F_law_row : Fun K "_law_row" "_law_row" s_law_row f_law_row fd_law_row
  b_law_row : Binds K fd_law_row ["kind", "k", "pairs"] []
  g_law_row : mg "_law_row" = some (.ref f_law_row)
  f_law_text : Addr
  fd_law_text : FuncData
  F_law_text : Fun K "_law_text" "_law_text" s_law_text f_law_text fd_law_text
  b_law_text : Binds K fd_law_text ["kind", "told"] []
  g_law_text : mg "_law_text" = some (.ref f_law_text)
  f_law_same : Addr
  fd_law_same : FuncData
  F_law_same : Fun K "_law_same" "_law_same" s_law_same f_law_same fd_law_same
  b_law_same : Binds K fd_law_same ["told", "due"] []
  g_law_same : mg "_law_same" = some (.ref f_law_same)
  f_law : Addr
  fd_law : FuncData
  F_law : Fun K "law" "law" s_law f_law fd_law
  b_law : Binds K fd_law ["script"] []
  g_law : mg "law" = some (.ref f_law)
  u_LETTERS : Value
  c_LETTERS : mg "LETTERS" = some u_LETTERS
  r_LETTERS : RelV (.str "abcdefghijklmnopqrstuvwxyz") u_LETTERS
  u_DIGITS : Value
  c_DIGITS : mg "DIGITS" = some u_DIGITS
  r_DIGITS : RelV (.str "0123456789") u_DIGITS
  u_LONGEST : Value
  c_LONGEST : mg "LONGEST" = some u_LONGEST
  r_LONGEST : RelV (.int 9) u_LONGEST
  z_abs : mg "abs" = none
  z_bool : mg "bool" = none
  z_int : mg "int" = none
  z_isinstance : mg "isinstance" = none
  z_len : mg "len" = none
  z_range : mg "range" = none
  z_set : mg "set" = none
  z_sorted : mg "sorted" = none
  z_str : mg "str" = none
  z_tuple : mg "tuple" = none
section
variable {P : Program} {w : World} {K : PySem.W.Frag} {mg : Str → Option Value} {base : Heap}
/-! is_numeral: 0 word, 1 sign -/
abbrev Nis_numeral : List Str := ["word", "sign"]
def mB_is_numeral : MStm := (mSeq (mIfS (mOr (mTest (mOp dEq (mVarB 0) (mC (.str "")))) (mOr (mTest (mOp dNe (mLc [1] (mIter (mVar 0)) (gN 1) (mTest (mOp dNotIn (mVarB 1) (mC (.str "0123456789")))) (mVar 1)) (mLst mNil))) (mTest (mOp dGt (mCB fLen (mCons (mVarB 0) mNil)) (mC (.int 9)))))) (mRet (mC (.bl false))) mSkip)
    (mRet (mOrV (mOp dNe (mOp dIx (mVarB 0) (mC (.int 0))) (mC (.str "0"))) (mOp dEq (mVarB 0) (mC (.str "0"))))))
def m_is_numeral : List D → WS → Option (D × WS) := mDef 1 2 mB_is_numeral
theorem sc_is_numeral : FnScope Nis_numeral ["word"] (defScope s_is_numeral) := ⟨rfl, rfl, rfl, by decide +kernel, rfl, by decide +kernel, by decide +kernel⟩
theorem ok_is_numeral (T : Txt K mg) : FnOk P w K mg base CX0 1 T.f_is_numeral T.fd_is_numeral ["word"] (spM K 1 m_is_numeral) := by
  unfold m_is_numeral
  refine kfn_ok (k := 0) rfl rfl T.F_is_numeral sc_is_numeral fun cdv A outer s H E hr => ?_
  have nd := sc_is_numeral.nd
  have hu6 := hr.units
  unfold mB_is_numeral
  exact ⟨_, (mss_cons (ms_if (MW.tst (mw_or (mt_cmp (kor_eq K rfl hu6) eq_ok (mb_var 0) (ME.brw me_str) (nomark _)) (mw_or (mt_cmp (kor_ne K rfl hu6) ne_ok (ME.brw (MF.frz (mf_lc (own := [("sign", 1)]) rfl nd (kmi_seq K rfl (me_var 0)) (blkOk_by (N := Nis_numeral) (sc := defScope s_is_numeral) (by decide +kernel)) (fun _ _ _ _ _ => (mg_name (i := 1) (vs := [1]) (by decide) nd rfl (by first | exact .inl rfl | exact .inr rfl))) (fun _ _ _ _ _ => (mts_one (mt_cmp (kor_notIn K rfl) notIn_ok (mb_var 1) (ME.brw (me_globS (by rfl) T.c_DIGITS T.r_DIGITS)) (by rfl)))) (fun _ _ _ _ _ => (me_var 1))))) (ME.brw (MF.frz (mf_lst ma_nil))) (nomark _)) (mw_or1 (mt_cmp op_gt gt_ok (ME.brw (me_cb (kcr_len K rfl) len_ok (by rfl) T.z_len (by decide +kernel) (mab_cons (mb_var 0) mab_nil))) (ME.brw (me_globI (by rfl) T.c_LONGEST T.r_LONGEST)) (nomark _)))))) (mss_one (ms_ret me_bl)) mss_nil)
    (mss_one (ms_ret (me_or (me_cmp (kor_ne K rfl hu6) ne_ok (ME.brw (me_ix (kix K rfl) ix_ok (mb_var 0) (ME.brw me_int) (fun _ _ => rfl))) (ME.brw me_str) (nomark _)) (me_one (me_cmp (kor_eq K rfl hu6) eq_ok (mb_var 0) (ME.brw me_str) (nomark _)))))))⟩
/-! is_name: 0 word, 1 sign -/
abbrev Nis_name : List Str := ["word", "sign"]
def mB_is_name : MStm := (mSeq (mIfS (mOr (mTest (mOp dEq (mVarB 0) (mC (.str "")))) (mTest (mOp dNotIn (mOp dIx (mVarB 0) (mC (.int 0))) (mC (.str "abcdefghijklmnopqrstuvwxyz"))))) (mRet (mC (.bl false))) mSkip)
    (mRet (mOp dEq (mLc [1] (mIter (mVar 0)) (gN 1) (mAnd (mTest (mOp dNotIn (mVarB 1) (mC (.str "abcdefghijklmnopqrstuvwxyz")))) (mAnd (mTest (mOp dNotIn (mVarB 1) (mC (.str "0123456789")))) (mTest (mOp dNe (mVarB 1) (mC (.str "_")))))) (mVar 1)) (mLst mNil))))
def m_is_name : List D → WS → Option (D × WS) := mDef 1 2 mB_is_name
theorem sc_is_name : FnScope Nis_name ["word"] (defScope s_is_name) := ⟨rfl, rfl, rfl, by decide +kernel, rfl, by decide +kernel, by decide +kernel⟩
theorem ok_is_name (T : Txt K mg) : FnOk P w K mg base CX0 1 T.f_is_name T.fd_is_name ["word"] (spM K 1 m_is_name) := by
  unfold m_is_name
  refine kfn_ok (k := 0) rfl rfl T.F_is_name sc_is_name fun cdv A outer s H E hr => ?_
  have nd := sc_is_name.nd
  have hu6 := hr.units
  unfold mB_is_name
  exact ⟨_, (mss_cons (ms_if (MW.tst (mw_or (mt_cmp (kor_eq K rfl hu6) eq_ok (mb_var 0) (ME.brw me_str) (nomark _)) (mw_or1 (mt_cmp (kor_notIn K rfl) notIn_ok (ME.brw (me_ix (kix K rfl) ix_ok (mb_var 0) (ME.brw me_int) (fun _ _ => rfl))) (ME.brw (me_globS (by rfl) T.c_LETTERS T.r_LETTERS)) (by rfl))))) (mss_one (ms_ret me_bl)) mss_nil)
    (mss_one (ms_ret (me_cmp (kor_eq K rfl hu6) eq_ok (ME.brw (MF.frz (mf_lc (own := [("sign", 1)]) rfl nd (kmi_seq K rfl (me_var 0)) (blkOk_by (N := Nis_name) (sc := defScope s_is_name) (by decide +kernel)) (fun _ _ _ _ _ => (mg_name (i := 1) (vs := [1]) (by decide) nd rfl (by first | exact .inl rfl | exact .inr rfl))) (fun _ _ _ _ _ => (mts_one (MW.tst (mw_and (mt_cmp (kor_notIn K rfl) notIn_ok (mb_var 1) (ME.brw (me_globS (by rfl) T.c_LETTERS T.r_LETTERS)) (by rfl)) (mw_and (mt_cmp (kor_notIn K rfl) notIn_ok (mb_var 1) (ME.brw (me_globS (by rfl) T.c_DIGITS T.r_DIGITS)) (by rfl)) (mw_and1 (mt_cmp (kor_ne K rfl hu6) ne_ok (mb_var 1) (ME.brw me_str) (nomark _)))))))) (fun _ _ _ _ _ => (me_var 1))))) (ME.brw (MF.frz (mf_lst ma_nil))) (nomark _)))))⟩
/-! pair_text: 0 pair -/
abbrev Npair_text : List Str := ["pair"]
def mB_pair_text : MStm := (mRet (mOp dAdd (mOp dAdd (mOp dIx (mVarB 0) (mC (.int 0))) (mC (.str " = "))) (mCB fStr (mCons (mOp dIx (mVarB 0) (mC (.int 1))) mNil))))
def m_pair_text : List D → WS → Option (D × WS) := mDef 1 1 mB_pair_text
theorem sc_pair_text : FnScope Npair_text ["pair"] (defScope s_pair_text) := ⟨rfl, rfl, rfl, by decide +kernel, rfl, by decide +kernel, by decide +kernel⟩
theorem ok_pair_text (T : Txt K mg) : FnOk P w K mg base CX0 1 T.f_pair_text T.fd_pair_text ["pair"] (spM K 1 m_pair_text) := by
  unfold m_pair_text
  refine kfn_ok (k := 0) rfl rfl T.F_pair_text sc_pair_text fun cdv A outer s H E hr => ?_
  have nd := sc_pair_text.nd
  unfold mB_pair_text
  exact ⟨_, (mss_one (ms_ret (me_op or_add add_ok (ME.brw (me_op or_add add_ok (ME.brw (me_ix (kix K rfl) ix_ok (mb_var 0) (ME.brw me_int) (fun _ _ => rfl))) (ME.brw me_str))) (ME.brw (me_cty cr_strA str_ok (by rfl) T.z_str (by decide +kernel) (mab_cons (ME.brw (me_ix (kix K rfl) ix_ok (mb_var 0) (ME.brw me_int) (fun _ _ => rfl))) mab_nil))))))⟩
/-! row_text: 0 word, 1 k, 2 pairs, 3 text, 4 pair -/
abbrev Nrow_text : List Str := ["word", "k", "pairs", "text", "pair"]
def mB_row_text : MStm := (mSeq (mAsg (mOp dAdd (mOp dAdd (mOp dAdd (mVarB 0) (mC (.str " "))) (mCB fStr (mCons (mVarB 1) mNil))) (mC (.str ":"))) (gN 3))
    (mSeq (mIfS (mTest (mOp dNe (mVarB 2) (mTup mNil))) (mAsg (mOp dAdd (mOp dAdd (mVarB 3) (mC (.str " "))) (mOp fJoin (mC (.str ", ")) (mLc [4] (mIter (mVar 2)) (gN 4) mYes (mCall 1 m_pair_text (mCons (mVar 4) mNil))))) (gN 3)) mSkip)
    (mRet (mOp dAdd (mVarB 3) (mC (.str "\n"))))))
def m_row_text : List D → WS → Option (D × WS) := mDef 3 5 mB_row_text
theorem sc_row_text : FnScope Nrow_text ["word", "k", "pairs"] (defScope s_row_text) := ⟨rfl, rfl, rfl, by decide +kernel, rfl, by decide +kernel, by decide +kernel⟩
theorem ok_row_text (T : Txt K mg) : FnOk P w K mg base CX0 2 T.f_row_text T.fd_row_text ["word", "k", "pairs"] (spM K 3 m_row_text) := by
  unfold m_row_text
  refine kfn_ok (k := 1) rfl rfl T.F_row_text sc_row_text fun cdv A outer s H E hr => ?_
  have nd := sc_row_text.nd
  have hu6 := hr.units
  unfold mB_row_text
  exact ⟨_, (mss_cons (ms_set (i := 3) nd rfl (by first | exact .inl rfl | exact .inr rfl) (me_op or_add add_ok (ME.brw (me_op or_add add_ok (ME.brw (me_op or_add add_ok (mb_var 0) (ME.brw me_str))) (ME.brw (me_cty cr_strA str_ok (by rfl) T.z_str (by decide +kernel) (mab_cons (mb_var 1) mab_nil))))) (ME.brw me_str)))
    (mss_cons (ms_if (mt_cmp (kor_ne K rfl hu6) ne_ok (mb_var 2) (ME.brw (me_tup ma_nil)) (nomark _)) (mss_one (ms_set (i := 3) nd rfl (by first | exact .inl rfl | exact .inr rfl) (me_op or_add add_ok (ME.brw (me_op or_add add_ok (mb_var 3) (ME.brw me_str))) (ME.brw (kme_join K rfl (ME.brw me_str) (ME.brw (MF.frz (mf_lc (own := [("pair", 4)]) rfl nd (kmi_seq K rfl (me_var 2)) (blkOk_by (N := Nrow_text) (sc := defScope s_row_text) (by decide +kernel)) (fun _ _ _ _ _ => (mg_name (i := 4) (vs := [4]) (by decide) nd rfl (by first | exact .inl rfl | exact .inr rfl))) (fun _ _ _ _ _ => mts_nil) (fun _ _ _ _ _ => (kme_call K rfl ((ok_pair_text T).mono (by omega)) hr (by rfl) T.g_pair_text T.F_pair_text.kp T.b_pair_text (ma_cons (me_var 4) ma_nil))))))))))) mss_nil)
    (mss_one (ms_ret (me_op or_add add_ok (mb_var 3) (ME.brw me_str))))))⟩
/-! print_paper: 0 paper, 1 k, 2 pairs -/
abbrev Nprint_paper : List Str := ["paper", "k", "pairs"]
def mB_print_paper : MStm := (mRet (mOp fJoin (mC (.str "")) (mLc [1, 2] (mIter (mVar 0)) (gT 2 (gsC (gN 1) (gsC (gN 2) gsN))) mYes (mCall 3 m_row_text (mCons (mC (.str "way")) (mCons (mVar 1) (mCons (mVar 2) mNil)))))))
def m_print_paper : List D → WS → Option (D × WS) := mDef 1 3 mB_print_paper
theorem sc_print_paper : FnScope Nprint_paper ["paper"] (defScope s_print_paper) := ⟨rfl, rfl, rfl, by decide +kernel, rfl, by decide +kernel, by decide +kernel⟩
theorem ok_print_paper (T : Txt K mg) : FnOk P w K mg base CX0 3 T.f_print_paper T.fd_print_paper ["paper"] (spM K 1 m_print_paper) := by
  unfold m_print_paper
  refine kfn_ok (k := 2) rfl rfl T.F_print_paper sc_print_paper fun cdv A outer s H E hr => ?_
  have nd := sc_print_paper.nd
  unfold mB_print_paper
  exact ⟨_, (mss_one (ms_ret (kme_join K rfl (ME.brw me_str) (ME.brw (MF.frz (mf_lc (own := [("k", 1), ("pairs", 2)]) rfl nd (kmi_seq K rfl (me_var 0)) (blkOk_by (N := Nprint_paper) (sc := defScope s_print_paper) (by decide +kernel)) (fun _ _ _ _ _ => (kmg_tup K rfl rfl (mgs_cons (mg_name (i := 1) (vs := [1, 2]) (by decide) nd rfl (by first | exact .inl rfl | exact .inr rfl)) (mgs_cons (mg_name (i := 2) (vs := [1, 2]) (by decide) nd rfl (by first | exact .inl rfl | exact .inr rfl)) mgs_nil)))) (fun _ _ _ _ _ => mts_nil) (fun _ _ _ _ _ => (kme_call K rfl ((ok_row_text T).mono (by omega)) hr (by rfl) T.g_row_text T.F_row_text.kp T.b_row_text (ma_cons me_str (ma_cons (me_var 1) (ma_cons (me_var 2) ma_nil)))))))))))⟩
/-! print_log: 0 log, 1 k, 2 pairs -/
abbrev Nprint_log : List Str := ["log", "k", "pairs"]
def mB_print_log : MStm := (mRet (mOp fJoin (mC (.str "")) (mLc [1, 2] (mIter (mVar 0)) (gT 2 (gsC (gN 1) (gsC (gN 2) gsN))) mYes (mCall 3 m_row_text (mCons (mC (.str "rule")) (mCons (mVar 1) (mCons (mVar 2) mNil)))))))
def m_print_log : List D → WS → Option (D × WS) := mDef 1 3 mB_print_log
theorem sc_print_log : FnScope Nprint_log ["log"] (defScope s_print_log) := ⟨rfl, rfl, rfl, by decide +kernel, rfl, by decide +kernel, by decide +kernel⟩
theorem ok_print_log (T : Txt K mg) : FnOk P w K mg base CX0 3 T.f_print_log T.fd_print_log ["log"] (spM K 1 m_print_log) := by
  unfold m_print_log
  refine kfn_ok (k := 2) rfl rfl T.F_print_log sc_print_log fun cdv A outer s H E hr => ?_
  have nd := sc_print_log.nd
  unfold mB_print_log
  exact ⟨_, (mss_one (ms_ret (kme_join K rfl (ME.brw me_str) (ME.brw (MF.frz (mf_lc (own := [("k", 1), ("pairs", 2)]) rfl nd (kmi_seq K rfl (me_var 0)) (blkOk_by (N := Nprint_log) (sc := defScope s_print_log) (by decide +kernel)) (fun _ _ _ _ _ => (kmg_tup K rfl rfl (mgs_cons (mg_name (i := 1) (vs := [1, 2]) (by decide) nd rfl (by first | exact .inl rfl | exact .inr rfl)) (mgs_cons (mg_name (i := 2) (vs := [1, 2]) (by decide) nd rfl (by first | exact .inl rfl | exact .inr rfl)) mgs_nil)))) (fun _ _ _ _ _ => mts_nil) (fun _ _ _ _ _ => (kme_call K rfl ((ok_row_text T).mono (by omega)) hr (by rfl) T.g_row_text T.F_row_text.kp T.b_row_text (ma_cons me_str (ma_cons (me_var 1) (ma_cons (me_var 2) ma_nil)))))))))))⟩
/-! rows_of: 0 text, 1 rows -/
abbrev Nrows_of : List Str := ["text", "rows"]
def mB_rows_of : MStm := (mSeq (mAsg (mOp fSplit (mVarB 0) (mC (.str "\n"))) (gN 1))
    (mSeq (mIfS (mTest (mOp dNe (mOp dIx (mVarB 1) (mUn dNeg (mC (.int 1)))) (mC (.str "")))) mNever mSkip)
    (mRet (mSl (mVarB 1) oNone (oSome (mUn dNeg (mC (.int 1))))))))
def m_rows_of : List D → WS → Option (D × WS) := mDef 1 2 mB_rows_of
theorem sc_rows_of : FnScope Nrows_of ["text"] (defScope s_rows_of) := ⟨rfl, rfl, rfl, by decide +kernel, rfl, by decide +kernel, by decide +kernel⟩
theorem ok_rows_of (T : Txt K mg) : FnOk P w K mg base CX0 1 T.f_rows_of T.fd_rows_of ["text"] (spM K 1 m_rows_of) := by
  unfold m_rows_of
  refine kfn_ok (k := 0) rfl rfl T.F_rows_of sc_rows_of fun cdv A outer s H E hr => ?_
  have nd := sc_rows_of.nd
  have hu6 := hr.units
  unfold mB_rows_of
  exact ⟨_, (mss_cons (ms_set (i := 1) nd rfl (by first | exact .inl rfl | exact .inr rfl) (me_split (mb_var 0) (ME.brw me_str)))
    (mss_cons (ms_if (mt_cmp (kor_ne K rfl hu6) ne_ok (ME.brw (me_ix (kix K rfl) ix_ok (mb_var 1) (ME.brw (me_un un_neg neg_ok (ME.brw me_int))) (fun _ _ => rfl))) (ME.brw me_str) (nomark _)) (mss_one ms_never) mss_nil)
    (mss_one (ms_ret (kme_slice K rfl (mb_var 1) mo_none (mo_some (me_un un_neg neg_ok (ME.brw me_int))))))))⟩
/-! value_of: 0 text, 1 row, 2 is_log -/
abbrev Nvalue_of : List Str := ["text", "row", "is_log"]
def mB_value_of : MStm := (mSeq (mIfS (mTest (mCall 1 m_is_numeral (mCons (mVar 0) mNil))) (mRet (mCB fInt (mCons (mVarB 0) mNil))) mSkip)
    (mSeq (mIfS (mAnd (mTest (mVar 2)) (mAnd (mTest (mOp dEq (mSl (mVarB 0) oNone (oSome (mC (.int 1)))) (mC (.str "-")))) (mAnd (mTest (mCall 1 m_is_numeral (mCons (mSl (mVarB 0) (oSome (mC (.int 1))) oNone) mNil))) (mTest (mOp dNe (mVarB 0) (mC (.str "-0"))))))) (mRet (mUn dNeg (mCB fInt (mCons (mSl (mVarB 0) (oSome (mC (.int 1))) oNone) mNil)))) mSkip)
    (mSeq (mIfS (mOr (mTest (mVar 2)) (mNot (mTest (mCall 1 m_is_name (mCons (mVar 0) mNil))))) mNever mSkip)
    (mRet (mVar 0)))))
def m_value_of : List D → WS → Option (D × WS) := mDef 3 3 mB_value_of
theorem sc_value_of : FnScope Nvalue_of ["text", "row", "is_log"] (defScope s_value_of) := ⟨rfl, rfl, rfl, by decide +kernel, rfl, by decide +kernel, by decide +kernel⟩
theorem ok_value_of (T : Txt K mg) : FnOk P w K mg base CX0 2 T.f_value_of T.fd_value_of ["text", "row", "is_log"] (spM K 3 m_value_of) := by
  unfold m_value_of
  refine kfn_ok (k := 1) rfl rfl T.F_value_of sc_value_of fun cdv A outer s H E hr => ?_
  have nd := sc_value_of.nd
  have hu6 := hr.units
  unfold mB_value_of
  exact ⟨_, (mss_cons (ms_if (mt_val (kme_call K rfl ((ok_is_numeral T).mono (by omega)) hr (by rfl) T.g_is_numeral T.F_is_numeral.kp T.b_is_numeral (ma_cons (me_var 0) ma_nil))) (mss_one (ms_ret (me_cty cr_intA int_ok (by rfl) T.z_int (by decide +kernel) (mab_cons (mb_var 0) mab_nil)))) mss_nil)
    (mss_cons (ms_if (MW.tst (mw_and (mt_val (me_var 2)) (mw_and (mt_cmp (kor_eq K rfl hu6) eq_ok (ME.brw (kme_slice K rfl (mb_var 0) mo_none (mo_some me_int))) (ME.brw me_str) (nomark _)) (mw_and (mt_val (kme_call K rfl ((ok_is_numeral T).mono (by omega)) hr (by rfl) T.g_is_numeral T.F_is_numeral.kp T.b_is_numeral (ma_cons (kme_slice K rfl (mb_var 0) (mo_some me_int) mo_none) ma_nil))) (mw_and1 (mt_cmp (kor_ne K rfl hu6) ne_ok (mb_var 0) (ME.brw me_str) (nomark _))))))) (mss_one (ms_ret (me_un un_neg neg_ok (ME.brw (me_cty cr_intA int_ok (by rfl) T.z_int (by decide +kernel) (mab_cons (ME.brw (kme_slice K rfl (mb_var 0) (mo_some me_int) mo_none)) mab_nil)))))) mss_nil)
    (mss_cons (ms_if (MW.tst (mw_or (mt_val (me_var 2)) (mw_or1 (mt_not (mt_val (kme_call K rfl ((ok_is_name T).mono (by omega)) hr (by rfl) T.g_is_name T.F_is_name.kp T.b_is_name (ma_cons (me_var 0) ma_nil))))))) (mss_one ms_never) mss_nil)
    (mss_one (ms_ret (me_var 0))))))⟩
/-! pair_of: 0 text, 1 row, 2 is_log, 3 parts -/
abbrev Npair_of : List Str := ["text", "row", "is_log", "parts"]
def mB_pair_of : MStm := (mSeq (mAsg (mOp fSplit (mVarB 0) (mC (.str " = "))) (gN 3))
    (mSeq (mIfS (mOr (mTest (mOp dNe (mCB fLen (mCons (mVarB 3) mNil)) (mC (.int 2)))) (mNot (mTest (mCall 1 m_is_name (mCons (mOp dIx (mVarB 3) (mC (.int 0))) mNil))))) mNever mSkip)
    (mRet (mTup (mCons (mOp dIx (mVarB 3) (mC (.int 0))) (mCons (mCall 3 m_value_of (mCons (mOp dIx (mVarB 3) (mC (.int 1))) (mCons (mVar 1) (mCons (mVar 2) mNil)))) mNil))))))
def m_pair_of : List D → WS → Option (D × WS) := mDef 3 4 mB_pair_of
theorem sc_pair_of : FnScope Npair_of ["text", "row", "is_log"] (defScope s_pair_of) := ⟨rfl, rfl, rfl, by decide +kernel, rfl, by decide +kernel, by decide +kernel⟩
theorem ok_pair_of (T : Txt K mg) : FnOk P w K mg base CX0 3 T.f_pair_of T.fd_pair_of ["text", "row", "is_log"] (spM K 3 m_pair_of) := by
  unfold m_pair_of
  refine kfn_ok (k := 2) rfl rfl T.F_pair_of sc_pair_of fun cdv A outer s H E hr => ?_
  have nd := sc_pair_of.nd
  have hu6 := hr.units
  unfold mB_pair_of
  exact ⟨_, (mss_cons (ms_set (i := 3) nd rfl (by first | exact .inl rfl | exact .inr rfl) (me_split (mb_var 0) (ME.brw me_str)))
    (mss_cons (ms_if (MW.tst (mw_or (mt_cmp (kor_ne K rfl hu6) ne_ok (ME.brw (me_cb (kcr_len K rfl) len_ok (by rfl) T.z_len (by decide +kernel) (mab_cons (mb_var 3) mab_nil))) (ME.brw me_int) (nomark _)) (mw_or1 (mt_not (mt_val (kme_call K rfl ((ok_is_name T).mono (by omega)) hr (by rfl) T.g_is_name T.F_is_name.kp T.b_is_name (ma_cons (me_ix (kix K rfl) ix_ok (mb_var 3) (ME.brw me_int) (fun _ _ => rfl)) ma_nil))))))) (mss_one ms_never) mss_nil)
    (mss_one (ms_ret (me_tup (ma_cons (me_ix (kix K rfl) ix_ok (mb_var 3) (ME.brw me_int) (fun _ _ => rfl)) (ma_cons (kme_call K rfl ((ok_value_of T).mono (by omega)) hr (by rfl) T.g_value_of T.F_value_of.kp T.b_value_of (ma_cons (me_ix (kix K rfl) ix_ok (mb_var 3) (ME.brw me_int) (fun _ _ => rfl)) (ma_cons (me_var 1) (ma_cons (me_var 2) ma_nil)))) ma_nil)))))))⟩
/-! entry_of: 0 text, 1 row, 2 word, 3 parts, 4 pairs, 5 one, 6 names, 7 name, 8 _ -/
abbrev Nentry_of : List Str := ["text", "row", "word", "parts", "pairs", "one", "names", "name", "_"]
def mB_entry_of : MStm := (mSeq (mAsg (mOp fSplit (mVarB 0) (mC (.str ":"))) (gN 3))
    (mSeq (mIfS (mOr (mTest (mOp dNe (mCB fLen (mCons (mVarB 3) mNil)) (mC (.int 2)))) (mOr (mTest (mOp dNe (mSl (mOp dIx (mVarB 3) (mC (.int 0))) oNone (oSome (mOp dAdd (mCB fLen (mCons (mVarB 2) mNil)) (mC (.int 1))))) (mOp dAdd (mVarB 2) (mC (.str " "))))) (mNot (mTest (mCall 1 m_is_numeral (mCons (mSl (mOp dIx (mVarB 3) (mC (.int 0))) (oSome (mOp dAdd (mCB fLen (mCons (mVarB 2) mNil)) (mC (.int 1)))) oNone) mNil)))))) mNever mSkip)
    (mSeq (mAsg (mTup mNil) (gN 4))
    (mSeq (mIfS (mTest (mOp dNe (mOp dIx (mVarB 3) (mC (.int 1))) (mC (.str "")))) (mSeq (mIfS (mTest (mOp dNe (mOp dIx (mOp dIx (mVarB 3) (mC (.int 1))) (mC (.int 0))) (mC (.str " ")))) mNever mSkip)
    (mAsg (mCB fTuple (mCons (mLc [5] (mIter (mOp fSplit (mSl (mOp dIx (mVarB 3) (mC (.int 1))) (oSome (mC (.int 1))) oNone) (mC (.str ", ")))) (gN 5) mYes (mCall 3 m_pair_of (mCons (mVar 5) (mCons (mVar 1) (mCons (mOp dEq (mVarB 2) (mC (.str "rule"))) mNil))))) mNil)) (gN 4))) mSkip)
    (mSeq (mAsg (mLc [7, 8] (mIter (mVar 4)) (gT 2 (gsC (gN 7) (gsC (gN 8) gsN))) mYes (mVar 7)) (gN 6))
    (mSeq (mIfS (mOr (mTest (mOp dNe (mVarB 6) (mCB fSorted (mCons (mVarB 6) mNil)))) (mTest (mOp dNe (mLenSet (mVarB 6)) (mCB fLen (mCons (mVarB 6) mNil))))) mNever mSkip)
    (mRet (mTup (mCons (mCB fInt (mCons (mSl (mOp dIx (mVarB 3) (mC (.int 0))) (oSome (mOp dAdd (mCB fLen (mCons (mVarB 2) mNil)) (mC (.int 1)))) oNone) mNil)) (mCons (mVar 4) mNil))))))))))
def m_entry_of : List D → WS → Option (D × WS) := mDef 3 9 mB_entry_of
theorem sc_entry_of : FnScope Nentry_of ["text", "row", "word"] (defScope s_entry_of) := ⟨rfl, rfl, rfl, by decide +kernel, rfl, by decide +kernel, by decide +kernel⟩
theorem ok_entry_of (T : Txt K mg) : FnOk P w K mg base CX0 4 T.f_entry_of T.fd_entry_of ["text", "row", "word"] (spM K 3 m_entry_of) := by
  unfold m_entry_of
  refine kfn_ok (k := 3) rfl rfl T.F_entry_of sc_entry_of fun cdv A outer s H E hr => ?_
  have nd := sc_entry_of.nd
  have hu6 := hr.units
  have hu7 := hu7_of hr
  unfold mB_entry_of
  exact ⟨_, (mss_cons (ms_set (i := 3) nd rfl (by first | exact .inl rfl | exact .inr rfl) (me_split (mb_var 0) (ME.brw me_str)))
    (mss_cons (ms_if (MW.tst (mw_or (mt_cmp (kor_ne K rfl hu6) ne_ok (ME.brw (me_cb (kcr_len K rfl) len_ok (by rfl) T.z_len (by decide +kernel) (mab_cons (mb_var 3) mab_nil))) (ME.brw me_int) (nomark _)) (mw_or (mt_cmp (kor_ne K rfl hu6) ne_ok (ME.brw (kme_slice K rfl (ME.brw (me_ix (kix K rfl) ix_ok (mb_var 3) (ME.brw me_int) (fun _ _ => rfl))) mo_none (mo_some (me_op or_add add_ok (ME.brw (me_cb (kcr_len K rfl) len_ok (by rfl) T.z_len (by decide +kernel) (mab_cons (mb_var 2) mab_nil))) (ME.brw me_int))))) (ME.brw (me_op or_add add_ok (mb_var 2) (ME.brw me_str))) (nomark _)) (mw_or1 (mt_not (mt_val (kme_call K rfl ((ok_is_numeral T).mono (by omega)) hr (by rfl) T.g_is_numeral T.F_is_numeral.kp T.b_is_numeral (ma_cons (kme_slice K rfl (ME.brw (me_ix (kix K rfl) ix_ok (mb_var 3) (ME.brw me_int) (fun _ _ => rfl))) (mo_some (me_op or_add add_ok (ME.brw (me_cb (kcr_len K rfl) len_ok (by rfl) T.z_len (by decide +kernel) (mab_cons (mb_var 2) mab_nil))) (ME.brw me_int))) mo_none) ma_nil)))))))) (mss_one ms_never) mss_nil)
    (mss_cons (ms_set (i := 4) nd rfl (by first | exact .inl rfl | exact .inr rfl) (me_tup ma_nil))
    (mss_cons (ms_if (mt_cmp (kor_ne K rfl hu6) ne_ok (ME.brw (me_ix (kix K rfl) ix_ok (mb_var 3) (ME.brw me_int) (fun _ _ => rfl))) (ME.brw me_str) (nomark _)) (mss_cons (ms_if (mt_cmp (kor_ne K rfl hu6) ne_ok (ME.brw (me_ix (kix K rfl) ix_ok (ME.brw (me_ix (kix K rfl) ix_ok (mb_var 3) (ME.brw me_int) (fun _ _ => rfl))) (ME.brw me_int) (fun _ _ => rfl))) (ME.brw me_str) (nomark _)) (mss_one ms_never) mss_nil)
    (mss_one (ms_set (i := 4) nd rfl (by first | exact .inl rfl | exact .inr rfl) (me_cty (kcr_tuple K rfl) tuple_ok (by rfl) T.z_tuple (by decide +kernel) (mab_cons (ME.brw (MF.frz (mf_lc (own := [("one", 5)]) rfl nd (kmi_seq K rfl (me_split (ME.brw (kme_slice K rfl (ME.brw (me_ix (kix K rfl) ix_ok (mb_var 3) (ME.brw me_int) (fun _ _ => rfl))) (mo_some me_int) mo_none)) (ME.brw me_str))) (blkOk_by (N := Nentry_of) (sc := defScope s_entry_of) (by decide +kernel)) (fun _ _ _ _ _ => (mg_name (i := 5) (vs := [5]) (by decide) nd rfl (by first | exact .inl rfl | exact .inr rfl))) (fun _ _ _ _ _ => mts_nil) (fun _ _ _ _ _ => (kme_call K rfl ((ok_pair_of T).mono (by omega)) hr (by rfl) T.g_pair_of T.F_pair_of.kp T.b_pair_of (ma_cons (me_var 5) (ma_cons (me_var 1) (ma_cons (me_cmp (kor_eq K rfl hu6) eq_ok (mb_var 2) (ME.brw me_str) (nomark _)) ma_nil)))))))) mab_nil))))) mss_nil)
    (mss_cons (ms_setLc (i := 6) (own := [("name", 7), ("_", 8)]) rfl nd rfl rfl (sw_true rfl rfl rfl (by decide +kernel)) (kmi_seq K rfl (me_var 4)) (blkOk_by (N := Nentry_of) (sc := defScope s_entry_of) (by decide +kernel)) (fun _ _ _ _ _ => (kmg_tup K rfl rfl (mgs_cons (mg_name (i := 7) (vs := [7, 8]) (by decide) nd rfl (by first | exact .inl rfl | exact .inr rfl)) (mgs_cons (mg_name (i := 8) (vs := [7, 8]) (by decide) nd rfl (by first | exact .inl rfl | exact .inr rfl)) mgs_nil)))) (fun _ _ _ _ _ => mts_nil) (fun _ _ _ _ _ => (me_var 7)))
    (mss_cons (ms_if (MW.tst (mw_or (mt_cmp (kor_ne K rfl hu6) ne_ok (mb_var 6) (ME.brw (me_cb (kcr_sort K rfl hu7) sorted_ok (by rfl) T.z_sorted (by decide +kernel) (mab_cons (mb_var 6) mab_nil))) (nomark _)) (mw_or1 (mt_cmp (kor_ne K rfl hu6) ne_ok (ME.brw (kme_lenSet K rfl rfl (by rfl) T.z_len (by rfl) T.z_set (mb_var 6))) (ME.brw (me_cb (kcr_len K rfl) len_ok (by rfl) T.z_len (by decide +kernel) (mab_cons (mb_var 6) mab_nil))) (nomark _))))) (mss_one ms_never) mss_nil)
    (mss_one (ms_ret (me_tup (ma_cons (me_cty cr_intA int_ok (by rfl) T.z_int (by decide +kernel) (mab_cons (ME.brw (kme_slice K rfl (ME.brw (me_ix (kix K rfl) ix_ok (mb_var 3) (ME.brw me_int) (fun _ _ => rfl))) (mo_some (me_op or_add add_ok (ME.brw (me_cb (kcr_len K rfl) len_ok (by rfl) T.z_len (by decide +kernel) (mab_cons (mb_var 2) mab_nil))) (ME.brw me_int))) mo_none)) mab_nil)) (ma_cons (me_var 4) ma_nil)))))))))))⟩
/-! read_entries: 0 text, 1 word, 2 rows, 3 k -/
abbrev Nread_entries : List Str := ["text", "word", "rows", "k"]
def mB_read_entries : MStm := (mSeq (mAsg (mCall 1 m_rows_of (mCons (mVar 0) mNil)) (gN 2))
    (mRet (mCB fTuple (mCons (mLc [3] (mRng1 (mCons (mCB fLen (mCons (mVarB 2) mNil)) mNil)) (gN 3) mYes (mCall 3 m_entry_of (mCons (mOp dIx (mVarB 2) (mVarB 3)) (mCons (mOp dAdd (mVarB 3) (mC (.int 1))) (mCons (mVar 1) mNil))))) mNil))))
def m_read_entries : List D → WS → Option (D × WS) := mDef 2 4 mB_read_entries
theorem sc_read_entries : FnScope Nread_entries ["text", "word"] (defScope s_read_entries) := ⟨rfl, rfl, rfl, by decide +kernel, rfl, by decide +kernel, by decide +kernel⟩
theorem ok_read_entries (T : Txt K mg) : FnOk P w K mg base CX0 5 T.f_read_entries T.fd_read_entries ["text", "word"] (spM K 2 m_read_entries) := by
  unfold m_read_entries
  refine kfn_ok (k := 4) rfl rfl T.F_read_entries sc_read_entries fun cdv A outer s H E hr => ?_
  have nd := sc_read_entries.nd
  unfold mB_read_entries
  exact ⟨_, (mss_cons (ms_set (i := 2) nd rfl (by first | exact .inl rfl | exact .inr rfl) (kme_call K rfl ((ok_rows_of T).mono (by omega)) hr (by rfl) T.g_rows_of T.F_rows_of.kp T.b_rows_of (ma_cons (me_var 0) ma_nil)))
    (mss_one (ms_ret (me_cty (kcr_tuple K rfl) tuple_ok (by rfl) T.z_tuple (by decide +kernel) (mab_cons (ME.brw (MF.frz (mf_lc (own := [("k", 3)]) rfl nd (mi_range1 (by rfl) T.z_range (mab_cons (ME.brw (me_cb (kcr_len K rfl) len_ok (by rfl) T.z_len (by decide +kernel) (mab_cons (mb_var 2) mab_nil))) mab_nil)) (blkOk_by (N := Nread_entries) (sc := defScope s_read_entries) (by decide +kernel)) (fun _ _ _ _ _ => (mg_name (i := 3) (vs := [3]) (by decide) nd rfl (by first | exact .inl rfl | exact .inr rfl))) (fun _ _ _ _ _ => mts_nil) (fun _ _ _ _ _ => (kme_call K rfl ((ok_entry_of T).mono (by omega)) hr (by rfl) T.g_entry_of T.F_entry_of.kp T.b_entry_of (ma_cons (me_ix (kix K rfl) ix_ok (mb_var 2) (mb_var 3) (fun _ _ => rfl)) (ma_cons (me_op or_add add_ok (mb_var 3) (ME.brw me_int)) (ma_cons (me_var 1) ma_nil)))))))) mab_nil)))))⟩
/-! read_paper: 0 text -/
abbrev Nread_paper : List Str := ["text"]
def mB_read_paper : MStm := (mRet (mCall 2 m_read_entries (mCons (mVar 0) (mCons (mC (.str "way")) mNil))))
def m_read_paper : List D → WS → Option (D × WS) := mDef 1 1 mB_read_paper
theorem sc_read_paper : FnScope Nread_paper ["text"] (defScope s_read_paper) := ⟨rfl, rfl, rfl, by decide +kernel, rfl, by decide +kernel, by decide +kernel⟩
theorem ok_read_paper (T : Txt K mg) : FnOk P w K mg base CX0 6 T.f_read_paper T.fd_read_paper ["text"] (spM K 1 m_read_paper) := by
  unfold m_read_paper
  refine kfn_ok (k := 5) rfl rfl T.F_read_paper sc_read_paper fun cdv A outer s H E hr => ?_
  have nd := sc_read_paper.nd
  unfold mB_read_paper
  exact ⟨_, (mss_one (ms_ret (kme_call K rfl ((ok_read_entries T).mono (by omega)) hr (by rfl) T.g_read_entries T.F_read_entries.kp T.b_read_entries (ma_cons (me_var 0) (ma_cons me_str ma_nil)))))⟩
/-! read_log: 0 text -/
abbrev Nread_log : List Str := ["text"]
def mB_read_log : MStm := (mRet (mCall 2 m_read_entries (mCons (mVar 0) (mCons (mC (.str "rule")) mNil))))
def m_read_log : List D → WS → Option (D × WS) := mDef 1 1 mB_read_log
theorem sc_read_log : FnScope Nread_log ["text"] (defScope s_read_log) := ⟨rfl, rfl, rfl, by decide +kernel, rfl, by decide +kernel, by decide +kernel⟩
theorem ok_read_log (T : Txt K mg) : FnOk P w K mg base CX0 6 T.f_read_log T.fd_read_log ["text"] (spM K 1 m_read_log) := by
  unfold m_read_log
  refine kfn_ok (k := 5) rfl rfl T.F_read_log sc_read_log fun cdv A outer s H E hr => ?_
  have nd := sc_read_log.nd
  unfold mB_read_log
  exact ⟨_, (mss_one (ms_ret (kme_call K rfl ((ok_read_entries T).mono (by omega)) hr (by rfl) T.g_read_entries T.F_read_entries.kp T.b_read_entries (ma_cons (me_var 0) (ma_cons me_str ma_nil)))))⟩
/-! _law_draws: 0 script, 1 many, 2 draws, 3 mixed, 4 k, 5 cell, 6 rest, 7 turn -/
abbrev Nlaw_draws : List Str := ["script", "many", "draws", "mixed", "k", "cell", "rest", "turn"]
def mB_law_draws : MStm := (mSeq (mOwn (mLst mNil) 2)
    (mSeq (mAsg (mC (.int 7)) (gN 3))
    (mSeq (mFor (mRng1 (mCons (mCB fLen (mCons (mVarB 0) mNil)) mNil)) (gN 4) (mSeq (mAsg (mCB fAbs (mCons (mCB fInt (mCons (mOp dIx (mVarB 0) (mVarB 4)) mNil)) mNil)) (gN 5))
    (mSeq (mAsg (mOp dMod (mCB fInt (mCons (mOp dAdd (mOp dAdd (mOp dMul (mVarB 3) (mC (.int 48271))) (mOp dMod (mVarB 5) (mC (.int 1000003)))) (mVarB 4)) mNil)) (mC (.int 65537))) (gN 3))
    (mSeq (mAsg (mC (.int 0)) (gN 6))
    (mSeq (mIfS (mTest (mOp dGe (mVarB 5) (mOp dPow (mC (.int 10)) (mC (.int 18))))) (mAsg (mVar 5) (gN 6)) (mSeq (mMut 2 fApp (mCons (mOp dMod (mCB fInt (mCons (mVarB 5) mNil)) (mC (.int 997))) mNil))
    (mMut 2 fApp (mCons (mOp dMod (mOp dMod (mCB fInt (mCons (mOp dAdd (mOp dMul (mVarB 3) (mC (.int 69621))) (mC (.int 5))) mNil)) (mC (.int 65521))) (mC (.int 997))) mNil))))
    (mFor (mRng1 (mCons (mC (.int 60)) mNil)) (gN 7) (mIfS (mTest (mOp dGt (mVarB 6) (mC (.int 0)))) (mSeq (mMut 2 fApp (mCons (mOp dMod (mCB fInt (mCons (mVarB 6) mNil)) (mC (.int 997))) mNil))
    (mAsg (mOp dFdiv (mVarB 6) (mC (.int 997))) (gN 6))) mSkip)))))))
    (mSeq (mFor (mRng1 (mCons (mVarB 1) mNil)) (gN 4) (mSeq (mAsg (mOp dMod (mCB fInt (mCons (mOp dAdd (mOp dAdd (mOp dMul (mVarB 3) (mC (.int 16807))) (mVarB 4)) (mC (.int 1))) mNil)) (mC (.int 65537))) (gN 3))
    (mMut 2 fApp (mCons (mOp dMod (mCB fInt (mCons (mVarB 3) mNil)) (mC (.int 997))) mNil))))
    (mRet (mSl (mVarB 2) oNone (oSome (mVar 1))))))))
def m_law_draws : List D → WS → Option (D × WS) := mDef 2 8 mB_law_draws
theorem sc_law_draws : FnScope Nlaw_draws ["script", "many"] (defScope s_law_draws) := ⟨rfl, rfl, rfl, by decide +kernel, rfl, by decide +kernel, by decide +kernel⟩
theorem ok_law_draws (T : Txt K mg) : FnOk P w K mg base CX0 1 T.f_law_draws T.fd_law_draws ["script", "many"] (spM K 2 m_law_draws) := by
  unfold m_law_draws
  refine kfn_ok (k := 0) rfl rfl T.F_law_draws sc_law_draws fun cdv A outer s H E hr => ?_
  have nd := sc_law_draws.nd
  unfold mB_law_draws
  exact ⟨_, (mss_cons (ms_own (i := 2) nd rfl (by first | exact .inl rfl | exact .inr rfl) (mf_lst ma_nil))
    (mss_cons (ms_set (i := 3) nd rfl (by first | exact .inl rfl | exact .inr rfl) me_int)
    (mss_cons (ms_for PassesOwn.never rfl (mi_range1 (by rfl) T.z_range (mab_cons (ME.brw (me_cb (kcr_len K rfl) len_ok (by rfl) T.z_len (by decide +kernel) (mab_cons (mb_var 0) mab_nil))) mab_nil)) (mg_name (i := 4) (vs := [4]) (by decide) nd rfl (by first | exact .inl rfl | exact .inr rfl)) (mss_cons (ms_set (i := 5) nd rfl (by first | exact .inl rfl | exact .inr rfl) (me_cb call_abs abs_ok (by rfl) T.z_abs (by decide +kernel) (mab_cons (ME.brw (me_cty cr_intA int_ok (by rfl) T.z_int (by decide +kernel) (mab_cons (ME.brw (me_ix (kix K rfl) ix_ok (mb_var 0) (mb_var 4) (fun _ _ => rfl))) mab_nil))) mab_nil)))
    (mss_cons (ms_set (i := 3) nd rfl (by first | exact .inl rfl | exact .inr rfl) (me_op op_mod mod_ok (ME.brw (me_cty cr_intA int_ok (by rfl) T.z_int (by decide +kernel) (mab_cons (ME.brw (me_op or_add add_ok (ME.brw (me_op or_add add_ok (ME.brw (me_op op_mul mul_ok (mb_var 3) (ME.brw me_int))) (ME.brw (me_op op_mod mod_ok (mb_var 5) (ME.brw me_int))))) (mb_var 4))) mab_nil))) (ME.brw me_int)))
    (mss_cons (ms_set (i := 6) nd rfl (by first | exact .inl rfl | exact .inr rfl) me_int)
    (mss_cons (ms_if (mt_cmp op_ge ge_ok (mb_var 5) (ME.brw (me_op op_pow pow_ok (ME.brw me_int) (ME.brw me_int))) (nomark _)) (mss_one (ms_set (i := 6) nd rfl (by first | exact .inl rfl | exact .inr rfl) (me_var 5))) (mss_cons (ms_append (i := 2) rfl (by first | exact .inl rfl | exact .inr rfl) (ma_cons (me_op op_mod mod_ok (ME.brw (me_cty cr_intA int_ok (by rfl) T.z_int (by decide +kernel) (mab_cons (mb_var 5) mab_nil))) (ME.brw me_int)) ma_nil))
    (mss_one (ms_append (i := 2) rfl (by first | exact .inl rfl | exact .inr rfl) (ma_cons (me_op op_mod mod_ok (ME.brw (me_op op_mod mod_ok (ME.brw (me_cty cr_intA int_ok (by rfl) T.z_int (by decide +kernel) (mab_cons (ME.brw (me_op or_add add_ok (ME.brw (me_op op_mul mul_ok (mb_var 3) (ME.brw me_int))) (ME.brw me_int))) mab_nil))) (ME.brw me_int))) (ME.brw me_int)) ma_nil)))))
    (mss_one (ms_for PassesOwn.never rfl (mi_range1 (by rfl) T.z_range (mab_cons (ME.brw me_int) mab_nil)) (mg_name (i := 7) (vs := [7]) (by decide) nd rfl (by first | exact .inl rfl | exact .inr rfl)) (mss_one (ms_if (mt_cmp op_gt gt_ok (mb_var 6) (ME.brw me_int) (nomark _)) (mss_cons (ms_append (i := 2) rfl (by first | exact .inl rfl | exact .inr rfl) (ma_cons (me_op op_mod mod_ok (ME.brw (me_cty cr_intA int_ok (by rfl) T.z_int (by decide +kernel) (mab_cons (mb_var 6) mab_nil))) (ME.brw me_int)) ma_nil))
    (mss_one (ms_set (i := 6) nd rfl (by first | exact .inl rfl | exact .inr rfl) (me_op op_fdiv fdiv_ok (mb_var 6) (ME.brw me_int))))) mss_nil)))))))))
    (mss_cons (ms_for PassesOwn.never rfl (mi_range1 (by rfl) T.z_range (mab_cons (mb_var 1) mab_nil)) (mg_name (i := 4) (vs := [4]) (by decide) nd rfl (by first | exact .inl rfl | exact .inr rfl)) (mss_cons (ms_set (i := 3) nd rfl (by first | exact .inl rfl | exact .inr rfl) (me_op op_mod mod_ok (ME.brw (me_cty cr_intA int_ok (by rfl) T.z_int (by decide +kernel) (mab_cons (ME.brw (me_op or_add add_ok (ME.brw (me_op or_add add_ok (ME.brw (me_op op_mul mul_ok (mb_var 3) (ME.brw me_int))) (mb_var 4))) (ME.brw me_int))) mab_nil))) (ME.brw me_int)))
    (mss_one (ms_append (i := 2) rfl (by first | exact .inl rfl | exact .inr rfl) (ma_cons (me_op op_mod mod_ok (ME.brw (me_cty cr_intA int_ok (by rfl) T.z_int (by decide +kernel) (mab_cons (mb_var 3) mab_nil))) (ME.brw me_int)) ma_nil)))))
    (mss_one (ms_ret (kme_slice K rfl (mb_var 2) mo_none (mo_some (me_var 1)))))))))⟩
theorem sc_law_next : FnScope ["w", "many"] ["w", "many"] (defScope s_law_next) := ⟨rfl, rfl, rfl, by decide +kernel, rfl, by decide +kernel, by decide +kernel⟩
theorem ok_law_next (T : Txt K mg) : FnOk P w K mg base CX0 1 T.f_law_next T.fd_law_next ["w", "many"] (spM K 2 m_law_next) := by
  refine T.F_law_next.ok sc_law_next (fun vs H Q E h => ?_) (fun cdv A outer s H vs Q E hr h => ⟨_, ?_, next_reading h⟩)
  · obtain ⟨g, ds, W, d, W', _, _, hl, r, _⟩ := h
    rw [r.length, hl]
    rfl
  · exact pss_cons (ps_daug (hu_of hr) (pv 0) pe_str pe_int in_add (fun _ _ _ => rfl))
      (pss_cons (ps_if (pt_cmpR op_gt (pe_dget (hu_of hr) (pv 0) pe_str (fun _ _ => rfl)) (pe_callB call_len (by rfl) T.z_len PySem.boot_len (pa_cons (pe_dget (hu_of hr) (pv 0) pe_str (fun _ _ => rfl)) pa_nil)) (nomark _)) (pss_one (ps_ret pe_int)) pss_nil)
      (pss_one (ps_ret (pe_op op_mod (pe_callTy call_int1 (by rfl) T.z_int (by decide +kernel) (pa_cons (pe_ix ix_list (pe_dget (hu_of hr) (pv 0) pe_str (fun _ _ => rfl)) (pe_op op_sub (pe_dget (hu_of hr) (pv 0) pe_str (fun _ _ => rfl)) pe_int) (fun _ _ => rfl)) pa_nil)) (pv 1)))))
/-! _law_pick: 0 w, 1 rows -/
abbrev Nlaw_pick : List Str := ["w", "rows"]
def mB_law_pick : MStm := (mRet (mOp dIx (mVarB 1) (mCall 2 m_law_next (mCons (mVar 0) (mCons (mCB fLen (mCons (mVarB 1) mNil)) mNil)))))
def m_law_pick : List D → WS → Option (D × WS) := mDef 2 2 mB_law_pick
theorem sc_law_pick : FnScope Nlaw_pick ["w", "rows"] (defScope s_law_pick) := ⟨rfl, rfl, rfl, by decide +kernel, rfl, by decide +kernel, by decide +kernel⟩
theorem ok_law_pick (T : Txt K mg) : FnOk P w K mg base CX0 2 T.f_law_pick T.fd_law_pick ["w", "rows"] (spM K 2 m_law_pick) := by
  unfold m_law_pick
  refine kfn_ok (k := 1) rfl rfl T.F_law_pick sc_law_pick fun cdv A outer s H E hr => ?_
  have nd := sc_law_pick.nd
  unfold mB_law_pick
  exact ⟨_, (mss_one (ms_ret (me_ix (kix K rfl) ix_ok (mb_var 1) (ME.brw (kme_call K rfl ((ok_law_next T).mono (by omega)) hr (by rfl) T.g_law_next T.F_law_next.kp T.b_law_next (ma_cons (me_var 0) (ma_cons (me_cb (kcr_len K rfl) len_ok (by rfl) T.z_len (by decide +kernel) (mab_cons (mb_var 1) mab_nil)) ma_nil)))) (fun _ _ => rfl))))⟩
/-! _law_word: 0 w, 1 name, 2 k -/
abbrev Nlaw_word : List Str := ["w", "name", "k"]
def mB_law_word : MStm := (mSeq (mAsg (mOp dIx (mC (.str "abcdefghijklmnopqrstuvwxyz")) (mCall 2 m_law_next (mCons (mVar 0) (mCons (mC (.int 26)) mNil)))) (gN 1))
    (mSeq (mFor (mRng1 (mCons (mCall 2 m_law_pick (mCons (mVar 0) (mCons (mLst (mCons (mC (.int 0)) (mCons (mC (.int 0)) (mCons (mC (.int 1)) (mCons (mC (.int 2)) (mCons (mC (.int 7)) mNil)))))) mNil))) mNil)) (gN 2) (mAsg (mOp dAdd (mVarB 1) (mOp dIx (mC (.str "abcdefghijklmnopqrstuvwxyz0123456789_")) (mCall 2 m_law_next (mCons (mVar 0) (mCons (mC (.int 37)) mNil))))) (gN 1)))
    (mRet (mVar 1))))
def m_law_word : List D → WS → Option (D × WS) := mDef 1 3 mB_law_word
theorem sc_law_word : FnScope Nlaw_word ["w"] (defScope s_law_word) := ⟨rfl, rfl, rfl, by decide +kernel, rfl, by decide +kernel, by decide +kernel⟩
theorem ok_law_word (T : Txt K mg) : FnOk P w K mg base CX0 3 T.f_law_word T.fd_law_word ["w"] (spM K 1 m_law_word) := by
  unfold m_law_word
  refine kfn_ok (k := 2) rfl rfl T.F_law_word sc_law_word fun cdv A outer s H E hr => ?_
  have nd := sc_law_word.nd
  unfold mB_law_word
  exact ⟨_, (mss_cons (ms_set (i := 1) nd rfl (by first | exact .inl rfl | exact .inr rfl) (me_ix (kix K rfl) ix_ok (ME.brw me_str) (ME.brw (kme_call K rfl ((ok_law_next T).mono (by omega)) hr (by rfl) T.g_law_next T.F_law_next.kp T.b_law_next (ma_cons (me_var 0) (ma_cons me_int ma_nil)))) (fun _ _ => rfl)))
    (mss_cons (ms_for PassesOwn.never rfl (mi_range1 (by rfl) T.z_range (mab_cons (ME.brw (kme_call K rfl ((ok_law_pick T).mono (by omega)) hr (by rfl) T.g_law_pick T.F_law_pick.kp T.b_law_pick (ma_cons (me_var 0) (ma_cons (MF.frz (mf_lst (ma_cons me_int (ma_cons me_int (ma_cons me_int (ma_cons me_int (ma_cons me_int ma_nil))))))) ma_nil)))) mab_nil)) (mg_name (i := 2) (vs := [2]) (by decide) nd rfl (by first | exact .inl rfl | exact .inr rfl)) (mss_one (ms_set (i := 1) nd rfl (by first | exact .inl rfl | exact .inr rfl) (me_op or_add add_ok (mb_var 1) (ME.brw (me_ix (kix K rfl) ix_ok (ME.brw me_str) (ME.brw (kme_call K rfl ((ok_law_next T).mono (by omega)) hr (by rfl) T.g_law_next T.F_law_next.kp T.b_law_next (ma_cons (me_var 0) (ma_cons me_int ma_nil)))) (fun _ _ => rfl)))))))
    (mss_one (ms_ret (me_var 1)))))⟩
/-! _law_number: 0 w -/
abbrev Nlaw_number : List Str := ["w"]
def mB_law_number : MStm := (mRet (mCall 2 m_law_pick (mCons (mVar 0) (mCons (mLst (mCons (mC (.int 0)) (mCons (mC (.int 1)) (mCons (mC (.int 7)) (mCons (mC (.int 10)) (mCons (mC (.int 997)) (mCons (mC (.int 999999999)) (mCons (mOp dAdd (mOp dMul (mCall 2 m_law_next (mCons (mVar 0) (mCons (mC (.int 100)) mNil))) (mC (.int 997))) (mCall 2 m_law_next (mCons (mVar 0) (mCons (mC (.int 997)) mNil)))) mNil)))))))) mNil))))
def m_law_number : List D → WS → Option (D × WS) := mDef 1 1 mB_law_number
theorem sc_law_number : FnScope Nlaw_number ["w"] (defScope s_law_number) := ⟨rfl, rfl, rfl, by decide +kernel, rfl, by decide +kernel, by decide +kernel⟩
theorem ok_law_number (T : Txt K mg) : FnOk P w K mg base CX0 3 T.f_law_number T.fd_law_number ["w"] (spM K 1 m_law_number) := by
  unfold m_law_number
  refine kfn_ok (k := 2) rfl rfl T.F_law_number sc_law_number fun cdv A outer s H E hr => ?_
  have nd := sc_law_number.nd
  unfold mB_law_number
  exact ⟨_, (mss_one (ms_ret (kme_call K rfl ((ok_law_pick T).mono (by omega)) hr (by rfl) T.g_law_pick T.F_law_pick.kp T.b_law_pick (ma_cons (me_var 0) (ma_cons (MF.frz (mf_lst (ma_cons me_int (ma_cons me_int (ma_cons me_int (ma_cons me_int (ma_cons me_int (ma_cons me_int (ma_cons (me_op or_add add_ok (ME.brw (me_op op_mul mul_ok (ME.brw (kme_call K rfl ((ok_law_next T).mono (by omega)) hr (by rfl) T.g_law_next T.F_law_next.kp T.b_law_next (ma_cons (me_var 0) (ma_cons me_int ma_nil)))) (ME.brw me_int))) (ME.brw (kme_call K rfl ((ok_law_next T).mono (by omega)) hr (by rfl) T.g_law_next T.F_law_next.kp T.b_law_next (ma_cons (me_var 0) (ma_cons me_int ma_nil))))) ma_nil))))))))) ma_nil)))))⟩
/-! _law_pairs: 0 w, 1 kind, 2 names, 3 k, 4 name, 5 found, 6 thing -/
abbrev Nlaw_pairs : List Str := ["w", "kind", "names", "k", "name", "found", "thing"]
def mB_law_pairs : MStm := (mSeq (mOwn (mLst mNil) 2)
    (mSeq (mFor (mRng1 (mCons (mCall 2 m_law_pick (mCons (mVar 0) (mCons (mLst (mCons (mC (.int 0)) (mCons (mC (.int 1)) (mCons (mC (.int 1)) (mCons (mC (.int 2)) (mCons (mC (.int 3)) (mCons (mC (.int 6)) mNil))))))) mNil))) mNil)) (gN 3) (mSeq (mAsg (mCall 1 m_law_word (mCons (mVar 0) mNil)) (gN 4))
    (mIfS (mTest (mOp dNotIn (mVarB 4) (mVarB 2))) (mMut 2 fApp (mCons (mVar 4) mNil)) mSkip)))
    (mSeq (mOwn (mLst mNil) 5)
    (mSeq (mFor (mIter (mCB fSorted (mCons (mVarB 2) mNil))) (gN 4) (mSeq (mAsg (mCall 1 m_law_number (mCons (mVar 0) mNil)) (gN 6))
    (mSeq (mIfS (mTest (mOp dEq (mCall 2 m_law_next (mCons (mVar 0) (mCons (mC (.int 2)) mNil))) (mC (.int 0)))) (mAsg (mIf (mTest (mOp dEq (mVarB 1) (mC (.str "way")))) (mCall 1 m_law_word (mCons (mVar 0) mNil)) (mIf (mTest (mOp dLt (mVarB 6) (mC (.int 999999999)))) (mOp dSub (mUn dNeg (mC (.int 1))) (mVarB 6)) (mUn dNeg (mVarB 6)))) (gN 6)) mSkip)
    (mMut 5 fApp (mCons (mTup (mCons (mVar 4) (mCons (mVar 6) mNil))) mNil)))))
    (mRet (mCB fTuple (mCons (mVarB 5) mNil)))))))
def m_law_pairs : List D → WS → Option (D × WS) := mDef 2 7 mB_law_pairs
theorem sc_law_pairs : FnScope Nlaw_pairs ["w", "kind"] (defScope s_law_pairs) := ⟨rfl, rfl, rfl, by decide +kernel, rfl, by decide +kernel, by decide +kernel⟩
theorem ok_law_pairs (T : Txt K mg) : FnOk P w K mg base CX0 4 T.f_law_pairs T.fd_law_pairs ["w", "kind"] (spM K 2 m_law_pairs) := by
  unfold m_law_pairs
  refine kfn_ok (k := 3) rfl rfl T.F_law_pairs sc_law_pairs fun cdv A outer s H E hr => ?_
  have nd := sc_law_pairs.nd
  have hu6 := hr.units
  have hu7 := hu7_of hr
  unfold mB_law_pairs
  exact ⟨_, (mss_cons (ms_own (i := 2) nd rfl (by first | exact .inl rfl | exact .inr rfl) (mf_lst ma_nil))
    (mss_cons (ms_for PassesOwn.never rfl (mi_range1 (by rfl) T.z_range (mab_cons (ME.brw (kme_call K rfl ((ok_law_pick T).mono (by omega)) hr (by rfl) T.g_law_pick T.F_law_pick.kp T.b_law_pick (ma_cons (me_var 0) (ma_cons (MF.frz (mf_lst (ma_cons me_int (ma_cons me_int (ma_cons me_int (ma_cons me_int (ma_cons me_int (ma_cons me_int ma_nil)))))))) ma_nil)))) mab_nil)) (mg_name (i := 3) (vs := [3]) (by decide) nd rfl (by first | exact .inl rfl | exact .inr rfl)) (mss_cons (ms_set (i := 4) nd rfl (by first | exact .inl rfl | exact .inr rfl) (kme_call K rfl ((ok_law_word T).mono (by omega)) hr (by rfl) T.g_law_word T.F_law_word.kp T.b_law_word (ma_cons (me_var 0) ma_nil)))
    (mss_one (ms_if (mt_cmp (kor_notIn K rfl) notIn_ok (mb_var 4) (mb_var 2) (by rfl)) (mss_one (ms_append (i := 2) rfl (by first | exact .inl rfl | exact .inr rfl) (ma_cons (me_var 4) ma_nil))) mss_nil))))
    (mss_cons (ms_own (i := 5) nd rfl (by first | exact .inl rfl | exact .inr rfl) (mf_lst ma_nil))
    (mss_cons (ms_for PassesOwn.never rfl (kmi_seq K rfl (me_cb (kcr_sort K rfl hu7) sorted_ok (by rfl) T.z_sorted (by decide +kernel) (mab_cons (mb_var 2) mab_nil))) (mg_name (i := 4) (vs := [4]) (by decide) nd rfl (by first | exact .inl rfl | exact .inr rfl)) (mss_cons (ms_set (i := 6) nd rfl (by first | exact .inl rfl | exact .inr rfl) (kme_call K rfl ((ok_law_number T).mono (by omega)) hr (by rfl) T.g_law_number T.F_law_number.kp T.b_law_number (ma_cons (me_var 0) ma_nil)))
    (mss_cons (ms_if (mt_cmp (kor_eq K rfl hu6) eq_ok (ME.brw (kme_call K rfl ((ok_law_next T).mono (by omega)) hr (by rfl) T.g_law_next T.F_law_next.kp T.b_law_next (ma_cons (me_var 0) (ma_cons me_int ma_nil)))) (ME.brw me_int) (nomark _)) (mss_one (ms_set (i := 6) nd rfl (by first | exact .inl rfl | exact .inr rfl) (me_if (mt_cmp (kor_eq K rfl hu6) eq_ok (mb_var 1) (ME.brw me_str) (nomark _)) (kme_call K rfl ((ok_law_word T).mono (by omega)) hr (by rfl) T.g_law_word T.F_law_word.kp T.b_law_word (ma_cons (me_var 0) ma_nil)) (me_if (mt_cmp op_lt lt_ok (mb_var 6) (ME.brw me_int) (nomark _)) (me_op op_sub sub_ok (ME.brw (me_un un_neg neg_ok (ME.brw me_int))) (mb_var 6)) (me_un un_neg neg_ok (mb_var 6)))))) mss_nil)
    (mss_one (ms_append (i := 5) rfl (by first | exact .inl rfl | exact .inr rfl) (ma_cons (me_tup (ma_cons (me_var 4) (ma_cons (me_var 6) ma_nil))) ma_nil))))))
    (mss_one (ms_ret (me_cty (kcr_tuple K rfl) tuple_ok (by rfl) T.z_tuple (by decide +kernel) (mab_cons (mb_var 5) mab_nil))))))))⟩
/-! _law_drawn: 0 w, 1 kind, 2 k -/
abbrev Nlaw_drawn : List Str := ["w", "kind", "k"]
def mB_law_drawn : MStm := (mRet (mCB fTuple (mCons (mLc [2] (mRng1 (mCons (mCall 2 m_law_next (mCons (mVar 0) (mCons (mC (.int 6)) mNil))) mNil)) (gN 2) mYes (mTup (mCons (mCall 2 m_law_pick (mCons (mVar 0) (mCons (mLst (mCons (mC (.int 0)) (mCons (mC (.int 1)) (mCons (mC (.int 2)) (mCons (mC (.int 9)) (mCons (mC (.int 10)) (mCons (mC (.int 29)) mNil))))))) mNil))) (mCons (mCall 2 m_law_pairs (mCons (mVar 0) (mCons (mVar 1) mNil))) mNil)))) mNil)))
def m_law_drawn : List D → WS → Option (D × WS) := mDef 2 3 mB_law_drawn
theorem sc_law_drawn : FnScope Nlaw_drawn ["w", "kind"] (defScope s_law_drawn) := ⟨rfl, rfl, rfl, by decide +kernel, rfl, by decide +kernel, by decide +kernel⟩
theorem ok_law_drawn (T : Txt K mg) : FnOk P w K mg base CX0 5 T.f_law_drawn T.fd_law_drawn ["w", "kind"] (spM K 2 m_law_drawn) := by
  unfold m_law_drawn
  refine kfn_ok (k := 4) rfl rfl T.F_law_drawn sc_law_drawn fun cdv A outer s H E hr => ?_
  have nd := sc_law_drawn.nd
  unfold mB_law_drawn
  exact ⟨_, (mss_one (ms_ret (me_cty (kcr_tuple K rfl) tuple_ok (by rfl) T.z_tuple (by decide +kernel) (mab_cons (ME.brw (MF.frz (mf_lc (own := [("k", 2)]) rfl nd (mi_range1 (by rfl) T.z_range (mab_cons (ME.brw (kme_call K rfl ((ok_law_next T).mono (by omega)) hr (by rfl) T.g_law_next T.F_law_next.kp T.b_law_next (ma_cons (me_var 0) (ma_cons me_int ma_nil)))) mab_nil)) (blkOk_by (N := Nlaw_drawn) (sc := defScope s_law_drawn) (by decide +kernel)) (fun _ _ _ _ _ => (mg_name (i := 2) (vs := [2]) (by decide) nd rfl (by first | exact .inl rfl | exact .inr rfl))) (fun _ _ _ _ _ => mts_nil) (fun _ _ _ _ _ => (me_tup (ma_cons (kme_call K rfl ((ok_law_pick T).mono (by omega)) hr (by rfl) T.g_law_pick T.F_law_pick.kp T.b_law_pick (ma_cons (me_var 0) (ma_cons (MF.frz (mf_lst (ma_cons me_int (ma_cons me_int (ma_cons me_int (ma_cons me_int (ma_cons me_int (ma_cons me_int ma_nil)))))))) ma_nil))) (ma_cons (kme_call K rfl ((ok_law_pairs T).mono (by omega)) hr (by rfl) T.g_law_pairs T.F_law_pairs.kp T.b_law_pairs (ma_cons (me_var 0) (ma_cons (me_var 1) ma_nil))) ma_nil))))))) mab_nil))))⟩
/-! _law_row: 0 kind, 1 k, 2 pairs, 3 text, 4 name, 5 thing -/
abbrev Nlaw_row : List Str := ["kind", "k", "pairs", "text", "name", "thing"]
def mB_law_row : MStm := (mSeq (mAsg (mOp fJoin (mC (.str ", ")) (mLc [4, 5] (mIter (mVar 2)) (gT 2 (gsC (gN 4) (gsC (gN 5) gsN))) mYes (mOp dAdd (mOp dAdd (mVarB 4) (mC (.str " = "))) (mCB fStr (mCons (mVarB 5) mNil))))) (gN 3))
    (mRet (mOp dAdd (mOp dAdd (mOp dAdd (mOp dAdd (mVarB 0) (mC (.str " "))) (mCB fStr (mCons (mVarB 1) mNil))) (mC (.str ":"))) (mIf (mTest (mOp dNe (mVarB 2) (mTup mNil))) (mOp dAdd (mC (.str " ")) (mVarB 3)) (mC (.str ""))))))
def m_law_row : List D → WS → Option (D × WS) := mDef 3 6 mB_law_row
theorem sc_law_row : FnScope Nlaw_row ["kind", "k", "pairs"] (defScope s_law_row) := ⟨rfl, rfl, rfl, by decide +kernel, rfl, by decide +kernel, by decide +kernel⟩
theorem ok_law_row (T : Txt K mg) : FnOk P w K mg base CX0 1 T.f_law_row T.fd_law_row ["kind", "k", "pairs"] (spM K 3 m_law_row) := by
  unfold m_law_row
  refine kfn_ok (k := 0) rfl rfl T.F_law_row sc_law_row fun cdv A outer s H E hr => ?_
  have nd := sc_law_row.nd
  have hu6 := hr.units
  unfold mB_law_row
  exact ⟨_, (mss_cons (ms_set (i := 3) nd rfl (by first | exact .inl rfl | exact .inr rfl) (kme_join K rfl (ME.brw me_str) (ME.brw (MF.frz (mf_lc (own := [("name", 4), ("thing", 5)]) rfl nd (kmi_seq K rfl (me_var 2)) (blkOk_by (N := Nlaw_row) (sc := defScope s_law_row) (by decide +kernel)) (fun _ _ _ _ _ => (kmg_tup K rfl rfl (mgs_cons (mg_name (i := 4) (vs := [4, 5]) (by decide) nd rfl (by first | exact .inl rfl | exact .inr rfl)) (mgs_cons (mg_name (i := 5) (vs := [4, 5]) (by decide) nd rfl (by first | exact .inl rfl | exact .inr rfl)) mgs_nil)))) (fun _ _ _ _ _ => mts_nil) (fun _ _ _ _ _ => (me_op or_add add_ok (ME.brw (me_op or_add add_ok (mb_var 4) (ME.brw me_str))) (ME.brw (me_cty cr_strA str_ok (by rfl) T.z_str (by decide +kernel) (mab_cons (mb_var 5) mab_nil))))))))))
    (mss_one (ms_ret (me_op or_add add_ok (ME.brw (me_op or_add add_ok (ME.brw (me_op or_add add_ok (ME.brw (me_op or_add add_ok (mb_var 0) (ME.brw me_str))) (ME.brw (me_cty cr_strA str_ok (by rfl) T.z_str (by decide +kernel) (mab_cons (mb_var 1) mab_nil))))) (ME.brw me_str))) (ME.brw (me_if (mt_cmp (kor_ne K rfl hu6) ne_ok (mb_var 2) (ME.brw (me_tup ma_nil)) (nomark _)) (me_op or_add add_ok (ME.brw me_str) (mb_var 3)) me_str))))))⟩
/-! _law_text: 0 kind, 1 told, 2 k, 3 pairs -/
abbrev Nlaw_text : List Str := ["kind", "told", "k", "pairs"]
def mB_law_text : MStm := (mRet (mOp fJoin (mC (.str "")) (mLc [2, 3] (mIter (mVar 1)) (gT 2 (gsC (gN 2) (gsC (gN 3) gsN))) mYes (mOp dAdd (mCall 3 m_law_row (mCons (mVar 0) (mCons (mVar 2) (mCons (mVar 3) mNil)))) (mC (.str "\n"))))))
def m_law_text : List D → WS → Option (D × WS) := mDef 2 4 mB_law_text
theorem sc_law_text : FnScope Nlaw_text ["kind", "told"] (defScope s_law_text) := ⟨rfl, rfl, rfl, by decide +kernel, rfl, by decide +kernel, by decide +kernel⟩
theorem ok_law_text (T : Txt K mg) : FnOk P w K mg base CX0 2 T.f_law_text T.fd_law_text ["kind", "told"] (spM K 2 m_law_text) := by
  unfold m_law_text
  refine kfn_ok (k := 1) rfl rfl T.F_law_text sc_law_text fun cdv A outer s H E hr => ?_
  have nd := sc_law_text.nd
  unfold mB_law_text
  exact ⟨_, (mss_one (ms_ret (kme_join K rfl (ME.brw me_str) (ME.brw (MF.frz (mf_lc (own := [("k", 2), ("pairs", 3)]) rfl nd (kmi_seq K rfl (me_var 1)) (blkOk_by (N := Nlaw_text) (sc := defScope s_law_text) (by decide +kernel)) (fun _ _ _ _ _ => (kmg_tup K rfl rfl (mgs_cons (mg_name (i := 2) (vs := [2, 3]) (by decide) nd rfl (by first | exact .inl rfl | exact .inr rfl)) (mgs_cons (mg_name (i := 3) (vs := [2, 3]) (by decide) nd rfl (by first | exact .inl rfl | exact .inr rfl)) mgs_nil)))) (fun _ _ _ _ _ => mts_nil) (fun _ _ _ _ _ => (me_op or_add add_ok (ME.brw (kme_call K rfl ((ok_law_row T).mono (by omega)) hr (by rfl) T.g_law_row T.F_law_row.kp T.b_law_row (ma_cons (me_var 0) (ma_cons (me_var 2) (ma_cons (me_var 3) ma_nil))))) (ME.brw me_str)))))))))⟩
/-! _law_same: 0 told, 1 due, 2 k -/
abbrev Nlaw_same : List Str := ["told", "due", "k"]
def mB_law_same (rc : List D → WS → Option (D × WS)) : MStm := (mSeq (mIfS (mTest (mCB fIsi (mCons (mVarB 1) (mCons (mC (.ty "tuple")) mNil)))) (mSeq (mIfS (mOr (mNot (mTest (mCB fIsi (mCons (mVarB 0) (mCons (mC (.ty "tuple")) mNil))))) (mTest (mOp dNe (mCB fLen (mCons (mVarB 0) mNil)) (mCB fLen (mCons (mVarB 1) mNil))))) (mRet (mC (.bl false))) mSkip)
    (mRet (mOp dEq (mLc [2] (mRng1 (mCons (mCB fLen (mCons (mVarB 1) mNil)) mNil)) (gN 2) (mNot (mTest (mCall 2 rc (mCons (mOp dIx (mVarB 0) (mVarB 2)) (mCons (mOp dIx (mVarB 1) (mVarB 2)) mNil))))) (mVar 2)) (mLst mNil)))) mSkip)
    (mSeq (mIfS (mTest (mCB fIsi (mCons (mVarB 1) (mCons (mC (.ty "str")) mNil)))) (mRet (mAndV (mCB fIsi (mCons (mVarB 0) (mCons (mC (.ty "str")) mNil))) (mOp dEq (mVarB 0) (mVarB 1)))) mSkip)
    (mRet (mAndV (mCB fIsi (mCons (mVarB 0) (mCons (mC (.ty "int")) mNil))) (mAndV (mNotV (mCB fIsi (mCons (mVarB 0) (mCons (mC (.ty "bool")) mNil)))) (mOp dEq (mVarB 0) (mVarB 1)))))))
def m_law_same : Nat → List D → WS → Option (D × WS)
  | 0 => fun _ _ => none
  | n + 1 => mDef 2 3 (mB_law_same (m_law_same n))
theorem sc_law_same : FnScope Nlaw_same ["told", "due"] (defScope s_law_same) := ⟨rfl, rfl, rfl, by decide +kernel, rfl, by decide +kernel, by decide +kernel⟩
theorem ok_law_same (T : Txt K mg) : ∀ n : Nat, FnOk P w K mg base CX0 (n + 1) T.f_law_same T.fd_law_same ["told", "due"] (spM K 2 (m_law_same n))
  | 0 => fn_none
  | n + 1 => by
    have ih := ok_law_same T n
    show FnOk P w K mg base CX0 _ _ _ _ (spM K 2 (mDef 2 3 (mB_law_same (m_law_same n))))
    refine (kfn_ok (k := n + 1) rfl rfl T.F_law_same sc_law_same fun cdv A outer s H E hr => ?_).mono (by omega)
    have nd := sc_law_same.nd
    have hu6 := hr.units
    unfold mB_law_same
    exact ⟨_, (mss_cons (ms_if (mt_val (me_cb (kcr_isi K rfl) isi_ok (by rfl) T.z_isinstance (by decide +kernel) (mab_cons (mb_var 1) (mab_cons (ME.brw (me_ty (by rfl) T.z_tuple (by decide +kernel))) mab_nil)))) (mss_cons (ms_if (MW.tst (mw_or (mt_not (mt_val (me_cb (kcr_isi K rfl) isi_ok (by rfl) T.z_isinstance (by decide +kernel) (mab_cons (mb_var 0) (mab_cons (ME.brw (me_ty (by rfl) T.z_tuple (by decide +kernel))) mab_nil))))) (mw_or1 (mt_cmp (kor_ne K rfl hu6) ne_ok (ME.brw (me_cb (kcr_len K rfl) len_ok (by rfl) T.z_len (by decide +kernel) (mab_cons (mb_var 0) mab_nil))) (ME.brw (me_cb (kcr_len K rfl) len_ok (by rfl) T.z_len (by decide +kernel) (mab_cons (mb_var 1) mab_nil))) (nomark _))))) (mss_one (ms_ret me_bl)) mss_nil)
    (mss_one (ms_ret (me_cmp (kor_eq K rfl hu6) eq_ok (ME.brw (MF.frz (mf_lc (own := [("k", 2)]) rfl nd (mi_range1 (by rfl) T.z_range (mab_cons (ME.brw (me_cb (kcr_len K rfl) len_ok (by rfl) T.z_len (by decide +kernel) (mab_cons (mb_var 1) mab_nil))) mab_nil)) (blkOk_by (N := Nlaw_same) (sc := defScope s_law_same) (by decide +kernel)) (fun _ _ _ _ _ => (mg_name (i := 2) (vs := [2]) (by decide) nd rfl (by first | exact .inl rfl | exact .inr rfl))) (fun _ _ _ _ _ => (mts_one (mt_not (mt_val (kme_call K rfl (ih.mono (by omega)) hr (by rfl) T.g_law_same T.F_law_same.kp T.b_law_same (ma_cons (me_ix (kix K rfl) ix_ok (mb_var 0) (mb_var 2) (fun _ _ => rfl)) (ma_cons (me_ix (kix K rfl) ix_ok (mb_var 1) (mb_var 2) (fun _ _ => rfl)) ma_nil))))))) (fun _ _ _ _ _ => (me_var 2))))) (ME.brw (MF.frz (mf_lst ma_nil))) (nomark _))))) mss_nil)
    (mss_cons (ms_if (mt_val (me_cb (kcr_isi K rfl) isi_ok (by rfl) T.z_isinstance (by decide +kernel) (mab_cons (mb_var 1) (mab_cons (ME.brw (me_ty (by rfl) T.z_str (by decide +kernel))) mab_nil)))) (mss_one (ms_ret (me_and (me_cb (kcr_isi K rfl) isi_ok (by rfl) T.z_isinstance (by decide +kernel) (mab_cons (mb_var 0) (mab_cons (ME.brw (me_ty (by rfl) T.z_str (by decide +kernel))) mab_nil))) (me_one (me_cmp (kor_eq K rfl hu6) eq_ok (mb_var 0) (mb_var 1) (nomark _)))))) mss_nil)
    (mss_one (ms_ret (me_and (me_cb (kcr_isi K rfl) isi_ok (by rfl) T.z_isinstance (by decide +kernel) (mab_cons (mb_var 0) (mab_cons (ME.brw (me_ty (by rfl) T.z_int (by decide +kernel))) mab_nil))) (me_and (me_not (me_cb (kcr_isi K rfl) isi_ok (by rfl) T.z_isinstance (by decide +kernel) (mab_cons (mb_var 0) (mab_cons (ME.brw (me_ty (by rfl) T.z_bool (by decide +kernel))) mab_nil)))) (me_one (me_cmp (kor_eq K rfl hu6) eq_ok (mb_var 0) (mb_var 1) (nomark _)))))))))⟩
/-! law: 0 script, 1 w, 2 turn, 3 paper, 4 log, 5 text, 6 other -/
abbrev Nlaw : List Str := ["script", "w", "turn", "paper", "log", "text", "other"]
def mB_law : MStm := (mSeq (mFor (mRng1 (mCons (mC (.int 4)) mNil)) (gN 2) (mSeq (mPar 3 4 (mCons (mCall 2 m_law_drawn (mCons (mVar 1) (mCons (mC (.str "way")) mNil))) (mCons (mCall 2 m_law_drawn (mCons (mVar 1) (mCons (mC (.str "rule")) mNil))) mNil)))
    (mSeq (mPar 5 6 (mCons (mCall 2 m_law_text (mCons (mC (.str "way")) (mCons (mVar 3) mNil))) (mCons (mCall 2 m_law_text (mCons (mC (.str "rule")) (mCons (mVar 4) mNil))) mNil)))
    (mSeq (mIfS (mOr (mNot (mTest (mCall 2 (m_law_same 8) (mCons (mCall 1 m_print_paper (mCons (mVar 3) mNil)) (mCons (mVar 5) mNil))))) (mNot (mTest (mCall 2 (m_law_same 8) (mCons (mCall 1 m_print_log (mCons (mVar 4) mNil)) (mCons (mVar 6) mNil)))))) (mRet (mC (.bl false))) mSkip)
    (mIfS (mOr (mNot (mTest (mCall 2 (m_law_same 8) (mCons (mCall 1 m_read_paper (mCons (mVar 5) mNil)) (mCons (mVar 3) mNil))))) (mNot (mTest (mCall 2 (m_law_same 8) (mCons (mCall 1 m_read_log (mCons (mVar 6) mNil)) (mCons (mVar 4) mNil)))))) (mRet (mC (.bl false))) mSkip)))))
    (mRet (mC (.bl true))))
theorem sc_law : FnScope Nlaw ["script"] (defScope s_law) := ⟨rfl, rfl, rfl, by decide +kernel, rfl, by decide +kernel, by decide +kernel⟩
/-- what is left to be shown in plain Lean -/
def LawRuns : Prop := ∀ ns : List Int, ns.length ≤ 63 → ∃ draws W', m_law_draws [.fl (ns.map .int), .int 900] none = some (.lst (draws.map .int), none) ∧ mB_law ⟨[.u, .imm .wh] ++ List.replicate 5 .u, some (draws, 0)⟩ = some (.rt (.bl true) W')
def spLaw (K : PySem.W.Frag) : Sp := fun vs H Q _ => ∃ (a : Addr) (ns : List Int), vs = [.ref a] ∧ SqL K H a (ns.map V.int) ∧ ns.length ≤ 63 ∧ ∀ H', Q (.bl true) H'
theorem ok_law (T : Txt K mg) (hl : LawRuns) : FnOk P w K mg base CX0 10 T.f_law T.fd_law ["script"] (spLaw K) := by
  refine T.F_law.ok sc_law (fun vs H Q E h => ?_) (fun cdv A outer s H vs Q E hr h => ?_)
  · obtain ⟨a, ns, rfl, _⟩ := h
    rfl
  obtain ⟨a, ns, rfl, hS, h63, q⟩ := h
  obtain ⟨draws, W', hd, hrun⟩ := hl ns h63
  have nd := sc_law.nd
  have rest : ∃ t, MSs (cxOf CX0 P w K mg base Nlaw "law" (defScope s_law) T.f_law cdv A outer s H E).nox ((defBody s_law).drop 1) t mB_law := by
    unfold mB_law
    exact ⟨_, (mss_cons (ms_for PassesOwn.never rfl (mi_range1 (by rfl) T.z_range (mab_cons (ME.brw me_int) mab_nil)) (mg_name (i := 2) (vs := [2]) (by decide) nd rfl (by first | exact .inl rfl | exact .inr rfl)) (mss_cons (ms_par (i := 3) (j := 4) rfl nd rfl rfl (by decide) rfl rfl (ma_cons (kme_call K rfl ((ok_law_drawn T).mono (by omega)) hr (by rfl) T.g_law_drawn T.F_law_drawn.kp T.b_law_drawn (ma_cons (me_var 1) (ma_cons me_str ma_nil))) (ma_cons (kme_call K rfl ((ok_law_drawn T).mono (by omega)) hr (by rfl) T.g_law_drawn T.F_law_drawn.kp T.b_law_drawn (ma_cons (me_var 1) (ma_cons me_str ma_nil))) ma_nil)) (by rfl))
    (mss_cons (ms_par (i := 5) (j := 6) rfl nd rfl rfl (by decide) rfl rfl (ma_cons (kme_call K rfl ((ok_law_text T).mono (by omega)) hr (by rfl) T.g_law_text T.F_law_text.kp T.b_law_text (ma_cons me_str (ma_cons (me_var 3) ma_nil))) (ma_cons (kme_call K rfl ((ok_law_text T).mono (by omega)) hr (by rfl) T.g_law_text T.F_law_text.kp T.b_law_text (ma_cons me_str (ma_cons (me_var 4) ma_nil))) ma_nil)) (by rfl))
    (mss_cons (ms_if (MW.tst (mw_or (mt_not (mt_val (kme_call K rfl ((ok_law_same T 8).mono (by omega)) hr (by rfl) T.g_law_same T.F_law_same.kp T.b_law_same (ma_cons (kme_call K rfl ((ok_print_paper T).mono (by omega)) hr (by rfl) T.g_print_paper T.F_print_paper.kp T.b_print_paper (ma_cons (me_var 3) ma_nil)) (ma_cons (me_var 5) ma_nil))))) (mw_or1 (mt_not (mt_val (kme_call K rfl ((ok_law_same T 8).mono (by omega)) hr (by rfl) T.g_law_same T.F_law_same.kp T.b_law_same (ma_cons (kme_call K rfl ((ok_print_log T).mono (by omega)) hr (by rfl) T.g_print_log T.F_print_log.kp T.b_print_log (ma_cons (me_var 4) ma_nil)) (ma_cons (me_var 6) ma_nil)))))))) (mss_one (ms_ret me_bl)) mss_nil)
    (mss_one (ms_if (MW.tst (mw_or (mt_not (mt_val (kme_call K rfl ((ok_law_same T 8).mono (by omega)) hr (by rfl) T.g_law_same T.F_law_same.kp T.b_law_same (ma_cons (kme_call K rfl ((ok_read_paper T).mono (by omega)) hr (by rfl) T.g_read_paper T.F_read_paper.kp T.b_read_paper (ma_cons (me_var 5) ma_nil)) (ma_cons (me_var 3) ma_nil))))) (mw_or1 (mt_not (mt_val (kme_call K rfl ((ok_law_same T 8).mono (by omega)) hr (by rfl) T.g_law_same T.F_law_same.kp T.b_law_same (ma_cons (kme_call K rfl ((ok_read_log T).mono (by omega)) hr (by rfl) T.g_read_log T.F_read_log.kp T.b_read_log (ma_cons (me_var 6) ma_nil)) (ma_cons (me_var 4) ma_nil)))))))) (mss_one (ms_ret me_bl)) mss_nil))))))
    (mss_one (ms_ret me_bl)))⟩
  obtain ⟨u, hu⟩ := rest
  exact ⟨_, pss_cons (ps_set (i := 1) nd rfl (.inl rfl) (pe_disp (pps_cons pe_str (pe_call ((ok_law_draws T).mono (by omega)) hr (by rfl) T.g_law_draws T.F_law_draws.kp T.b_law_draws .nil pass0 (pa_cons (pv 0) (pa_cons pe_int pa_nil))) (pps_cons pe_str pe_int pps_nil)) rfl rfl (by intro z; cases z) (by decide))) hu.ps, law_reading (by decide) hu.ok hd hrun hS q⟩
end
end Lw

set_option Elab.async false
set_option linter.all false
set_option maxRecDepth 100000
namespace Lw
open PySem PySem.Spec PyProof.Rows L2 MM
local macro_rules | `(tactic| walk_at "ev1") => `(tactic| first
  | (with_reducible refine s_seq ?_) | (with_reducible refine s_asg ?_) | (with_reducible refine s_own ?_) | (with_reducible refine s_ret ?_) | (with_reducible refine s_if ?_) | (with_reducible refine s_skip ?_) | (with_reducible refine s_par ?_)
  | (with_reducible refine r_c ?_) | ((with_reducible refine' r_vB ?e ?_); (case e => exact rfl)) | ((with_reducible refine' r_v ?e ?_); (case e => exact rfl)) | ((with_reducible refine' r_vBo ?e ?_); (case e => exact rfl)) | ((with_reducible refine' r_vo ?e ?_); (case e => exact rfl))
  | (with_reducible refine r_op ?_) | (with_reducible refine r_un ?_) | (with_reducible refine r_cons ?_) | (with_reducible refine r_nil ?_) | (with_reducible refine r_cb ?_) | (with_reducible refine r_call ?_) | (with_reducible refine r_lst ?_) | (with_reducible refine r_tup ?_)
  | (with_reducible refine r_test ?_) | (with_reducible refine r_and ?_) | (with_reducible refine r_or ?_) | (with_reducible refine r_not ?_) | (with_reducible refine r_andV ?_) | (with_reducible refine r_orV ?_) | (with_reducible refine r_notV ?_) | (with_reducible refine r_if ?_)
  | (with_reducible refine o_none ?_) | (with_reducible refine o_some ?_) | (with_reducible refine r_sl ?_) | (with_reducible refine r_iter ?_) | (with_reducible refine r_rng1 ?_) | (with_reducible refine mYes_ret ?_)
  | (refine l_gN (by simp) ?_)
  | (with_reducible refine l_addI ?_) | (with_reducible refine l_subI ?_) | (with_reducible refine l_negI ?_) | (with_reducible refine l_eqI ?_) | (with_reducible refine l_eqS ?_) | (with_reducible refine l_neI ?_) | (with_reducible refine l_neS ?_)
  | (with_reducible refine l_ltI ?_) | (with_reducible refine l_leI ?_) | (with_reducible refine l_gtI ?_) | (with_reducible refine l_geI ?_) | (with_reducible refine l_lenL ?_) | (with_reducible refine l_lenT ?_) | (with_reducible refine l_lenF ?_) | (with_reducible refine l_intI ?_) | (with_reducible refine l_absI ?_) | (with_reducible refine l_tupL ?_) | (with_reducible refine l_bl ?_) | (with_reducible refine l_int ?_) | (with_reducible refine l_itL ?_) | (with_reducible refine l_itT ?_) | (with_reducible refine l_itS ?_)
  | (refine And.intro (Eq.refl (_ : Nat)) ?_) | (dsimp only))
local macro_rules | `(tactic| walk_at "ev") => `(tactic| (walk_at "ev1"; repeat (walk_at "ev1")))
/-! ### the drawing -/
def Wok (W : WS) : Prop := ∃ ds k, W = some (ds, k) ∧ 0 ≤ k
theorem next_ok {n : Int} (hn : 0 < n) {W : WS} (h : Wok W) : ∃ i W', m_law_next [.wh, .int n] W = some (.int i, W') ∧ (0 ≤ i ∧ i < n) ∧ Wok W' := by
  obtain ⟨ds, k, rfl, hk⟩ := h
  have hw : Wok (some (ds, k + 1)) := ⟨ds, k + 1, rfl, by omega⟩
  show ∃ i W', (if 0 ≤ k ∧ 0 < n then _ else none) = _ ∧ _
  rw [if_pos ⟨hk, hn⟩]
  by_cases hl : (ds.length : Int) < k + 1
  · exact ⟨0, _, if_pos hl, ⟨Int.le_refl 0, hn⟩, hw⟩
  · have hx : ds[k.toNat]? = some ds[k.toNat] := List.getElem?_eq_getElem (by omega)
    refine ⟨ds[k.toNat] % n, some (ds, k + 1), ?_, ⟨Int.emod_nonneg _ (by omega), Int.emod_lt_of_pos _ hn⟩, hw⟩
    rw [if_neg hl, hx]
    rfl
theorem atI_to {α : Type} {xs : List α} {i : Int} {d : α} (h0 : 0 ≤ i) (h : xs[i.toNat]? = some d) : atI xs i = some d := by
  have e : ((i.toNat : Nat) : Int) = i := by omega
  have q := atI_nat h
  rwa [e] at q
theorem pick_ok {rows : List D} (hr : rows ≠ []) {W : WS} (h : Wok W) : ∃ d W', m_law_pick [.wh, .lst rows] W = some (d, W') ∧ d ∈ rows ∧ Wok W' := by
  refine def_ret (R := fun d W' => d ∈ rows ∧ Wok W') ?_
  show RetS mB_law_pick ⟨[.imm .wh, .imm (.lst rows)], W⟩ _
  unfold mB_law_pick
  walk_at "ev"
  have h0 : 0 < rows.length := List.length_pos_iff.mpr hr
  obtain ⟨i, W1, e, hi, hW⟩ := next_ok (n := (rows.length : Int)) (by omega) h
  refine ⟨_, _, e, ?_⟩
  have hi' : i.toNat < rows.length := by omega
  refine l_ixL (d := rows[i.toNat]) ?_ ⟨List.getElem_mem _, hW⟩
  exact atI_to hi.1 (List.getElem?_eq_getElem hi')
/-! ### names and numbers -/
def Lt (c : Nat) : Prop := 97 ≤ c ∧ c ≤ 122
def Nm (c : Nat) : Prop := (97 ≤ c ∧ c ≤ 122) ∨ (48 ≤ c ∧ c ≤ 57) ∨ c = 95
instance (c : Nat) : Decidable (Lt c) := inferInstanceAs (Decidable (_ ∧ _))
instance (c : Nat) : Decidable (Nm c) := inferInstanceAs (Decidable (_ ∨ _))
structure IsNm (z : Str) : Prop where
  ex : ∃ c r, TL.tl z = c :: r ∧ Lt c ∧ (∀ x ∈ r, Nm x) ∧ r.length ≤ 7
theorem sign_of {z : Str} {n : Nat} (hz : z.cps.toList.length = n) (hn : n ≤ 1000) {i : Int} (h : 0 ≤ i ∧ i < n) : ∃ c, c ∈ z.cps.toList ∧ ∀ Q : D → Prop, Q (.str ⟨#[c]⟩) → ∃ w, dIx (.str z) (.int i) = some w ∧ Q w := by
  have hi : i.toNat < z.cps.toList.length := by omega
  refine ⟨z.cps.toList[i.toNat], List.getElem_mem _, fun Q q => l_ixS ?_ ?_ q⟩
  · rw [TL.len_tl]
    show z.cps.toList.length ≤ _
    omega
  · have ei : ((i.toNat : Nat) : Int) = i := by omega
    have q1 := atI_nat (List.getElem?_eq_getElem hi)
    rwa [ei] at q1
theorem letters_ok : ∀ c ∈ (Str.ofString "abcdefghijklmnopqrstuvwxyz").cps.toList, Lt c := by decide +kernel
theorem signs_ok : ∀ c ∈ (Str.ofString "abcdefghijklmnopqrstuvwxyz0123456789_").cps.toList, Nm c := by decide +kernel
theorem word_ok {W : WS} (h : Wok W) : ∃ z W', m_law_word [.wh] W = some (.str z, W') ∧ IsNm z ∧ Wok W' := by
  suffices ∃ d W', m_law_word [.wh] W = some (d, W') ∧ ∃ z, d = .str z ∧ IsNm z ∧ Wok W' by
    obtain ⟨d, W', e, z, rfl, r⟩ := this
    exact ⟨z, W', e, r⟩
  refine def_ret (R := fun d W' => ∃ z, d = .str z ∧ IsNm z ∧ Wok W') ?_
  show RetS mB_law_word ⟨[.imm .wh, .u, .u], W⟩ _
  unfold mB_law_word
  walk_at "ev"
  obtain ⟨i, W1, e, hi, hW⟩ := next_ok (n := 26) (by decide) h
  refine ⟨_, _, e, ?_⟩
  obtain ⟨c, hc, q⟩ := sign_of (z := Str.ofString "abcdefghijklmnopqrstuvwxyz") (n := 26) (by decide +kernel) (by decide) hi
  refine q _ ?_
  have hc := letters_ok c hc
  walk_at "ev"
  refine s_for (fun ds s => ∃ z r W x2, s = ⟨[.imm .wh, .imm (.str z), x2], W⟩ ∧ TL.tl z = c :: r ∧ (∀ x ∈ r, Nm x) ∧ r.length + ds.length ≤ 7 ∧ Wok W) ?_ ?_ ?_
  · walk_at "ev"
    refine ⟨by decide, ?_⟩
    walk_at "ev"
    obtain ⟨d, W2, e2, hd, hW2⟩ := pick_ok (rows := [.int 0, .int 0, .int 1, .int 2, .int 7]) (by decide) hW
    refine ⟨_, _, e2, ?_⟩
    obtain ⟨j, rfl, hj⟩ : ∃ j : Int, d = .int j ∧ 0 ≤ j ∧ j ≤ 7 := by
      simp only [List.mem_cons, List.not_mem_nil, or_false] at hd
      rcases hd with rfl | rfl | rfl | rfl | rfl <;> exact ⟨_, rfl, by decide, by decide⟩
    walk_at "ev"
    refine ⟨_, rfl, ⟨by omega, by omega⟩, ?_⟩
    refine ⟨_, [], _, _, rfl, rfl, fun x hx => absurd hx List.not_mem_nil, ?_, hW2⟩
    rw [List.length_nil, ranged, List.length_map, List.length_range]
    omega
  · rintro d ds _ ⟨z, r, W3, x2, rfl, hz, hr, hl, hW3⟩
    rw [List.length_cons] at hl
    walk_at "ev"
    obtain ⟨i, W4, e, hi, hW4⟩ := next_ok (n := 37) (by decide) hW3
    refine ⟨_, _, e, ?_⟩
    obtain ⟨c', hc', q⟩ := sign_of (z := Str.ofString "abcdefghijklmnopqrstuvwxyz0123456789_") (n := 37) (by decide +kernel) (by decide) hi
    refine q _ ?_
    have hc' := signs_ok c' hc'
    have hzl : z.length = r.length + 1 := by rw [TL.len_tl, hz, List.length_cons]
    refine l_addS (by rw [hzl]; show r.length + 1 + 1 ≤ _; omega) ?_
    walk_at "ev"
    refine ⟨_, r ++ [c'], W4, _, rfl, ?_, fun x hx => ?_, ?_, hW4⟩
    · rw [TL.tl_append, hz]
      rfl
    · rcases List.mem_append.mp hx with hx | hx
      · exact hr x hx
      · rw [List.mem_singleton.mp hx]
        exact hc'
    · rw [List.length_append, List.length_singleton]
      omega
  · rintro _ ⟨z, r, W3, x2, rfl, hz, hr, hl, hW3⟩
    walk_at "ev"
    exact ⟨z, rfl, ⟨c, r, hz, hc, hr, by simpa using hl⟩, hW3⟩
theorem number_ok {W : WS} (h : Wok W) : ∃ n W', m_law_number [.wh] W = some (.int n, W') ∧ (0 ≤ n ∧ n < 1000000000) ∧ Wok W' := by
  suffices ∃ d W', m_law_number [.wh] W = some (d, W') ∧ ∃ n, d = .int n ∧ (0 ≤ n ∧ n < 1000000000) ∧ Wok W' by
    obtain ⟨d, W', e, z, rfl, r⟩ := this
    exact ⟨z, W', e, r⟩
  refine def_ret (R := fun d W' => ∃ n, d = .int n ∧ (0 ≤ n ∧ n < 1000000000) ∧ Wok W') ?_
  show RetS mB_law_number ⟨[.imm .wh], W⟩ _
  unfold mB_law_number
  walk_at "ev"
  obtain ⟨i, W1, e, hi, hW1⟩ := next_ok (n := 100) (by decide) h
  refine ⟨_, _, e, ?_⟩
  walk_at "ev"
  refine l_mulI (y := 997) (.inr ⟨by decide, by decide⟩) ?_
  walk_at "ev"
  obtain ⟨j, W2, e2, hj, hW2⟩ := next_ok (n := 997) (by decide) hW1
  refine ⟨_, _, e2, ?_⟩
  walk_at "ev"
  refine ⟨by simp, ?_⟩
  walk_at "ev"
  obtain ⟨d, W3, e3, hd, hW3⟩ := pick_ok (rows := [.int 0, .int 1, .int 7, .int 10, .int 997, .int 999999999, .int (i * 997 + j)]) (by simp) hW2
  refine ⟨_, _, e3, ?_⟩
  show ∃ n, d = .int n ∧ (0 ≤ n ∧ n < 1000000000) ∧ Wok W3
  simp only [List.mem_cons, List.not_mem_nil, or_false] at hd
  rcases hd with rfl | rfl | rfl | rfl | rfl | rfl | rfl <;> exact ⟨_, rfl, by omega, hW3⟩
/-! ### texts in order -/
def leS (a b : Str) : Bool := decide (TL.tl a ≤ TL.tl b)
def sortS (l : List Str) : List Str := l.mergeSort leS
def okS (z : Str) : Prop := ∀ c ∈ TL.tl z, c < 1114112
theorem shp_str {z : Str} (h : okS z) : SeqAt.shaped (.str z) = true := by
  unfold SeqAt.shaped
  rw [Bool.and_eq_true]
  refine ⟨?_, by simp [PyData.depth]⟩
  show PyData.strOk z = true
  unfold PyData.strOk
  rw [Array.all_eq_true']
  intro c hc
  exact decide_eq_true (h c (Array.mem_def.mp hc))
theorem leD_str (a b : Str) : leD (.str a) (.str b) = leS a b := by
  have := congrFun (congrFun (PySem.W.dataLe_str (fun z : Str => z)) a) b
  exact this
theorem sortable_strs {l : List Str} (h : ∀ z ∈ l, okS z) (hl : l.length ≤ 16777216) : sortableB ((l.map D.str).map toP) = true := by
  unfold sortableB
  have e : (l.map D.str).map toP = l.map PyData.str := by rw [List.map_map]; rfl
  rw [e]
  simp only [Bool.and_eq_true, List.all_eq_true, Bool.or_eq_true]
  refine ⟨⟨⟨fun a ha b hb => ?_, .inr fun a ha => ?_⟩, fun a ha => ?_⟩, ?_⟩
  · obtain ⟨x, _, rfl⟩ := List.mem_map.mp ha
    obtain ⟨y, _, rfl⟩ := List.mem_map.mp hb
    simp [PySem.W.alike]
  · obtain ⟨x, _, rfl⟩ := List.mem_map.mp ha
    rfl
  · obtain ⟨x, hx, rfl⟩ := List.mem_map.mp ha
    exact shp_str (h x hx)
  · rw [List.length_map]
    exact decide_eq_true hl
theorem dSort_strs {l : List Str} (h : ∀ z ∈ l, okS z) (hl : l.length ≤ 16777216) : dSort (l.map .str) = some ((sortS l).map .str) := by
  unfold dSort
  rw [if_pos (sortable_strs h hl)]
  congr 1
  unfold sortS
  rw [List.map_mergeSort (f := D.str) (s := leD) (fun a _ b _ => (leD_str a b).symm)]
theorem leS_trans (a b c : Str) : leS a b = true → leS b c = true → leS a c = true := fun h1 h2 => decide_eq_true (List.le_trans (of_decide_eq_true h1) (of_decide_eq_true h2))
theorem leS_total (a b : Str) : (leS a b || leS b a) = true := by
  unfold leS
  rw [Bool.or_eq_true, decide_eq_true_eq, decide_eq_true_eq]
  exact List.le_total _ _
theorem sortS_pair (l : List Str) : (sortS l).Pairwise fun a b => leS a b = true := List.pairwise_mergeSort leS_trans leS_total l
theorem sortS_perm (l : List Str) : (sortS l).Perm l := List.mergeSort_perm l leS
theorem sortS_self {l : List Str} (h : l.Pairwise fun a b => leS a b = true) : sortS l = l := List.mergeSort_of_pairwise h
theorem IsNm.ok {z : Str} (h : IsNm z) : okS z := by
  obtain ⟨c, r, e, hc, hr, _⟩ := h
  intro x hx
  rw [e] at hx
  rcases List.mem_cons.mp hx with rfl | hx
  · have := hc.2; omega
  · rcases hr x hx with h | h | h <;> omega
/-! ### pairs and parts -/
inductive Tm where
  | s (z : Str)
  | n (i : Int)
def tD : Tm → D
  | .s z => .str z
  | .n i => .int i
def pD (p : Str × Tm) : D := .tup [.str p.1, tD p.2]
def psD (ps : List (Str × Tm)) : D := .tup (ps.map pD)
def eD (e : Int × List (Str × Tm)) : D := .tup [.int e.1, psD e.2]
def esD (es : List (Int × List (Str × Tm))) : D := .tup (es.map eD)
def kindS (lg : Bool) : Str := if lg then "rule" else "way"
def okT (lg : Bool) : Tm → Prop
  | .s z => lg = false ∧ IsNm z
  | .n i => (if lg = true then -1000000000 < i else 0 ≤ i) ∧ i < 1000000000
structure OkPs (lg : Bool) (ps : List (Str × Tm)) : Prop where
  nm : ∀ p ∈ ps, IsNm p.1
  tm : ∀ p ∈ ps, okT lg p.2
  len : ps.length ≤ 6
  up : ps.Pairwise fun a b => leS a.1 b.1 = true
  nd : (ps.map (·.1)).Nodup
structure OkE (lg : Bool) (e : Int × List (Str × Tm)) : Prop where
  k : 0 ≤ e.1 ∧ e.1 < 1000
  ps : OkPs lg e.2
theorem kind_way (lg : Bool) : decide (kindS lg = Str.ofString "way") = !lg := by cases lg <;> decide +kernel
theorem inV_str (x : Str) : ∀ l : List Str, inV (.str x) (l.map V.str) = decide (x ∈ l)
  | [] => rfl
  | y :: l => by
    unfold inV
    rw [List.map_cons, List.any_cons]
    have ih := inV_str x l
    unfold inV at ih
    rw [ih]
    show ((y == x) || decide (x ∈ l)) = decide (x ∈ y :: l)
    by_cases h : x = y
    · subst h; simp
    · have h' : ¬ y = x := fun z => h z.symm
      simp [h, h']
theorem notIn_strs {x : Str} {l : List Str} {Q : D → Prop} (q : Q (.bl (!decide (x ∈ l)))) : ∃ z, dNotIn (.str x) (.lst (l.map .str)) = some z ∧ Q z := by
  refine ⟨_, ?_, q⟩
  unfold dNotIn inB
  have h : (flatD (.str x) && (l.map D.str).all flatD) = true := by
    rw [Bool.and_eq_true]
    refine ⟨rfl, ?_⟩
    rw [List.all_eq_true]
    intro d hd
    obtain ⟨y, _, rfl⟩ := List.mem_map.mp hd
    rfl
  simp only [h, if_true, List.map_map]
  have e : (toV ∘ D.str) = V.str := rfl
  rw [e, show toV (.str x) = V.str x from rfl, inV_str]
  rfl
theorem l_sorted {l : List Str} {Q : D → Prop} (h : ∀ z ∈ l, IsNm z) (hl : l.length ≤ 1000) (q : Q (.lst ((sortS l).map .str))) : ∃ z, fSorted [.lst (l.map .str)] = some z ∧ Q z := by
  refine ⟨_, ?_, q⟩
  unfold fSorted
  simp only [dSort_strs (fun z hz => (h z hz).ok) (Nat.le_trans hl (by decide)), Option.map_some]
/-- the second loop: ps are made, r is left -/
def I2 (lg : Bool) (l : List Str) (x3 : AV) (ds : List D) (s : S) : Prop := ∃ (ps : List (Str × Tm)) (r : List Str) (W : WS) (x4 x6 : AV), s = ⟨[.imm .wh, .imm (.str (kindS lg)), .own (.lst (l.map .str)), x3, x4, .own (.lst (ps.map pD)), x6], W⟩ ∧ ds = r.map .str ∧ ps.map (·.1) ++ r = sortS l ∧ (∀ p ∈ ps, okT lg p.2) ∧ Wok W
theorem pairs_ok (lg : Bool) {W : WS} (h : Wok W) : ∃ ps W', m_law_pairs [.wh, .str (kindS lg)] W = some (psD ps, W') ∧ OkPs lg ps ∧ Wok W' := by
  suffices ∃ d W', m_law_pairs [.wh, .str (kindS lg)] W = some (d, W') ∧ ∃ ps, d = psD ps ∧ OkPs lg ps ∧ Wok W' by
    obtain ⟨d, W', e, z, rfl, r⟩ := this
    exact ⟨z, W', e, r⟩
  refine def_ret (R := fun d W' => ∃ ps, d = psD ps ∧ OkPs lg ps ∧ Wok W') ?_
  show RetS mB_law_pairs ⟨[.imm .wh, .imm (.str (kindS lg)), .u, .u, .u, .u, .u], W⟩ _
  unfold mB_law_pairs
  walk_at "ev"
  refine ⟨by decide, by simp, ?_⟩
  walk_at "ev"
  refine s_for (fun ds s => ∃ (l : List Str) (W : WS) (x3 x4 : AV), s = ⟨[.imm .wh, .imm (.str (kindS lg)), .own (.lst (l.map .str)), x3, x4, .u, .u], W⟩ ∧ (∀ z ∈ l, IsNm z) ∧ l.Nodup ∧ l.length + ds.length ≤ 6 ∧ Wok W) ?_ ?_ ?_
  · walk_at "ev"
    refine ⟨by decide, ?_⟩
    walk_at "ev"
    obtain ⟨d, W2, e2, hd, hW2⟩ := pick_ok (rows := [.int 0, .int 1, .int 1, .int 2, .int 3, .int 6]) (by decide) h
    refine ⟨_, _, e2, ?_⟩
    obtain ⟨j, rfl, hj⟩ : ∃ j : Int, d = .int j ∧ 0 ≤ j ∧ j ≤ 6 := by
      simp only [List.mem_cons, List.not_mem_nil, or_false] at hd
      rcases hd with rfl | rfl | rfl | rfl | rfl | rfl <;> exact ⟨_, rfl, by decide, by decide⟩
    walk_at "ev"
    refine ⟨_, rfl, ⟨by omega, by omega⟩, ?_⟩
    refine ⟨[], _, _, _, rfl, fun x hx => absurd hx List.not_mem_nil, List.nodup_nil, ?_, hW2⟩
    rw [List.length_nil, ranged, List.length_map, List.length_range]
    omega
  · rintro d ds _ ⟨l, W3, x3, x4, rfl, hn, hd, hl, hW3⟩
    rw [List.length_cons] at hl
    walk_at "ev"
    obtain ⟨z, W4, e4, hz, hW4⟩ := word_ok hW3
    refine ⟨_, _, e4, ?_⟩
    walk_at "ev"
    refine notIn_strs ?_
    refine ⟨_, rfl, ?_⟩
    by_cases hm : z ∈ l
    · rw [decide_eq_true hm]
      refine iteF ?_
      walk_at "ev"
      exact ⟨l, W4, _, _, rfl, hn, hd, by omega, hW4⟩
    · rw [decide_eq_false hm]
      refine iteT ?_
      refine s_mut (ds0 := l.map .str) rfl ?_
      walk_at "ev"
      refine ⟨_, _, rfl, if_pos (by rw [List.length_map]; omega), ?_⟩
      refine ⟨l ++ [z], W4, .imm d, .imm (.str z), ?_, fun y hy => ?_, ?_, ?_, hW4⟩
      · rw [List.map_append]
        rfl
      · rcases List.mem_append.mp hy with hy | hy
        · exact hn y hy
        · rw [List.mem_singleton.mp hy]
          exact hz
      · rw [List.nodup_append]
        refine ⟨hd, by simp, fun a ha b hb => ?_⟩
        rw [List.mem_singleton.mp hb]
        rintro rfl
        exact hm ha
      · rw [List.length_append, List.length_singleton]
        omega
  · rintro _ ⟨l, W3, x3, x4, rfl, hn, hd, hl, hW3⟩
    rw [List.length_nil] at hl
    walk_at "ev"
    refine ⟨by decide, by simp, ?_⟩
    walk_at "ev"
    have hsn : ∀ z ∈ sortS l, IsNm z := fun z hz => hn z ((sortS_perm l).mem_iff.mp hz)
    have hsd : (sortS l).Nodup := (sortS_perm l).nodup_iff.mpr hd
    have hsl : (sortS l).length ≤ 6 := by rw [(sortS_perm l).length_eq]; omega
    refine s_for (I2 lg l x3) ?_ ?_ ?_
    · walk_at "ev"
      refine l_sorted hn (by omega) ?_
      refine ⟨_, rfl, [], sortS l, W3, _, _, rfl, rfl, rfl, fun p hp => absurd hp List.not_mem_nil, hW3⟩
    · rintro d ds _ ⟨ps, r, W4, x4, x6, rfl, hds, hr, ht, hW4⟩
      cases r with
      | nil => cases hds
      | cons z r =>
        rw [List.map_cons] at hds
        injection hds with h1 h2
        subst h1 h2
        have hz : IsNm z := hsn z (by rw [← hr]; simp)
        have hpl : ps.length ≤ 6 := by
          have := congrArg List.length hr
          rw [List.length_append, List.length_map] at this
          omega
        -- what is appended
        have fin : ∀ (t : Tm) (W7 : WS) (PO : Out → Prop), okT lg t → Wok W7 → (∀ s3, I2 lg l x3 (r.map .str) s3 → PO (.nx s3)) →
            RetS (mMut 5 fApp (mCons (mTup (mCons (mVar 4) (mCons (mVar 6) mNil))) mNil)) ⟨[.imm .wh, .imm (.str (kindS lg)), .own (.lst (l.map .str)), x3, .imm (.str z), .own (.lst (ps.map pD)), .imm (tD t)], W7⟩ PO := by
          intro t W7 PO hot hW7 q
          refine s_mut (ds0 := ps.map pD) rfl ?_
          walk_at "ev"
          refine ⟨by simp, ?_⟩
          walk_at "ev"
          refine ⟨_, _, rfl, if_pos (by rw [List.length_map]; omega), ?_⟩
          refine q _ ⟨ps ++ [(z, t)], r, W7, .imm (.str z), .imm (tD t), ?_, rfl, ?_, fun p hp => ?_, hW7⟩
          · rw [List.map_append]
            rfl
          · rw [List.map_append, List.append_assoc]
            exact hr
          · rcases List.mem_append.mp hp with hp | hp
            · exact ht p hp
            · rw [List.mem_singleton.mp hp]
              exact hot
        walk_at "ev"
        obtain ⟨n, W5, e5, hn5, hW5⟩ := number_ok hW4
        refine ⟨_, _, e5, ?_⟩
        walk_at "ev"
        obtain ⟨i, W6, e6, hi6, hW6⟩ := next_ok (n := 2) (by decide) hW5
        refine ⟨_, _, e6, ?_⟩
        walk_at "ev"
        refine ite2 (fun _ => ?_) (fun _ => ?_)
        · walk_at "ev"
          rw [kind_way]
          cases lg with
          | false =>
            refine iteT ?_
            walk_at "ev"
            obtain ⟨y, W7, e7, hy, hW7⟩ := word_ok hW6
            refine ⟨_, _, e7, ?_⟩
            walk_at "ev"
            exact fin (.s y) W7 _ ⟨rfl, hy⟩ hW7 fun _ h => h
          | true =>
            refine iteF ?_
            walk_at "ev"
            refine ite2 (fun h9 => ?_) (fun h9 => ?_)
            · have h9 := of_decide_eq_true h9
              walk_at "ev"
              exact fin (.n (-1 - n)) W6 _ ⟨by show -1000000000 < -1 - n; omega, by omega⟩ hW6 fun _ h => h
            · walk_at "ev"
              exact fin (.n (-n)) W6 _ ⟨by show -1000000000 < -n; omega, by omega⟩ hW6 fun _ h => h
        · walk_at "ev"
          refine fin (.n n) W6 _ ⟨?_, by omega⟩ hW6 fun _ h => h
          split <;> omega
    · rintro _ ⟨ps, r, W4, x4, x6, rfl, hds, hr, ht, hW4⟩
      cases r with
      | cons z r => cases hds
      | nil =>
        rw [List.append_nil] at hr
        walk_at "ev"
        refine ⟨ps, rfl, ⟨fun p hp => hsn _ (by rw [← hr]; exact List.mem_map.mpr ⟨p, hp, rfl⟩), ht, ?_, ?_, by rw [hr]; exact hsd⟩, hW4⟩
        · have := congrArg List.length hr
          rw [List.length_map] at this
          omega
        · have := sortS_pair l
          rw [← hr, List.pairwise_map] at this
          exact this
theorem drawn_ok (lg : Bool) {W : WS} (h : Wok W) : ∃ es W', m_law_drawn [.wh, .str (kindS lg)] W = some (esD es, W') ∧ (∀ e ∈ es, OkE lg e) ∧ es.length ≤ 5 ∧ Wok W' := by
  suffices ∃ d W', m_law_drawn [.wh, .str (kindS lg)] W = some (d, W') ∧ ∃ es, d = esD es ∧ (∀ e ∈ es, OkE lg e) ∧ es.length ≤ 5 ∧ Wok W' by
    obtain ⟨d, W', e, z, rfl, r⟩ := this
    exact ⟨z, W', e, r⟩
  refine def_ret (R := fun d W' => ∃ es, d = esD es ∧ (∀ e ∈ es, OkE lg e) ∧ es.length ≤ 5 ∧ Wok W') ?_
  show RetS mB_law_drawn ⟨[.imm .wh, .imm (.str (kindS lg)), .u], W⟩ _
  unfold mB_law_drawn
  walk_at "ev"
  refine r_lc (fun ds s acc => ∃ (es : List (Int × List (Str × Tm))) (W : WS), s = ⟨[.imm .wh, .imm (.str (kindS lg)), .u], W⟩ ∧ acc = es.map eD ∧ (∀ e ∈ es, OkE lg e) ∧ es.length + ds.length ≤ 5 ∧ Wok W) ?_ ?_ ?_
  · walk_at "ev"
    obtain ⟨i, W1, e, hi, hW⟩ := next_ok (n := 6) (by decide) h
    refine ⟨_, _, e, ?_⟩
    walk_at "ev"
    refine ⟨_, rfl, ⟨by omega, by omega⟩, [], W1, rfl, rfl, fun e he => absurd he List.not_mem_nil, ?_, hW⟩
    rw [List.length_nil, ranged, List.length_map, List.length_range]
    omega
  · rintro d ds _ _ ⟨es, W1, rfl, rfl, hes, hl, hW1⟩
    rw [List.length_cons] at hl
    walk_at "ev"
    refine iteT ?_
    walk_at "ev"
    refine ⟨by simp, ?_⟩
    walk_at "ev"
    obtain ⟨d, W2, e2, hd, hW2⟩ := pick_ok (rows := [.int 0, .int 1, .int 2, .int 9, .int 10, .int 29]) (by decide) hW1
    refine ⟨_, _, e2, ?_⟩
    obtain ⟨j, rfl, hj⟩ : ∃ j : Int, d = .int j ∧ 0 ≤ j ∧ j < 1000 := by
      simp only [List.mem_cons, List.not_mem_nil, or_false] at hd
      rcases hd with rfl | rfl | rfl | rfl | rfl | rfl <;> exact ⟨_, rfl, by decide, by decide⟩
    walk_at "ev"
    obtain ⟨ps, W3, e3, hps, hW3⟩ := pairs_ok lg hW2
    refine ⟨_, _, e3, ?_⟩
    walk_at "ev"
    refine ⟨by simp, ?_⟩
    refine ⟨by rw [List.length_map]; omega, es ++ [(j, ps)], W3, rfl, ?_, fun e he => ?_, ?_, hW3⟩
    · rw [List.map_append]
      rfl
    · rcases List.mem_append.mp he with he | he
      · exact hes e he
      · rw [List.mem_singleton.mp he]
        exact ⟨hj, hps⟩
    · rw [List.length_append, List.length_singleton]
      omega
  · rintro _ _ ⟨es, W1, rfl, rfl, hes, hl, hW1⟩
    walk_at "ev"
    exact ⟨es, rfl, hes, by simpa using hl, hW1⟩
end Lw

set_option Elab.async false
set_option linter.all false
set_option maxRecDepth 100000
namespace Lw
open PySem PySem.Spec PyProof.Rows L2 MM
local macro_rules | `(tactic| walk_at "ev1") => `(tactic| first
  | (with_reducible refine s_seq ?_) | (with_reducible refine s_asg ?_) | (with_reducible refine s_own ?_) | (with_reducible refine s_ret ?_) | (with_reducible refine s_if ?_) | (with_reducible refine s_skip ?_) | (with_reducible refine s_par ?_)
  | (with_reducible refine r_c ?_) | ((with_reducible refine' r_vB ?e ?_); (case e => exact rfl)) | ((with_reducible refine' r_v ?e ?_); (case e => exact rfl)) | ((with_reducible refine' r_vBo ?e ?_); (case e => exact rfl)) | ((with_reducible refine' r_vo ?e ?_); (case e => exact rfl))
  | (with_reducible refine r_op ?_) | (with_reducible refine r_un ?_) | (with_reducible refine r_cons ?_) | (with_reducible refine r_nil ?_) | (with_reducible refine r_cb ?_) | (with_reducible refine r_call ?_) | (with_reducible refine r_lst ?_) | (with_reducible refine r_tup ?_)
  | (with_reducible refine r_test ?_) | (with_reducible refine r_and ?_) | (with_reducible refine r_or ?_) | (with_reducible refine r_not ?_) | (with_reducible refine r_andV ?_) | (with_reducible refine r_orV ?_) | (with_reducible refine r_notV ?_) | (with_reducible refine r_if ?_)
  | (with_reducible refine o_none ?_) | (with_reducible refine o_some ?_) | (with_reducible refine r_sl ?_) | (with_reducible refine r_iter ?_) | (with_reducible refine r_rng1 ?_) | (with_reducible refine mYes_ret ?_)
  | (refine l_gN (by simp) ?_)
  | (with_reducible refine l_addI ?_) | (with_reducible refine l_subI ?_) | (with_reducible refine l_negI ?_) | (with_reducible refine l_eqI ?_) | (with_reducible refine l_eqS ?_) | (with_reducible refine l_neI ?_) | (with_reducible refine l_neS ?_)
  | (with_reducible refine l_ltI ?_) | (with_reducible refine l_leI ?_) | (with_reducible refine l_gtI ?_) | (with_reducible refine l_geI ?_) | (with_reducible refine l_lenL ?_) | (with_reducible refine l_lenT ?_) | (with_reducible refine l_lenF ?_) | (with_reducible refine l_intI ?_) | (with_reducible refine l_absI ?_) | (with_reducible refine l_tupL ?_) | (with_reducible refine l_bl ?_) | (with_reducible refine l_int ?_) | (with_reducible refine l_itL ?_) | (with_reducible refine l_itT ?_) | (with_reducible refine l_itS ?_)
  | (refine And.intro (Eq.refl (_ : Nat)) ?_) | (dsimp only))
local macro_rules | `(tactic| walk_at "ev") => `(tactic| (walk_at "ev1"; repeat (walk_at "ev1")))
/-! ### the draws -/
def cutI (xs : List Int) (lo hi : Option Int) : List Int := (xs.drop (HT.sIx xs.length 0 lo)).take (HT.sIx xs.length xs.length hi - HT.sIx xs.length 0 lo)
theorem cut_map (xs : List Int) (lo hi : Option Int) : MM.cutD (xs.map .int) lo hi = (cutI xs lo hi).map .int := by
  unfold MM.cutD cutI
  rw [List.length_map, List.map_take, List.map_drop]
/-- what the loops keep: ints drawn so far, whatever the other names hold -/
theorem draws_ok {ns : List Int} (h63 : ns.length ≤ 63) {many : Int} (hm : 0 ≤ many ∧ many < 100000) : ∃ draws : List Int, m_law_draws [.fl (ns.map .int), .int many] none = some (.lst (draws.map .int), none) := by
  suffices ∃ d W', m_law_draws [.fl (ns.map .int), .int many] none = some (d, W') ∧ ∃ draws : List Int, d = .lst (draws.map .int) ∧ W' = none by
    obtain ⟨d, W', e, z, rfl, rfl⟩ := this
    exact ⟨z, e⟩
  refine def_ret (R := fun d W' => ∃ draws : List Int, d = .lst (draws.map .int) ∧ W' = none) ?_
  show RetS mB_law_draws ⟨[.imm (.fl (ns.map .int)), .imm (.int many), .u, .u, .u, .u, .u, .u], none⟩ _
  unfold mB_law_draws
  walk_at "ev"
  refine ⟨by decide, by simp, ?_⟩
  walk_at "ev"
  refine s_for (fun ds s => ∃ (l : List Int) (mx : Int) (x4 x5 x6 x7 : AV), s = ⟨[.imm (.fl (ns.map .int)), .imm (.int many), .own (.lst (l.map .int)), .imm (.int mx), x4, x5, x6, x7], none⟩ ∧ (∃ ks : List Nat, ds = ks.map (fun k => .int (0 + (k : Nat))) ∧ ∀ k ∈ ks, k < ns.length) ∧ l.length + 62 * ds.length ≤ 62 * 63) ?_ ?_ ?_
  · walk_at "ev"
    refine ⟨_, rfl, ⟨by rw [List.length_map]; omega, by rw [List.length_map]; omega⟩, ?_⟩
    refine ⟨[], 7, _, _, _, _, rfl, ⟨List.range ns.length, ?_, fun k hk => List.mem_range.mp hk⟩, ?_⟩
    · rw [List.length_map]
      rfl
    · rw [List.length_nil, ranged, List.length_map, List.length_range, List.length_map]
      omega
  · rintro d ds _ ⟨l, mx, x4, x5, x6, x7, rfl, ⟨ks, hks, hk⟩, hl⟩
    rw [List.length_cons] at hl
    cases ks with
    | nil => cases hks
    | cons k ks =>
    rw [List.map_cons] at hks
    injection hks with h1 h2
    subst h1 h2
    have hkn : k < ns.length := hk k List.mem_cons_self
    walk_at "ev"
    refine l_ixF (d := .int ns[k]) (atI_to (by omega) ?_) ?_
    · rw [show (0 + (k : Int)).toNat = k by omega, List.getElem?_map, List.getElem?_eq_getElem hkn]
      rfl
    walk_at "ev"
    refine l_mulI (y := 48271) (.inr ⟨by decide, by decide⟩) ?_
    walk_at "ev"
    refine l_modI (y := 1000003) (by decide) ?_
    walk_at "ev"
    refine l_modI (y := 65537) (by decide) ?_
    walk_at "ev"
    refine l_powI (x := 10) (y := 18) (by decide) ?_
    walk_at "ev"
    -- the inner loop
    have inner : ∀ (l1 : List Int) (mx1 x6' : Int) (y4 y5 y7 : AV), l1.length ≤ l.length + 2 → ∀ PO : Out → Prop, (∀ (l2 : List Int) (mx x6' : Int) (y4 y5 y7 : AV), l2.length ≤ l.length + 62 → PO (.nx ⟨[.imm (.fl (ns.map .int)), .imm (.int many), .own (.lst (l2.map .int)), .imm (.int mx), y4, y5, .imm (.int x6'), y7], none⟩)) →
        RetS (mFor (mRng1 (mCons (mC (.int 60)) mNil)) (gN 7) (mIfS (mTest (mOp dGt (mVarB 6) (mC (.int 0)))) (mSeq (mMut 2 fApp (mCons (mOp dMod (mCB fInt (mCons (mVarB 6) mNil)) (mC (.int 997))) mNil)) (mAsg (mOp dFdiv (mVarB 6) (mC (.int 997))) (gN 6))) mSkip))
          ⟨[.imm (.fl (ns.map .int)), .imm (.int many), .own (.lst (l1.map .int)), .imm (.int mx1), y4, y5, .imm (.int x6'), y7], none⟩ PO := by
      intro l1 mx1 x6' y4 y5 y7 hl1 PO q
      refine s_for (fun ds s => ∃ (l2 : List Int) (z6 : Int) (z7 : AV), s = ⟨[.imm (.fl (ns.map .int)), .imm (.int many), .own (.lst (l2.map .int)), .imm (.int mx1), y4, y5, .imm (.int z6), z7], none⟩ ∧ l2.length + ds.length ≤ l.length + 62) ?_ ?_ ?_
      · walk_at "ev"
        refine ⟨_, rfl, ⟨by decide, by decide⟩, l1, x6', y7, rfl, ?_⟩
        rw [ranged, List.length_map, List.length_range]
        show l1.length + 60 ≤ _
        omega
      · rintro d ds _ ⟨l2, z6, z7, rfl, hl2⟩
        rw [List.length_cons] at hl2
        walk_at "ev"
        refine ite2 (fun _ => ?_) (fun _ => ?_)
        · refine s_seq (s_mut (ds0 := l2.map .int) rfl ?_)
          walk_at "ev"
          refine l_modI (y := 997) (by decide) ?_
          walk_at "ev"
          refine ⟨_, _, rfl, if_pos (by rw [List.length_map]; omega), ?_⟩
          walk_at "ev"
          refine l_divI (y := 997) ⟨by decide, by decide⟩ ?_
          walk_at "ev"
          refine ⟨l2 ++ [z6 % 997], z6 / 997, .imm d, ?_, ?_⟩
          · rw [List.map_append]
            rfl
          · rw [List.length_append, List.length_singleton]
            omega
        · walk_at "ev"
          exact ⟨l2, z6, _, rfl, by omega⟩
      · rintro _ ⟨l2, z6, z7, rfl, hl2⟩
        exact q l2 mx1 z6 y4 y5 z7 (by simpa using hl2)
    have back : ∀ (l2 : List Int) (mx x6' : Int) (y4 y5 y7 : AV), l2.length ≤ l.length + 62 → ∃ (l' : List Int) (mx' : Int) (x4 x5 x6 x7 : AV), (⟨[.imm (.fl (ns.map .int)), .imm (.int many), .own (.lst (l2.map .int)), .imm (.int mx), y4, y5, .imm (.int x6'), y7], none⟩ : S) = ⟨[.imm (.fl (ns.map .int)), .imm (.int many), .own (.lst (l'.map .int)), .imm (.int mx'), x4, x5, x6, x7], none⟩ ∧
        (∃ ks' : List Nat, ks.map (fun k => D.int (0 + (k : Nat))) = ks'.map (fun k => D.int (0 + (k : Nat))) ∧ ∀ k ∈ ks', k < ns.length) ∧ l'.length + 62 * (ks.map (fun k => D.int (0 + (k : Nat)))).length ≤ 62 * 63 := fun l2 mx x6' y4 y5 y7 h =>
      ⟨l2, mx, y4, y5, _, y7, rfl, ⟨ks, rfl, fun k hk' => hk k (List.mem_cons_of_mem _ hk')⟩, by omega⟩
    refine ite2 (fun _ => ?_) (fun _ => ?_)
    · walk_at "ev"
      exact inner l _ _ _ _ _ (by omega) _ back
    · refine s_seq (s_mut (ds0 := l.map .int) rfl ?_)
      walk_at "ev"
      refine l_modI (y := 997) (by decide) ?_
      walk_at "ev"
      refine ⟨_, _, rfl, if_pos (by rw [List.length_map]; omega), ?_⟩
      refine s_mut rfl ?_
      walk_at "ev"
      refine l_mulI (y := 69621) (.inr ⟨by decide, by decide⟩) ?_
      walk_at "ev"
      refine l_modI (y := 65521) (by decide) ?_
      walk_at "ev"
      refine l_modI (y := 997) (by decide) ?_
      walk_at "ev"
      refine ⟨_, _, rfl, if_pos (by rw [List.length_append, List.length_map, List.length_singleton]; omega), ?_⟩
      have e2 : ∀ a b : Int, (l.map D.int ++ [D.int a]) ++ [D.int b] = (l ++ [a, b]).map D.int := fun a b => by simp
      rw [e2]
      exact inner (l ++ [_, _]) _ _ _ _ _ (by simp) _ back
  · rintro _ ⟨l, mx, x4, x5, x6, x7, rfl, hks, hl⟩
    rw [List.length_nil] at hl
    walk_at "ev"
    refine s_for (fun ds s => ∃ (l2 : List Int) (mx : Int) (x4 : AV), s = ⟨[.imm (.fl (ns.map .int)), .imm (.int many), .own (.lst (l2.map .int)), .imm (.int mx), x4, x5, x6, x7], none⟩ ∧ (∃ ks : List Nat, ds = ks.map (fun k => .int (0 + (k : Nat)))) ∧ l2.length + ds.length ≤ 200000) ?_ ?_ ?_
    · walk_at "ev"
      refine ⟨_, rfl, ⟨by omega, by omega⟩, l, mx, x4, rfl, ⟨List.range many.toNat, rfl⟩, ?_⟩
      rw [ranged, List.length_map, List.length_range]
      omega
    · rintro d ds _ ⟨l2, mx, x4, rfl, ⟨ks, hks⟩, hl2⟩
      rw [List.length_cons] at hl2
      cases ks with
      | nil => cases hks
      | cons k ks =>
      rw [List.map_cons] at hks
      injection hks with h1 h2
      subst h1 h2
      walk_at "ev"
      refine l_mulI (y := 16807) (.inr ⟨by decide, by decide⟩) ?_
      walk_at "ev"
      refine l_modI (y := 65537) (by decide) ?_
      walk_at "ev"
      refine s_mut (ds0 := l2.map .int) rfl ?_
      walk_at "ev"
      refine l_modI (y := 997) (by decide) ?_
      walk_at "ev"
      refine ⟨_, _, rfl, if_pos (by rw [List.length_map]; omega), ?_⟩
      refine ⟨l2 ++ [(mx * 16807 + (0 + (k : Int)) + 1) % 65537 % 997], (mx * 16807 + (0 + (k : Int)) + 1) % 65537, .imm (.int (0 + (k : Int))), ?_, ⟨ks, rfl⟩, ?_⟩
      · rw [List.map_append]
        rfl
      · rw [List.length_append, List.length_singleton]
        omega
    · rintro _ ⟨l2, mx, x4, rfl, hks2, hl2⟩
      walk_at "ev"
      refine l_slL ?_
      refine ⟨cutI l2 none (some many), ?_, rfl⟩
      rw [cut_map]
end Lw

set_option Elab.async false
set_option linter.all false
set_option maxRecDepth 100000
namespace Lw
open PySem PySem.Spec PyProof.Rows L2 MM
local macro_rules | `(tactic| walk_at "ev1") => `(tactic| first
  | (with_reducible refine s_seq ?_) | (with_reducible refine s_asg ?_) | (with_reducible refine s_own ?_) | (with_reducible refine s_ret ?_) | (with_reducible refine s_if ?_) | (with_reducible refine s_skip ?_) | (with_reducible refine s_par ?_)
  | (with_reducible refine r_c ?_) | ((with_reducible refine' r_vB ?e ?_); (case e => exact rfl)) | ((with_reducible refine' r_v ?e ?_); (case e => exact rfl)) | ((with_reducible refine' r_vBo ?e ?_); (case e => exact rfl)) | ((with_reducible refine' r_vo ?e ?_); (case e => exact rfl))
  | (with_reducible refine r_op ?_) | (with_reducible refine r_un ?_) | (with_reducible refine r_cons ?_) | (with_reducible refine r_nil ?_) | (with_reducible refine r_cb ?_) | (with_reducible refine r_call ?_) | (with_reducible refine r_lst ?_) | (with_reducible refine r_tup ?_)
  | (with_reducible refine r_test ?_) | (with_reducible refine r_and ?_) | (with_reducible refine r_or ?_) | (with_reducible refine r_not ?_) | (with_reducible refine r_andV ?_) | (with_reducible refine r_orV ?_) | (with_reducible refine r_notV ?_) | (with_reducible refine r_if ?_)
  | (with_reducible refine o_none ?_) | (with_reducible refine o_some ?_) | (with_reducible refine r_sl ?_) | (with_reducible refine r_iter ?_) | (with_reducible refine r_rng1 ?_) | (with_reducible refine mYes_ret ?_)
  | (refine l_gN (by simp) ?_)
  | (with_reducible refine l_addI ?_) | (with_reducible refine l_subI ?_) | (with_reducible refine l_negI ?_) | (with_reducible refine l_eqI ?_) | (with_reducible refine l_eqS ?_) | (with_reducible refine l_neI ?_) | (with_reducible refine l_neS ?_)
  | (with_reducible refine l_ltI ?_) | (with_reducible refine l_leI ?_) | (with_reducible refine l_gtI ?_) | (with_reducible refine l_geI ?_) | (with_reducible refine l_lenL ?_) | (with_reducible refine l_lenT ?_) | (with_reducible refine l_lenF ?_) | (with_reducible refine l_intI ?_) | (with_reducible refine l_absI ?_) | (with_reducible refine l_tupL ?_) | (with_reducible refine l_bl ?_) | (with_reducible refine l_int ?_) | (with_reducible refine l_itL ?_) | (with_reducible refine l_itT ?_) | (with_reducible refine l_itS ?_)
  | (refine And.intro (Eq.refl (_ : Nat)) ?_) | (dsimp only))
local macro_rules | `(tactic| walk_at "ev") => `(tactic| (walk_at "ev1"; repeat (walk_at "ev1")))
/-! ### shapes -/
def lay (d : D) (n : Nat) : Prop := (toP d).canLay0 = true ∧ (toP d).depth ≤ n
theorem lay_int (i : Int) (n : Nat) : lay (.int i) n := ⟨by simp [toP, PyData.canLay0], by simp [toP, PyData.depth]⟩
theorem lay_str {z : Str} (h : okS z) (n : Nat) : lay (.str z) n := ⟨SeqAt.canLay_of_shaped (shp_str h), by simp [toP, PyData.depth]⟩
theorem lay_all {n : Nat} : ∀ {ds : List D}, (∀ d ∈ ds, lay d n) → PyData.canLayAll0 (toPs ds) = true ∧ PyData.depthAll (toPs ds) ≤ n
  | [], _ => ⟨by simp [toPs, PyData.canLayAll0], by simp [toPs, PyData.depthAll]⟩
  | d :: ds, h => by
    obtain ⟨h1, h2⟩ := h d List.mem_cons_self
    obtain ⟨h3, h4⟩ := lay_all (n := n) fun e he => h e (List.mem_cons_of_mem _ he)
    refine ⟨by simp [toPs, PyData.canLayAll0, h1, h3], ?_⟩
    rw [toPs, PyData.depthAll]
    exact Nat.max_le.mpr ⟨h2, h4⟩
theorem lay_tup {n : Nat} {ds : List D} (h : ∀ d ∈ ds, lay d n) : lay (.tup ds) (n + 1) := by
  obtain ⟨h1, h2⟩ := lay_all h
  exact ⟨by rw [toP, PyData.canLay0]; exact h1, by rw [toP, PyData.depth]; omega⟩
theorem lay_lst {n : Nat} {ds : List D} (h : ∀ d ∈ ds, lay d n) : lay (.lst ds) (n + 1) := by
  obtain ⟨h1, h2⟩ := lay_all h
  exact ⟨by rw [toP, PyData.canLay0]; exact h1, by rw [toP, PyData.depth]; omega⟩
theorem lay_shp {d : D} {n : Nat} (h : lay d n) (hn : n ≤ 64) : shp d = true := by
  unfold shp SeqAt.shaped
  rw [Bool.and_eq_true]
  exact ⟨h.1, decide_eq_true (Nat.le_trans h.2 hn)⟩
theorem lay_mono {d : D} {n m : Nat} (h : lay d n) (hn : n ≤ m) : lay d m := ⟨h.1, Nat.le_trans h.2 hn⟩
theorem l_neD {a b : D} {Q : D → Prop} (na : ∀ i, a ≠ .int i) (ns : ∀ z, a ≠ .str z) (ha : shp a = true) (hb : shp b = true) (q : Q (.bl (!PyData.eqv (toP a) (toP b)))) : ∃ z, dNe a b = some z ∧ Q z := by
  refine ⟨_, ?_, q⟩
  unfold dNe deqB
  split
  · exact absurd rfl (na _)
  · exact absurd rfl (ns _)
  · rw [ha, hb]
    rfl
theorem l_eqD {a b : D} {Q : D → Prop} (na : ∀ i, a ≠ .int i) (ns : ∀ z, a ≠ .str z) (ha : shp a = true) (hb : shp b = true) (q : Q (.bl (PyData.eqv (toP a) (toP b)))) : ∃ z, dEq a b = some z ∧ Q z := by
  refine ⟨_, ?_, q⟩
  unfold dEq deqB
  split
  · exact absurd rfl (na _)
  · exact absurd rfl (ns _)
  · rw [ha, hb]
    rfl
/-! ### numbers as texts -/
def numS (i : Int) : Str := Str.ofString (toString i)
theorem tl_pos {i : Int} (h : 0 ≤ i) : TL.tl (numS i) = TL.numL i.toNat := by
  have := TL.tl_num i.toNat
  rwa [show ((i.toNat : Nat) : Int) = i by omega] at this
theorem tl_neg {i : Int} (h : i < 0) : TL.tl (numS i) = 45 :: TL.numL (-i).toNat := by
  obtain ⟨n, rfl⟩ : ∃ n : Nat, i = Int.negSucc n := by
    cases i with
    | ofNat n => exact absurd h (Int.not_lt.mpr (Int.natCast_nonneg n))
    | negSucc n => exact ⟨n, rfl⟩
  have e : (-(Int.negSucc n)).toNat = n + 1 := by omega
  rw [e]
  unfold numS
  rw [TL.tl_ofString]
  have e2 : toString (Int.negSucc n) = "-" ++ toString (n + 1) := rfl
  rw [e2, String.toList_append, List.map_append]
  have := TL.tl_num (n + 1)
  rw [TL.tl_ofString] at this
  rw [show toString (((n + 1 : Nat)) : Int) = toString (n + 1) from rfl] at this
  rw [this]
  rfl
theorem num_len {i : Int} (h : -1000000000 < i ∧ i < 1000000000) : (numS i).length ≤ 10 := by
  rw [TL.len_tl]
  by_cases h0 : 0 ≤ i
  · rw [tl_pos h0]
    have := TL.numL_len (n := i.toNat) (k := 9) (by decide) (by omega)
    omega
  · rw [tl_neg (by omega), List.length_cons]
    have := TL.numL_len (n := (-i).toNat) (k := 9) (by decide) (by omega)
    omega
theorem log_ok {i : Int} (h : -1000000000 < i ∧ i < 1000000000) : i.natAbs.log2 < 1920 := by
  by_cases h0 : i.natAbs = 0
  · rw [h0]; decide
  · exact (Nat.log2_lt h0).mpr (Nat.lt_of_lt_of_le (by omega : i.natAbs < 2 ^ 30) (Nat.pow_le_pow_right (by decide) (by decide)))
/-! ### the texts -/
def tS : Tm → Str
  | .s z => z
  | .n i => numS i
def pS (p : Str × Tm) : Str := p.1 ++ Str.ofString " = " ++ tS p.2
def psS (ps : List (Str × Tm)) : Str := Str.join (Str.ofString ", ") (ps.map pS)
def restS (ps : List (Str × Tm)) : Str := if ps = [] then Str.ofString "" else Str.ofString " " ++ psS ps
def rowS (lg : Bool) (e : Int × List (Str × Tm)) : Str := kindS lg ++ Str.ofString " " ++ numS e.1 ++ Str.ofString ":" ++ restS e.2
def txtS (lg : Bool) (es : List (Int × List (Str × Tm))) : Str := Str.join (Str.ofString "") (es.map fun e => rowS lg e ++ Str.ofString "\n")
theorem len_app (x y : Str) : (x ++ y).length = x.length + y.length := by rw [TL.len_tl, TL.tl_append, List.length_append, ← TL.len_tl, ← TL.len_tl]
theorem IsNm.len {z : Str} (h : IsNm z) : z.length ≤ 8 := by
  obtain ⟨c, r, e, _, _, hl⟩ := h
  rw [TL.len_tl, e, List.length_cons]
  omega
theorem okT.bound {lg : Bool} {i : Int} (h : okT lg (.n i)) : -1000000000 < i ∧ i < 1000000000 := by
  obtain ⟨h1, h2⟩ := h
  split at h1 <;> omega
theorem tS_len {lg : Bool} {t : Tm} (h : okT lg t) : (tS t).length ≤ 10 := by
  cases t with
  | s z => have := h.2.len; show z.length ≤ 10; omega
  | n i => exact num_len h.bound
theorem pS_len {lg : Bool} {p : Str × Tm} (h1 : IsNm p.1) (h2 : okT lg p.2) : (pS p).length ≤ 21 := by
  unfold pS
  rw [len_app, len_app]
  have := h1.len
  have := tS_len h2
  show p.1.length + 3 + (tS p.2).length ≤ 21
  omega
theorem join_len (a : Str) : ∀ ys : List Str, (Str.join a ys).length ≤ (ys.map (·.length)).sum + ys.length * a.length
  | [] => by show (0 : Nat) ≤ _; omega
  | [x] => by
    show x.length ≤ _
    simp
  | x :: y :: r => by
    have ih := join_len a (y :: r)
    show (x ++ a ++ Str.join a (y :: r)).length ≤ _
    rw [len_app, len_app]
    simp only [List.map_cons, List.sum_cons, List.length_cons] at ih ⊢
    rw [Nat.add_mul, Nat.one_mul]
    omega
theorem sum_le {ys : List Str} {b : Nat} (h : ∀ y ∈ ys, y.length ≤ b) : (ys.map (·.length)).sum ≤ ys.length * b := by
  induction ys with
  | nil => simp
  | cons y ys ih =>
    have h1 := h y List.mem_cons_self
    have h2 := ih fun z hz => h z (List.mem_cons_of_mem _ hz)
    rw [List.map_cons, List.sum_cons, List.length_cons, Nat.add_mul, Nat.one_mul]
    omega
theorem OkPs.sum {lg : Bool} {ps : List (Str × Tm)} (h : OkPs lg ps) : ((ps.map pS).map (·.length)).sum ≤ 126 := by
  have h1 := sum_le (ys := ps.map pS) (b := 21) fun y hy => by
    obtain ⟨p, hp, rfl⟩ := List.mem_map.mp hy
    exact pS_len (h.nm p hp) (h.tm p hp)
  rw [List.length_map] at h1
  have := h.len
  omega
theorem psS_len {lg : Bool} {ps : List (Str × Tm)} (h : OkPs lg ps) : (psS ps).length ≤ 138 := by
  have h1 := join_len (Str.ofString ", ") (ps.map pS)
  have h2 := h.sum
  have h3 := h.len
  have h4 : (Str.ofString ", ").length = 2 := rfl
  rw [List.length_map, h4] at h1
  unfold psS
  omega
theorem restS_len {lg : Bool} {ps : List (Str × Tm)} (h : OkPs lg ps) : (restS ps).length ≤ 139 := by
  unfold restS
  split
  · show (0 : Nat) ≤ _; omega
  · rw [len_app]
    have := psS_len h
    show 1 + _ ≤ _
    omega
theorem kind_len (lg : Bool) : (kindS lg).length ≤ 4 := by cases lg <;> decide
theorem rowS_len {lg : Bool} {e : Int × List (Str × Tm)} (h : OkE lg e) : (rowS lg e).length ≤ 160 := by
  unfold rowS
  rw [len_app, len_app, len_app, len_app]
  have h1 := kind_len lg
  have h2 := restS_len h.ps
  have h3 := num_len (i := e.1) ⟨by have := h.k; omega, by have := h.k; omega⟩
  have h4 : (Str.ofString " ").length = 1 := rfl
  have h5 : (Str.ofString ":").length = 1 := rfl
  omega
theorem l_ixT0 {a b : D} {Q : D → Prop} (q : Q a) : ∃ z, dIx (.tup [a, b]) (.int 0) = some z ∧ Q z := ⟨a, rfl, q⟩
theorem l_ixT1 {a b : D} {Q : D → Prop} (q : Q b) : ∃ z, dIx (.tup [a, b]) (.int 1) = some z ∧ Q z := ⟨b, rfl, q⟩
theorem l_strT {lg : Bool} {t : Tm} {Q : D → Prop} (h : okT lg t) (q : Q (.str (tS t))) : ∃ z, fStr [tD t] = some z ∧ Q z := by
  cases t with
  | s z => exact ⟨_, rfl, q⟩
  | n i => exact l_strI (log_ok h.bound) q
theorem pair_text_ok {lg : Bool} {p : Str × Tm} (h1 : IsNm p.1) (h2 : okT lg p.2) (W : WS) : ∃ d W', m_pair_text [pD p] W = some (d, W') ∧ d = .str (pS p) ∧ W' = W := by
  refine def_ret (R := fun d W' => d = .str (pS p) ∧ W' = W) ?_
  show RetS mB_pair_text ⟨[.imm (pD p)], W⟩ _
  unfold mB_pair_text
  have l1 := h1.len
  have l2 := tS_len h2
  have l3 : (Str.ofString " = ").length = 3 := rfl
  walk_at "ev"
  refine l_ixT0 ?_
  walk_at "ev"
  refine l_addS (by omega) ?_
  walk_at "ev"
  refine l_ixT1 ?_
  walk_at "ev"
  refine l_strT h2 ?_
  refine l_addS (by rw [len_app]; omega) ?_
  exact ⟨rfl, rfl⟩
/-- pairs as parts of a comprehension -/
theorem eqv_nil (ps : List (Str × Tm)) : PyData.eqv (toP (psD ps)) (toP (.tup [])) = decide (ps = []) := by
  cases ps with
  | nil => simp [psD, toP, toPs, PyData.eqv, PyData.eqvAll]
  | cons p ps => simp [psD, toP, toPs, PyData.eqv, PyData.eqvAll]
theorem lay_t {lg : Bool} {t : Tm} (h : okT lg t) (n : Nat) : lay (tD t) n := by
  cases t with
  | s z => exact lay_str h.2.ok n
  | n i => exact lay_int i n
theorem lay_ps {lg : Bool} {ps : List (Str × Tm)} (h : OkPs lg ps) : lay (psD ps) 2 := by
  refine lay_tup fun d hd => ?_
  obtain ⟨p, hp, rfl⟩ := List.mem_map.mp hd
  refine lay_tup (n := 0) fun d hd => ?_
  rcases List.mem_cons.mp hd with rfl | hd
  · exact lay_str (h.nm p hp).ok 0
  · rw [List.mem_singleton.mp hd]
    exact lay_t (h.tm p hp) 0
theorem str_assoc (a b c : Str) : a ++ b ++ c = a ++ (b ++ c) := TL.ext_tl (by rw [TL.tl_append, TL.tl_append, TL.tl_append, TL.tl_append, List.append_assoc])
theorem str_nil (a : Str) : a ++ Str.ofString "" = a := TL.ext_tl (by rw [TL.tl_append, show TL.tl (Str.ofString "") = [] from rfl, List.append_nil])
theorem row_text_ok {lg : Bool} {e : Int × List (Str × Tm)} (h : OkE lg e) (W : WS) : ∃ d W', m_row_text [.str (kindS lg), .int e.1, psD e.2] W = some (d, W') ∧ d = .str (rowS lg e ++ Str.ofString "\n") ∧ W' = W := by
  refine def_ret (R := fun d W' => d = .str (rowS lg e ++ Str.ofString "\n") ∧ W' = W) ?_
  show RetS mB_row_text ⟨[.imm (.str (kindS lg)), .imm (.int e.1), .imm (psD e.2), .u, .u], W⟩ _
  unfold mB_row_text
  have hb : -1000000000 < e.1 ∧ e.1 < 1000000000 := ⟨by have := h.k; omega, by have := h.k; omega⟩
  have l1 := kind_len lg
  have l2 := num_len hb
  have l3 : (Str.ofString " ").length = 1 := rfl
  have l4 : (Str.ofString ":").length = 1 := rfl
  have l5 := psS_len h.ps
  have l6 := h.ps.sum
  have l7 := h.ps.len
  have l8 : (Str.ofString "\n").length = 1 := rfl
  have l9 : (Str.ofString ", ").length = 2 := rfl
  walk_at "ev"
  refine l_addS (by omega) ?_
  walk_at "ev"
  refine l_strI (log_ok hb) ?_
  refine l_addS (by rw [len_app]; show _ + (numS e.1).length ≤ _; omega) ?_
  walk_at "ev"
  have lh : (kindS lg ++ Str.ofString " " ++ numS e.1 ++ Str.ofString ":").length ≤ 16 := by
    rw [len_app, len_app, len_app]
    omega
  refine l_addS (by rw [len_app, len_app]; show _ + (numS e.1).length + _ ≤ _; omega) ?_
  walk_at "ev"
  refine ⟨by decide, ?_⟩
  refine l_neD (fun _ z => nomatch z) (fun _ z => nomatch z) (lay_shp (lay_ps h.ps) (by decide)) (lay_shp (lay_tup (n := 0) (by simp)) (by decide)) ?_
  rw [eqv_nil]
  refine ⟨_, rfl, ?_⟩
  by_cases hps : e.2 = []
  · rw [decide_eq_true hps]
    refine iteF ?_
    walk_at "ev"
    refine l_addS (by show (kindS lg ++ Str.ofString " " ++ numS e.1 ++ Str.ofString ":").length + _ ≤ _; omega) ?_
    refine ⟨?_, rfl⟩
    unfold rowS restS
    rw [if_pos hps, str_nil]
    rfl
  · rw [decide_eq_false hps]
    refine iteT ?_
    walk_at "ev"
    refine l_addS (by show (kindS lg ++ Str.ofString " " ++ numS e.1 ++ Str.ofString ":").length + _ ≤ _; omega) ?_
    walk_at "ev"
    refine r_lc (fun ds s acc => ∃ (r m : List (Str × Tm)), s = ⟨[.imm (.str (kindS lg)), .imm (.int e.1), .imm (psD e.2), .imm (.str (kindS lg ++ Str.ofString " " ++ numS e.1 ++ Str.ofString ":")), .u], W⟩ ∧ ds = r.map pD ∧ acc = (m.map pS).map .str ∧ m ++ r = e.2) ?_ ?_ ?_
    · walk_at "ev"
      exact ⟨_, rfl, e.2, [], rfl, rfl, rfl, rfl⟩
    · rintro d ds _ _ ⟨r, m, rfl, hds, rfl, hm⟩
      cases r with
      | nil => cases hds
      | cons p r =>
      rw [List.map_cons] at hds
      injection hds with h1 h2
      subst h1 h2
      have hp : p ∈ e.2 := by rw [← hm]; simp
      have hml : m.length ≤ 6 := by
        have := congrArg List.length hm
        rw [List.length_append, List.length_cons] at this
        omega
      walk_at "ev"
      refine iteT ?_
      walk_at "ev"
      obtain ⟨_, _, e1, rfl, rfl⟩ := pair_text_ok (h.ps.nm p hp) (h.ps.tm p hp) W
      refine ⟨_, _, e1, ?_⟩
      refine ⟨by rw [List.length_map, List.length_map]; omega, r, m ++ [p], rfl, rfl, ?_, ?_⟩
      · rw [List.map_append, List.map_append]
        rfl
      · rw [List.append_assoc]
        exact hm
    · rintro _ _ ⟨r, m, rfl, hds, rfl, hm⟩
      cases r with
      | cons p r => cases hds
      | nil =>
      rw [List.append_nil] at hm
      subst hm
      refine l_join (by rw [List.length_map, l9]; omega) ?_
      have l10 : (Str.join (Str.ofString ", ") (e.2.map pS)).length ≤ 138 := l5
      refine l_addS (by rw [len_app]; show (kindS lg ++ Str.ofString " " ++ numS e.1 ++ Str.ofString ":").length + _ + _ ≤ _; omega) ?_
      walk_at "ev"
      refine l_addS (by rw [len_app, len_app]; show (kindS lg ++ Str.ofString " " ++ numS e.1 ++ Str.ofString ":").length + _ + _ + _ ≤ _; omega) ?_
      refine ⟨?_, rfl⟩
      unfold rowS restS
      rw [if_neg hps]
      show D.str (kindS lg ++ Str.ofString " " ++ numS e.1 ++ Str.ofString ":" ++ Str.ofString " " ++ psS e.2 ++ Str.ofString "\n") = _
      rw [str_assoc _ (Str.ofString " ") (psS e.2)]
theorem txt_sum {lg : Bool} {es : List (Int × List (Str × Tm))} (h : ∀ e ∈ es, OkE lg e) (hl : es.length ≤ 5) : ((es.map fun e => rowS lg e ++ Str.ofString "\n").map (·.length)).sum ≤ 805 := by
  have h1 := sum_le (ys := es.map fun e => rowS lg e ++ Str.ofString "\n") (b := 161) fun y hy => by
    obtain ⟨e, he, rfl⟩ := List.mem_map.mp hy
    rw [len_app]
    have := rowS_len (h e he)
    show _ + 1 ≤ _
    omega
  rw [List.length_map] at h1
  omega
theorem txtS_len {lg : Bool} {es : List (Int × List (Str × Tm))} (h : ∀ e ∈ es, OkE lg e) (hl : es.length ≤ 5) : (txtS lg es).length ≤ 805 := by
  have h1 := join_len (Str.ofString "") (es.map fun e => rowS lg e ++ Str.ofString "\n")
  have h2 := txt_sum h hl
  have h3 : (Str.ofString "").length = 0 := rfl
  rw [h3] at h1
  unfold txtS
  omega
theorem print_ok {lg : Bool} {es : List (Int × List (Str × Tm))} (h : ∀ e ∈ es, OkE lg e) (hl : es.length ≤ 5) (W : WS) :
    ∃ d W', mDef 1 3 (mRet (mOp fJoin (mC (.str "")) (mLc [1, 2] (mIter (mVar 0)) (gT 2 (gsC (gN 1) (gsC (gN 2) gsN))) mYes (mCall 3 m_row_text (mCons (mC (.str (kindS lg))) (mCons (mVar 1) (mCons (mVar 2) mNil))))))) [esD es] W = some (d, W') ∧ d = .str (txtS lg es) ∧ W' = W := by
  refine def_ret (R := fun d W' => d = .str (txtS lg es) ∧ W' = W) ?_
  show RetS _ ⟨[.imm (esD es), .u, .u], W⟩ _
  walk_at "ev"
  refine r_lc (fun ds s acc => ∃ (r m : List (Int × List (Str × Tm))), s = ⟨[.imm (esD es), .u, .u], W⟩ ∧ ds = r.map eD ∧ acc = (m.map fun e => rowS lg e ++ Str.ofString "\n").map .str ∧ m ++ r = es) ?_ ?_ ?_
  · walk_at "ev"
    exact ⟨_, rfl, es, [], rfl, rfl, rfl, rfl⟩
  · rintro d ds _ _ ⟨r, m, rfl, hds, rfl, hm⟩
    cases r with
    | nil => cases hds
    | cons e r =>
    rw [List.map_cons] at hds
    injection hds with h1 h2
    subst h1 h2
    have he : e ∈ es := by rw [← hm]; simp
    have hml : m.length ≤ 5 := by
      have := congrArg List.length hm
      rw [List.length_append, List.length_cons] at this
      omega
    refine ⟨_, rfl, ?_⟩
    walk_at "ev"
    refine iteT ?_
    walk_at "ev"
    obtain ⟨_, _, e1, rfl, rfl⟩ := row_text_ok (h e he) W
    refine ⟨_, _, e1, ?_⟩
    refine ⟨by rw [List.length_map, List.length_map]; omega, r, m ++ [e], rfl, rfl, ?_, ?_⟩
    · rw [List.map_append, List.map_append]
      rfl
    · rw [List.append_assoc]
      exact hm
  · rintro _ _ ⟨r, m, rfl, hds, rfl, hm⟩
    cases r with
    | cons e r => cases hds
    | nil =>
    rw [List.append_nil] at hm
    subst hm
    have h2 := txt_sum h hl
    have h3 : (Str.ofString "").length = 0 := rfl
    exact l_join (by rw [h3]; omega) ⟨rfl, rfl⟩
theorem print_paper_ok {es : List (Int × List (Str × Tm))} (h : ∀ e ∈ es, OkE false e) (hl : es.length ≤ 5) (W : WS) : m_print_paper [esD es] W = some (.str (txtS false es), W) := by
  obtain ⟨d, W', e, rfl, rfl⟩ := print_ok h hl W
  exact e
theorem print_log_ok {es : List (Int × List (Str × Tm))} (h : ∀ e ∈ es, OkE true e) (hl : es.length ≤ 5) (W : WS) : m_print_log [esD es] W = some (.str (txtS true es), W) := by
  obtain ⟨d, W', e, rfl, rfl⟩ := print_ok h hl W
  exact e
theorem law_row_ok {lg : Bool} {e : Int × List (Str × Tm)} (h : OkE lg e) (W : WS) : ∃ d W', m_law_row [.str (kindS lg), .int e.1, psD e.2] W = some (d, W') ∧ d = .str (rowS lg e) ∧ W' = W := by
  refine def_ret (R := fun d W' => d = .str (rowS lg e) ∧ W' = W) ?_
  show RetS mB_law_row ⟨[.imm (.str (kindS lg)), .imm (.int e.1), .imm (psD e.2), .u, .u, .u], W⟩ _
  unfold mB_law_row
  have hb : -1000000000 < e.1 ∧ e.1 < 1000000000 := ⟨by have := h.k; omega, by have := h.k; omega⟩
  have l1 := kind_len lg
  have l2 := num_len hb
  have l3 : (Str.ofString " ").length = 1 := rfl
  have l4 : (Str.ofString ":").length = 1 := rfl
  have l5 := psS_len h.ps
  have l6 := h.ps.sum
  have l7 := h.ps.len
  have l8 : (Str.ofString " = ").length = 3 := rfl
  have l9 : (Str.ofString ", ").length = 2 := rfl
  walk_at "ev"
  refine r_lc (fun ds s acc => ∃ (r m : List (Str × Tm)), s = ⟨[.imm (.str (kindS lg)), .imm (.int e.1), .imm (psD e.2), .u, .u, .u], W⟩ ∧ ds = r.map pD ∧ acc = (m.map pS).map .str ∧ m ++ r = e.2) ?_ ?_ ?_
  · walk_at "ev"
    exact ⟨_, rfl, e.2, [], rfl, rfl, rfl, rfl⟩
  · rintro d ds _ _ ⟨r, m, rfl, hds, rfl, hm⟩
    cases r with
    | nil => cases hds
    | cons p r =>
    rw [List.map_cons] at hds
    injection hds with h1 h2
    subst h1 h2
    have hp : p ∈ e.2 := by rw [← hm]; simp
    have hml : m.length ≤ 6 := by
      have := congrArg List.length hm
      rw [List.length_append, List.length_cons] at this
      omega
    refine ⟨_, rfl, ?_⟩
    walk_at "ev"
    refine iteT ?_
    have t1 := (h.ps.nm p hp).len
    have t2 := tS_len (h.ps.tm p hp)
    walk_at "ev"
    refine l_addS (by omega) ?_
    walk_at "ev"
    refine l_strT (h.ps.tm p hp) ?_
    refine l_addS (by rw [len_app]; omega) ?_
    refine ⟨by rw [List.length_map, List.length_map]; omega, r, m ++ [p], rfl, rfl, ?_, ?_⟩
    · rw [List.map_append, List.map_append]
      rfl
    · rw [List.append_assoc]
      exact hm
  · rintro _ _ ⟨r, m, rfl, hds, rfl, hm⟩
    cases r with
    | cons p r => cases hds
    | nil =>
    rw [List.append_nil] at hm
    subst hm
    refine l_join (by rw [List.length_map, l9]; omega) ?_
    walk_at "ev"
    refine l_addS (by omega) ?_
    walk_at "ev"
    refine l_strI (log_ok hb) ?_
    refine l_addS (by rw [len_app]; show _ + (numS e.1).length ≤ _; omega) ?_
    walk_at "ev"
    refine l_addS (by rw [len_app, len_app]; show _ + (numS e.1).length + _ ≤ _; omega) ?_
    walk_at "ev"
    refine ⟨by decide, ?_⟩
    refine l_neD (fun _ z => nomatch z) (fun _ z => nomatch z) (lay_shp (lay_ps h.ps) (by decide)) (lay_shp (lay_tup (n := 0) (by simp)) (by decide)) ?_
    rw [eqv_nil]
    refine ⟨_, rfl, ?_⟩
    have lh : (kindS lg ++ Str.ofString " " ++ Str.ofString (toString e.1) ++ Str.ofString ":").length ≤ 16 := by
      rw [len_app, len_app, len_app]
      show _ + _ + (numS e.1).length + _ ≤ _
      omega
    have l10 : (Str.join (Str.ofString ", ") (e.2.map pS)).length ≤ 138 := l5
    by_cases hps : e.2 = []
    · rw [decide_eq_true hps]
      refine iteF ?_
      walk_at "ev"
      refine l_addS (by show _ + 0 ≤ _; omega) ?_
      refine ⟨?_, rfl⟩
      unfold rowS restS
      rw [if_pos hps]
      rfl
    · rw [decide_eq_false hps]
      refine iteT ?_
      walk_at "ev"
      refine l_addS (by omega) ?_
      refine l_addS (by rw [len_app (Str.ofString " ")]; omega) ?_
      refine ⟨?_, rfl⟩
      unfold rowS restS
      rw [if_neg hps]
      rfl
theorem law_text_ok {lg : Bool} {es : List (Int × List (Str × Tm))} (h : ∀ e ∈ es, OkE lg e) (hl : es.length ≤ 5) (W : WS) : m_law_text [.str (kindS lg), esD es] W = some (.str (txtS lg es), W) := by
  suffices ∃ d W', m_law_text [.str (kindS lg), esD es] W = some (d, W') ∧ d = .str (txtS lg es) ∧ W' = W by
    obtain ⟨d, W', e, rfl, rfl⟩ := this
    exact e
  refine def_ret (R := fun d W' => d = .str (txtS lg es) ∧ W' = W) ?_
  show RetS mB_law_text ⟨[.imm (.str (kindS lg)), .imm (esD es), .u, .u], W⟩ _
  unfold mB_law_text
  walk_at "ev"
  refine r_lc (fun ds s acc => ∃ (r m : List (Int × List (Str × Tm))), s = ⟨[.imm (.str (kindS lg)), .imm (esD es), .u, .u], W⟩ ∧ ds = r.map eD ∧ acc = (m.map fun e => rowS lg e ++ Str.ofString "\n").map .str ∧ m ++ r = es) ?_ ?_ ?_
  · walk_at "ev"
    exact ⟨_, rfl, es, [], rfl, rfl, rfl, rfl⟩
  · rintro d ds _ _ ⟨r, m, rfl, hds, rfl, hm⟩
    cases r with
    | nil => cases hds
    | cons e r =>
    rw [List.map_cons] at hds
    injection hds with h1 h2
    subst h1 h2
    have he : e ∈ es := by rw [← hm]; simp
    have hml : m.length ≤ 5 := by
      have := congrArg List.length hm
      rw [List.length_append, List.length_cons] at this
      omega
    refine ⟨_, rfl, ?_⟩
    walk_at "ev"
    refine iteT ?_
    walk_at "ev"
    obtain ⟨_, _, e1, rfl, rfl⟩ := law_row_ok (h e he) W
    refine ⟨_, _, e1, ?_⟩
    walk_at "ev"
    have := rowS_len (h e he)
    refine l_addS (by show _ + 1 ≤ _; omega) ?_
    refine ⟨by rw [List.length_map, List.length_map]; omega, r, m ++ [e], rfl, rfl, ?_, ?_⟩
    · rw [List.map_append, List.map_append]
      rfl
    · rw [List.append_assoc]
      exact hm
  · rintro _ _ ⟨r, m, rfl, hds, rfl, hm⟩
    cases r with
    | cons e r => cases hds
    | nil =>
    rw [List.append_nil] at hm
    subst hm
    have h2 := txt_sum h hl
    have h3 : (Str.ofString "").length = 0 := rfl
    exact l_join (by rw [h3]; omega) ⟨rfl, rfl⟩
end Lw

set_option Elab.async false
set_option linter.all false
set_option maxRecDepth 100000
namespace Lw
open PySem PySem.Spec PyProof.Rows L2 MM
local macro_rules | `(tactic| walk_at "ev1") => `(tactic| first
  | (with_reducible refine s_seq ?_) | (with_reducible refine s_asg ?_) | (with_reducible refine s_own ?_) | (with_reducible refine s_ret ?_) | (with_reducible refine s_if ?_) | (with_reducible refine s_skip ?_) | (with_reducible refine s_par ?_)
  | (with_reducible refine r_c ?_) | ((with_reducible refine' r_vB ?e ?_); (case e => exact rfl)) | ((with_reducible refine' r_v ?e ?_); (case e => exact rfl)) | ((with_reducible refine' r_vBo ?e ?_); (case e => exact rfl)) | ((with_reducible refine' r_vo ?e ?_); (case e => exact rfl))
  | (with_reducible refine r_op ?_) | (with_reducible refine r_un ?_) | (with_reducible refine r_cons ?_) | (with_reducible refine r_nil ?_) | (with_reducible refine r_cb ?_) | (with_reducible refine r_call ?_) | (with_reducible refine r_lst ?_) | (with_reducible refine r_tup ?_)
  | (with_reducible refine r_test ?_) | (with_reducible refine r_and ?_) | (with_reducible refine r_or ?_) | (with_reducible refine r_not ?_) | (with_reducible refine r_andV ?_) | (with_reducible refine r_orV ?_) | (with_reducible refine r_notV ?_) | (with_reducible refine r_if ?_)
  | (with_reducible refine o_none ?_) | (with_reducible refine o_some ?_) | (with_reducible refine r_sl ?_) | (with_reducible refine r_iter ?_) | (with_reducible refine r_rng1 ?_) | (with_reducible refine mYes_ret ?_)
  | (refine l_gN (by simp) ?_)
  | (with_reducible refine l_addI ?_) | (with_reducible refine l_subI ?_) | (with_reducible refine l_negI ?_) | (with_reducible refine l_eqI ?_) | (with_reducible refine l_eqS ?_) | (with_reducible refine l_neI ?_) | (with_reducible refine l_neS ?_)
  | (with_reducible refine l_ltI ?_) | (with_reducible refine l_leI ?_) | (with_reducible refine l_gtI ?_) | (with_reducible refine l_geI ?_) | (with_reducible refine l_lenL ?_) | (with_reducible refine l_lenT ?_) | (with_reducible refine l_lenF ?_) | (with_reducible refine l_intI ?_) | (with_reducible refine l_absI ?_) | (with_reducible refine l_tupL ?_) | (with_reducible refine l_bl ?_) | (with_reducible refine l_int ?_) | (with_reducible refine l_itL ?_) | (with_reducible refine l_itT ?_) | (with_reducible refine l_itS ?_)
  | (refine And.intro (Eq.refl (_ : Nat)) ?_) | (dsimp only))
local macro_rules | `(tactic| walk_at "ev") => `(tactic| (walk_at "ev1"; repeat (walk_at "ev1")))
/-! ### signs -/
def sg (c : Nat) : D := .str ⟨#[c]⟩
theorem sift {z : Str} {W : WS} {m : M Bool} {P : D → S → Prop} (p : Nat → Bool) (hz : z.length ≤ 1000) (hm : ∀ c, c ∈ TL.tl z → Ret m ⟨[.imm (.str z), .imm (sg c)], W⟩ fun b s => b = p c ∧ s = ⟨[.imm (.str z), .imm (sg c)], W⟩)
    (h : P (.lst (((TL.tl z).filter p).map sg)) ⟨[.imm (.str z), .u], W⟩) : Ret (mLc [1] (mIter (mVar 0)) (gN 1) m (mVar 1)) ⟨[.imm (.str z), .u], W⟩ P := by
  refine r_lc (fun ds s acc => ∃ (l r : List Nat), s = ⟨[.imm (.str z), .u], W⟩ ∧ ds = r.map sg ∧ acc = (l.filter p).map sg ∧ l ++ r = TL.tl z) ?_ ?_ ?_
  · walk_at "ev"
    exact ⟨[], TL.tl z, rfl, rfl, rfl, rfl⟩
  · rintro d ds _ _ ⟨l, r, rfl, hds, rfl, hl⟩
    cases r with
    | nil => cases hds
    | cons c r =>
    rw [List.map_cons] at hds
    injection hds with h1 h2
    subst h1 h2
    have hlen : l.length < 1000 := by
      have := congrArg List.length hl
      rw [List.length_append, List.length_cons, ← TL.len_tl] at this
      omega
    refine ⟨_, rfl, ?_⟩
    refine (hm c (by rw [← hl]; simp)).mono fun b s' hb => ?_
    obtain ⟨rfl, rfl⟩ := hb
    refine ite2 (fun hp => ?_) (fun hp => ?_)
    · walk_at "ev"
      refine ⟨?_, l ++ [c], r, rfl, rfl, ?_, by rw [List.append_assoc]; exact hl⟩
      · rw [List.length_map]
        have := List.length_filter_le p l
        omega
      · rw [List.filter_append, List.filter_cons_of_pos hp, List.map_append]
        rfl
    · refine ⟨l ++ [c], r, rfl, rfl, ?_, by rw [List.append_assoc]; exact hl⟩
      rw [List.filter_append, List.filter_cons_of_neg hp, List.filter_nil, List.append_nil]
  · rintro _ _ ⟨l, r, rfl, hds, rfl, hl⟩
    cases r with
    | cons c r => cases hds
    | nil =>
    rw [List.append_nil] at hl
    rw [hl]
    exact h
theorem l_notInS {c : Nat} {z : Str} {Q : D → Prop} (q : Q (.bl (!decide (c ∈ z.cps.toList)))) : ∃ w, dNotIn (sg c) (.str z) = some w ∧ Q w := ⟨_, rfl, q⟩
def dig (c : Nat) : Bool := decide (48 ≤ c) && decide (c ≤ 57)
def low (c : Nat) : Bool := decide (97 ≤ c) && decide (c ≤ 122)
theorem in_digits (c : Nat) : decide (c ∈ (Str.ofString "0123456789").cps.toList) = dig c := by
  have e : (Str.ofString "0123456789").cps.toList = [48, 49, 50, 51, 52, 53, 54, 55, 56, 57] := by decide +kernel
  rw [e, dig, ← Bool.decide_and]
  apply decide_eq_decide.mpr
  simp only [List.mem_cons, List.not_mem_nil, or_false]
  omega
theorem in_letters (c : Nat) : decide (c ∈ (Str.ofString "abcdefghijklmnopqrstuvwxyz").cps.toList) = low c := by
  have e : (Str.ofString "abcdefghijklmnopqrstuvwxyz").cps.toList = [97, 98, 99, 100, 101, 102, 103, 104, 105, 106, 107, 108, 109, 110, 111, 112, 113, 114, 115, 116, 117, 118, 119, 120, 121, 122] := by decide +kernel
  rw [e, low, ← Bool.decide_and]
  apply decide_eq_decide.mpr
  simp only [List.mem_cons, List.not_mem_nil, or_false]
  omega
def isNum : List Nat → Bool
  | [] => false
  | c :: r => ((c :: r).filter fun k => !dig k).isEmpty && decide ((c :: r).length ≤ 9) && (!decide (c = 48) || decide (c :: r = [48]))
def isName : List Nat → Bool
  | [] => false
  | c :: r => low c && ((c :: r).filter fun k => !low k && (!dig k && !decide (k = 95))).isEmpty
theorem eqv_sg (l : List Nat) : PyData.eqv (toP (.lst (l.map sg))) (toP (.lst [])) = l.isEmpty := by
  cases l with
  | nil => simp [toP, toPs, PyData.eqv, PyData.eqvAll]
  | cons c l => simp [toP, toPs, PyData.eqv, PyData.eqvAll]
theorem lay_sg {l : List Nat} (h : ∀ c ∈ l, c < 1114112) : lay (.lst (l.map sg)) 1 := by
  refine lay_lst fun d hd => ?_
  obtain ⟨c, hc, rfl⟩ := List.mem_map.mp hd
  refine lay_str (fun k hk => ?_) 0
  have : k = c := by simpa [TL.tl] using hk
  rw [this]
  exact h c hc
theorem str_empty {z : Str} : decide (z = Str.ofString "") = (TL.tl z).isEmpty := by
  cases e : TL.tl z with
  | nil => exact decide_eq_true (TL.ext_tl e)
  | cons c r => exact decide_eq_false fun q => by rw [q] at e; cases e
theorem sg_eq (c k : Nat) : decide ((⟨#[c]⟩ : Str) = ⟨#[k]⟩) = decide (c = k) := by
  apply decide_eq_decide.mpr
  constructor
  · intro h
    have := congrArg TL.tl h
    simpa [TL.tl] using this
  · rintro rfl
    rfl
theorem is_num_ok {z : Str} (hz : okS z) (hl : z.length ≤ 1000) (W : WS) : m_is_numeral [.str z] W = some (.bl (isNum (TL.tl z)), W) := by
  suffices ∃ d W', m_is_numeral [.str z] W = some (d, W') ∧ d = .bl (isNum (TL.tl z)) ∧ W' = W by
    obtain ⟨d, W', e, rfl, rfl⟩ := this
    exact e
  refine def_ret (R := fun d W' => d = .bl (isNum (TL.tl z)) ∧ W' = W) ?_
  show RetS mB_is_numeral ⟨[.imm (.str z), .u], W⟩ _
  unfold mB_is_numeral
  walk_at "ev"
  rw [str_empty]
  have hlen : z.length = (TL.tl z).length := TL.len_tl z
  cases e : TL.tl z with
  | nil =>
    refine iteT (iteT ?_)
    walk_at "ev"
    exact ⟨rfl, rfl⟩
  | cons c r =>
    refine iteF ?_
    walk_at "ev"
    refine sift (fun k => !dig k) hl (fun k hk => ?_) ?_
    · walk_at "ev"
      refine l_notInS ?_
      walk_at "ev"
      rw [in_digits]
      exact ⟨rfl, rfl⟩
    walk_at "ev"
    refine ⟨by decide, ?_⟩
    refine l_neD (fun _ z => nomatch z) (fun _ z => nomatch z) (lay_shp (lay_sg fun k hk => hz k (List.mem_filter.mp hk).1) (by decide)) (lay_shp (lay_lst (n := 0) (by simp)) (by decide)) ?_
    rw [eqv_sg, e]
    refine ⟨_, rfl, ?_⟩
    have he : isNum (c :: r) = (((c :: r).filter fun k => !dig k).isEmpty && decide ((c :: r).length ≤ 9) && (!decide (c = 48) || decide (c :: r = [48]))) := rfl
    cases h1 : ((c :: r).filter fun k => !dig k).isEmpty with
    | false =>
      refine iteT (iteT ?_)
      walk_at "ev"
      rw [he, h1]
      exact ⟨rfl, rfl⟩
    | true =>
      refine iteF ?_
      walk_at "ev"
      refine l_lenS (by omega) ?_
      walk_at "ev"
      refine ite2 (fun h2 => ?_) (fun h2 => ?_)
      · walk_at "ev"
        have h2 := of_decide_eq_true h2
        rw [he, h1, decide_eq_false (by rw [← e, ← hlen]; omega)]
        exact ⟨rfl, rfl⟩
      · have h2 := of_decide_eq_false (Bool.eq_false_iff.mpr h2)
        walk_at "ev"
        refine l_ixS (c := c) (by omega) (atI_nat (j := 0) (by show (TL.tl z)[0]? = _; rw [e]; rfl)) ?_
        walk_at "ev"
        rw [he, h1, decide_eq_true (show (c :: r).length ≤ 9 by rw [← e, ← hlen]; omega)]
        have e48 : decide ((⟨#[c]⟩ : Str) = Str.ofString "0") = decide (c = 48) := sg_eq c 48
        rw [e48]
        by_cases hc : c = 48
        · rw [decide_eq_true hc]
          refine iteF ?_
          walk_at "ev"
          have e0 : decide (z = Str.ofString "0") = decide (c :: r = [48]) := by
            apply decide_eq_decide.mpr
            rw [← e]
            exact ⟨fun q => by rw [q]; rfl, fun q => TL.ext_tl q⟩
          rw [e0]
          exact ⟨rfl, rfl⟩
        · rw [decide_eq_false hc]
          refine iteT ?_
          exact ⟨rfl, rfl⟩
theorem is_name_ok {z : Str} (hz : okS z) (hl : z.length ≤ 1000) (W : WS) : m_is_name [.str z] W = some (.bl (isName (TL.tl z)), W) := by
  suffices ∃ d W', m_is_name [.str z] W = some (d, W') ∧ d = .bl (isName (TL.tl z)) ∧ W' = W by
    obtain ⟨d, W', e, rfl, rfl⟩ := this
    exact e
  refine def_ret (R := fun d W' => d = .bl (isName (TL.tl z)) ∧ W' = W) ?_
  show RetS mB_is_name ⟨[.imm (.str z), .u], W⟩ _
  unfold mB_is_name
  walk_at "ev"
  rw [str_empty]
  have hlen : z.length = (TL.tl z).length := TL.len_tl z
  cases e : TL.tl z with
  | nil =>
    refine iteT (iteT ?_)
    walk_at "ev"
    exact ⟨rfl, rfl⟩
  | cons c r =>
    refine iteF ?_
    walk_at "ev"
    refine l_ixS (c := c) (by omega) (atI_nat (j := 0) (by show (TL.tl z)[0]? = _; rw [e]; rfl)) ?_
    walk_at "ev"
    refine l_notInS ?_
    walk_at "ev"
    rw [in_letters]
    have he : isName (c :: r) = (low c && ((c :: r).filter fun k => !low k && (!dig k && !decide (k = 95))).isEmpty) := rfl
    cases h1 : low c with
    | false =>
      refine iteT ?_
      walk_at "ev"
      rw [he, h1]
      exact ⟨rfl, rfl⟩
    | true =>
      refine iteF ?_
      walk_at "ev"
      refine sift (fun k => !low k && (!dig k && !decide (k = 95))) hl (fun k hk => ?_) ?_
      · walk_at "ev"
        refine l_notInS ?_
        walk_at "ev"
        rw [in_letters]
        cases low k with
        | true => exact iteF ⟨rfl, rfl⟩
        | false =>
          refine iteT ?_
          walk_at "ev"
          refine l_notInS ?_
          walk_at "ev"
          rw [in_digits]
          cases dig k with
          | true => exact iteF ⟨rfl, rfl⟩
          | false =>
            refine iteT ?_
            walk_at "ev"
            refine l_neS ?_
            walk_at "ev"
            rw [show decide ((⟨#[k]⟩ : Str) = Str.ofString "_") = decide (k = 95) from sg_eq k 95]
            exact ⟨rfl, rfl⟩
      walk_at "ev"
      refine ⟨by decide, ?_⟩
      refine l_eqD (fun _ z => nomatch z) (fun _ z => nomatch z) (lay_shp (lay_sg fun k hk => hz k (List.mem_filter.mp hk).1) (by decide)) (lay_shp (lay_lst (n := 0) (by simp)) (by decide)) ?_
      rw [eqv_sg, e, he, h1]
      exact ⟨rfl, rfl⟩
/-! ### what names and numbers are -/
theorem numL_head : ∀ (n : Nat) {c : Nat} {r : List Nat}, 1 ≤ n → TL.numL n = c :: r → c ≠ 48 := by
  intro n
  induction n using Nat.strongRecOn with
  | _ n ih =>
    intro c r h1 h
    by_cases hn : n < 10
    · rw [TL.numL_lt hn] at h
      injection h with h2 _
      omega
    · rw [TL.numL_step (by omega)] at h
      cases e : TL.numL (n / 10) with
      | nil => exact absurd e (TL.numL_ne _)
      | cons c' r' =>
        rw [e, List.cons_append] at h
        injection h with h2 _
        rw [← h2]
        exact ih (n / 10) (by omega) (by omega) e
theorem numL_num {n : Nat} (h : n < 1000000000) : isNum (TL.numL n) = true := by
  have hd := TL.numL_digits n
  have hne := TL.numL_ne n
  have hl := TL.numL_len (n := n) (k := 9) (by decide) (by omega)
  cases hL : TL.numL n with
  | nil => exact absurd hL hne
  | cons c r =>
    rw [hL] at hd hl
    have h1 : ((c :: r).filter fun k => !dig k).isEmpty = true := by
      rw [List.isEmpty_iff, List.filter_eq_nil_iff]
      intro k hk
      have := hd k hk
      simp [dig]
      omega
    have h2 : (!decide (c = 48) || decide (c :: r = [48])) = true := by
      by_cases hc : c = 48
      · by_cases h0 : 1 ≤ n
        · exact absurd hc (numL_head n h0 hL)
        · have : n = 0 := by omega
          rw [this, TL.numL_lt (by decide)] at hL
          rw [← hL]
          simp
      · simp [hc]
    show (_ && _ && _) = true
    rw [h1, h2, decide_eq_true hl]
    rfl
theorem numS_num {i : Int} (h : 0 ≤ i ∧ i < 1000000000) : isNum (TL.tl (numS i)) = true := by
  rw [tl_pos h.1]
  exact numL_num (by omega)
theorem IsNm.name {z : Str} (h : IsNm z) : isName (TL.tl z) = true := by
  obtain ⟨c, r, e, hc, hr, _⟩ := h
  rw [e]
  show (_ && _) = true
  have h1 : low c = true := by simp [low, hc.1, hc.2]
  rw [h1, Bool.true_and, List.isEmpty_iff, List.filter_eq_nil_iff]
  intro k hk
  rcases List.mem_cons.mp hk with rfl | hk
  · rw [h1]; simp
  · rcases hr k hk with h | h | h <;> simp [low, dig, h]
theorem not_num {c : Nat} {r : List Nat} (h : dig c = false) : isNum (c :: r) = false := by
  show (_ && _ && _) = false
  have : ((c :: r).filter fun k => !dig k).isEmpty = false := by
    rw [List.filter_cons_of_pos (by rw [h]; rfl)]
    rfl
  rw [this]
  rfl
theorem IsNm.not_num {z : Str} (h : IsNm z) : isNum (TL.tl z) = false := by
  obtain ⟨c, r, e, hc, hr, _⟩ := h
  rw [e]
  refine Lw.not_num ?_
  have := hc.1
  simp [dig]
  omega
/-- the signs of a word or a number -/
def Sg (c : Nat) : Prop := Nm c ∨ c = 45
theorem IsNm.signs {z : Str} (h : IsNm z) : ∀ c ∈ TL.tl z, Nm c := by
  obtain ⟨c, r, e, hc, hr, _⟩ := h
  rw [e]
  intro k hk
  rcases List.mem_cons.mp hk with rfl | hk
  · exact .inl hc
  · exact hr k hk
theorem numL_signs (n : Nat) : ∀ c ∈ TL.numL n, Nm c := fun c hc => .inr (.inl (by have := TL.numL_digits n c hc; omega))
theorem num_signs (i : Int) : ∀ c ∈ TL.tl (numS i), Sg c := by
  intro c hc
  by_cases h : 0 ≤ i
  · rw [tl_pos h] at hc
    exact .inl (numL_signs _ c hc)
  · rw [tl_neg (by omega)] at hc
    rcases List.mem_cons.mp hc with rfl | hc
    · exact .inr rfl
    · exact .inl (numL_signs _ c hc)
theorem tS_signs {lg : Bool} {t : Tm} (h : okT lg t) : ∀ c ∈ TL.tl (tS t), Sg c := by
  cases t with
  | s z => exact fun c hc => .inl (h.2.signs c hc)
  | n i => exact num_signs i
theorem okS_of {z : Str} (h : ∀ c ∈ TL.tl z, c < 128) : okS z := fun c hc => by have := h c hc; omega
theorem Sg.lt {c : Nat} (h : Sg c) : c < 128 := by
  rcases h with (h | h | h) | h <;> omega
/-! ### cuts -/
theorem cut_take (z : Str) (k : Nat) : TL.tl (cutS z none (some (k : Int))) = (TL.tl z).take k := by
  show (z.cps.toList.drop (HT.sIx z.length 0 none)).take (HT.sIx z.length z.length (some (k : Int)) - HT.sIx z.length 0 none) = _
  rw [HT.sIx_none, HT.sIx_nat, List.drop_zero, Nat.sub_zero]
  have e : z.length = z.cps.toList.length := TL.len_tl z
  show _ = z.cps.toList.take k
  by_cases h : k ≤ z.length
  · rw [Nat.min_eq_left h]
  · rw [Nat.min_eq_right (by omega), List.take_of_length_le (by omega), List.take_of_length_le (by omega)]
theorem cut_drop (z : Str) (k : Nat) : TL.tl (cutS z (some (k : Int)) none) = (TL.tl z).drop k := by
  show (z.cps.toList.drop (HT.sIx z.length 0 (some (k : Int)))).take (HT.sIx z.length z.length none - HT.sIx z.length 0 (some (k : Int))) = _
  rw [HT.sIx_none, HT.sIx_nat]
  have e : z.length = z.cps.toList.length := TL.len_tl z
  show _ = z.cps.toList.drop k
  by_cases h : k ≤ z.length
  · rw [Nat.min_eq_left h, List.take_of_length_le (by rw [List.length_drop]; omega)]
  · rw [Nat.min_eq_right (by omega), List.drop_eq_nil_of_le (by omega), List.drop_eq_nil_of_le (by omega), List.take_nil]
theorem l_intS {z : Str} {i : Int} {Q : D → Prop} (hl : z.length ≤ 640) (h : PySem.intText? z = some i) (q : Q (.int i)) : ∃ w, fInt [.str z] = some w ∧ Q w := by
  refine ⟨_, ?_, q⟩
  show (if z.length ≤ 640 then (PySem.intText? z).map D.int else none) = _
  rw [if_pos hl, h]
  rfl
theorem int_numS {i : Int} (h : 0 ≤ i ∧ i < 1000000000) : PySem.intText? (numS i) = some i := by
  have hl := TL.numL_len (n := i.toNat) (k := 9) (by decide) (by omega)
  have := TL.int_num (n := i.toNat) (by omega)
  rwa [show ((i.toNat : Nat) : Int) = i by omega] at this
/-! ### reading a thing -/
theorem value_of_ok {lg : Bool} {t : Tm} (h : okT lg t) (row : Int) (W : WS) : ∃ d W', m_value_of [.str (tS t), .int row, .bl lg] W = some (d, W') ∧ d = tD t ∧ W' = W := by
  refine def_ret (R := fun d W' => d = tD t ∧ W' = W) ?_
  have ht := tS_len h
  have hok : okS (tS t) := okS_of fun c hc => (tS_signs h c hc).lt
  show RetS mB_value_of ⟨[.imm (.str (tS t)), .imm (.int row), .imm (.bl lg)], W⟩ _
  unfold mB_value_of
  walk_at "ev"
  refine ⟨_, _, is_num_ok hok (by omega) W, _, rfl, ?_⟩
  cases t with
  | s z =>
    obtain ⟨rfl, hz⟩ := h
    have e1 : isNum (TL.tl (tS (.s z))) = false := hz.not_num
    rw [e1]
    refine iteF ?_
    walk_at "ev"
    refine iteF (iteF ?_)
    walk_at "ev"
    refine iteF ?_
    walk_at "ev"
    refine ⟨_, _, is_name_ok hok (by omega) W, _, rfl, ?_⟩
    have e2 : isName (TL.tl (tS (.s z))) = true := hz.name
    rw [e2]
    refine iteF ?_
    walk_at "ev"
    exact ⟨rfl, rfl⟩
  | n i =>
    have hb := h.bound
    by_cases h0 : 0 ≤ i
    · have e1 : isNum (TL.tl (tS (.n i))) = true := numS_num ⟨h0, hb.2⟩
      rw [e1]
      refine iteT ?_
      walk_at "ev"
      exact l_intS (z := numS i) (by show (tS (.n i)).length ≤ _; omega) (int_numS ⟨h0, hb.2⟩) ⟨rfl, rfl⟩
    · have el : TL.tl (numS i) = 45 :: TL.numL (-i).toNat := tl_neg (by omega)
      have e1 : isNum (TL.tl (tS (.n i))) = false := by
        show isNum (TL.tl (numS i)) = _
        rw [el]
        exact not_num (by decide)
      have elg : lg = true := by
        cases lg with
        | true => rfl
        | false =>
          have := h.1
          simp at this
          omega
      subst elg
      rw [e1]
      refine iteF ?_
      walk_at "ev"
      refine iteT ?_
      walk_at "ev"
      refine l_slS (by omega) ?_
      walk_at "ev"
      have e2 : cutS (tS (.n i)) none (some 1) = Str.ofString "-" := TL.ext_tl (by
        rw [show (1 : Int) = ((1 : Nat) : Int) from rfl, cut_take]
        show (TL.tl (numS i)).take 1 = _
        rw [el]
        rfl)
      rw [decide_eq_true e2]
      refine iteT ?_
      walk_at "ev"
      have e3 : cutS (tS (.n i)) (some 1) none = numS (-i) := TL.ext_tl (by
        rw [show (1 : Int) = ((1 : Nat) : Int) from rfl, cut_drop, tl_pos (by omega)]
        show (TL.tl (numS i)).drop 1 = _
        rw [el]
        rfl)
      refine l_slS (by omega) ?_
      rw [e3]
      walk_at "ev"
      have hn : -1000000000 < -i ∧ -i < 1000000000 := ⟨by omega, by omega⟩
      have hl2 := num_len hn
      refine ⟨_, _, is_num_ok (okS_of fun c hc => (num_signs _ c hc).lt) (by omega) W, _, rfl, ?_⟩
      rw [numS_num ⟨by omega, hn.2⟩]
      refine iteT ?_
      walk_at "ev"
      have e4 : ¬ tS (.n i) = Str.ofString "-0" := by
        intro q
        have q2 : TL.tl (numS i) = [45, 48] := congrArg TL.tl q
        rw [el] at q2
        injection q2 with _ q2
        exact numL_head _ (by omega) q2 rfl
      rw [decide_eq_false e4]
      refine iteT ?_
      walk_at "ev"
      refine l_slS (by omega) ?_
      rw [e3]
      walk_at "ev"
      refine l_intS (z := numS (-i)) (by omega) (int_numS ⟨by omega, hn.2⟩) ?_
      walk_at "ev"
      exact ⟨by show D.int (- -i) = .int i; rw [Int.neg_neg], rfl⟩
theorem split_pS {lg : Bool} {p : Str × Tm} (h1 : IsNm p.1) (h2 : okT lg p.2) : Txt.split (pS p) (Str.ofString " = ") = [p.1, tS p.2] := by
  have := TL.split_join (y := Str.ofString " = ") (s := 32) (S := [61, 32]) (by decide +kernel) (by decide +kernel) (parts := [p.1, tS p.2]) (by simp) (fun q hq hc => by
    rcases List.mem_cons.mp hq with rfl | hq
    · rcases h1.signs _ hc with h | h | h <;> omega
    · rw [List.mem_singleton.mp hq] at hc
      rcases tS_signs h2 _ hc with (h | h | h) | h <;> omega)
  rw [TL.join_eq] at this
  exact this
theorem pair_of_ok {lg : Bool} {p : Str × Tm} (h1 : IsNm p.1) (h2 : okT lg p.2) (row : Int) (W : WS) : ∃ d W', m_pair_of [.str (pS p), .int row, .bl lg] W = some (d, W') ∧ d = pD p ∧ W' = W := by
  refine def_ret (R := fun d W' => d = pD p ∧ W' = W) ?_
  show RetS mB_pair_of ⟨[.imm (.str (pS p)), .imm (.int row), .imm (.bl lg), .u], W⟩ _
  unfold mB_pair_of
  have hp := pS_len h1 h2
  have hl := h1.len
  walk_at "ev"
  refine l_split (by decide) (by omega) ?_
  rw [split_pS h1 h2]
  walk_at "ev"
  refine iteF ?_
  walk_at "ev"
  refine l_ixL (d := .str p.1) rfl ?_
  walk_at "ev"
  refine ⟨_, _, is_name_ok h1.ok (by omega) W, _, rfl, ?_⟩
  rw [h1.name]
  refine iteF ?_
  walk_at "ev"
  refine l_ixL (d := .str p.1) rfl ?_
  walk_at "ev"
  refine l_ixL (d := .str (tS p.2)) rfl ?_
  walk_at "ev"
  obtain ⟨_, _, e, rfl, rfl⟩ := value_of_ok h2 row W
  refine ⟨_, _, e, ?_⟩
  walk_at "ev"
  exact ⟨by simp, rfl, rfl⟩
end Lw

set_option Elab.async false
set_option linter.all false
set_option maxRecDepth 100000
namespace Lw
open PySem PySem.Spec PyProof.Rows L2 MM
local macro_rules | `(tactic| walk_at "ev1") => `(tactic| first
  | (with_reducible refine s_seq ?_) | (with_reducible refine s_asg ?_) | (with_reducible refine s_own ?_) | (with_reducible refine s_ret ?_) | (with_reducible refine s_if ?_) | (with_reducible refine s_skip ?_) | (with_reducible refine s_par ?_)
  | (with_reducible refine r_c ?_) | ((with_reducible refine' r_vB ?e ?_); (case e => exact rfl)) | ((with_reducible refine' r_v ?e ?_); (case e => exact rfl)) | ((with_reducible refine' r_vBo ?e ?_); (case e => exact rfl)) | ((with_reducible refine' r_vo ?e ?_); (case e => exact rfl))
  | (with_reducible refine r_op ?_) | (with_reducible refine r_un ?_) | (with_reducible refine r_cons ?_) | (with_reducible refine r_nil ?_) | (with_reducible refine r_cb ?_) | (with_reducible refine r_call ?_) | (with_reducible refine r_lst ?_) | (with_reducible refine r_tup ?_)
  | (with_reducible refine r_test ?_) | (with_reducible refine r_and ?_) | (with_reducible refine r_or ?_) | (with_reducible refine r_not ?_) | (with_reducible refine r_andV ?_) | (with_reducible refine r_orV ?_) | (with_reducible refine r_notV ?_) | (with_reducible refine r_if ?_)
  | (with_reducible refine o_none ?_) | (with_reducible refine o_some ?_) | (with_reducible refine r_sl ?_) | (with_reducible refine r_iter ?_) | (with_reducible refine r_rng1 ?_) | (with_reducible refine mYes_ret ?_)
  | (refine l_gN (by simp) ?_)
  | (with_reducible refine l_addI ?_) | (with_reducible refine l_subI ?_) | (with_reducible refine l_negI ?_) | (with_reducible refine l_eqI ?_) | (with_reducible refine l_eqS ?_) | (with_reducible refine l_neI ?_) | (with_reducible refine l_neS ?_)
  | (with_reducible refine l_ltI ?_) | (with_reducible refine l_leI ?_) | (with_reducible refine l_gtI ?_) | (with_reducible refine l_geI ?_) | (with_reducible refine l_lenL ?_) | (with_reducible refine l_lenT ?_) | (with_reducible refine l_lenF ?_) | (with_reducible refine l_intI ?_) | (with_reducible refine l_absI ?_) | (with_reducible refine l_tupL ?_) | (with_reducible refine l_bl ?_) | (with_reducible refine l_int ?_) | (with_reducible refine l_itL ?_) | (with_reducible refine l_itT ?_) | (with_reducible refine l_itS ?_)
  | (refine And.intro (Eq.refl (_ : Nat)) ?_) | (dsimp only))
local macro_rules | `(tactic| walk_at "ev") => `(tactic| (walk_at "ev1"; repeat (walk_at "ev1")))
/-! ### entries -/
/-- the signs of a row -/
def Rg (c : Nat) : Prop := Sg c ∨ c = 32 ∨ c = 44 ∨ c = 61
theorem Rg.lt {c : Nat} (h : Rg c) : c < 128 ∧ c ≠ 58 ∧ c ≠ 10 := by
  rcases h with ((h | h | h) | h) | h | h | h <;> omega
theorem pS_signs {lg : Bool} {p : Str × Tm} (h1 : IsNm p.1) (h2 : okT lg p.2) : ∀ c ∈ TL.tl (pS p), Rg c ∧ c ≠ 44 := by
  intro c hc
  unfold pS at hc
  rw [TL.tl_append, TL.tl_append, show TL.tl (Str.ofString " = ") = [32, 61, 32] from by decide +kernel] at hc
  rcases List.mem_append.mp hc with hc | hc
  · rcases List.mem_append.mp hc with hc | hc
    · have q := h1.signs c hc
      refine ⟨.inl (.inl q), ?_⟩
      rcases q with h | h | h <;> omega
    · simp only [List.mem_cons, List.not_mem_nil, or_false] at hc
      rcases hc with rfl | rfl | rfl
      · exact ⟨.inr (.inl rfl), by decide⟩
      · exact ⟨.inr (.inr (.inr rfl)), by decide⟩
      · exact ⟨.inr (.inl rfl), by decide⟩
  · have q := tS_signs h2 c hc
    refine ⟨.inl q, ?_⟩
    rcases q with (h | h | h) | h <;> omega
theorem mem_joinL {S : List Nat} {c : Nat} : ∀ {l : List (List Nat)}, c ∈ TL.joinL S l → c ∈ S ∨ ∃ p ∈ l, c ∈ p
  | [], h => by cases h
  | [p], h => .inr ⟨p, List.mem_singleton.mpr rfl, h⟩
  | p :: q :: r, h => by
    have h : c ∈ p ++ (S ++ TL.joinL S (q :: r)) := h
    rcases List.mem_append.mp h with h | h
    · exact .inr ⟨p, List.mem_cons_self, h⟩
    · rcases List.mem_append.mp h with h | h
      · exact .inl h
      · rcases mem_joinL h with h | ⟨z, hz, h⟩
        · exact .inl h
        · exact .inr ⟨z, List.mem_cons_of_mem _ hz, h⟩
theorem psS_signs {lg : Bool} {ps : List (Str × Tm)} (h : OkPs lg ps) : ∀ c ∈ TL.tl (psS ps), Rg c := by
  intro c hc
  unfold psS at hc
  rw [TL.tl_join, show TL.tl (Str.ofString ", ") = [44, 32] from by decide +kernel] at hc
  rcases mem_joinL hc with hc | ⟨q, hq, hc⟩
  · simp only [List.mem_cons, List.not_mem_nil, or_false] at hc
    rcases hc with rfl | rfl
    · exact .inr (.inr (.inl rfl))
    · exact .inr (.inl rfl)
  · obtain ⟨z, hz, rfl⟩ := List.mem_map.mp hq
    obtain ⟨p, hp, rfl⟩ := List.mem_map.mp hz
    exact (pS_signs (h.nm p hp) (h.tm p hp) c hc).1
theorem restS_signs {lg : Bool} {ps : List (Str × Tm)} (h : OkPs lg ps) : ∀ c ∈ TL.tl (restS ps), Rg c := by
  intro c hc
  unfold restS at hc
  split at hc
  · cases hc
  · rw [TL.tl_append, show TL.tl (Str.ofString " ") = [32] from by decide +kernel] at hc
    rcases List.mem_append.mp hc with hc | hc
    · rw [List.mem_singleton.mp hc]
      exact .inr (.inl rfl)
    · exact psS_signs h c hc
def headS (lg : Bool) (k : Int) : Str := kindS lg ++ Str.ofString " " ++ numS k
theorem tl_kind (lg : Bool) : ∀ c ∈ TL.tl (kindS lg), Nm c := by cases lg <;> decide +kernel
theorem headS_signs (lg : Bool) (k : Int) : ∀ c ∈ TL.tl (headS lg k), Rg c := by
  intro c hc
  unfold headS at hc
  rw [TL.tl_append, TL.tl_append, show TL.tl (Str.ofString " ") = [32] from by decide +kernel] at hc
  rcases List.mem_append.mp hc with hc | hc
  · rcases List.mem_append.mp hc with hc | hc
    · exact .inl (.inl (tl_kind lg c hc))
    · rw [List.mem_singleton.mp hc]
      exact .inr (.inl rfl)
  · exact .inl (num_signs k c hc)
theorem split_row {lg : Bool} {e : Int × List (Str × Tm)} (h : OkE lg e) : Txt.split (rowS lg e) (Str.ofString ":") = [headS lg e.1, restS e.2] := by
  have := TL.split_join (y := Str.ofString ":") (s := 58) (S := []) (by decide +kernel) (by decide +kernel) (parts := [headS lg e.1, restS e.2]) (by simp) (fun q hq hc => by
    rcases List.mem_cons.mp hq with rfl | hq
    · exact (headS_signs _ _ _ hc).lt.2.1 rfl
    · rw [List.mem_singleton.mp hq] at hc
      exact (restS_signs h.ps _ hc).lt.2.1 rfl)
  rw [TL.join_eq] at this
  exact this
theorem split_pairs {lg : Bool} {ps : List (Str × Tm)} (h : OkPs lg ps) (hn : ps ≠ []) : Txt.split (psS ps) (Str.ofString ", ") = ps.map pS := by
  have := TL.split_join (y := Str.ofString ", ") (s := 44) (S := [32]) (by decide +kernel) (by decide +kernel) (parts := ps.map pS) (by simpa using hn) (fun q hq hc => by
    obtain ⟨p, hp, rfl⟩ := List.mem_map.mp hq
    exact (pS_signs (h.nm p hp) (h.tm p hp) _ hc).2 rfl)
  rw [TL.join_eq] at this
  exact this
theorem head_len (lg : Bool) {k : Int} (h : 0 ≤ k ∧ k < 1000) : (headS lg k).length ≤ 15 := by
  unfold headS
  rw [len_app, len_app]
  have h1 := kind_len lg
  have h2 := num_len (i := k) ⟨by omega, by omega⟩
  have h3 : (Str.ofString " ").length = 1 := rfl
  omega
theorem head_take (lg : Bool) (k : Int) : cutS (headS lg k) none (some (((kindS lg).length : Int) + 1)) = kindS lg ++ Str.ofString " " := by
  refine TL.ext_tl ?_
  rw [show (((kindS lg).length : Int) + 1) = (((kindS lg).length + 1 : Nat) : Int) from rfl, cut_take]
  unfold headS
  have e : (kindS lg).length + 1 = (TL.tl (kindS lg ++ Str.ofString " ")).length := by rw [TL.tl_append, List.length_append, ← TL.len_tl]; rfl
  rw [TL.tl_append, e, List.take_left]
theorem head_drop (lg : Bool) (k : Int) : cutS (headS lg k) (some (((kindS lg).length : Int) + 1)) none = numS k := by
  refine TL.ext_tl ?_
  rw [show (((kindS lg).length : Int) + 1) = (((kindS lg).length + 1 : Nat) : Int) from rfl, cut_drop]
  unfold headS
  have e : (kindS lg).length + 1 = (TL.tl (kindS lg ++ Str.ofString " ")).length := by rw [TL.tl_append, List.length_append, ← TL.len_tl]; rfl
  rw [TL.tl_append, e, List.drop_left]
theorem kind_rule (lg : Bool) : decide (kindS lg = Str.ofString "rule") = lg := by cases lg <;> decide +kernel
theorem keys_strs : ∀ l : List Str, keysOf (l.map D.str) = some (l.map Sum.inr)
  | [] => rfl
  | z :: l => by
    rw [List.map_cons]
    unfold keysOf
    rw [keys_strs l]
    rfl
theorem met_go {α : Type} [DecidableEq α] : ∀ (l a : List α), (a ++ l).Nodup → l.foldl metS a = a ++ l
  | [], a, _ => by rw [List.append_nil]; rfl
  | k :: l, a, h => by
    have hk : k ∉ a := by
      rw [List.nodup_append] at h
      intro q
      exact h.2.2 k q k List.mem_cons_self rfl
    show l.foldl metS (metS a k) = _
    unfold metS
    rw [if_neg hk]
    have := met_go l (a ++ [k]) (by rw [List.append_assoc]; exact h)
    unfold metS at this
    rw [this, List.append_assoc]
    rfl
theorem met_nodup {α : Type} [DecidableEq α] {l : List α} (h : l.Nodup) : met l = l := met_go l [] h
theorem r_lenset {m : M D} {s : S} {P : D → S → Prop} (h : Ret m s fun d s1 => ∃ ds ks, d = .lst ds ∧ keysOf ds = some ks ∧ ks.length + 1 < 1000 ∧ P (.int (met ks).length) s1) : Ret (mLenSet m) s P := by
  obtain ⟨a, s1, e1, ds, ks, rfl, e2, e3, r⟩ := h
  exact ⟨_, s1, by unfold mLenSet; rw [e1]; simp only [e2, if_pos e3], r⟩
theorem entry_of_ok {lg : Bool} {e : Int × List (Str × Tm)} (h : OkE lg e) (row : Int) (W : WS) : ∃ d W', m_entry_of [.str (rowS lg e), .int row, .str (kindS lg)] W = some (d, W') ∧ d = eD e ∧ W' = W := by
  refine def_ret (R := fun d W' => d = eD e ∧ W' = W) ?_
  show RetS mB_entry_of ⟨[.imm (.str (rowS lg e)), .imm (.int row), .imm (.str (kindS lg)), .u, .u, .u, .u, .u, .u], W⟩ _
  unfold mB_entry_of
  have l1 := rowS_len h
  have l2 := head_len lg h.k
  have l3 := restS_len h.ps
  have l4 := psS_len h.ps
  have l5 := kind_len lg
  have l6 := h.ps.len
  have hk : -1000000000 < e.1 ∧ e.1 < 1000000000 := ⟨by have := h.k; omega, by have := h.k; omega⟩
  have l7 := num_len hk
  walk_at "ev"
  refine l_split (by decide) (by omega) ?_
  rw [split_row h]
  walk_at "ev"
  refine iteF ?_
  walk_at "ev"
  refine l_ixL (d := .str (headS lg e.1)) rfl ?_
  walk_at "ev"
  refine l_lenS (by omega) ?_
  walk_at "ev"
  refine l_slS (by omega) ?_
  rw [head_take]
  walk_at "ev"
  refine l_addS (by show _ + 1 ≤ _; omega) ?_
  walk_at "ev"
  rw [decide_eq_true rfl]
  refine iteF ?_
  walk_at "ev"
  refine l_ixL (d := .str (headS lg e.1)) rfl ?_
  walk_at "ev"
  refine l_lenS (by omega) ?_
  walk_at "ev"
  refine l_slS (by omega) ?_
  rw [head_drop]
  walk_at "ev"
  refine ⟨_, _, is_num_ok (okS_of fun c hc => (num_signs _ c hc).lt) (by omega) W, _, rfl, ?_⟩
  rw [numS_num ⟨h.k.1, hk.2⟩]
  refine iteF ?_
  walk_at "ev"
  refine ⟨by decide, ?_⟩
  walk_at "ev"
  -- from the pairs on
  have fin : ∀ x5 : AV, RetS (mSeq (mAsg (mLc [7, 8] (mIter (mVar 4)) (gT 2 (gsC (gN 7) (gsC (gN 8) gsN))) mYes (mVar 7)) (gN 6))
      (mSeq (mIfS (mOr (mTest (mOp dNe (mVarB 6) (mCB fSorted (mCons (mVarB 6) mNil)))) (mTest (mOp dNe (mLenSet (mVarB 6)) (mCB fLen (mCons (mVarB 6) mNil))))) mNever mSkip)
      (mRet (mTup (mCons (mCB fInt (mCons (mSl (mOp dIx (mVarB 3) (mC (.int 0))) (oSome (mOp dAdd (mCB fLen (mCons (mVarB 2) mNil)) (mC (.int 1)))) oNone) mNil)) (mCons (mVar 4) mNil))))))
      ⟨[.imm (.str (rowS lg e)), .imm (.int row), .imm (.str (kindS lg)), .imm (.lst [.str (headS lg e.1), .str (restS e.2)]), .imm (psD e.2), x5, .u, .u, .u], W⟩ (fun o => match o with | .rt d W' => d = eD e ∧ W' = W | .nx s => D.non = eD e ∧ s.W = W | _ => False) := by
    intro x5
    walk_at "ev"
    refine r_lc (fun ds s acc => ∃ (r m : List (Str × Tm)), s = ⟨[.imm (.str (rowS lg e)), .imm (.int row), .imm (.str (kindS lg)), .imm (.lst [.str (headS lg e.1), .str (restS e.2)]), .imm (psD e.2), x5, .u, .u, .u], W⟩ ∧ ds = r.map pD ∧ acc = (m.map (·.1)).map .str ∧ m ++ r = e.2) ?_ ?_ ?_
    · walk_at "ev"
      exact ⟨_, rfl, e.2, [], rfl, rfl, rfl, rfl⟩
    · rintro d ds _ _ ⟨r, m, rfl, hds, rfl, hm⟩
      cases r with
      | nil => cases hds
      | cons p r =>
      rw [List.map_cons] at hds
      injection hds with h1 h2
      subst h1 h2
      have hml : m.length ≤ 6 := by
        have := congrArg List.length hm
        rw [List.length_append, List.length_cons] at this
        omega
      refine ⟨_, rfl, ?_⟩
      walk_at "ev"
      refine iteT ?_
      walk_at "ev"
      refine ⟨by rw [List.length_map, List.length_map]; omega, r, m ++ [p], rfl, rfl, ?_, ?_⟩
      · rw [List.map_append, List.map_append]
        rfl
      · rw [List.append_assoc]
        exact hm
    · rintro _ _ ⟨r, m, rfl, hds, rfl, hm⟩
      cases r with
      | cons p r => cases hds
      | nil =>
      rw [List.append_nil] at hm
      subst hm
      have hnl : (e.2.map (·.1)).length ≤ 6 := by rw [List.length_map]; exact l6
      have hnm : ∀ z ∈ e.2.map (·.1), IsNm z := fun z hz => by
        obtain ⟨p, hp, rfl⟩ := List.mem_map.mp hz
        exact h.ps.nm p hp
      have hup : (e.2.map (·.1)).Pairwise fun a b => leS a b = true := by
        rw [List.pairwise_map]
        exact h.ps.up
      have hnd := h.ps.nd
      generalize e.2.map (·.1) = N at hnl hnm hup hnd ⊢
      have hly : lay (.lst (N.map .str)) 1 := lay_lst fun d hd => by
        obtain ⟨z, hz, rfl⟩ := List.mem_map.mp hd
        exact lay_str (hnm z hz).ok 0
      walk_at "ev"
      refine l_sorted hnm (by omega) ?_
      rw [sortS_self hup]
      refine l_neD (fun _ z => nomatch z) (fun _ z => nomatch z) (lay_shp hly (by decide)) (lay_shp hly (by decide)) ?_
      rw [PySem.SeqAt.eqv_refl _ hly.1]
      refine ⟨_, rfl, ?_⟩
      refine iteF ?_
      walk_at "ev"
      refine r_lenset ?_
      walk_at "ev"
      refine ⟨_, _, rfl, keys_strs N, by rw [List.length_map]; omega, ?_⟩
      have hni : (N.map (Sum.inr : Str → Key)).Nodup := by
        unfold List.Nodup
        rw [List.pairwise_map]
        exact hnd.imp fun h q => h (by injection q)
      rw [met_nodup hni]
      walk_at "ev"
      rw [List.length_map, List.length_map, decide_eq_true rfl]
      refine iteF ?_
      walk_at "ev"
      refine l_ixL (d := .str (headS lg e.1)) rfl ?_
      walk_at "ev"
      refine l_lenS (by omega) ?_
      walk_at "ev"
      refine l_slS (by omega) ?_
      rw [head_drop]
      walk_at "ev"
      refine l_intS (z := numS e.1) (by omega) (int_numS ⟨h.k.1, hk.2⟩) ?_
      walk_at "ev"
      exact ⟨by simp, rfl, rfl⟩
  refine l_ixL (d := .str (restS e.2)) rfl ?_
  walk_at "ev"
  by_cases hps : e.2 = []
  · have e0 : restS e.2 = Str.ofString "" := by unfold restS; rw [if_pos hps]
    rw [decide_eq_true e0]
    refine iteF (s_skip ?_)
    have := fin .u
    unfold psD at this
    rw [hps] at this
    simp only [hps]
    exact this
  · have er : restS e.2 = Str.ofString " " ++ psS e.2 := by unfold restS; rw [if_neg hps]
    have et : TL.tl (restS e.2) = 32 :: TL.tl (psS e.2) := by rw [er, TL.tl_append]; rfl
    have e0 : ¬ restS e.2 = Str.ofString "" := fun q => by rw [q] at et; cases et
    rw [decide_eq_false e0]
    refine iteT ?_
    walk_at "ev"
    refine l_ixL (d := .str (restS e.2)) rfl ?_
    walk_at "ev"
    refine l_ixS (c := 32) (by omega) (atI_nat (j := 0) (by show (TL.tl (restS e.2))[0]? = _; rw [et]; rfl)) ?_
    walk_at "ev"
    rw [show decide ((⟨#[32]⟩ : Str) = Str.ofString " ") = true from by decide +kernel]
    refine iteF ?_
    walk_at "ev"
    have ec : cutS (restS e.2) (some 1) none = psS e.2 := TL.ext_tl (by
      rw [show (1 : Int) = ((1 : Nat) : Int) from rfl, cut_drop, et]
      rfl)
    refine r_lc (fun ds s acc => ∃ (r m : List (Str × Tm)), s = ⟨[.imm (.str (rowS lg e)), .imm (.int row), .imm (.str (kindS lg)), .imm (.lst [.str (headS lg e.1), .str (restS e.2)]), .imm (.tup []), .u, .u, .u, .u], W⟩ ∧ ds = (r.map pS).map .str ∧ acc = m.map pD ∧ m ++ r = e.2) ?_ ?_ ?_
    · walk_at "ev"
      refine l_ixL (d := .str (restS e.2)) rfl ?_
      walk_at "ev"
      refine l_slS (by omega) ?_
      rw [ec]
      walk_at "ev"
      refine l_split (by decide) (by omega) ?_
      rw [split_pairs h.ps hps]
      walk_at "ev"
      exact ⟨e.2, [], rfl, rfl, rfl, rfl⟩
    · rintro d ds _ _ ⟨r, m, rfl, hds, rfl, hm⟩
      cases r with
      | nil => cases hds
      | cons p r =>
      rw [List.map_cons, List.map_cons] at hds
      injection hds with h1 h2
      subst h1 h2
      have hp : p ∈ e.2 := by rw [← hm]; simp
      have hml : m.length ≤ 6 := by
        have := congrArg List.length hm
        rw [List.length_append, List.length_cons] at this
        omega
      walk_at "ev"
      refine iteT ?_
      walk_at "ev"
      rw [kind_rule]
      obtain ⟨_, _, e1, rfl, rfl⟩ := pair_of_ok (h.ps.nm p hp) (h.ps.tm p hp) row W
      refine ⟨_, _, e1, ?_⟩
      refine ⟨by rw [List.length_map]; omega, r, m ++ [p], rfl, rfl, ?_, ?_⟩
      · rw [List.map_append]
        rfl
      · rw [List.append_assoc]
        exact hm
    · rintro _ _ ⟨r, m, rfl, hds, rfl, hm⟩
      cases r with
      | cons p r => cases hds
      | nil =>
      rw [List.append_nil] at hm
      subst hm
      refine r_nil ?_
      refine l_tupL ?_
      refine l_gN (by simp) ?_
      exact fin .u
end Lw

set_option Elab.async false
set_option linter.all false
set_option maxRecDepth 100000
namespace Lw
open PySem PySem.Spec PyProof.Rows L2 MM
local macro_rules | `(tactic| walk_at "ev1") => `(tactic| first
  | (with_reducible refine s_seq ?_) | (with_reducible refine s_asg ?_) | (with_reducible refine s_own ?_) | (with_reducible refine s_ret ?_) | (with_reducible refine s_if ?_) | (with_reducible refine s_skip ?_) | (with_reducible refine s_par ?_)
  | (with_reducible refine r_c ?_) | ((with_reducible refine' r_vB ?e ?_); (case e => exact rfl)) | ((with_reducible refine' r_v ?e ?_); (case e => exact rfl)) | ((with_reducible refine' r_vBo ?e ?_); (case e => exact rfl)) | ((with_reducible refine' r_vo ?e ?_); (case e => exact rfl))
  | (with_reducible refine r_op ?_) | (with_reducible refine r_un ?_) | (with_reducible refine r_cons ?_) | (with_reducible refine r_nil ?_) | (with_reducible refine r_cb ?_) | (with_reducible refine r_call ?_) | (with_reducible refine r_lst ?_) | (with_reducible refine r_tup ?_)
  | (with_reducible refine r_test ?_) | (with_reducible refine r_and ?_) | (with_reducible refine r_or ?_) | (with_reducible refine r_not ?_) | (with_reducible refine r_andV ?_) | (with_reducible refine r_orV ?_) | (with_reducible refine r_notV ?_) | (with_reducible refine r_if ?_)
  | (with_reducible refine o_none ?_) | (with_reducible refine o_some ?_) | (with_reducible refine r_sl ?_) | (with_reducible refine r_iter ?_) | (with_reducible refine r_rng1 ?_) | (with_reducible refine mYes_ret ?_)
  | (refine l_gN (by simp) ?_)
  | (with_reducible refine l_addI ?_) | (with_reducible refine l_subI ?_) | (with_reducible refine l_negI ?_) | (with_reducible refine l_eqI ?_) | (with_reducible refine l_eqS ?_) | (with_reducible refine l_neI ?_) | (with_reducible refine l_neS ?_)
  | (with_reducible refine l_ltI ?_) | (with_reducible refine l_leI ?_) | (with_reducible refine l_gtI ?_) | (with_reducible refine l_geI ?_) | (with_reducible refine l_lenL ?_) | (with_reducible refine l_lenT ?_) | (with_reducible refine l_lenF ?_) | (with_reducible refine l_intI ?_) | (with_reducible refine l_absI ?_) | (with_reducible refine l_tupL ?_) | (with_reducible refine l_bl ?_) | (with_reducible refine l_int ?_) | (with_reducible refine l_itL ?_) | (with_reducible refine l_itT ?_) | (with_reducible refine l_itS ?_)
  | (refine And.intro (Eq.refl (_ : Nat)) ?_) | (dsimp only))
local macro_rules | `(tactic| walk_at "ev") => `(tactic| (walk_at "ev1"; repeat (walk_at "ev1")))
/-! ### rows -/
theorem joinL_nil : ∀ l : List (List Nat), TL.joinL [] l = l.flatten
  | [] => rfl
  | [p] => by show p = [p].flatten; simp
  | p :: q :: r => by
    show p ++ ([] ++ TL.joinL [] (q :: r)) = _
    rw [joinL_nil (q :: r), List.nil_append, List.flatten_cons, List.flatten_cons, List.flatten_cons]
theorem joinL_last (S : List Nat) : ∀ l : List (List Nat), TL.joinL S (l ++ [[]]) = (l.map (· ++ S)).flatten
  | [] => rfl
  | [p] => by
    show p ++ (S ++ []) = _
    simp
  | p :: q :: r => by
    show p ++ (S ++ TL.joinL S ((q :: r) ++ [[]])) = _
    rw [joinL_last S (q :: r), List.map_cons, List.map_cons, List.flatten_cons, List.flatten_cons, List.map_cons, List.flatten_cons, List.append_assoc, List.append_assoc]
theorem rowS_signs {lg : Bool} {e : Int × List (Str × Tm)} (h : OkE lg e) : 10 ∉ TL.tl (rowS lg e) := by
  intro hc
  have er : rowS lg e = headS lg e.1 ++ Str.ofString ":" ++ restS e.2 := rfl
  rw [er, TL.tl_append, TL.tl_append, show TL.tl (Str.ofString ":") = [58] from by decide +kernel] at hc
  rcases List.mem_append.mp hc with hc | hc
  · rcases List.mem_append.mp hc with hc | hc
    · exact (headS_signs _ _ _ hc).lt.2.2 rfl
    · exact absurd (List.mem_singleton.mp hc) (by decide)
  · exact (restS_signs h.ps _ hc).lt.2.2 rfl
theorem split_txt {lg : Bool} {es : List (Int × List (Str × Tm))} (h : ∀ e ∈ es, OkE lg e) : Txt.split (txtS lg es) (Str.ofString "\n") = es.map (rowS lg) ++ [Str.ofString ""] := by
  have := TL.split_join (y := Str.ofString "\n") (s := 10) (S := []) (by decide +kernel) (by decide +kernel) (parts := es.map (rowS lg) ++ [Str.ofString ""]) (by simp) (fun q hq hc => by
    rcases List.mem_append.mp hq with hq | hq
    · obtain ⟨e, he, rfl⟩ := List.mem_map.mp hq
      exact rowS_signs (h e he) hc
    · rw [List.mem_singleton.mp hq] at hc
      cases hc)
  rw [TL.join_eq] at this
  have e : Str.join (Str.ofString "\n") (es.map (rowS lg) ++ [Str.ofString ""]) = txtS lg es := TL.ext_tl (by
    unfold txtS
    rw [TL.tl_join, TL.tl_join, List.map_append]
    have e1 : [Str.ofString ""].map TL.tl = [[]] := rfl
    have e2 : TL.tl (Str.ofString "") = [] := rfl
    rw [e1, e2, joinL_last, joinL_nil, List.map_map, List.map_map, List.map_map]
    congr 1
    refine List.map_congr_left fun e he => ?_
    show TL.tl (rowS lg e) ++ TL.tl (Str.ofString "\n") = TL.tl (rowS lg e ++ Str.ofString "\n")
    rw [TL.tl_append])
  rwa [e] at this
theorem atI_last {α : Type} (l : List α) (d : α) : atI (l ++ [d]) (-1) = some d := by
  unfold atI ixN
  rw [if_neg (by decide), List.length_append, List.length_singleton, if_pos (by omega)]
  have : ((-1 : Int) + ((l.length + 1 : Nat) : Int)).toNat = l.length := by omega
  rw [Option.bind_some, this, List.getElem?_append_right (Nat.le_refl _), Nat.sub_self]
  rfl
theorem cut_last (l : List D) (d : D)   : MM.cutD (l ++ [d]) none (some (-1)) = l := by
  unfold MM.cutD
  rw [HT.sIx_none, List.drop_zero, Nat.sub_zero]
  have : HT.sIx (l ++ [d]).length (l ++ [d]).length (some (-1)) = l.length := by
    show (if (-1 : Int) < 0 then ((-1 : Int) + (((l ++ [d]).length : Nat) : Int)).toNat else min (-1 : Int).toNat (l ++ [d]).length) = _
    rw [if_pos (by decide), List.length_append, List.length_singleton]
    omega
  rw [this, List.take_left]
theorem rows_of_ok {lg : Bool} {es : List (Int × List (Str × Tm))} (h : ∀ e ∈ es, OkE lg e) (hl : es.length ≤ 5) (W : WS) : ∃ d W', m_rows_of [.str (txtS lg es)] W = some (d, W') ∧ d = .lst ((es.map (rowS lg)).map .str) ∧ W' = W := by
  refine def_ret (R := fun d W' => d = .lst ((es.map (rowS lg)).map .str) ∧ W' = W) ?_
  show RetS mB_rows_of ⟨[.imm (.str (txtS lg es)), .u], W⟩ _
  unfold mB_rows_of
  have l1 := txtS_len h hl
  walk_at "ev"
  refine l_split (by decide) (by omega) ?_
  rw [split_txt h, List.map_append, List.map_singleton]
  walk_at "ev"
  refine l_ixL (d := .str (Str.ofString "")) (atI_last _ _) ?_
  walk_at "ev"
  rw [decide_eq_true rfl]
  refine iteF ?_
  walk_at "ev"
  refine l_slL ?_
  refine ⟨?_, rfl⟩
  rw [cut_last]
theorem ranged_succ (lo : Int) (n : Nat) : ranged lo (n + 1) = .int lo :: ranged (lo + 1) n := by
  unfold ranged
  rw [List.range_succ_eq_map, List.map_cons, List.map_map]
  congr 1
  · simp
  · refine List.map_congr_left fun k _ => ?_
    show D.int (lo + ((k + 1 : Nat) : Int)) = D.int (lo + 1 + (k : Int))
    congr 1
    omega
theorem read_entries_ok {lg : Bool} {es : List (Int × List (Str × Tm))} (h : ∀ e ∈ es, OkE lg e) (hl : es.length ≤ 5) (W : WS) : ∃ d W', m_read_entries [.str (txtS lg es), .str (kindS lg)] W = some (d, W') ∧ d = esD es ∧ W' = W := by
  refine def_ret (R := fun d W' => d = esD es ∧ W' = W) ?_
  show RetS mB_read_entries ⟨[.imm (.str (txtS lg es)), .imm (.str (kindS lg)), .u, .u], W⟩ _
  unfold mB_read_entries
  walk_at "ev"
  obtain ⟨_, W', e1, rfl, hW⟩ := rows_of_ok h hl W
  rw [hW] at e1
  refine ⟨_, _, e1, ?_⟩
  walk_at "ev"
  refine r_lc (fun ds s acc => ∃ (r m : List (Int × List (Str × Tm))), s = ⟨[.imm (.str (txtS lg es)), .imm (.str (kindS lg)), .imm (.lst ((es.map (rowS lg)).map .str)), .u], W⟩ ∧ ds = ranged m.length r.length ∧ acc = m.map eD ∧ m ++ r = es) ?_ ?_ ?_
  · walk_at "ev"
    have hn : (((es.map (rowS lg)).map D.str).length : Int) = (es.length : Int) := by rw [List.length_map, List.length_map]
    rw [hn]
    exact ⟨_, rfl, ⟨by omega, by omega⟩, es, [], rfl, rfl, rfl, rfl⟩
  · rintro d ds _ _ ⟨r, m, rfl, hds, rfl, hm⟩
    cases r with
    | nil => cases hds
    | cons e r =>
    rw [List.length_cons, ranged_succ] at hds
    injection hds with h1 h2
    subst h1 h2
    have he : e ∈ es := by rw [← hm]; simp
    have hml : m.length ≤ 5 := by
      have := congrArg List.length hm
      rw [List.length_append, List.length_cons] at this
      omega
    walk_at "ev"
    refine iteT ?_
    walk_at "ev"
    refine l_ixL (d := .str (rowS lg e)) (atI_nat ?_) ?_
    · rw [← hm, List.getElem?_map, List.getElem?_map, List.getElem?_append_right (Nat.le_refl _), Nat.sub_self]
      rfl
    walk_at "ev"
    obtain ⟨_, _, e2, rfl, hW2⟩ := entry_of_ok (h e he) ((m.length : Int) + 1) W
    rw [hW2] at e2
    refine ⟨_, _, e2, ?_⟩
    refine ⟨by rw [List.length_map]; omega, r, m ++ [e], rfl, ?_, ?_, ?_⟩
    · rw [List.length_append]
      rfl
    · rw [List.map_append]
      rfl
    · rw [List.append_assoc]
      exact hm
  · rintro _ _ ⟨r, m, rfl, hds, rfl, hm⟩
    cases r with
    | cons e r =>
      rw [List.length_cons, ranged_succ] at hds
      cases hds
    | nil =>
    rw [List.append_nil] at hm
    subst hm
    walk_at "ev"
    exact ⟨rfl, rfl⟩
theorem read_paper_ok {es : List (Int × List (Str × Tm))} (h : ∀ e ∈ es, OkE false e) (hl : es.length ≤ 5) (W : WS) : m_read_paper [.str (txtS false es)] W = some (esD es, W) := by
  suffices ∃ d W', m_read_paper [.str (txtS false es)] W = some (d, W') ∧ d = esD es ∧ W' = W by
    obtain ⟨d, W', e, rfl, rfl⟩ := this
    exact e
  refine def_ret (R := fun d W' => d = esD es ∧ W' = W) ?_
  show RetS mB_read_paper ⟨[.imm (.str (txtS false es))], W⟩ _
  unfold mB_read_paper
  walk_at "ev"
  obtain ⟨_, _, e1, rfl, rfl⟩ := read_entries_ok h hl W
  exact ⟨_, _, e1, rfl, rfl⟩
theorem read_log_ok {es : List (Int × List (Str × Tm))} (h : ∀ e ∈ es, OkE true e) (hl : es.length ≤ 5) (W : WS) : m_read_log [.str (txtS true es)] W = some (esD es, W) := by
  suffices ∃ d W', m_read_log [.str (txtS true es)] W = some (d, W') ∧ d = esD es ∧ W' = W by
    obtain ⟨d, W', e, rfl, rfl⟩ := this
    exact e
  refine def_ret (R := fun d W' => d = esD es ∧ W' = W) ?_
  show RetS mB_read_log ⟨[.imm (.str (txtS true es))], W⟩ _
  unfold mB_read_log
  walk_at "ev"
  obtain ⟨_, _, e1, rfl, rfl⟩ := read_entries_ok h hl W
  exact ⟨_, _, e1, rfl, rfl⟩
/-! ### the same -/
theorem l_isi {d : D} {n a : String} {b : Bool} {Q : D → Prop} (ht : tyName d = some a) (hk : kitB a n = some b) (q : Q (.bl b)) : ∃ z, fIsi [d, .ty n] = some z ∧ Q z := ⟨_, by unfold fIsi; simp only [ht, hk]; rfl, q⟩
def Sm : Nat → D → Prop
  | 0, _ => False
  | n + 1, d => (∃ z, d = .str z) ∨ (∃ i, d = .int i) ∨ ∃ ds, d = .tup ds ∧ ds.length ≤ 1000 ∧ ∀ x ∈ ds, Sm n x
theorem same_ok : ∀ (n : Nat) (d : D) (W : WS), Sm n d → m_law_same n [d, d] W = some (.bl true, W)
  | 0, _, _, h => h.elim
  | n + 1, d, W, h => by
    suffices ∃ d' W', m_law_same (n + 1) [d, d] W = some (d', W') ∧ d' = .bl true ∧ W' = W by
      obtain ⟨d', W', e, rfl, rfl⟩ := this
      exact e
    refine def_ret (R := fun d W' => d = .bl true ∧ W' = W) ?_
    show RetS (mB_law_same (m_law_same n)) ⟨[.imm d, .imm d, .u], W⟩ _
    unfold mB_law_same
    rcases h with ⟨z, rfl⟩ | ⟨i, rfl⟩ | ⟨ds, rfl, hl, hs⟩
    · walk_at "ev"
      refine l_isi rfl (show kitB _ _ = some false from by decide +kernel) ⟨_, rfl, ?_⟩
      refine iteF ?_
      walk_at "ev"
      refine l_isi rfl (show kitB _ _ = some true from by decide +kernel) ⟨_, rfl, ?_⟩
      refine iteT ?_
      walk_at "ev"
      refine l_isi rfl (show kitB _ _ = some true from by decide +kernel) ⟨_, rfl, ?_⟩
      refine iteT ?_
      walk_at "ev"
      rw [decide_eq_true rfl]
      exact ⟨rfl, rfl⟩
    · walk_at "ev"
      refine l_isi rfl (show kitB _ _ = some false from by decide +kernel) ⟨_, rfl, ?_⟩
      refine iteF ?_
      walk_at "ev"
      refine l_isi rfl (show kitB _ _ = some false from by decide +kernel) ⟨_, rfl, ?_⟩
      refine iteF ?_
      walk_at "ev"
      refine l_isi rfl (show kitB _ _ = some true from by decide +kernel) ⟨_, rfl, ?_⟩
      refine iteT ?_
      walk_at "ev"
      refine l_isi rfl (show kitB _ _ = some false from by decide +kernel) ⟨_, rfl, ?_⟩
      walk_at "ev"
      refine iteT ?_
      walk_at "ev"
      rw [decide_eq_true rfl]
      exact ⟨rfl, rfl⟩
    · walk_at "ev"
      refine l_isi rfl (show kitB _ _ = some true from by decide +kernel) ⟨_, rfl, ?_⟩
      refine iteT ?_
      walk_at "ev"
      refine l_isi rfl (show kitB _ _ = some true from by decide +kernel) ⟨_, rfl, ?_⟩
      refine iteF ?_
      walk_at "ev"
      rw [decide_eq_true rfl]
      refine iteF ?_
      walk_at "ev"
      refine r_lc (fun is s acc => s = ⟨[.imm (.tup ds), .imm (.tup ds), .u], W⟩ ∧ acc = [] ∧ ∀ d ∈ is, ∃ k : Nat, d = .int (k : Int) ∧ k < ds.length) ?_ ?_ ?_
      · walk_at "ev"
        refine ⟨_, rfl, ⟨by omega, by omega⟩, rfl, rfl, fun d hd => ?_⟩
        obtain ⟨k, hk, rfl⟩ := List.mem_map.mp hd
        refine ⟨k, by rw [Int.zero_add], ?_⟩
        have := List.mem_range.mp hk
        omega
      · rintro d is _ _ ⟨rfl, rfl, hi⟩
        obtain ⟨k, rfl, hk⟩ := hi d List.mem_cons_self
        have hx : ds[k]? = some ds[k] := List.getElem?_eq_getElem hk
        walk_at "ev"
        refine l_ixT (atI_nat hx) ?_
        walk_at "ev"
        refine l_ixT (atI_nat hx) ?_
        walk_at "ev"
        refine ⟨_, _, same_ok n _ W (hs _ (List.getElem_mem hk)), _, rfl, ?_⟩
        exact iteF ⟨rfl, rfl, fun d hd => hi d (List.mem_cons_of_mem _ hd)⟩
      · rintro _ _ ⟨rfl, rfl, _⟩
        walk_at "ev"
        refine ⟨by decide, ?_⟩
        refine l_eqD (fun _ z => nomatch z) (fun _ z => nomatch z) (lay_shp (lay_lst (n := 0) (by simp)) (by decide)) (lay_shp (lay_lst (n := 0) (by simp)) (by decide)) ?_
        exact ⟨by rw [PySem.SeqAt.eqv_refl _ (lay_lst (n := 0) (ds := []) (by simp)).1], rfl⟩
theorem sm_es {lg : Bool} {es : List (Int × List (Str × Tm))} (h : ∀ e ∈ es, OkE lg e) (hl : es.length ≤ 5) : Sm 8 (esD es) := by
  refine .inr (.inr ⟨_, rfl, by rw [List.length_map]; omega, fun d hd => ?_⟩)
  obtain ⟨e, he, rfl⟩ := List.mem_map.mp hd
  refine .inr (.inr ⟨_, rfl, by simp, fun d hd => ?_⟩)
  rcases List.mem_cons.mp hd with rfl | hd
  · exact .inr (.inl ⟨_, rfl⟩)
  rw [List.mem_singleton.mp hd]
  refine .inr (.inr ⟨_, rfl, by rw [List.length_map]; have := (h e he).ps.len; omega, fun d hd => ?_⟩)
  obtain ⟨p, hp, rfl⟩ := List.mem_map.mp hd
  refine .inr (.inr ⟨_, rfl, by simp, fun d hd => ?_⟩)
  rcases List.mem_cons.mp hd with rfl | hd
  · exact .inl ⟨_, rfl⟩
  rw [List.mem_singleton.mp hd]
  cases p.2 with
  | s z => exact .inl ⟨_, rfl⟩
  | n i => exact .inr (.inl ⟨_, rfl⟩)
theorem law_runs : LawRuns := by
  intro ns h63
  obtain ⟨draws, hd⟩ := draws_ok h63 (many := 900) (by decide)
  suffices RetS mB_law ⟨[.u, .imm .wh, .u, .u, .u, .u, .u], some (draws, 0)⟩ fun o => ∃ W', o = .rt (.bl true) W' by
    obtain ⟨o, e, W', rfl⟩ := this
    exact ⟨draws, W', hd, e⟩
  unfold mB_law
  refine s_seq ?_
  refine s_for (fun ds s => ∃ W x2 x3 x4 x5 x6, s = ⟨[.u, .imm .wh, x2, x3, x4, x5, x6], W⟩ ∧ Wok W) ?_ ?_ ?_
  · walk_at "ev"
    exact ⟨_, rfl, by decide, _, _, _, _, _, _, rfl, ⟨draws, 0, rfl, Int.le_refl 0⟩⟩
  · rintro d ds _ ⟨W, x2, x3, x4, x5, x6, rfl, hW⟩
    walk_at "ev"
    obtain ⟨pa, W1, e1, ho1, hl1, hW1⟩ := drawn_ok false hW
    refine ⟨_, _, e1, ?_⟩
    walk_at "ev"
    obtain ⟨lo, W2, e2, ho2, hl2, hW2⟩ := drawn_ok true hW1
    refine ⟨_, _, e2, ?_⟩
    walk_at "ev"
    refine ⟨_, _, rfl, by simp, ?_⟩
    walk_at "ev"
    refine ⟨_, _, law_text_ok (lg := false) ho1 hl1 W2, ?_⟩
    walk_at "ev"
    refine ⟨_, _, law_text_ok (lg := true) ho2 hl2 W2, ?_⟩
    walk_at "ev"
    refine ⟨_, _, rfl, by simp, ?_⟩
    walk_at "ev"
    refine ⟨_, _, print_paper_ok ho1 hl1 W2, ?_⟩
    walk_at "ev"
    refine ⟨_, _, same_ok 8 _ W2 (.inl ⟨_, rfl⟩), _, rfl, ?_⟩
    refine iteF ?_
    walk_at "ev"
    refine ⟨_, _, print_log_ok ho2 hl2 W2, ?_⟩
    walk_at "ev"
    refine ⟨_, _, same_ok 8 _ W2 (.inl ⟨_, rfl⟩), _, rfl, ?_⟩
    refine iteF ?_
    walk_at "ev"
    refine ⟨_, _, read_paper_ok ho1 hl1 W2, ?_⟩
    walk_at "ev"
    refine ⟨_, _, same_ok 8 _ W2 (sm_es ho1 hl1), _, rfl, ?_⟩
    refine iteF ?_
    walk_at "ev"
    refine ⟨_, _, read_log_ok ho2 hl2 W2, ?_⟩
    walk_at "ev"
    refine ⟨_, _, same_ok 8 _ W2 (sm_es ho2 hl2), _, rfl, ?_⟩
    refine iteF ?_
    walk_at "ev"
    exact ⟨W2, _, _, _, _, _, rfl, hW2⟩
  · rintro _ ⟨W, x2, x3, x4, x5, x6, rfl, hW⟩
    walk_at "ev"
    exact ⟨_, rfl⟩
end Lw

set_option Elab.async false
set_option linter.all false
set_option maxRecDepth 100000
namespace Lw
open PySem PySem.Spec PyProof.Rows L2 MM
section
end
theorem all_mk {l : PySem.W.OpenLaw} {w : World} {K : PySem.W.Frag} {h : Heap} {mg : Str → Option Value} {fa : Addr} (X : K.In h) (G : h.Ns mainGlobals mg) (hfa : mg "law" = some (.ref fa)) (hl : LawRuns)
    {f0 : Addr} {od0 an0 : Option Addr} {sl0 : Array (Option Value)} {oc0 kV0 dc0 pm0 cd0 ct0 : Value} (a0 : PySem.W.nsIn K mainGlobals "is_numeral" = some (some (.ref f0))) (l0 : K.lookup f0 = some ⟨oc0, od0, .func (PySem.W.fnOf "is_numeral" "is_numeral" (defArgs s_is_numeral) (defBody s_is_numeral) (defScope s_is_numeral) .none kV0 dc0 pm0 an0 cd0 ct0), sl0⟩) (c0 : PySem.W.codeIn K cd0 "is_numeral" = true) (k0 : PySem.W.keepIn K (.ref f0) = true)
    {f1 : Addr} {od1 an1 : Option Addr} {sl1 : Array (Option Value)} {oc1 kV1 dc1 pm1 cd1 ct1 : Value} (a1 : PySem.W.nsIn K mainGlobals "is_name" = some (some (.ref f1))) (l1 : K.lookup f1 = some ⟨oc1, od1, .func (PySem.W.fnOf "is_name" "is_name" (defArgs s_is_name) (defBody s_is_name) (defScope s_is_name) .none kV1 dc1 pm1 an1 cd1 ct1), sl1⟩) (c1 : PySem.W.codeIn K cd1 "is_name" = true) (k1 : PySem.W.keepIn K (.ref f1) = true)
    {f2 : Addr} {od2 an2 : Option Addr} {sl2 : Array (Option Value)} {oc2 kV2 dc2 pm2 cd2 ct2 : Value} (a2 : PySem.W.nsIn K mainGlobals "pair_text" = some (some (.ref f2))) (l2 : K.lookup f2 = some ⟨oc2, od2, .func (PySem.W.fnOf "pair_text" "pair_text" (defArgs s_pair_text) (defBody s_pair_text) (defScope s_pair_text) .none kV2 dc2 pm2 an2 cd2 ct2), sl2⟩) (c2 : PySem.W.codeIn K cd2 "pair_text" = true) (k2 : PySem.W.keepIn K (.ref f2) = true)
    {f3 : Addr} {od3 an3 : Option Addr} {sl3 : Array (Option Value)} {oc3 kV3 dc3 pm3 cd3 ct3 : Value} (a3 : PySem.W.nsIn K mainGlobals "row_text" = some (some (.ref f3))) (l3 : K.lookup f3 = some ⟨oc3, od3, .func (PySem.W.fnOf "row_text" "row_text" (defArgs s_row_text) (defBody s_row_text) (defScope s_row_text) .none kV3 dc3 pm3 an3 cd3 ct3), sl3⟩) (c3 : PySem.W.codeIn K cd3 "row_text" = true) (k3 : PySem.W.keepIn K (.ref f3) = true)
    {f4 : Addr} {od4 an4 : Option Addr} {sl4 : Array (Option Value)} {oc4 kV4 dc4 pm4 cd4 ct4 : Value} (a4 : PySem.W.nsIn K mainGlobals "print_paper" = some (some (.ref f4))) (l4 : K.lookup f4 = some ⟨oc4, od4, .func (PySem.W.fnOf "print_paper" "print_paper" (defArgs s_print_paper) (defBody s_print_paper) (defScope s_print_paper) .none kV4 dc4 pm4 an4 cd4 ct4), sl4⟩) (c4 : PySem.W.codeIn K cd4 "print_paper" = true) (k4 : PySem.W.keepIn K (.ref f4) = true)
    {f5 : Addr} {od5 an5 : Option Addr} {sl5 : Array (Option Value)} {oc5 kV5 dc5 pm5 cd5 ct5 : Value} (a5 : PySem.W.nsIn K mainGlobals "print_log" = some (some (.ref f5))) (l5 : K.lookup f5 = some ⟨oc5, od5, .func (PySem.W.fnOf "print_log" "print_log" (defArgs s_print_log) (defBody s_print_log) (defScope s_print_log) .none kV5 dc5 pm5 an5 cd5 ct5), sl5⟩) (c5 : PySem.W.codeIn K cd5 "print_log" = true) (k5 : PySem.W.keepIn K (.ref f5) = true)
    {f6 : Addr} {od6 an6 : Option Addr} {sl6 : Array (Option Value)} {oc6 kV6 dc6 pm6 cd6 ct6 : Value} (a6 : PySem.W.nsIn K mainGlobals "rows_of" = some (some (.ref f6))) (l6 : K.lookup f6 = some ⟨oc6, od6, .func (PySem.W.fnOf "rows_of" "rows_of" (defArgs s_rows_of) (defBody s_rows_of) (defScope s_rows_of) .none kV6 dc6 pm6 an6 cd6 ct6), sl6⟩) (c6 : PySem.W.codeIn K cd6 "rows_of" = true) (k6 : PySem.W.keepIn K (.ref f6) = true)
    {f7 : Addr} {od7 an7 : Option Addr} {sl7 : Array (Option Value)} {oc7 kV7 dc7 pm7 cd7 ct7 : Value} (a7 : PySem.W.nsIn K mainGlobals "value_of" = some (some (.ref f7))) (l7 : K.lookup f7 = some ⟨oc7, od7, .func (PySem.W.fnOf "value_of" "value_of" (defArgs s_value_of) (defBody s_value_of) (defScope s_value_of) .none kV7 dc7 pm7 an7 cd7 ct7), sl7⟩) (c7 : PySem.W.codeIn K cd7 "value_of" = true) (k7 : PySem.W.keepIn K (.ref f7) = true)
    {f8 : Addr} {od8 an8 : Option Addr} {sl8 : Array (Option Value)} {oc8 kV8 dc8 pm8 cd8 ct8 : Value} (a8 : PySem.W.nsIn K mainGlobals "pair_of" = some (some (.ref f8))) (l8 : K.lookup f8 = some ⟨oc8, od8, .func (PySem.W.fnOf "pair_of" "pair_of" (defArgs s_pair_of) (defBody s_pair_of) (defScope s_pair_of) .none kV8 dc8 pm8 an8 cd8 ct8), sl8⟩) (c8 : PySem.W.codeIn K cd8 "pair_of" = true) (k8 : PySem.W.keepIn K (.ref f8) = true)
    {f9 : Addr} {od9 an9 : Option Addr} {sl9 : Array (Option Value)} {oc9 kV9 dc9 pm9 cd9 ct9 : Value} (a9 : PySem.W.nsIn K mainGlobals "entry_of" = some (some (.ref f9))) (l9 : K.lookup f9 = some ⟨oc9, od9, .func (PySem.W.fnOf "entry_of" "entry_of" (defArgs s_entry_of) (defBody s_entry_of) (defScope s_entry_of) .none kV9 dc9 pm9 an9 cd9 ct9), sl9⟩) (c9 : PySem.W.codeIn K cd9 "entry_of" = true) (k9 : PySem.W.keepIn K (.ref f9) = true)
    {f10 : Addr} {od10 an10 : Option Addr} {sl10 : Array (Option Value)} {oc10 kV10 dc10 pm10 cd10 ct10 : Value} (a10 : PySem.W.nsIn K mainGlobals "read_entries" = some (some (.ref f10))) (l10 : K.lookup f10 = some ⟨oc10, od10, .func (PySem.W.fnOf "read_entries" "read_entries" (defArgs s_read_entries) (defBody s_read_entries) (defScope s_read_entries) .none kV10 dc10 pm10 an10 cd10 ct10), sl10⟩) (c10 : PySem.W.codeIn K cd10 "read_entries" = true) (k10 : PySem.W.keepIn K (.ref f10) = true)
    {f11 : Addr} {od11 an11 : Option Addr} {sl11 : Array (Option Value)} {oc11 kV11 dc11 pm11 cd11 ct11 : Value} (a11 : PySem.W.nsIn K mainGlobals "read_paper" = some (some (.ref f11))) (l11 : K.lookup f11 = some ⟨oc11, od11, .func (PySem.W.fnOf "read_paper" "read_paper" (defArgs s_read_paper) (defBody s_read_paper) (defScope s_read_paper) .none kV11 dc11 pm11 an11 cd11 ct11), sl11⟩) (c11 : PySem.W.codeIn K cd11 "read_paper" = true) (k11 : PySem.W.keepIn K (.ref f11) = true)
    {f12 : Addr} {od12 an12 : Option Addr} {sl12 : Array (Option Value)} {oc12 kV12 dc12 pm12 cd12 ct12 : Value} (a12 : PySem.W.nsIn K mainGlobals "read_log" = some (some (.ref f12))) (l12 : K.lookup f12 = some ⟨oc12, od12, .func (PySem.W.fnOf "read_log" "read_log" (defArgs s_read_log) (defBody s_read_log) (defScope s_read_log) .none kV12 dc12 pm12 an12 cd12 ct12), sl12⟩) (c12 : PySem.W.codeIn K cd12 "read_log" = true) (k12 : PySem.W.keepIn K (.ref f12) = true)
    {f13 : Addr} {od13 an13 : Option Addr} {sl13 : Array (Option Value)} {oc13 kV13 dc13 pm13 cd13 ct13 : Value} (a13 : PySem.W.nsIn K mainGlobals "_law_draws" = some (some (.ref f13))) (l13 : K.lookup f13 = some ⟨oc13, od13, .func (PySem.W.fnOf "_law_draws" "_law_draws" (defArgs s_law_draws) (defBody s_law_draws) (defScope s_law_draws) .none kV13 dc13 pm13 an13 cd13 ct13), sl13⟩) (c13 : PySem.W.codeIn K cd13 "_law_draws" = true) (k13 : PySem.W.keepIn K (.ref f13) = true)
    {f14 : Addr} {od14 an14 : Option Addr} {sl14 : Array (Option Value)} {oc14 kV14 dc14 pm14 cd14 ct14 : Value} (a14 : PySem.W.nsIn K mainGlobals "_law_next" = some (some (.ref f14))) (l14 : K.lookup f14 = some ⟨oc14, od14, .func (PySem.W.fnOf "_law_next" "_law_next" (defArgs s_law_next) (defBody s_law_next) (defScope s_law_next) .none kV14 dc14 pm14 an14 cd14 ct14), sl14⟩) (c14 : PySem.W.codeIn K cd14 "_law_next" = true) (k14 : PySem.W.keepIn K (.ref f14) = true)
    {f15 : Addr} {od15 an15 : Option Addr} {sl15 : Array (Option Value)} {oc15 kV15 dc15 pm15 cd15 ct15 : Value} (a15 : PySem.W.nsIn K mainGlobals "_law_pick" = some (some (.ref f15))) (l15 : K.lookup f15 = some ⟨oc15, od15, .func (PySem.W.fnOf "_law_pick" "_law_pick" (defArgs s_law_pick) (defBody s_law_pick) (defScope s_law_pick) .none kV15 dc15 pm15 an15 cd15 ct15), sl15⟩) (c15 : PySem.W.codeIn K cd15 "_law_pick" = true) (k15 : PySem.W.keepIn K (.ref f15) = true)
    {f16 : Addr} {od16 an16 : Option Addr} {sl16 : Array (Option Value)} {oc16 kV16 dc16 pm16 cd16 ct16 : Value} (a16 : PySem.W.nsIn K mainGlobals "_law_word" = some (some (.ref f16))) (l16 : K.lookup f16 = some ⟨oc16, od16, .func (PySem.W.fnOf "_law_word" "_law_word" (defArgs s_law_word) (defBody s_law_word) (defScope s_law_word) .none kV16 dc16 pm16 an16 cd16 ct16), sl16⟩) (c16 : PySem.W.codeIn K cd16 "_law_word" = true) (k16 : PySem.W.keepIn K (.ref f16) = true)
    {f17 : Addr} {od17 an17 : Option Addr} {sl17 : Array (Option Value)} {oc17 kV17 dc17 pm17 cd17 ct17 : Value} (a17 : PySem.W.nsIn K mainGlobals "_law_number" = some (some (.ref f17))) (l17 : K.lookup f17 = some ⟨oc17, od17, .func (PySem.W.fnOf "_law_number" "_law_number" (defArgs s_law_number) (defBody s_law_number) (defScope s_law_number) .none kV17 dc17 pm17 an17 cd17 ct17), sl17⟩) (c17 : PySem.W.codeIn K cd17 "_law_number" = true) (k17 : PySem.W.keepIn K (.ref f17) = true)
    {f18 : Addr} {od18 an18 : Option Addr} {sl18 : Array (Option Value)} {oc18 kV18 dc18 pm18 cd18 ct18 : Value} (a18 : PySem.W.nsIn K mainGlobals "_law_pairs" = some (some (.ref f18))) (l18 : K.lookup f18 = some ⟨oc18, od18, .func (PySem.W.fnOf "_law_pairs" "_law_pairs" (defArgs s_law_pairs) (defBody s_law_pairs) (defScope s_law_pairs) .none kV18 dc18 pm18 an18 cd18 ct18), sl18⟩) (c18 : PySem.W.codeIn K cd18 "_law_pairs" = true) (k18 : PySem.W.keepIn K (.ref f18) = true)
    {f19 : Addr} {od19 an19 : Option Addr} {sl19 : Array (Option Value)} {oc19 kV19 dc19 pm19 cd19 ct19 : Value} (a19 : PySem.W.nsIn K mainGlobals "_law_drawn" = some (some (.ref f19))) (l19 : K.lookup f19 = some ⟨oc19, od19, .func (PySem.W.fnOf "_law_drawn" "_law_drawn" (defArgs s_law_drawn) (defBody s_law_drawn) (defScope s_law_drawn) .none kV19 dc19 pm19 an19 cd19 ct19), sl19⟩) (c19 : PySem.W.codeIn K cd19 "_law_drawn" = true) (k19 : PySem.W.keepIn K (.ref f19) = true)
    {f20 : Addr} {od20 an20 : Option Addr} {sl20 : Array (Option Value)} {oc20 kV20 dc20 pm20 cd20 ct20 : Value} (a20 : PySem.W.nsIn K mainGlobals "_law_row" = some (some (.ref f20))) (l20 : K.lookup f20 = some ⟨oc20, od20, .func (PySem.W.fnOf "_law_row" "_law_row" (defArgs s_law_row) (defBody s_law_row) (defScope s_law_row) .none kV20 dc20 pm20 an20 cd20 ct20), sl20⟩) (c20 : PySem.W.codeIn K cd20 "_law_row" = true) (k20 : PySem.W.keepIn K (.ref f20) = true)
    {f21 : Addr} {od21 an21 : Option Addr} {sl21 : Array (Option Value)} {oc21 kV21 dc21 pm21 cd21 ct21 : Value} (a21 : PySem.W.nsIn K mainGlobals "_law_text" = some (some (.ref f21))) (l21 : K.lookup f21 = some ⟨oc21, od21, .func (PySem.W.fnOf "_law_text" "_law_text" (defArgs s_law_text) (defBody s_law_text) (defScope s_law_text) .none kV21 dc21 pm21 an21 cd21 ct21), sl21⟩) (c21 : PySem.W.codeIn K cd21 "_law_text" = true) (k21 : PySem.W.keepIn K (.ref f21) = true)
    {f22 : Addr} {od22 an22 : Option Addr} {sl22 : Array (Option Value)} {oc22 kV22 dc22 pm22 cd22 ct22 : Value} (a22 : PySem.W.nsIn K mainGlobals "_law_same" = some (some (.ref f22))) (l22 : K.lookup f22 = some ⟨oc22, od22, .func (PySem.W.fnOf "_law_same" "_law_same" (defArgs s_law_same) (defBody s_law_same) (defScope s_law_same) .none kV22 dc22 pm22 an22 cd22 ct22), sl22⟩) (c22 : PySem.W.codeIn K cd22 "_law_same" = true) (k22 : PySem.W.keepIn K (.ref f22) = true)
    {f23 : Addr} {od23 an23 : Option Addr} {sl23 : Array (Option Value)} {oc23 kV23 dc23 pm23 cd23 ct23 : Value} (a23 : PySem.W.nsIn K mainGlobals "law" = some (some (.ref f23))) (l23 : K.lookup f23 = some ⟨oc23, od23, .func (PySem.W.fnOf "law" "law" (defArgs s_law) (defBody s_law) (defScope s_law) .none kV23 dc23 pm23 an23 cd23 ct23), sl23⟩) (c23 : PySem.W.codeIn K cd23 "law" = true) (k23 : PySem.W.keepIn K (.ref f23) = true)
    {uc0 : Value} (ac0 : PySem.W.nsIn K mainGlobals "LETTERS" = some (some uc0)) (rc0 : RelV (.str "abcdefghijklmnopqrstuvwxyz") uc0)
    {uc1 : Value} (ac1 : PySem.W.nsIn K mainGlobals "DIGITS" = some (some uc1)) (rc1 : RelV (.str "0123456789") uc1)
    {uc2 : Value} (ac2 : PySem.W.nsIn K mainGlobals "LONGEST" = some (some uc2)) (rc2 : RelV (.int 9) uc2)
    (z0 : PySem.W.nsIn K mainGlobals "abs" = some none)
    (z1 : PySem.W.nsIn K mainGlobals "bool" = some none)
    (z2 : PySem.W.nsIn K mainGlobals "int" = some none)
    (z3 : PySem.W.nsIn K mainGlobals "isinstance" = some none)
    (z4 : PySem.W.nsIn K mainGlobals "len" = some none)
    (z5 : PySem.W.nsIn K mainGlobals "range" = some none)
    (z6 : PySem.W.nsIn K mainGlobals "set" = some none)
    (z7 : PySem.W.nsIn K mainGlobals "sorted" = some none)
    (z8 : PySem.W.nsIn K mainGlobals "str" = some none)
    (z9 : PySem.W.nsIn K mainGlobals "tuple" = some none)
    : ∃ fd : FuncData, (∀ (s : Shared) (v : Value), BindsTo s fd ⟨[v], []⟩ [("script", v)]) ∧ ∀ base : Heap, K.In base → base.Ns mainGlobals mg → FnOk l.prog w K mg base CX0 10 fa fd ["script"] (spLaw K) := by
  have e := hfa.symm.trans (PySem.W.mg_of X G a23)
  cases e
  have F0 := fun_mk (st := s_is_numeral) l0 c0 k0
  have b0 := F0.binds (ps := ["word"]) fun _ _ _ _ _ _ us hl => match us, hl with | [_], _ => rfl
  have F1 := fun_mk (st := s_is_name) l1 c1 k1
  have b1 := F1.binds (ps := ["word"]) fun _ _ _ _ _ _ us hl => match us, hl with | [_], _ => rfl
  have F2 := fun_mk (st := s_pair_text) l2 c2 k2
  have b2 := F2.binds (ps := ["pair"]) fun _ _ _ _ _ _ us hl => match us, hl with | [_], _ => rfl
  have F3 := fun_mk (st := s_row_text) l3 c3 k3
  have b3 := F3.binds (ps := ["word", "k", "pairs"]) fun _ _ _ _ _ _ us hl => match us, hl with | [_, _, _], _ => rfl
  have F4 := fun_mk (st := s_print_paper) l4 c4 k4
  have b4 := F4.binds (ps := ["paper"]) fun _ _ _ _ _ _ us hl => match us, hl with | [_], _ => rfl
  have F5 := fun_mk (st := s_print_log) l5 c5 k5
  have b5 := F5.binds (ps := ["log"]) fun _ _ _ _ _ _ us hl => match us, hl with | [_], _ => rfl
  have F6 := fun_mk (st := s_rows_of) l6 c6 k6
  have b6 := F6.binds (ps := ["text"]) fun _ _ _ _ _ _ us hl => match us, hl with | [_], _ => rfl
  have F7 := fun_mk (st := s_value_of) l7 c7 k7
  have b7 := F7.binds (ps := ["text", "row", "is_log"]) fun _ _ _ _ _ _ us hl => match us, hl with | [_, _, _], _ => rfl
  have F8 := fun_mk (st := s_pair_of) l8 c8 k8
  have b8 := F8.binds (ps := ["text", "row", "is_log"]) fun _ _ _ _ _ _ us hl => match us, hl with | [_, _, _], _ => rfl
  have F9 := fun_mk (st := s_entry_of) l9 c9 k9
  have b9 := F9.binds (ps := ["text", "row", "word"]) fun _ _ _ _ _ _ us hl => match us, hl with | [_, _, _], _ => rfl
  have F10 := fun_mk (st := s_read_entries) l10 c10 k10
  have b10 := F10.binds (ps := ["text", "word"]) fun _ _ _ _ _ _ us hl => match us, hl with | [_, _], _ => rfl
  have F11 := fun_mk (st := s_read_paper) l11 c11 k11
  have b11 := F11.binds (ps := ["text"]) fun _ _ _ _ _ _ us hl => match us, hl with | [_], _ => rfl
  have F12 := fun_mk (st := s_read_log) l12 c12 k12
  have b12 := F12.binds (ps := ["text"]) fun _ _ _ _ _ _ us hl => match us, hl with | [_], _ => rfl
  have F13 := fun_mk (st := s_law_draws) l13 c13 k13
  have b13 := F13.binds (ps := ["script", "many"]) fun _ _ _ _ _ _ us hl => match us, hl with | [_, _], _ => rfl
  have F14 := fun_mk (st := s_law_next) l14 c14 k14
  have b14 := F14.binds (ps := ["w", "many"]) fun _ _ _ _ _ _ us hl => match us, hl with | [_, _], _ => rfl
  have F15 := fun_mk (st := s_law_pick) l15 c15 k15
  have b15 := F15.binds (ps := ["w", "rows"]) fun _ _ _ _ _ _ us hl => match us, hl with | [_, _], _ => rfl
  have F16 := fun_mk (st := s_law_word) l16 c16 k16
  have b16 := F16.binds (ps := ["w"]) fun _ _ _ _ _ _ us hl => match us, hl with | [_], _ => rfl
  have F17 := fun_mk (st := s_law_number) l17 c17 k17
  have b17 := F17.binds (ps := ["w"]) fun _ _ _ _ _ _ us hl => match us, hl with | [_], _ => rfl
  have F18 := fun_mk (st := s_law_pairs) l18 c18 k18
  have b18 := F18.binds (ps := ["w", "kind"]) fun _ _ _ _ _ _ us hl => match us, hl with | [_, _], _ => rfl
  have F19 := fun_mk (st := s_law_drawn) l19 c19 k19
  have b19 := F19.binds (ps := ["w", "kind"]) fun _ _ _ _ _ _ us hl => match us, hl with | [_, _], _ => rfl
  have F20 := fun_mk (st := s_law_row) l20 c20 k20
  have b20 := F20.binds (ps := ["kind", "k", "pairs"]) fun _ _ _ _ _ _ us hl => match us, hl with | [_, _, _], _ => rfl
  have F21 := fun_mk (st := s_law_text) l21 c21 k21
  have b21 := F21.binds (ps := ["kind", "told"]) fun _ _ _ _ _ _ us hl => match us, hl with | [_, _], _ => rfl
  have F22 := fun_mk (st := s_law_same) l22 c22 k22
  have b22 := F22.binds (ps := ["told", "due"]) fun _ _ _ _ _ _ us hl => match us, hl with | [_, _], _ => rfl
  have F23 := fun_mk (st := s_law) l23 c23 k23
  have b23 := F23.binds (ps := ["script"]) fun _ _ _ _ _ _ us hl => match us, hl with | [_], _ => rfl
  let T : Txt K mg := ⟨f0, _, F0, b0, PySem.W.mg_of X G a0, f1, _, F1, b1, PySem.W.mg_of X G a1, f2, _, F2, b2, PySem.W.mg_of X G a2, f3, _, F3, b3, PySem.W.mg_of X G a3, f4, _, F4, b4, PySem.W.mg_of X G a4, f5, _, F5, b5, PySem.W.mg_of X G a5, f6, _, F6, b6, PySem.W.mg_of X G a6, f7, _, F7, b7, PySem.W.mg_of X G a7, f8, _, F8, b8, PySem.W.mg_of X G a8, f9, _, F9, b9, PySem.W.mg_of X G a9, f10, _, F10, b10, PySem.W.mg_of X G a10, f11, _, F11, b11, PySem.W.mg_of X G a11, f12, _, F12, b12, PySem.W.mg_of X G a12, f13, _, F13, b13, PySem.W.mg_of X G a13, f14, _, F14, b14, PySem.W.mg_of X G a14, f15, _, F15, b15, PySem.W.mg_of X G a15, f16, _, F16, b16, PySem.W.mg_of X G a16, f17, _, F17, b17, PySem.W.mg_of X G a17, f18, _, F18, b18, PySem.W.mg_of X G a18, f19, _, F19, b19, PySem.W.mg_of X G a19, f20, _, F20, b20, PySem.W.mg_of X G a20, f21, _, F21, b21, PySem.W.mg_of X G a21, f22, _, F22, b22, PySem.W.mg_of X G a22, fa, _, F23, b23, PySem.W.mg_of X G a23, uc0, PySem.W.mg_of X G ac0, rc0, uc1, PySem.W.mg_of X G ac1, rc1, uc2, PySem.W.mg_of X G ac2, rc2, PySem.W.mg_none_of X G z0, PySem.W.mg_none_of X G z1, PySem.W.mg_none_of X G z2, PySem.W.mg_none_of X G z3, PySem.W.mg_none_of X G z4, PySem.W.mg_none_of X G z5, PySem.W.mg_none_of X G z6, PySem.W.mg_none_of X G z7, PySem.W.mg_none_of X G z8, PySem.W.mg_none_of X G z9⟩
  exact ⟨PySem.W.fnOf "law" "law" (defArgs s_law) (defBody s_law) (defScope s_law) .none kV23 dc23 pm23 an23 cd23 ct23, fun s v => .of_eq rfl, fun base _ _ => ok_law (P := l.prog) (w := w) (base := base) T hl⟩
end Lw
open PySem PySem.W PyProof.Rows
set_option maxRecDepth 100000 in
set_option maxHeartbeats 0 in
theorem PySem.Challenge.cw_sameanswer_k93_papers_and_logs_as_texts_holds : PySem.Challenge.rw_sameanswer_k93_papers_and_logs_as_texts.Holds := by
  w_on; o_law; k_head; (case hw => w_witness2)
  k_fill
  refine L2.walk_of (l := PySem.Challenge.rw_sameanswer_k93_papers_and_logs_as_texts) (n := 63) (k := 10) (x := "script") (CX := fun _ => L2.CX0) (sp := fun w => Lw.spLaw _) rfl (by decide) rfl ⟨rfl, by decide, by decide⟩ (fun w h Y => PySem.W.kIn_of Y) ?F (fun _ _ a ns hl _ hS => ⟨a, ns, rfl, hS, hl, fun _ => rfl⟩) (fun _ _ _ _ _ h => h)
  case F =>
    intro w mg fa h KX G hmg
    refine' Lw.all_mk KX G hmg Lw.law_runs ?a0 ?l0 ?c0 ?k0 ?a1 ?l1 ?c1 ?k1 ?a2 ?l2 ?c2 ?k2 ?a3 ?l3 ?c3 ?k3 ?a4 ?l4 ?c4 ?k4 ?a5 ?l5 ?c5 ?k5 ?a6 ?l6 ?c6 ?k6 ?a7 ?l7 ?c7 ?k7 ?a8 ?l8 ?c8 ?k8 ?a9 ?l9 ?c9 ?k9 ?a10 ?l10 ?c10 ?k10 ?a11 ?l11 ?c11 ?k11 ?a12 ?l12 ?c12 ?k12 ?a13 ?l13 ?c13 ?k13 ?a14 ?l14 ?c14 ?k14 ?a15 ?l15 ?c15 ?k15 ?a16 ?l16 ?c16 ?k16 ?a17 ?l17 ?c17 ?k17 ?a18 ?l18 ?c18 ?k18 ?a19 ?l19 ?c19 ?k19 ?a20 ?l20 ?c20 ?k20 ?a21 ?l21 ?c21 ?k21 ?a22 ?l22 ?c22 ?k22 ?a23 ?l23 ?c23 ?k23 ?ac0 ?rc0 ?ac1 ?rc1 ?ac2 ?rc2 ?z0 ?z1 ?z2 ?z3 ?z4 ?z5 ?z6 ?z7 ?z8 ?z9
    (case a0 => k_is)
    (case l0 => k_is)
    (case c0 => k_is)
    (case k0 => k_is)
    (case a1 => k_is)
    (case l1 => k_is)
    (case c1 => k_is)
    (case k1 => k_is)
    (case a2 => k_is)
    (case l2 => k_is)
    (case c2 => k_is)
    (case k2 => k_is)
    (case a3 => k_is)
    (case l3 => k_is)
    (case c3 => k_is)
    (case k3 => k_is)
    (case a4 => k_is)
    (case l4 => k_is)
    (case c4 => k_is)
    (case k4 => k_is)
    (case a5 => k_is)
    (case l5 => k_is)
    (case c5 => k_is)
    (case k5 => k_is)
    (case a6 => k_is)
    (case l6 => k_is)
    (case c6 => k_is)
    (case k6 => k_is)
    (case a7 => k_is)
    (case l7 => k_is)
    (case c7 => k_is)
    (case k7 => k_is)
    (case a8 => k_is)
    (case l8 => k_is)
    (case c8 => k_is)
    (case k8 => k_is)
    (case a9 => k_is)
    (case l9 => k_is)
    (case c9 => k_is)
    (case k9 => k_is)
    (case a10 => k_is)
    (case l10 => k_is)
    (case c10 => k_is)
    (case k10 => k_is)
    (case a11 => k_is)
    (case l11 => k_is)
    (case c11 => k_is)
    (case k11 => k_is)
    (case a12 => k_is)
    (case l12 => k_is)
    (case c12 => k_is)
    (case k12 => k_is)
    (case a13 => k_is)
    (case l13 => k_is)
    (case c13 => k_is)
    (case k13 => k_is)
    (case a14 => k_is)
    (case l14 => k_is)
    (case c14 => k_is)
    (case k14 => k_is)
    (case a15 => k_is)
    (case l15 => k_is)
    (case c15 => k_is)
    (case k15 => k_is)
    (case a16 => k_is)
    (case l16 => k_is)
    (case c16 => k_is)
    (case k16 => k_is)
    (case a17 => k_is)
    (case l17 => k_is)
    (case c17 => k_is)
    (case k17 => k_is)
    (case a18 => k_is)
    (case l18 => k_is)
    (case c18 => k_is)
    (case k18 => k_is)
    (case a19 => k_is)
    (case l19 => k_is)
    (case c19 => k_is)
    (case k19 => k_is)
    (case a20 => k_is)
    (case l20 => k_is)
    (case c20 => k_is)
    (case k20 => k_is)
    (case a21 => k_is)
    (case l21 => k_is)
    (case c21 => k_is)
    (case k21 => k_is)
    (case a22 => k_is)
    (case l22 => k_is)
    (case c22 => k_is)
    (case k22 => k_is)
    (case a23 => k_is)
    (case l23 => k_is)
    (case c23 => k_is)
    (case k23 => k_is)
    (case ac0 => k_is)
    (case rc0 => exact ⟨_, rfl⟩)
    (case ac1 => k_is)
    (case rc1 => exact ⟨_, rfl⟩)
    (case ac2 => k_is)
    (case rc2 => exact ⟨_, rfl⟩)
    (case z0 => k_is)
    (case z1 => k_is)
    (case z2 => k_is)
    (case z3 => k_is)
    (case z4 => k_is)
    (case z5 => k_is)
    (case z6 => k_is)
    (case z7 => k_is)
    (case z8 => k_is)
    (case z9 => k_is)
