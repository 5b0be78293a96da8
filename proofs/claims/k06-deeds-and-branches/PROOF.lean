import PyProof.Rows.All
import Wide.All
import OpenK.AllK
import Wide.FinOn
import PyProof.ReprRoads
import HandS.ForMost
import HandS.IsInst
import HandS.TupAny
import HandS.Defaults
import KE.KUnpackStar
import HandS.Head0
import HandS.Head1
import HandS.Head2
import HandS.HeadHook4
import PySem.Challenge.RW_callsover_k06_deeds_and_branches
set_option Elab.async false
set_option linter.all false
set_option maxRecDepth 100000
set_option maxHeartbeats 0
/-! Plain data over the abstract heap: what stands for a datum, environments of data, and readings that speak of data alone. -/
namespace Dat
open PySem PySem.Spec PyProof.Rows L2

abbrev MS := Addr → Prop
/-- the script, as a datum of its own kind -/
def scrD (ns : List Int) : PyData := .dict (ns.map fun n => (.int n, .none))

mutual
inductive Rp (K : PySem.W.Frag) (M : MS) (H : Hp) : V → PyData → Prop
  | non : Rp K M H .non .none
  | bl (b : Bool) : Rp K M H (.bl b) (.bool b)
  | int (i : Int) : Rp K M H (.int i) (.int i)
  | str (x : Str) : Rp K M H (.str x) (.str x)
  | lst {a : Addr} {xs : List V} {ds : List PyData} : ¬ M a → H a = some (.lst xs) → RpAll K M H xs ds → Rp K M H (.ref a) (.list ds)
  | tup {a : Addr} {xs : List V} {ds : List PyData} : SqT K H a xs → RpAll K M H xs ds → Rp K M H (.ref a) (.tuple ds)
  | scr {a : Addr} {ns : List Int} {kvs : List (PyData × PyData)} : kvs = (ns.map fun n => (.int n, .none)) → ((¬ M a ∧ Rd H a (.lst (ns.map V.int))) ∨ ∀ H', SqL K H' a (ns.map V.int)) → Rp K M H (.ref a) (.dict kvs)
inductive RpAll (K : PySem.W.Frag) (M : MS) (H : Hp) : List V → List PyData → Prop
  | nil : RpAll K M H [] []
  | cons {v : V} {vs : List V} {d : PyData} {ds : List PyData} : Rp K M H v d → RpAll K M H vs ds → RpAll K M H (v :: vs) (d :: ds)
end

/-- where one's own lists lie, by slots -/
abbrev OA := Nat → Option Addr
/-- how the heap and the set of what may change grow: only one's own lists change -/
structure Gr (O : OA) (M : MS) (H : Hp) (O' : OA) (M' : MS) (H' : Hp) : Prop where
  m : ∀ a, M' a → M a ∨ H a = none
  o : ∀ i a, O' i = some a → (∃ j, O j = some a) ∨ H a = none
  h : ∀ a x, (∀ i, O i ≠ some a) → H a = some x → H' a = some x
theorem Gr.refl (O : OA) (M : MS) (H : Hp) : Gr O M H O M H := ⟨fun _ h => .inl h, fun i _ h => .inl ⟨i, h⟩, fun _ _ _ h => h⟩
theorem Gr.trans {O O1 O2 : OA} {M M1 M2 : MS} {H H1 H2 : Hp} (a : Gr O M H O1 M1 H1) (b : Gr O1 M1 H1 O2 M2 H2) (om : ∀ i p, O i = some p → M p) : Gr O M H O2 M2 H2 := by
  have back : ∀ x, H1 x = none → M x ∨ H x = none := fun x h1 => by
    by_cases hm : M x
    · exact .inl hm
    · cases e : H x with
      | none => exact .inr rfl
      | some o =>
        rw [a.h x o (fun i z => hm (om i x z)) e] at h1
        cases h1
  refine ⟨fun x h => ?_, fun i x h => ?_, fun x o n e => ?_⟩
  · rcases b.m x h with h1 | h1
    · exact a.m x h1
    · exact back x h1
  · rcases b.o i x h with ⟨j, h1⟩ | h1
    · exact a.o j x h1
    · by_cases hm : ∃ j, O j = some x
      · exact .inl hm
      · cases e : H x with
        | none => exact .inr rfl
        | some o =>
          rw [a.h x o (fun i z => hm ⟨i, z⟩) e] at h1
          cases h1
  · refine b.h x o (fun i h1 => ?_) (a.h x o n e)
    rcases a.o i x h1 with ⟨j, q⟩ | q
    · exact n j q
    · rw [q] at e
      cases e
theorem Gr.same {O : OA} {M : MS} {H H' : Hp} (s : Same H H') : Gr O M H O M H' := ⟨fun _ h => .inl h, fun i _ h => .inl ⟨i, h⟩, fun a o _ e => s a o e⟩
theorem notM {M : MS} {H : Hp} (ml : ∀ a, M a → Mut (H a)) {a : Addr} {o : HO} (e : H a = some o) (n : ¬ Mut (some o)) : ¬ M a := fun h => n (by rw [← e]; exact ml a h)
theorem Gr.not {O O' : OA} {M M' : MS} {H H' : Hp} (g : Gr O M H O' M' H') {a : Addr} {o : HO} (n : ¬ M a) (e : H a = some o) : ¬ M' a := fun h => by
  rcases g.m a h with q | q
  · exact n q
  · rw [q] at e
    cases e
/-- what is told of the sets -/
structure Kp (O : OA) (M : MS) (H : Hp) : Prop where
  ml : ∀ a, M a → Mut (H a)
  om : ∀ i p, O i = some p → M p
theorem Gr.at {O O' : OA} {M M' : MS} {H H' : Hp} (k : Kp O M H) (g : Gr O M H O' M' H') {a : Addr} {o : HO} (n : ¬ M a) (e : H a = some o) : H' a = some o := g.h a o (fun i z => n (k.om i a z)) e
theorem SqT.gr {K : PySem.W.Frag} {O O' : OA} {M M' : MS} {H H' : Hp} (kp : Kp O M H) (g : Gr O M H O' M' H') {a : Addr} {xs : List V} (h : SqT K H a xs) : SqT K H' a xs := by
  rcases h with (h | ⟨o, h⟩) | h
  · exact .inl (.inl (g.at kp (notM kp.ml h id) h))
  · exact .inl (.inr ⟨o, g.at kp (notM kp.ml h id) h⟩)
  · exact .inr h
mutual
theorem Rp.gr {K : PySem.W.Frag} {O O' : OA} {M M' : MS} {H H' : Hp} (kp : Kp O M H) (g : Gr O M H O' M' H') : ∀ (d : PyData) (v : V), Rp K M H v d → Rp K M' H' v d
  | .none, _, h => by cases h; exact .non
  | .bool b, _, h => by cases h; exact .bl b
  | .int i, _, h => by cases h; exact .int i
  | .str x, _, h => by cases h; exact .str x
  | .list ds, _, h => by
    cases h with
    | lst n e ha => exact .lst (g.not n e) (g.at kp n e) (RpAll.gr kp g ds _ ha)
  | .tuple ds, _, h => by
    cases h with
    | tup e ha => exact .tup (SqT.gr kp g e) (RpAll.gr kp g ds _ ha)
  | .dict kvs, _, h => by
    cases h with
    | scr e q =>
      refine .scr e ?_
      rcases q with ⟨n, q | ⟨o, q⟩⟩ | q
      · exact .inl ⟨g.not n q, .inl (g.at kp n q)⟩
      · exact .inl ⟨g.not n q, .inr ⟨o, g.at kp n q⟩⟩
      · exact .inr q
theorem RpAll.gr {K : PySem.W.Frag} {O O' : OA} {M M' : MS} {H H' : Hp} (kp : Kp O M H) (g : Gr O M H O' M' H') : ∀ (ds : List PyData) (vs : List V), RpAll K M H vs ds → RpAll K M' H' vs ds
  | [], _, h => by cases h; exact .nil
  | d :: ds, _, h => by
    cases h with
    | cons h1 h2 => exact .cons (Rp.gr kp g d _ h1) (RpAll.gr kp g ds _ h2)
end
theorem kp0 {M : MS} {H : Hp} (ml : ∀ a, M a → Mut (H a)) : Kp (fun _ => none) M H := ⟨ml, fun _ _ z => by cases z⟩
theorem Rp.same {K : PySem.W.Frag} {M : MS} {H H' : Hp} (ml : ∀ a, M a → Mut (H a)) (s : Same H H') {d : PyData} {v : V} (h : Rp K M H v d) : Rp K M H' v d := Rp.gr (kp0 ml) (Gr.same s) d v h
theorem RpAll.same {K : PySem.W.Frag} {M : MS} {H H' : Hp} (ml : ∀ a, M a → Mut (H a)) (s : Same H H') {ds : List PyData} {vs : List V} (h : RpAll K M H vs ds) : RpAll K M H' vs ds := RpAll.gr (kp0 ml) (Gr.same s) ds vs h
mutual
/-- fewer addresses are kept away -/
theorem Rp.less {K : PySem.W.Frag} {M M' : MS} {H : Hp} (s : ∀ a, M' a → M a) : ∀ (d : PyData) (v : V), Rp K M H v d → Rp K M' H v d
  | .none, _, h => by cases h; exact .non
  | .bool b, _, h => by cases h; exact .bl b
  | .int i, _, h => by cases h; exact .int i
  | .str x, _, h => by cases h; exact .str x
  | .list ds, _, h => by
    cases h with
    | lst n e ha => exact .lst (fun q => n (s _ q)) e (RpAll.less s ds _ ha)
  | .tuple ds, _, h => by
    cases h with
    | tup e ha => exact .tup e (RpAll.less s ds _ ha)
  | .dict kvs, _, h => by
    cases h with
    | scr e q =>
      refine .scr e ?_
      rcases q with ⟨n, q⟩ | q
      · exact .inl ⟨fun z => n (s _ z), q⟩
      · exact .inr q
theorem RpAll.less {K : PySem.W.Frag} {M M' : MS} {H : Hp} (s : ∀ a, M' a → M a) : ∀ (ds : List PyData) (vs : List V), RpAll K M H vs ds → RpAll K M' H vs ds
  | [], _, h => by cases h; exact .nil
  | d :: ds, _, h => by
    cases h with
    | cons h1 h2 => exact .cons (Rp.less s d _ h1) (RpAll.less s ds _ h2)
end
mutual
theorem Rp.dp {K : PySem.W.Frag} {M : MS} {H : Hp} : ∀ (d : PyData) (v : V), d.hasDict = false → Rp K M H v d → Dp K H v d
  | .none, _, _, h => by cases h; exact .non
  | .bool b, _, _, h => by cases h; exact .bl b
  | .int i, _, _, h => by cases h; exact .int i
  | .str x, _, _, h => by cases h; exact .str x
  | .list ds, _, q, h => by
    cases h with
    | lst n e ha => exact .lst (SqL.of e) (RpAll.dp ds _ (by simpa [PyData.hasDict] using q) ha)
  | .tuple ds, _, q, h => by
    cases h with
    | tup e ha => exact .tup e (RpAll.dp ds _ (by simpa [PyData.hasDict] using q) ha)
  | .dict kvs, _, q, h => by simp [PyData.hasDict] at q
theorem RpAll.dp {K : PySem.W.Frag} {M : MS} {H : Hp} : ∀ (ds : List PyData) (vs : List V), PyData.hasDictAll ds = false → RpAll K M H vs ds → DpAll K H vs ds
  | [], _, _, h => by cases h; exact .nil
  | d :: ds, _, q, h => by
    cases h with
    | cons h1 h2 =>
      have q' : d.hasDict = false ∧ PyData.hasDictAll ds = false := by simpa [PyData.hasDictAll] using q
      exact .cons (Rp.dp d _ q'.1 h1) (RpAll.dp ds _ q'.2 h2)
end
theorem RpAll.length {K : PySem.W.Frag} {M : MS} {H : Hp} : ∀ {vs : List V} {ds : List PyData}, RpAll K M H vs ds → vs.length = ds.length
  | _, [], .nil => rfl
  | _, d :: ds, .cons _ h => by rw [List.length_cons, List.length_cons, RpAll.length h]
theorem RpAll.get {K : PySem.W.Frag} {M : MS} {H : Hp} : ∀ {ds : List PyData} {vs : List V} {i : Nat} {d : PyData}, RpAll K M H vs ds → ds[i]? = some d → ∃ v, vs[i]? = some v ∧ Rp K M H v d
  | [], _, _, _, .nil, e => by simp at e
  | d :: ds, _, 0, _, .cons h _, e => by simp at e; subst e; exact ⟨_, rfl, h⟩
  | d :: ds, _, i + 1, _, .cons _ h, e => by
    obtain ⟨v, h1, h2⟩ := RpAll.get (i := i) h (by simpa using e)
    exact ⟨v, by simpa using h1, h2⟩
theorem RpAll.getv {K : PySem.W.Frag} {M : MS} {H : Hp} : ∀ {ds : List PyData} {vs : List V} {i : Nat} {v : V}, RpAll K M H vs ds → vs[i]? = some v → ∃ d, ds[i]? = some d ∧ Rp K M H v d
  | [], _, _, _, .nil, e => by simp at e
  | d :: ds, _, 0, _, .cons h _, e => by simp at e; subst e; exact ⟨_, rfl, h⟩
  | d :: ds, _, i + 1, _, .cons _ h, e => by
    obtain ⟨v, h1, h2⟩ := RpAll.getv (i := i) h (by simpa using e)
    exact ⟨v, by simpa using h1, h2⟩
theorem RpAll.append {K : PySem.W.Frag} {M : MS} {H : Hp} : ∀ {ds es : List PyData} {vs us : List V}, RpAll K M H vs ds → RpAll K M H us es → RpAll K M H (vs ++ us) (ds ++ es)
  | [], _, _, _, .nil, h => h
  | _ :: _, _, _, _, .cons h1 h2, h => .cons h1 (RpAll.append h2 h)
theorem RpAll.set {K : PySem.W.Frag} {M : MS} {H : Hp} {v : V} {d : PyData} (r : Rp K M H v d) : ∀ {ds : List PyData} {vs : List V} (i : Nat), RpAll K M H vs ds → RpAll K M H (vs.set i v) (ds.set i d)
  | [], _, _, .nil => .nil
  | _ :: _, _, 0, .cons _ h => .cons r h
  | _ :: _, _, i + 1, .cons q h => .cons q (RpAll.set r i h)
theorem RpAll.take {K : PySem.W.Frag} {M : MS} {H : Hp} : ∀ {ds : List PyData} {vs : List V} (n : Nat), RpAll K M H vs ds → RpAll K M H (vs.take n) (ds.take n)
  | _, _, 0, _ => by rw [List.take_zero, List.take_zero]; exact .nil
  | [], _, _ + 1, .nil => .nil
  | _ :: _, _, n + 1, .cons q h => .cons q (RpAll.take n h)
theorem RpAll.drop {K : PySem.W.Frag} {M : MS} {H : Hp} : ∀ {ds : List PyData} {vs : List V} (n : Nat), RpAll K M H vs ds → RpAll K M H (vs.drop n) (ds.drop n)
  | _, _, 0, h => h
  | [], _, _ + 1, .nil => .nil
  | _ :: _, _, n + 1, .cons _ h => RpAll.drop n h
theorem RpAll.reverse {K : PySem.W.Frag} {M : MS} {H : Hp} : ∀ {ds : List PyData} {vs : List V}, RpAll K M H vs ds → RpAll K M H vs.reverse ds.reverse
  | [], _, .nil => .nil
  | d :: ds, v :: vs, .cons q h => by
    rw [List.reverse_cons, List.reverse_cons]
    exact (RpAll.reverse h).append (.cons q .nil)

/-! ### environments -/
inductive Sl where
  /-- a datum -/
  | d (x : PyData)
  /-- a list that may still change: made here (true) or a parameter's (false) -/
  | o (loc : Bool) (xs : List PyData)
abbrev DE := List (Option Sl)
/-- the frame: what may not be held by data at the entry, the heap at the entry, the parameters' own lists -/
structure Frm where
  M0 : MS
  H0 : Hp
  B : Nat → Option Addr
structure RepS (K : PySem.W.Frag) (F : Frm) (O : OA) (M : MS) (H : Hp) (σ : L2.St) (ρ : DE) : Prop where
  len : σ.length = ρ.length
  sub : ∀ a, F.M0 a → M a
  m0 : ∀ a, F.M0 a → F.H0 a ≠ none
  b0 : ∀ i a, F.B i = some a → F.M0 a
  ml : ∀ a, M a → Mut (H a)
  mn : ∀ a, M a → F.M0 a ∨ F.H0 a = none
  fr : ∀ a o, F.H0 a = some o → (∀ i, F.B i ≠ some a) → H a = some o
  dat : ∀ (i : Nat) x, ρ[i]? = some (some (.d x)) → ∃ v, σ[i]? = some (some v) ∧ Rp K M H v x
  own : ∀ (i : Nat) b xs, ρ[i]? = some (some (.o b xs)) → ∃ p vs, σ[i]? = some (some (.ref p)) ∧ M p ∧ H p = some (.lst vs) ∧ RpAll K M H vs xs ∧ (if b = true then F.H0 p = none else F.B i = some p) ∧ O i = some p
  om : ∀ i p, O i = some p → M p
  inj : ∀ (i j : Nat) b c xs ys p, ρ[i]? = some (some (.o b xs)) → ρ[j]? = some (some (.o c ys)) → σ[i]? = some (some (.ref p)) → σ[j]? = some (some (.ref p)) → i = j
/-- the heap has grown, what may change has not -/
theorem RepS.same {K : PySem.W.Frag} {F : Frm} {O : OA} {M : MS} {H H' : Hp} {σ : L2.St} {ρ : DE} (r : RepS K F O M H σ ρ) (s : Same H H') : RepS K F O M H' σ ρ where
  len := r.len
  sub := r.sub
  m0 := r.m0
  b0 := r.b0
  ml := fun a h => by
    have q := r.ml a h
    cases e : H a with
    | none => rw [e] at q; exact q.elim
    | some o => rw [s a o e, ← e]; exact q
  mn := r.mn
  fr := fun a o e n => s a o (r.fr a o e n)
  dat := fun i x e => by
    obtain ⟨v, h1, h2⟩ := r.dat i x e
    exact ⟨v, h1, h2.same r.ml s⟩
  own := fun i b xs e => by
    obtain ⟨p, vs, h1, h2, h3, h4, h5⟩ := r.own i b xs e
    exact ⟨p, vs, h1, h2, s p _ h3, h4.same r.ml s, h5⟩
  om := r.om
  inj := r.inj
theorem same_new {H : Hp} {p : Addr} {o : HO} (h : H p = none) : Same H (upd H p o) := fun b x e => by
  rw [upd_ne (ne_of_none e h)]
  exact e
/-- a slot is forgotten -/
theorem RepS.forget {K : PySem.W.Frag} {F : Frm} {O : OA} {M : MS} {H : Hp} {σ : L2.St} {ρ : DE} (r : RepS K F O M H σ ρ) (k : Nat) : RepS K F O M H σ (ρ.set k none) := by
  have key : ∀ (i : Nat) (y : Sl), (ρ.set k none)[i]? = some (some y) → ρ[i]? = some (some y) := fun i y e => by
    rw [List.getElem?_set] at e
    split at e
    · split at e <;> simp at e
    · exact e
  exact ⟨by rw [List.length_set]; exact r.len, r.sub, r.m0, r.b0, r.ml, r.mn, r.fr, fun i x e => r.dat i x (key i _ e), fun i b xs e => r.own i b xs (key i _ e), r.om, fun i j b c xs ys p e1 e2 => r.inj i j b c xs ys p (key i _ e1) (key j _ e2)⟩
/-- a slot gets a datum -/
theorem RepS.put {K : PySem.W.Frag} {F : Frm} {O : OA} {M : MS} {H : Hp} {σ : L2.St} {ρ : DE} (r : RepS K F O M H σ ρ) (k : Nat) {v : V} {x : PyData} (h : Rp K M H v x) : RepS K F O M H (σ.set k (some v)) (ρ.set k (some (.d x))) := by
  have hl := r.len
  have key : ∀ (i : Nat) (y : Option Sl) (z : Option Sl), (ρ.set k z)[i]? = some y → (i = k ∧ y = z ∧ k < ρ.length) ∨ (i ≠ k ∧ ρ[i]? = some y) := fun i y z e => by
    rw [List.getElem?_set] at e
    split at e
    · rename_i hk
      split at e
      · exact .inl ⟨hk.symm, (Option.some.inj e).symm, by assumption⟩
      · simp at e
    · rename_i hk
      exact .inr ⟨fun q => hk q.symm, e⟩
  have st : ∀ (i : Nat), i ≠ k → (σ.set k (some v))[i]? = σ[i]? := fun i hi => List.getElem?_set_ne (Ne.symm hi)
  refine ⟨by rw [List.length_set, List.length_set]; exact hl, r.sub, r.m0, r.b0, r.ml, r.mn, r.fr, fun i y e => ?_, fun i b xs e => ?_, r.om, fun i j b c xs ys p e1 e2 q1 q2 => ?_⟩
  · rcases key i _ _ e with ⟨rfl, e1, hlt⟩ | ⟨hi, e1⟩
    · cases e1
      exact ⟨v, List.getElem?_set_self (by omega), h⟩
    · rw [st i hi]
      exact r.dat i y e1
  · rcases key i _ _ e with ⟨rfl, e1, hlt⟩ | ⟨hi, e1⟩
    · cases e1
    · rw [st i hi]
      exact r.own i b xs e1
  · rcases key i _ _ e1 with ⟨_, z, _⟩ | ⟨hi, e1⟩
    · cases z
    · rcases key j _ _ e2 with ⟨_, z, _⟩ | ⟨hj, e2⟩
      · cases z
      · rw [st i hi] at q1
        rw [st j hj] at q2
        exact r.inj i j b c xs ys p e1 e2 q1 q2

/-! ### what readings do to data -/
abbrev WE := DE → (PyData → DE → Prop) → Prop
abbrev WT := DE → (Bool → DE → Prop) → Prop
abbrev WA := DE → (List PyData → DE → Prop) → Prop
structure DEnds where
  nx : DE → Prop
  rt : PyData → DE → Prop
  bk : DE → Prop := fun _ => False
  ct : DE → Prop := fun _ => False
  rl : List PyData → DE → Prop := fun _ _ => False
abbrev WS := DEnds → DE → Prop
def ImpE (K : PySem.W.Frag) (t : TE) (w : WE) : Prop := ∀ (F : Frm) (O : OA) (M : MS) (σ : L2.St) (H : Hp) (ρ : DE), RepS K F O M H σ ρ → ∀ P, w ρ P → ∀ Q : VK,
  (∀ x ρ' v H', RepS K F O M H' σ ρ' → Gr O M H O M H' → Rp K M H' v x → P x ρ' → Q v H') → t σ H Q
def ImpT (K : PySem.W.Frag) (t : TT) (w : WT) : Prop := ∀ (F : Frm) (O : OA) (M : MS) (σ : L2.St) (H : Hp) (ρ : DE), RepS K F O M H σ ρ → ∀ P, w ρ P → ∀ Q : Bool → Hp → Prop,
  (∀ b ρ' H', RepS K F O M H' σ ρ' → Gr O M H O M H' → P b ρ' → Q b H') → t σ H Q
def ImpA (K : PySem.W.Frag) (t : TA) (w : WA) : Prop := ∀ (F : Frm) (O : OA) (M : MS) (σ : L2.St) (H : Hp) (ρ : DE), RepS K F O M H σ ρ → ∀ P, w ρ P → ∀ Q : List V → Hp → Prop,
  (∀ xs ρ' vs H', RepS K F O M H' σ ρ' → Gr O M H O M H' → RpAll K M H' vs xs → P xs ρ' → Q vs H') → t σ H Q
structure Conn (K : PySem.W.Frag) (F : Frm) (O : OA) (M : MS) (H : Hp) (E : DEnds) (D : Ends) : Prop where
  om : ∀ i p, O i = some p → M p
  nx : ∀ ρ' O' M' σ' H', RepS K F O' M' H' σ' ρ' → Gr O M H O' M' H' → E.nx ρ' → D.nx σ' H'
  rt : ∀ x ρ' v O' M' σ' H', RepS K F O' M' H' σ' ρ' → Gr O M H O' M' H' → Rp K F.M0 H' v x → E.rt x ρ' → D.rt v H'
  bk : ∀ ρ' O' M' σ' H', RepS K F O' M' H' σ' ρ' → Gr O M H O' M' H' → E.bk ρ' → D.bk σ' H'
  ct : ∀ ρ' O' M' σ' H', RepS K F O' M' H' σ' ρ' → Gr O M H O' M' H' → E.ct ρ' → D.ct σ' H'
  rl : ∀ ys ρ' p vs O' M' σ' H', RepS K F O' M' H' σ' ρ' → Gr O M H O' M' H' → F.H0 p = none → M' p → H' p = some (.lst vs) → RpAll K M' H' vs ys → E.rl ys ρ' → D.rt (.ref p) H'
theorem RepS.kp {K : PySem.W.Frag} {F : Frm} {O : OA} {M : MS} {H : Hp} {σ : L2.St} {ρ : DE} (r : RepS K F O M H σ ρ) : Kp O M H := ⟨r.ml, r.om⟩
theorem Conn.gr {K : PySem.W.Frag} {F : Frm} {O O1 : OA} {M M1 : MS} {H H1 : Hp} {E : DEnds} {D : Ends} (c : Conn K F O M H E D) (g : Gr O M H O1 M1 H1) (om : ∀ i p, O1 i = some p → M1 p) : Conn K F O1 M1 H1 E D :=
  ⟨om, fun ρ' O' M' σ' H' r q e => c.nx ρ' O' M' σ' H' r (g.trans q c.om) e, fun x ρ' v O' M' σ' H' r q e => c.rt x ρ' v O' M' σ' H' r (g.trans q c.om) e, fun ρ' O' M' σ' H' r q e => c.bk ρ' O' M' σ' H' r (g.trans q c.om) e, fun ρ' O' M' σ' H' r q e => c.ct ρ' O' M' σ' H' r (g.trans q c.om) e, fun ys ρ' p vs O' M' σ' H' r q => c.rl ys ρ' p vs O' M' σ' H' r (g.trans q c.om)⟩
def ImpS (K : PySem.W.Frag) (t : TS) (w : WS) : Prop := ∀ (F : Frm) (O : OA) (M : MS) (σ : L2.St) (H : Hp) (ρ : DE), RepS K F O M H σ ρ → ∀ (E : DEnds), w E ρ → ∀ D : Ends, Conn K F O M H E D → t D σ H

structure PEd (X : Cx) (e : Expr) (t : TE) (w : WE) : Prop where
  p : PE X e t
  i : ImpE X.K t w
structure PTd (X : Cx) (e : Expr) (t : TT) (w : WT) : Prop where
  p : PT X e t
  i : ImpT X.K t w
structure PWd (X : Cx) (e : Expr) (t : TT) (w : WT) : Prop where
  p : PW X e t
  i : ImpT X.K t w
structure PAd (X : Cx) (es : List Expr) (t : TA) (w : WA) : Prop where
  p : PA X es t
  i : ImpA X.K t w
structure PSd (X : Cx) (s : Stmt) (t : TS) (w : WS) : Prop where
  p : PS X s t
  i : ImpS X.K t w
structure PBd (X : Cx) (s : List Stmt) (t : TS) (w : WS) : Prop where
  p : PSs X s t
  i : ImpS X.K t w
theorem PEd.as {X : Cx} {e : Expr} {t : TE} {w w' : WE} (h : PEd X e t w) (q : ∀ ρ P, w' ρ P → w ρ P) : PEd X e t w' := ⟨h.p, fun F O M σ H ρ r P hw Q k => h.i F O M σ H ρ r P (q ρ P hw) Q k⟩
end Dat
namespace Dat
open PySem PySem.Spec PyProof.Rows L2
section
variable {K : PySem.W.Frag} {X : Cx} {a b c e : Expr} {es : List Expr} {ta tb tc te : TE} {wa wb wc we : WE} {pos : Pos}

/-! ### names and constants -/
def wVar (i : Nat) : WE := fun ρ P => ∃ x, ρ[i]? = some (some (.d x)) ∧ P x ρ
def wC (x : PyData) : WE := fun ρ P => P x ρ
theorem imp_var (i : Nat) : ImpE K (tVar i) (wVar i) := by
  intro F O M σ H ρ R P ⟨x, e, hp⟩ Q k
  obtain ⟨v, h1, h2⟩ := R.dat i x e
  exact ⟨v, h1, k x ρ v H R (Gr.refl O M H) h2 hp⟩
theorem imp_c {v : V} {x : PyData} (h : ∀ M H, Rp K M H v x) : ImpE K (tC v) (wC x) := by
  intro F O M σ H ρ R P hp Q k
  exact k x ρ v H R (Gr.refl O M H) (h M H) hp
theorem dv (i : Nat) {x : Str} {pos : Pos} (hN : X.N[i]? = some x := by rfl) (hv : Vis X.env.scope x := by first | exact Or.inl rfl | exact Or.inr (Or.inl rfl) | exact Or.inr (Or.inr rfl)) (hd : (x == ("__debug__" : Str)) = false := by decide)
    (hcd : (x == ("__classdict__" : Str)) = false := by decide) : PEd X (.Name x pos) (tVar i) (wVar i) := ⟨pe_var hN hv hd hcd, imp_var i⟩
theorem d_int {i j pos} : PEd X (.Constant (.int i) j pos) (tC (.int i)) (wC (.int i)) := ⟨pe_int, imp_c fun _ _ => .int i⟩
theorem d_bl {b j pos} : PEd X (.Constant (.bool b) j pos) (tC (.bl b)) (wC (.bool b)) := ⟨pe_bl, imp_c fun _ _ => .bl b⟩
theorem d_non {j pos} : PEd X (.Constant .none j pos) (tC .non) (wC .none) := ⟨pe_non, imp_c fun _ _ => .non⟩
theorem d_str {x j pos} : PEd X (.Constant (.str x) j pos) (tC (.str x)) (wC (.str x)) := ⟨pe_str, imp_c fun _ _ => .str x⟩
/-- a constant of the module -/
theorem d_glob {x : Str} {v : V} {u : Value} {d : PyData} {pos : Pos} (hg : Gl X x) (hm : X.mg x = some u) (r : RelV v u) (h : ∀ M H, Rp X.K M H v d) (hd : (x == ("__debug__" : Str)) = false := by decide) : PEd X (.Name x pos) (tC v) (wC d) :=
  ⟨pe_glob hg hm r hd, imp_c h⟩

/-! ### two-place operations -/
def wBin (f : PyData → PyData → Option PyData) (wa wb : WE) : WE := fun ρ P => wa ρ fun x ρ1 => wb ρ1 fun y ρ2 => ∃ z, f x y = some z ∧ P z ρ2
def LiftR (K : PySem.W.Frag) (r : R2) (f : PyData → PyData → Option PyData) : Prop := ∀ (M : MS) (H : Hp) x y z v u, (∀ a, M a → Mut (H a)) → f x y = some z → Rp K M H v x → Rp K M H u y → ∀ Q : VK, (∀ v' H', Same H H' → Rp K M H' v' z → Q v' H') → r v u H Q
theorem imp_op {r : R2} {f : PyData → PyData → Option PyData} (l : LiftR K r f) (ha : ImpE K ta wa) (hb : ImpE K tb wb) : ImpE K (tOp r ta tb) (wBin f wa wb) := by
  intro F O M σ H ρ R P hw Q k
  refine ha F O M σ H ρ R _ hw _ fun x ρ1 v H1 R1 g1 r1 hw1 => ?_
  refine hb F O M σ H1 ρ1 R1 _ hw1 _ fun y ρ2 u H2 R2 g2 r2 ⟨z, e, hp⟩ => ?_
  refine l M H2 x y z v u R2.ml e (Rp.gr R1.kp g2 x v r1) r2 Q fun v' H3 s r3 => ?_
  exact k z ρ2 v' H3 (R2.same s) ((g1.trans g2 R.om).trans (Gr.same s) R.om) r3 hp
theorem d_op {op : Operator} {r : R2} {f : PyData → PyData → Option PyData} (ho : OpR X (binaryOp op) r) (l : LiftR X.K r f) (ha : PEd X a ta wa) (hb : PEd X b tb wb) : PEd X (.BinOp a op b pos) (tOp r ta tb) (wBin f wa wb) := ⟨pe_op ho ha.p hb.p, imp_op l ha.i hb.i⟩
theorem d_cmp {op : CmpOp} {r : R2} {f : PyData → PyData → Option PyData} (ho : OpR X (compareOp op) r) (l : LiftR X.K r f) (ha : PEd X a ta wa) (hb : PEd X b tb wb) (hm : behindInMarks op b = false) : PEd X (.Compare a [op] [b] pos) (tOp r ta tb) (wBin f wa wb) := ⟨pe_cmpR ho ha.p hb.p hm, imp_op l ha.i hb.i⟩
theorem LiftR.or {r r' : R2} {f : PyData → PyData → Option PyData} (h : ∀ (M : MS) (H : Hp) x y z v u, (∀ a, M a → Mut (H a)) → f x y = some z → Rp K M H v x → Rp K M H u y → ∀ Q : VK, (∀ v' H', Same H H' → Rp K M H' v' z → Q v' H') → r v u H Q ∨ r' v u H Q) : LiftR K (fun x y H Q => r x y H Q ∨ r' x y H Q) f := h
/-- ints -/
def intF (g : Int → Int → Option PyData) : PyData → PyData → Option PyData
  | .int i, .int j => g i j
  | _, _ => none
theorem intF_some {g : Int → Int → Option PyData} {x y z : PyData} (h : intF g x y = some z) : ∃ i j, x = .int i ∧ y = .int j ∧ g i j = some z := by
  cases x <;> cases y <;> first | (exact ⟨_, _, rfl, rfl, h⟩) | (simp [intF] at h)
theorem lift_I0 {g : Int → Int → V} {f : Int → Int → PyData} (h : ∀ i j M H, Rp K M H (g i j) (f i j)) : LiftR K (rI0 g) (intF fun i j => some (f i j)) := by
  intro M H x y z v u ml e rx ry Q k
  replace e := intF_some e
  obtain ⟨i, j, rfl, rfl, e⟩ := e
  cases e
  cases rx
  cases ry
  exact ⟨i, j, rfl, rfl, k _ H (Same.refl H) (h i j M H)⟩
theorem lift_I {C : Int → Int → Prop} {g : Int → Int → V} {cf : Int → Int → Bool} {f : Int → Int → PyData} (hc : ∀ i j, cf i j = true → C i j) (h : ∀ i j M H, Rp K M H (g i j) (f i j)) : LiftR K (rI C g) (intF fun i j => if cf i j = true then some (f i j) else none) := by
  intro M H x y z v u ml e rx ry Q k
  replace e := intF_some e
  obtain ⟨i, j, rfl, rfl, e⟩ := e
  by_cases q : cf i j = true
  · rw [if_pos q] at e
    cases e
    cases rx
    cases ry
    exact ⟨i, j, rfl, rfl, hc i j q, k _ H (Same.refl H) (h i j M H)⟩
  · rw [if_neg q] at e
    cases e
abbrev fSub := intF fun i j => some (.int (i - j))
theorem l_sub : LiftR K (rI0 fun i j => .int (i - j)) fSub := lift_I0 fun _ _ _ _ => .int _
abbrev cMul (i j : Int) : Bool := decide (-(2 ^ 64) < i ∧ i < 2 ^ 64) || decide (-(2 ^ 64) < j ∧ j < 2 ^ 64)
abbrev fMul := intF fun i j => if cMul i j = true then some (.int (i * j)) else none
theorem l_mul : LiftR K (rI CMul fun i j => .int (i * j)) fMul := lift_I (fun i j h => by
  rw [Bool.or_eq_true] at h
  rcases h with h | h
  · exact .inl (of_decide_eq_true h)
  · exact .inr (of_decide_eq_true h)) fun _ _ _ _ => .int _
abbrev fMod := intF fun i j => if decide (0 < j) = true then some (.int (i % j)) else none
theorem l_mod : LiftR K (rI (fun _ j => 0 < j) fun i j => .int (i % j)) fMod := lift_I (fun _ _ h => of_decide_eq_true h) fun _ _ _ _ => .int _
abbrev fDiv := intF fun i j => if decide (0 < j ∧ j < 1073741824) = true then some (.int (i / j)) else none
theorem l_div : LiftR K (rI CDiv fun i j => .int (i / j)) fDiv := lift_I (fun i j h => by exact of_decide_eq_true (p := 0 < j ∧ j < 1073741824) h) fun _ _ _ _ => .int _
abbrev fPow := intF fun i j => if decide (0 ≤ j ∧ j ≤ 1000000 ∧ i.natAbs < 2 ^ 64) = true then some (.int (i ^ j.toNat)) else none
theorem l_pow : LiftR K (rI CPow fun i j => .int (i ^ j.toNat)) fPow := lift_I (fun i j h => by exact of_decide_eq_true (p := 0 ≤ j ∧ j ≤ 1000000 ∧ i.natAbs < 2 ^ 64) h) fun _ _ _ _ => .int _
abbrev fLt := intF fun i j => some (.bool (decide (i < j)))
theorem l_lt : LiftR K (rI0 fun i j => .bl (decide (i < j))) fLt := lift_I0 fun _ _ _ _ => .bl _
abbrev fLe := intF fun i j => some (.bool (decide (i ≤ j)))
theorem l_le : LiftR K (rI0 fun i j => .bl (decide (i ≤ j))) fLe := lift_I0 fun _ _ _ _ => .bl _
abbrev fGt := intF fun i j => some (.bool (decide (j < i)))
theorem l_gt : LiftR K (rI0 fun i j => .bl (decide (j < i))) fGt := lift_I0 fun _ _ _ _ => .bl _
abbrev fGe := intF fun i j => some (.bool (decide (j ≤ i)))
theorem l_ge : LiftR K (rI0 fun i j => .bl (decide (j ≤ i))) fGe := lift_I0 fun _ _ _ _ => .bl _
/-- a new list, a new tuple of data -/
theorem rp_newL {M : MS} {H : Hp} {p : Addr} {vs : List V} {xs : List PyData} (ml : ∀ a, M a → Mut (H a)) (hp : H p = none) (h : RpAll K M H vs xs) : Rp K M (upd H p (.lst vs)) (.ref p) (.list xs) :=
  .lst (fun q => by have := ml p q; rw [hp] at this; exact this) upd_same (h.same ml (same_new hp))
theorem rp_newT {M : MS} {H : Hp} {p : Addr} {vs : List V} {xs : List PyData} (ml : ∀ a, M a → Mut (H a)) (hp : H p = none) (h : RpAll K M H vs xs) : Rp K M (upd H p (.tup vs)) (.ref p) (.tuple xs) :=
  .tup (SqT.of upd_same) (h.same ml (same_new hp))
/-- + of ints, texts, lists, tuples -/
def fAdd : PyData → PyData → Option PyData
  | .int i, .int j => some (.int (i + j))
  | .str x, .str y => if x.length + y.length ≤ sizeLine then some (.str (x ++ y)) else none
  | .list xs, .list ys => if xs.length + ys.length ≤ sizeLine then some (.list (xs ++ ys)) else none
  | .tuple xs, .tuple ys => if xs.length + ys.length ≤ sizeLine then some (.tuple (xs ++ ys)) else none
  | _, _ => none
def rAddA (K : PySem.W.Frag) : R2 := fun x y H Q => (rI0 (fun i j => .int (i + j)) x y H Q) ∨ ((∃ i j, x = .str i ∧ y = .str j ∧ i.length + j.length ≤ sizeLine ∧ Q (.str (i ++ j)) H) ∨ (rCat x y H Q ∨ rCatA K x y H Q))
theorem op_addA : OpR X (binaryOp .Add) (rAddA X.K) := op_add.or (op_add_str.or (op_cat.or op_catA))
theorem l_add : LiftR K (rAddA K) fAdd := by
  intro M H x y z v u ml e rx ry Q k
  cases x with
  | int i =>
    cases y <;> first | (simp [fAdd] at e; done) | skip
    simp only [fAdd] at e
    cases e
    cases rx
    cases ry
    exact .inl ⟨_, _, rfl, rfl, k _ H (Same.refl H) (.int _)⟩
  | str i =>
    cases y <;> first | (simp [fAdd] at e; done) | skip
    simp only [fAdd] at e
    split at e
    · cases e
      cases rx
      cases ry
      exact .inr (.inl ⟨_, _, rfl, rfl, by assumption, k _ H (Same.refl H) (.str _)⟩)
    · cases e
  | list i =>
    cases y <;> first | (simp [fAdd] at e; done) | skip
    simp only [fAdd] at e
    split at e
    · cases e
      cases rx with
      | lst n1 e1 h1 =>
        cases ry with
        | lst n2 e2 h2 => exact .inr (.inr (.inl ⟨_, _, _, _, rfl, rfl, e1, e2, by rw [h1.length, h2.length]; assumption, fun p hp => k _ _ (same_new hp) (rp_newL ml hp (h1.append h2))⟩))
    · cases e
  | tuple i =>
    cases y <;> first | (simp [fAdd] at e; done) | skip
    simp only [fAdd] at e
    split at e
    · cases e
      cases rx with
      | tup e1 h1 =>
        cases ry with
        | tup e2 h2 =>
          refine .inr (.inr (.inr ⟨_, _, _, _, rfl, rfl, e1, e2, by rw [h1.length, h2.length]; assumption, fun z => ?_, fun _ z => ?_, fun _ _ p hp => k _ _ (same_new hp) (rp_newT ml hp (h1.append h2))⟩))
          · subst z
            cases h1
            exact k _ H (Same.refl H) (.tup e2 h2)
          · subst z
            cases h2
            rw [List.append_nil] at k
            exact k _ H (Same.refl H) (.tup e1 h1)
    · cases e
  | _ => simp [fAdd] at e
/-- ==, != of data -/
def strsD : PyData → PyData → Bool
  | .str _, .str _ => true
  | _, _ => false
theorem strsD_of {x y : PyData} (h : strsD x y = true) : ∃ a b, x = .str a ∧ y = .str b := by
  unfold strsD at h
  split at h
  · exact ⟨_, _, rfl, rfl⟩
  · cases h
def fEq (x y : PyData) : Option PyData := if (strsD x y || (SeqAt.shaped x && SeqAt.shaped y)) = true then some (.bool (PyData.eqv x y)) else none
def fNe (x y : PyData) : Option PyData := if (strsD x y || (SeqAt.shaped x && SeqAt.shaped y)) = true then some (.bool (!PyData.eqv x y)) else none
def rEqA (K : PySem.W.Frag) : R2 := fun x y H Q => rEq x y H Q ∨ rEqD K x y H Q
def rNeA (K : PySem.W.Frag) : R2 := fun x y H Q => rNe x y H Q ∨ rNeD K x y H Q
theorem op_eqA {X : Cx} (hu : X.A.units + 64 < cLine) : OpR X (compareOp .Eq) (rEqA X.K) := op_eq.or (op_eqD hu)
theorem op_neA {X : Cx} (hu : X.A.units + 64 < cLine) : OpR X (compareOp .NotEq) (rNeA X.K) := op_ne.or (op_neD hu)
theorem nodict {x : PyData} (h : SeqAt.shaped x = true) : x.hasDict = false := PyData.hasDict_of_canLay x (SeqAt.canLay_of_shaped h)
theorem l_eq : LiftR K (rEqA K) fEq := by
  intro M H x y z v u ml e rx ry Q k
  unfold fEq at e
  split at e
  · cases e
    rename_i h
    rw [Bool.or_eq_true, Bool.and_eq_true] at h
    rcases h with h | h
    · obtain ⟨a, b, rfl, rfl⟩ := strsD_of h
      cases rx
      cases ry
      refine .inl ⟨rfl, ?_⟩
      rw [dec_str]
      exact k _ H (Same.refl H) (.bl _)
    · exact .inr ⟨x, y, Rp.dp x v (nodict h.1) rx, Rp.dp y u (nodict h.2) ry, h.1, h.2, k _ H (Same.refl H) (.bl _)⟩
  · cases e
theorem l_ne : LiftR K (rNeA K) fNe := by
  intro M H x y z v u ml e rx ry Q k
  unfold fNe at e
  split at e
  · cases e
    rename_i h
    rw [Bool.or_eq_true, Bool.and_eq_true] at h
    rcases h with h | h
    · obtain ⟨a, b, rfl, rfl⟩ := strsD_of h
      cases rx
      cases ry
      refine .inl ⟨rfl, ?_⟩
      rw [dec_str]
      exact k _ H (Same.refl H) (.bl _)
    · exact .inr ⟨x, y, Rp.dp x v (nodict h.1) rx, Rp.dp y u (nodict h.2) ry, h.1, h.2, k _ H (Same.refl H) (.bl _)⟩
  · cases e
/-- in, not in: flat items -/
def flatD : PyData → Bool
  | .none => true
  | .bool _ => true
  | .int _ => true
  | .str _ => true
  | _ => false
def itemsD : PyData → Option (List PyData)
  | .list xs => some xs
  | .tuple xs => some xs
  | _ => none
def fIn (neg : Bool) (x y : PyData) : Option PyData := match itemsD y with
  | some ys => if (flatD x && ys.all flatD) = true then some (.bool (if neg = true then !ys.any (fun y => PyData.eqv y x) else ys.any (fun y => PyData.eqv y x))) else none
  | none => none
theorem flat_rp {M : MS} {H : Hp} {x : PyData} {v : V} (r : Rp K M H v x) (h : flatD x = true) : flatV v = true := by
  cases r <;> first | rfl | (simp [flatD] at h)
theorem eqV_eqv {M : MS} {H : Hp} {x y : PyData} {v u : V} (rx : Rp K M H v x) (ry : Rp K M H u y) (hx : flatD x = true) (hy : flatD y = true) : eqV u v = PyData.eqv y x := by
  cases rx <;> first | (simp [flatD] at hx; done) | skip
  all_goals (cases ry <;> first | (simp [flatD] at hy; done) | rfl | (simp [eqV, PyData.eqv]))
theorem flats_rp {M : MS} {H : Hp} : ∀ {ys : List PyData} {vs : List V}, RpAll K M H vs ys → ys.all flatD = true → vs.all flatV = true
  | [], _, .nil, _ => rfl
  | _ :: _, _, .cons r t, h => by
    rw [List.all_cons, Bool.and_eq_true] at h ⊢
    exact ⟨flat_rp r h.1, flats_rp t h.2⟩
theorem inV_any {M : MS} {H : Hp} {x : PyData} {v : V} (rx : Rp K M H v x) (hx : flatD x = true) : ∀ {ys : List PyData} {vs : List V}, RpAll K M H vs ys → ys.all flatD = true → inV v vs = ys.any fun y => PyData.eqv y x
  | [], _, .nil, _ => rfl
  | y :: ys, u :: us, .cons r t, h => by
    rw [List.all_cons, Bool.and_eq_true] at h
    have q := inV_any rx hx t h.2
    unfold inV at q ⊢
    rw [List.any_cons, List.any_cons, q, eqV_eqv rx r hx h.1]
theorem l_in (neg : Bool) : LiftR K (rIn K neg) (fIn neg) := by
  intro M H x y z v u ml e rx ry Q k
  unfold fIn at e
  cases y with
  | list ys =>
    simp only [itemsD] at e
    split at e
    · rename_i h
      rw [Bool.and_eq_true] at h
      cases e
      cases ry with
      | lst n1 e1 h1 =>
        refine ⟨_, _, rfl, .inl (SqL.of e1), flat_rp rx h.1, flats_rp h1 h.2, ?_⟩
        rw [inV_any rx h.1 h1 h.2]
        exact k _ H (Same.refl H) (.bl _)
    · cases e
  | tuple ys =>
    simp only [itemsD] at e
    split at e
    · rename_i h
      rw [Bool.and_eq_true] at h
      cases e
      cases ry with
      | tup e1 h1 =>
        refine ⟨_, _, rfl, .inr e1, flat_rp rx h.1, flats_rp h1 h.2, ?_⟩
        rw [inV_any rx h.1 h1 h.2]
        exact k _ H (Same.refl H) (.bl _)
    · cases e
  | _ => simp [itemsD] at e
/-- a[i] -/
def fIx : PyData → PyData → Option PyData
  | .list xs, .int i => atI xs i
  | .tuple xs, .int i => atI xs i
  | .str x, .int i => if x.length ≤ sizeLine then (atI x.cps.toList i).map fun c => .str ⟨#[c]⟩ else none
  | .dict kvs, .int i => (atI kvs i).map (·.1)
  | _, _ => none
theorem atI_rp {M : MS} {H : Hp} {ds : List PyData} {vs : List V} {i : Int} {d : PyData} (h : RpAll K M H vs ds) (e : atI ds i = some d) : ∃ v, atI vs i = some v ∧ Rp K M H v d := by
  unfold atI at e ⊢
  rw [h.length]
  cases q : ixN ds.length i with
  | none => rw [q] at e; cases e
  | some j =>
    rw [q] at e
    exact h.get e
theorem l_ix : LiftR K (rIx K) fIx := by
  intro M H x y z v u ml e rx ry Q k
  cases y <;> first | (cases x <;> simp [fIx] at e; done) | skip
  cases ry
  cases x with
  | list xs =>
    cases rx with
    | lst n1 e1 h1 =>
      obtain ⟨w, q1, q2⟩ := atI_rp h1 e
      exact .inl ⟨_, _, _, w, rfl, rfl, SqL.of e1, q1, k w H (Same.refl H) q2⟩
  | tuple xs =>
    cases rx with
    | tup e1 h1 =>
      obtain ⟨w, q1, q2⟩ := atI_rp h1 e
      exact .inr (.inl ⟨_, _, _, w, rfl, rfl, e1, q1, k w H (Same.refl H) q2⟩)
  | str s =>
    cases rx
    simp only [fIx] at e
    split at e
    · rename_i hs
      obtain ⟨c, e1, e2⟩ := Option.map_eq_some_iff.mp e
      subst e2
      exact .inr (.inr ⟨_, _, c, rfl, rfl, hs, e1, k _ H (Same.refl H) (.str _)⟩)
    · cases e
  | dict kvs =>
    cases rx with
    | @scr p ns _ e1 h1 =>
      subst e1
      simp only [fIx] at e
      obtain ⟨c, e2, e3⟩ := Option.map_eq_some_iff.mp e
      unfold atI at e2
      rw [List.length_map] at e2
      rename_i i
      cases q : ixN ns.length i with
      | none => rw [q] at e2; cases e2
      | some j =>
        rw [q] at e2
        have e4 : (ns.map fun n => ((PyData.int n, PyData.none) : PyData × PyData))[j]? = some c := e2
        rw [List.getElem?_map] at e4
        obtain ⟨n, e5, e6⟩ := Option.map_eq_some_iff.mp e4
        subst e6
        subst e3
        have hS : SqL K H p (ns.map V.int) := by
          rcases h1 with ⟨_, h1⟩ | h1
          · exact .inl h1
          · exact h1 H
        refine .inl ⟨_, _, _, V.int n, rfl, rfl, hS, ?_, k _ H (Same.refl H) (.int n)⟩
        unfold atI
        rw [List.length_map, q]
        show (ns.map V.int)[j]? = some (V.int n)
        rw [List.getElem?_map, e5]
        rfl
  | _ => simp [fIx] at e
theorem d_ix (ha : PEd X a ta wa) (hb : PEd X b tb wb) (hs : PlainIx b := by exact fun _ _ => rfl) : PEd X (.Subscript a b pos) (tOp (rIx X.K) ta tb) (wBin fIx wa wb) := ⟨pe_ix ix_seq ha.p hb.p hs, imp_op l_ix ha.i hb.i⟩

/-! ### one-place operations -/
def wUn (f : PyData → Option PyData) (wa : WE) : WE := fun ρ P => wa ρ fun x ρ1 => ∃ z, f x = some z ∧ P z ρ1
def LiftU (K : PySem.W.Frag) (r : V → Hp → VK → Prop) (f : PyData → Option PyData) : Prop := ∀ (M : MS) (H : Hp) x z v, (∀ a, M a → Mut (H a)) → f x = some z → Rp K M H v x → ∀ Q : VK, (∀ v' H', Same H H' → Rp K M H' v' z → Q v' H') → r v H Q
theorem imp_un {r : V → Hp → VK → Prop} {f : PyData → Option PyData} (l : LiftU K r f) (ha : ImpE K ta wa) : ImpE K (tUn r ta) (wUn f wa) := by
  intro F O M σ H ρ R P hw Q k
  refine ha F O M σ H ρ R _ hw _ fun x ρ1 v H1 R1 g1 r1 ⟨z, e, hp⟩ => ?_
  exact l M H1 x z v R1.ml e r1 Q fun v' H3 s r3 => k z ρ1 v' H3 (R1.same s) (g1.trans (Gr.same s) R.om) r3 hp
def fNeg : PyData → Option PyData
  | .int i => some (.int (-i))
  | _ => none
theorem d_neg (ha : PEd X a ta wa) : PEd X (.UnaryOp .USub a pos) (tUn (rU fun i => .int (-i)) ta) (wUn fNeg wa) := by
  refine ⟨pe_un un_neg ha.p, imp_un ?_ ha.i⟩
  intro M H x z v ml e r Q k
  cases r <;> simp [fNeg] at e
  subst e
  exact ⟨_, rfl, k _ H (Same.refl H) (.int _)⟩

/-! ### tests -/
def wTest (w : WE) : WT := fun ρ P => w ρ fun x ρ1 => ∃ b, x = .bool b ∧ P b ρ1
theorem imp_test (ha : ImpE K ta wa) : ImpT K (tTest ta) (wTest wa) := by
  intro F O M σ H ρ R P hw Q k
  refine ha F O M σ H ρ R _ hw _ fun x ρ1 v H1 R1 g1 r1 ⟨b, e, hp⟩ => ?_
  subst e
  cases r1
  exact ⟨b, rfl, k b ρ1 H1 R1 g1 hp⟩
theorem imp_B (ha : ImpE K ta wa) : ImpT K (tB ta) (wTest wa) := imp_test ha
theorem c_val (h : PEd X e te we) (he : ∀ whole, isTrue e X.env whole = (do let v ← whole; standAt e.pos; holding [v] (truthy v)) := by intro _; rfl) : PTd X e (tB te) (wTest we) := ⟨pt_val h.p he, imp_B h.i⟩
theorem c_cmp {op : CmpOp} {r : R2} {f : PyData → PyData → Option PyData} (ho : OpR X (compareOp op) r) (l : LiftR X.K r f) (ha : PEd X a ta wa) (hb : PEd X b tb wb) (hm : behindInMarks op b = false) : PTd X (.Compare a [op] [b] pos) (tTest (tOp r ta tb)) (wTest (wBin f wa wb)) :=
  ⟨pt_cmpR ho ha.p hb.p hm, imp_test (imp_op l ha.i hb.i)⟩
def wAnd (w u : WT) : WT := fun ρ P => w ρ fun b ρ1 => if b = true then u ρ1 P else P false ρ1
def wOr (w u : WT) : WT := fun ρ P => w ρ fun b ρ1 => if b = true then P true ρ1 else u ρ1 P
def wNot (w : WT) : WT := fun ρ P => w ρ fun b ρ1 => P (!b) ρ1
variable {tt tu : TT} {wt wu : WT} {rest : List Expr}
theorem imp_and (h1 : ImpT K tt wt) (h2 : ImpT K tu wu) : ImpT K (tAnd tt tu) (wAnd wt wu) := by
  intro F O M σ H ρ R P hw Q k
  refine h1 F O M σ H ρ R _ hw _ fun b ρ1 H1 R1 g1 q => ?_
  cases b with
  | true =>
    rw [if_pos rfl] at q
    show tu σ H1 Q
    exact h2 F O M σ H1 ρ1 R1 _ q _ fun c ρ2 H2 R2 g2 q2 => k c ρ2 H2 R2 (g1.trans g2 R.om) q2
  | false =>
    rw [if_neg Bool.false_ne_true] at q
    exact k false ρ1 H1 R1 g1 q
theorem imp_or (h1 : ImpT K tt wt) (h2 : ImpT K tu wu) : ImpT K (tOr tt tu) (wOr wt wu) := by
  intro F O M σ H ρ R P hw Q k
  refine h1 F O M σ H ρ R _ hw _ fun b ρ1 H1 R1 g1 q => ?_
  cases b with
  | true =>
    rw [if_pos rfl] at q
    exact k true ρ1 H1 R1 g1 q
  | false =>
    rw [if_neg Bool.false_ne_true] at q
    show tu σ H1 Q
    exact h2 F O M σ H1 ρ1 R1 _ q _ fun c ρ2 H2 R2 g2 q2 => k c ρ2 H2 R2 (g1.trans g2 R.om) q2
theorem imp_not (h1 : ImpT K tt wt) : ImpT K (tNot tt) (wNot wt) := by
  intro F O M σ H ρ R P hw Q k
  exact h1 F O M σ H ρ R _ hw _ fun b ρ1 H1 R1 g1 q => k _ ρ1 H1 R1 g1 q
theorem c_and1 (h : PTd X a tt wt) : PWd X (.BoolOp .And [a] pos) tt wt := ⟨pw_and1 h.p, h.i⟩
theorem c_or1 (h : PTd X a tt wt) : PWd X (.BoolOp .Or [a] pos) tt wt := ⟨pw_or1 h.p, h.i⟩
theorem c_and (h : PTd X a tt wt) (h2 : PWd X (.BoolOp .And (b :: rest) pos) tu wu) : PWd X (.BoolOp .And (a :: b :: rest) pos) (tAnd tt tu) (wAnd wt wu) := ⟨pw_and h.p h2.p, imp_and h.i h2.i⟩
theorem c_or (h : PTd X a tt wt) (h2 : PWd X (.BoolOp .Or (b :: rest) pos) tu wu) : PWd X (.BoolOp .Or (a :: b :: rest) pos) (tOr tt tu) (wOr wt wu) := ⟨pw_or h.p h2.p, imp_or h.i h2.i⟩
theorem c_not (h : PTd X a tt wt) : PTd X (.UnaryOp .Not a pos) (tNot tt) (wNot wt) := ⟨pt_not h.p, imp_not h.i⟩
theorem c_w (h : PWd X a tt wt) : PTd X a tt wt := ⟨h.p.pt, h.i⟩
/-- as values -/
def wAndV (wa wb : WE) : WE := fun ρ P => wa ρ fun x ρ1 => ∃ c, x = .bool c ∧ if c = true then wb ρ1 P else P (.bool false) ρ1
def wOrV (wa wb : WE) : WE := fun ρ P => wa ρ fun x ρ1 => ∃ c, x = .bool c ∧ if c = true then P (.bool true) ρ1 else wb ρ1 P
def wNotV (wa : WE) : WE := fun ρ P => wa ρ fun x ρ1 => ∃ c, x = .bool c ∧ P (.bool (!c)) ρ1
theorem d_one {op} (h : PEd X a ta wa) : PEd X (.BoolOp op [a] pos) ta wa := ⟨pe_one h.p, h.i⟩
theorem d_and (ha : PEd X a ta wa) (hb : PEd X (.BoolOp .And (b :: rest) pos) tb wb) : PEd X (.BoolOp .And (a :: b :: rest) pos) (tAndV ta tb) (wAndV wa wb) := by
  refine ⟨pe_and ha.p hb.p, ?_⟩
  intro F O M σ H ρ R P hw Q k
  refine ha.i F O M σ H ρ R _ hw _ fun x ρ1 v H1 R1 g1 r1 ⟨c, e, q⟩ => ?_
  subst e
  cases r1
  refine ⟨c, rfl, ?_⟩
  cases c with
  | true =>
    rw [if_pos rfl] at q
    show tb σ H1 Q
    exact hb.i F O M σ H1 ρ1 R1 _ q _ fun y ρ2 u H2 R2 g2 r2 q2 => k y ρ2 u H2 R2 (g1.trans g2 R.om) r2 q2
  | false =>
    rw [if_neg Bool.false_ne_true] at q
    exact k _ ρ1 _ H1 R1 g1 (.bl _) q
theorem d_or (ha : PEd X a ta wa) (hb : PEd X (.BoolOp .Or (b :: rest) pos) tb wb) : PEd X (.BoolOp .Or (a :: b :: rest) pos) (tOrV ta tb) (wOrV wa wb) := by
  refine ⟨pe_or ha.p hb.p, ?_⟩
  intro F O M σ H ρ R P hw Q k
  refine ha.i F O M σ H ρ R _ hw _ fun x ρ1 v H1 R1 g1 r1 ⟨c, e, q⟩ => ?_
  subst e
  cases r1
  refine ⟨c, rfl, ?_⟩
  cases c with
  | true =>
    rw [if_pos rfl] at q
    exact k _ ρ1 _ H1 R1 g1 (.bl _) q
  | false =>
    rw [if_neg Bool.false_ne_true] at q
    show tb σ H1 Q
    exact hb.i F O M σ H1 ρ1 R1 _ q _ fun y ρ2 u H2 R2 g2 r2 q2 => k y ρ2 u H2 R2 (g1.trans g2 R.om) r2 q2
theorem d_not (ha : PEd X a ta wa) : PEd X (.UnaryOp .Not a pos) (tNotV ta) (wNotV wa) := by
  refine ⟨pe_not ha.p, ?_⟩
  intro F O M σ H ρ R P hw Q k
  refine ha.i F O M σ H ρ R _ hw _ fun x ρ1 v H1 R1 g1 r1 ⟨c, e, q⟩ => ?_
  subst e
  cases r1
  exact ⟨c, rfl, k _ ρ1 _ H1 R1 g1 (.bl _) q⟩
def wIf (w : WT) (wa wb : WE) : WE := fun ρ P => w ρ fun b ρ1 => if b = true then wa ρ1 P else wb ρ1 P
theorem d_if (hc : PTd X c tt wt) (ha : PEd X a ta wa) (hb : PEd X b tb wb) : PEd X (.IfExp c a b pos) (tIf tt ta tb) (wIf wt wa wb) := by
  refine ⟨pe_ifExp hc.p ha.p hb.p, ?_⟩
  intro F O M σ H ρ R P hw Q k
  refine hc.i F O M σ H ρ R _ hw _ fun d ρ1 H1 R1 g1 q => ?_
  cases d with
  | true =>
    rw [if_pos rfl] at q
    show ta σ H1 Q
    exact ha.i F O M σ H1 ρ1 R1 _ q _ fun y ρ2 u H2 R2 g2 r2 q2 => k y ρ2 u H2 R2 (g1.trans g2 R.om) r2 q2
  | false =>
    rw [if_neg Bool.false_ne_true] at q
    show tb σ H1 Q
    exact hb.i F O M σ H1 ρ1 R1 _ q _ fun y ρ2 u H2 R2 g2 r2 q2 => k y ρ2 u H2 R2 (g1.trans g2 R.om) r2 q2
/-- a < b < c, as a test and a value -/
def wChain (f g : PyData → PyData → Option PyData) (wa wb wc : WE) : WE := fun ρ P => wa ρ fun x ρ1 => wb ρ1 fun y ρ2 => ∃ d, f x y = some (.bool d) ∧ if d = true then wc ρ2 fun z ρ3 => ∃ u, g y z = some u ∧ P u ρ3 else P (.bool false) ρ2
theorem imp_chain {r r' : R2} {f g : PyData → PyData → Option PyData} (l : LiftR K r f) (l' : LiftR K r' g) (ha : ImpE K ta wa) (hb : ImpE K tb wb) (hc : ImpE K tc wc) : ImpE K (tChain r r' ta tb tc) (wChain f g wa wb wc) := by
  intro F O M σ H ρ R P hw Q k
  refine ha F O M σ H ρ R _ hw _ fun x ρ1 v H1 R1 g1 r1 hw1 => ?_
  refine hb F O M σ H1 ρ1 R1 _ hw1 _ fun y ρ2 u H2 R2 g2 r2 ⟨d, e, q⟩ => ?_
  refine l M H2 x y _ v u R2.ml e (Rp.gr R1.kp g2 x v r1) r2 _ fun v' H3 s r3 => ?_
  cases r3
  refine ⟨d, rfl, ?_⟩
  cases d with
  | true =>
    rw [if_pos rfl] at q
    have R3 := R2.same s
    rw [if_pos rfl]
    refine hc F O M σ H3 ρ2 R3 _ q _ fun z ρ3 w' H4 R4 g4 r4 ⟨o, e2, hp⟩ => ?_
    refine l' M H4 y z o u w' R4.ml e2 (Rp.gr R3.kp g4 y u (r2.same R2.ml s)) r4 Q fun v5 H5 s5 r5 => ?_
    exact k o ρ3 v5 H5 (R4.same s5) (((((g1.trans g2 R.om).trans (Gr.same s) R.om).trans g4 R.om).trans (Gr.same s5)) R.om) r5 hp
  | false =>
    rw [if_neg Bool.false_ne_true] at q ⊢
    exact k _ ρ2 _ H3 (R2.same s) ((g1.trans g2 R.om).trans (Gr.same s) R.om) (.bl _) q

/-! ### argument lists, displays -/
def wNil : WA := fun ρ P => P [] ρ
def wCons (wa : WE) (wr : WA) : WA := fun ρ P => wa ρ fun x ρ1 => wr ρ1 fun xs ρ2 => P (x :: xs) ρ2
variable {tr : TA} {wr : WA}
theorem imp_nil : ImpA K tNil wNil := fun F O M σ H ρ R P hp Q k => k [] ρ [] H R (Gr.refl O M H) .nil hp
theorem imp_cons (ha : ImpE K ta wa) (hr : ImpA K tr wr) : ImpA K (tCons ta tr) (wCons wa wr) := by
  intro F O M σ H ρ R P hw Q k
  refine ha F O M σ H ρ R _ hw _ fun x ρ1 v H1 R1 g1 r1 hw1 => ?_
  refine hr F O M σ H1 ρ1 R1 _ hw1 _ fun xs ρ2 vs H2 R2 g2 r2 q => ?_
  exact k _ ρ2 _ H2 R2 (g1.trans g2 R.om) (.cons (Rp.gr R1.kp g2 x v r1) r2) q
theorem a_nil : PAd X [] tNil wNil := ⟨pa_nil, imp_nil⟩
theorem a_cons (ha : PEd X e te we) (hr : PAd X es tr wr) (hs : starEach (e :: es) X.env = (false, eval e X.env) :: starEach es X.env := by rfl) : PAd X (e :: es) (tCons te tr) (wCons we wr) := ⟨pa_cons ha.p hr.p hs, imp_cons ha.i hr.i⟩
def wTup (wr : WA) : WE := fun ρ P => wr ρ fun xs ρ1 => xs.length ≤ sizeLine ∧ P (.tuple xs) ρ1
def wLst (wr : WA) : WE := fun ρ P => wr ρ fun xs ρ1 => xs.length ≤ sizeLine ∧ P (.list xs) ρ1
theorem d_tup {x1} (h : PAd X es tr wr) : PEd X (.Tuple es x1 pos) (tTup tr) (wTup wr) := by
  refine ⟨pe_tup h.p, ?_⟩
  intro F O M σ H ρ R P hw Q k
  refine h.i F O M σ H ρ R _ hw _ fun xs ρ1 vs H1 R1 g1 r1 ⟨hl, q⟩ => ⟨by rw [r1.length]; exact hl, fun p hp => ?_⟩
  exact k _ ρ1 _ _ (R1.same (same_new hp)) (g1.trans (Gr.same (same_new hp)) R.om) (rp_newT R1.ml hp r1) q
theorem d_lst (h : PAd X es tr wr) : PEd X (.List es pos) (tLst tr) (wLst wr) := by
  refine ⟨pe_lst h.p, ?_⟩
  intro F O M σ H ρ R P hw Q k
  refine h.i F O M σ H ρ R _ hw _ fun xs ρ1 vs H1 R1 g1 r1 ⟨hl, q⟩ => ⟨by rw [r1.length]; exact hl, fun p hp => ?_⟩
  exact k _ ρ1 _ _ (R1.same (same_new hp)) (g1.trans (Gr.same (same_new hp)) R.om) (rp_newL R1.ml hp r1) q

/-! ### calls of what is built in -/
def wCB (f : List PyData → Option PyData) (wr : WA) : WE := fun ρ P => wr ρ fun xs ρ1 => ∃ z, f xs = some z ∧ P z ρ1
def LiftC (K : PySem.W.Frag) (r : List V → Hp → VK → Prop) (f : List PyData → Option PyData) : Prop := ∀ (M : MS) (H : Hp) xs z vs, (∀ a, M a → Mut (H a)) → f xs = some z → RpAll K M H vs xs → ∀ Q : VK, (∀ v' H', Same H H' → Rp K M H' v' z → Q v' H') → r vs H Q
theorem imp_cb {r : List V → Hp → VK → Prop} {f : List PyData → Option PyData} (l : LiftC K r f) (hr : ImpA K tr wr) : ImpE K (tCB r tr) (wCB f wr) := by
  intro F O M σ H ρ R P hw Q k
  refine hr F O M σ H ρ R _ hw _ fun xs ρ1 vs H1 R1 g1 r1 ⟨z, e, hp⟩ => ?_
  exact l M H1 xs z vs R1.ml e r1 Q fun v' H3 s r3 => k z ρ1 v' H3 (R1.same s) (g1.trans (Gr.same s) R.om) r3 hp
def f1 (f : PyData → Option PyData) : List PyData → Option PyData
  | [x] => f x
  | _ => none
def f2 (f : PyData → PyData → Option PyData) : List PyData → Option PyData
  | [x, y] => f x y
  | _ => none
theorem f1_some {f : PyData → Option PyData} {xs : List PyData} {z : PyData} (h : f1 f xs = some z) : ∃ x, xs = [x] ∧ f x = some z := by
  match xs, h with
  | [x], h => exact ⟨x, rfl, h⟩
theorem f2_some {f : PyData → PyData → Option PyData} {xs : List PyData} {z : PyData} (h : f2 f xs = some z) : ∃ x y, xs = [x, y] ∧ f x y = some z := by
  match xs, h with
  | [x, y], h => exact ⟨x, y, rfl, h⟩
def fAbs : PyData → Option PyData
  | .int i => some (.int (if i < 0 then -i else i))
  | _ => none
theorem l_abs : LiftC K (fun xs H Q => ∃ i, xs = [.int i] ∧ Q (.int (if i < 0 then -i else i)) H) (f1 fAbs) := by
  intro M H xs z vs ml e r Q k
  replace e := f1_some e
  obtain ⟨x, rfl, e⟩ := e
  cases r with
  | cons r t =>
    cases t
    cases r <;> simp [fAbs] at e
    subst e
    exact ⟨_, rfl, k _ H (Same.refl H) (.int _)⟩
theorem l_max : LiftC K (fun xs H Q => ∃ i j, xs = [.int i, .int j] ∧ Q (.int (if j > i then j else i)) H) (f2 (intF fun i j => some (.int (if j > i then j else i)))) := by
  intro M H xs z vs ml e r Q k
  replace e := f2_some e
  obtain ⟨x, y, rfl, e⟩ := e
  replace e := intF_some e
  obtain ⟨i, j, rfl, rfl, e⟩ := e
  cases e
  cases r with
  | cons r t =>
    cases t with
    | cons r2 t =>
      cases t
      cases r
      cases r2
      exact ⟨_, _, rfl, k _ H (Same.refl H) (.int _)⟩
theorem l_min : LiftC K (fun xs H Q => ∃ i j, xs = [.int i, .int j] ∧ Q (.int (if j < i then j else i)) H) (f2 (intF fun i j => some (.int (if j < i then j else i)))) := by
  intro M H xs z vs ml e r Q k
  replace e := f2_some e
  obtain ⟨x, y, rfl, e⟩ := e
  replace e := intF_some e
  obtain ⟨i, j, rfl, rfl, e⟩ := e
  cases e
  cases r with
  | cons r t =>
    cases t with
    | cons r2 t =>
      cases t
      cases r
      cases r2
      exact ⟨_, _, rfl, k _ H (Same.refl H) (.int _)⟩
def fLen : PyData → Option PyData
  | .list xs => some (.int xs.length)
  | .tuple xs => some (.int xs.length)
  | .str x => if x.length ≤ sizeLine then some (.int x.length) else none
  | .dict kvs => some (.int kvs.length)
  | _ => none
theorem l_len : LiftC K (fun xs H Q => ∃ x n, xs = [x] ∧ LenV K x H n ∧ Q (.int n) H) (f1 fLen) := by
  intro M H xs z vs ml e r Q k
  replace e := f1_some e
  obtain ⟨x, rfl, e⟩ := e
  cases r with
  | cons r t =>
    cases t
    cases r with
    | lst n1 e1 h1 =>
      simp only [fLen] at e
      cases e
      exact ⟨_, _, rfl, .inl ⟨_, SqL.of e1, rfl⟩, by rw [h1.length]; exact k _ H (Same.refl H) (.int _)⟩
    | tup e1 h1 =>
      simp only [fLen] at e
      cases e
      exact ⟨_, _, rfl, .inr ⟨_, e1, rfl⟩, by rw [h1.length]; exact k _ H (Same.refl H) (.int _)⟩
    | str x =>
      simp only [fLen] at e
      split at e
      · cases e
        exact ⟨_, _, rfl, ⟨by assumption, rfl⟩, k _ H (Same.refl H) (.int _)⟩
      · cases e
    | @scr p ns _ e1 h1 =>
      subst e1
      simp only [fLen, List.length_map] at e
      cases e
      have hS : SqL K H p (ns.map V.int) := by
        rcases h1 with ⟨_, h1⟩ | h1
        · exact .inl h1
        · exact h1 H
      exact ⟨_, _, rfl, .inl ⟨_, hS, rfl⟩, by rw [List.length_map]; exact k _ H (Same.refl H) (.int _)⟩
    | _ => simp [fLen] at e
def fTuple : PyData → Option PyData
  | .list xs => some (.tuple xs)
  | .tuple xs => some (.tuple xs)
  | _ => none
theorem l_tuple : LiftC K (fun xs H Q => ∃ p ys, xs = [.ref p] ∧ ((SqL K H p ys ∧ ∀ l, H l = none → Q (.ref l) (upd H l (.tup ys))) ∨ (SqT K H p ys ∧ Q (.ref p) H))) (f1 fTuple) := by
  intro M H xs z vs ml e r Q k
  replace e := f1_some e
  obtain ⟨x, rfl, e⟩ := e
  cases r with
  | cons r t =>
    cases t
    cases r with
    | lst n1 e1 h1 =>
      simp only [fTuple] at e
      cases e
      exact ⟨_, _, rfl, .inl ⟨SqL.of e1, fun l hl => k _ _ (same_new hl) (rp_newT ml hl h1)⟩⟩
    | tup e1 h1 =>
      simp only [fTuple] at e
      cases e
      exact ⟨_, _, rfl, .inr ⟨e1, k _ H (Same.refl H) (.tup e1 h1)⟩⟩
    | _ => simp [fTuple] at e
def fList : PyData → Option PyData
  | .list xs => some (.list xs)
  | .tuple xs => some (.list xs)
  | _ => none
theorem l_list : LiftC K (fun xs H Q => ∃ p ys, xs = [.ref p] ∧ (SqL K H p ys ∨ SqT K H p ys) ∧ ∀ l, H l = none → Q (.ref l) (upd H l (.lst ys))) (f1 fList) := by
  intro M H xs z vs ml e r Q k
  replace e := f1_some e
  obtain ⟨x, rfl, e⟩ := e
  cases r with
  | cons r t =>
    cases t
    cases r with
    | lst n1 e1 h1 =>
      simp only [fList] at e
      cases e
      exact ⟨_, _, rfl, .inl (SqL.of e1), fun l hl => k _ _ (same_new hl) (rp_newL ml hl h1)⟩
    | tup e1 h1 =>
      simp only [fList] at e
      cases e
      exact ⟨_, _, rfl, .inr e1, fun l hl => k _ _ (same_new hl) (rp_newL ml hl h1)⟩
    | _ => simp [fList] at e
theorem d_cb {id : String} {x : Str} {p : Pos} {r : List V → Hp → VK → Prop} {f : List PyData → Option PyData} (hc : CallR X (.builtin id) r) (l : LiftC X.K r f) (hg : Gl X x) (hm : X.mg x = none) (hv : bootBuiltins x = some (.builtin id)) (ha : PAd X (e :: es) tr wr) (hn : x ≠ "__name__" := by decide) (hdb : (x == ("__debug__" : Str)) = false := by decide)
    (he : starEach (e :: es) X.env = (false, eval e X.env) :: starEach es X.env := by rfl) (hpl : (backTo pos (starEach es X.env)).any (·.1) = false := by rfl) : PEd X (.Call (.Name x p) (e :: es) [] pos) (tCB r tr) (wCB f wr) := ⟨pe_callB hc hg hm hv ha.p hn hdb he hpl, imp_cb l ha.i⟩
theorem d_cty {T : String} {x : Str} {p : Pos} {r : List V → Hp → VK → Prop} {f : List PyData → Option PyData} (hc : CallR X (.type T) r) (l : LiftC X.K r f) (hg : Gl X x) (hm : X.mg x = none) (hv : bootBuiltins x = some (.type T)) (ha : PAd X (e :: es) tr wr) (hn : x ≠ "__name__" := by decide) (hdb : (x == ("__debug__" : Str)) = false := by decide)
    (he : starEach (e :: es) X.env = (false, eval e X.env) :: starEach es X.env := by rfl) (hpl : (backTo pos (starEach es X.env)).any (·.1) = false := by rfl) : PEd X (.Call (.Name x p) (e :: es) [] pos) (tCB r tr) (wCB f wr) := ⟨pe_callTy hc hg hm hv ha.p hn hdb he hpl, imp_cb l ha.i⟩
end
end Dat
namespace Dat
open PySem PySem.Spec PyProof.Rows L2
section
variable {K : PySem.W.Frag} {X : Cx} {a b c e : Expr} {es : List Expr} {ta tb tc te : TE} {wa wb wc we : WE} {pos : Pos} {tt : TT} {wt : WT} {tr : TA} {wr : WA}
variable {st : Stmt} {rest : List Stmt} {t u : TS} {w w2 : WS}

/-! ### blocks -/
def wNext : WS := fun E ρ => E.nx ρ
def wSeq (w w2 : WS) : WS := fun E ρ => w { E with nx := w2 E } ρ
theorem imp_seq (h1 : ImpS K t w) (h2 : ImpS K u w2) : ImpS K (tSeq t u) (wSeq w w2) := by
  intro F O M σ H ρ R E hw D cn
  refine h1 F O M σ H ρ R { E with nx := w2 E } hw { D with nx := u D } ⟨R.om, fun ρ' O' M' σ' H' R' g q => ?_, cn.rt, cn.bk, cn.ct, cn.rl⟩
  exact h2 F O' M' σ' H' ρ' R' E q D (cn.gr g R'.om)
theorem b_nil : PBd X [] tNext wNext := ⟨pss_nil, fun F O M σ H ρ R E hw D cn => cn.nx ρ O M σ H R (Gr.refl O M H) hw⟩
theorem b_cons (h1 : PSd X st t w) (h2 : PBd X rest u w2) : PBd X (st :: rest) (tSeq t u) (wSeq w w2) := ⟨pss_cons h1.p h2.p, imp_seq h1.i h2.i⟩
theorem b_one (h1 : PSd X st t w) : PBd X [st] t w := ⟨pss_one h1.p, h1.i⟩
theorem s_pass : PSd X (.Pass pos) tNext wNext := ⟨ps_pass, fun F O M σ H ρ R E hw D cn => cn.nx ρ O M σ H R (Gr.refl O M H) hw⟩
def wBrk : WS := fun E ρ => E.bk ρ
def wCnt : WS := fun E ρ => E.ct ρ
theorem s_break : PSd X (.Break pos) tBreak wBrk := ⟨ps_break, fun F O M σ H ρ R E hw D cn => cn.bk ρ O M σ H R (Gr.refl O M H) hw⟩
theorem s_continue : PSd X (.Continue pos) tCont wCnt := ⟨ps_continue, fun F O M σ H ρ R E hw D cn => cn.ct ρ O M σ H R (Gr.refl O M H) hw⟩
def wNever : WS := fun _ _ => False
theorem s_never : PSd X st tNever wNever := ⟨ps_never, fun _ _ _ _ _ _ _ _ h => h.elim⟩
theorem b_never {sts : List Stmt} : PBd X sts tNever wNever := ⟨pss_never, fun _ _ _ _ _ _ _ _ h => h.elim⟩
def wDrop (we : WE) : WS := fun E ρ => we ρ fun _ ρ1 => E.nx ρ1
theorem s_expr (he : PEd X e te we) (hs : swapsWith e none pos.line X.env = pure false := by rfl) : PSd X (.Expr e pos) (tDrop te) (wDrop we) :=
  ⟨ps_expr he.p hs, fun F O M σ H ρ R E hw D cn => he.i F O M σ H ρ R _ hw _ fun x ρ1 v H1 R1 g1 r1 q => cn.nx ρ1 O M σ H1 R1 g1 q⟩
def wRet (we : WE) : WS := fun E ρ => we ρ fun x ρ1 => E.rt x ρ1
theorem s_ret (he : PEd X e te we) : PSd X (.Return (some e) pos) (tRet te) (wRet we) :=
  ⟨ps_ret he.p, fun F O M σ H ρ R E hw D cn => he.i F O M σ H ρ R _ hw _ fun x ρ1 v H1 R1 g1 r1 q => cn.rt x ρ1 v O M σ H1 R1 g1 (Rp.less R1.sub x v r1) q⟩
def wIfS (wt : WT) (w w2 : WS) : WS := fun E ρ => wt ρ fun b ρ1 => if b = true then w E ρ1 else w2 E ρ1
theorem s_if {c : Expr} {a b : List Stmt} (hc : PTd X c tt wt) (ha : PBd X a t w) (hb : PBd X b u w2) : PSd X (.If c a b pos) (tIfS tt t u) (wIfS wt w w2) := by
  refine ⟨ps_if hc.p ha.p hb.p, fun F O M σ H ρ R E hw D cn => ?_⟩
  refine hc.i F O M σ H ρ R _ hw _ fun d ρ1 H1 R1 g1 q => ?_
  cases d with
  | true =>
    rw [if_pos rfl] at q
    show t D σ H1
    exact ha.i F O M σ H1 ρ1 R1 E q D (cn.gr g1 R1.om)
  | false =>
    rw [if_neg Bool.false_ne_true] at q
    show u D σ H1
    exact hb.i F O M σ H1 ρ1 R1 E q D (cn.gr g1 R1.om)

/-! ### targets -/
abbrev WG := PyData → DE → (DE → Prop) → Prop
def ImpG (K : PySem.W.Frag) (g : TG) (wg : WG) : Prop := ∀ (F : Frm) (O : OA) (M : MS) (σ : L2.St) (H : Hp) (ρ : DE), RepS K F O M H σ ρ → ∀ x v, Rp K M H v x → ∀ P, wg x ρ P → ∀ Q : L2.St → Hp → Prop,
  (∀ ρ' σ' H', RepS K F O M H' σ' ρ' → Same H H' → P ρ' → Q σ' H') → g v σ H Q
structure PGd (X : Cx) (tg : Expr) (g : TG) (wg : WG) : Prop where
  p : PG X tg g
  i : ImpG X.K g wg
def wName (i : Nat) : WG := fun x ρ P => P (ρ.set i (some (.d x)))
theorem imp_name (i : Nat) : ImpG K (gName i) (wName i) := fun F O M σ H ρ R x v r P hp Q k => k _ _ H (R.put i r) (Same.refl H) hp
theorem g_name {i : Nat} {x : Str} (hN : X.N.Nodup) (hi : X.N[i]? = some x) (hx : Loc X.env.scope x) (hf : X.fn x = true ∨ X.env.scope.names.lookup x = some .local := by first | exact .inl rfl | exact .inr rfl | assumption) : PGd X (.Name x pos) (gName i) (wName i) := ⟨pg_name hN hi hx hf, imp_name i⟩
/-- several names -/
abbrev WGs := List PyData → DE → (DE → Prop) → Prop
def ImpGs (K : PySem.W.Frag) (g : TGs) (wg : WGs) : Prop := ∀ (F : Frm) (O : OA) (M : MS) (σ : L2.St) (H : Hp) (ρ : DE), RepS K F O M H σ ρ → ∀ xs vs, RpAll K M H vs xs → ∀ P, wg xs ρ P → ∀ Q : L2.St → Hp → Prop,
  (∀ ρ' σ' H', RepS K F O M H' σ' ρ' → Same H H' → P ρ' → Q σ' H') → g vs σ H Q
structure PGsd (X : Cx) (ts : List Expr) (g : TGs) (wg : WGs) : Prop where
  p : PGs X ts g
  i : ImpGs X.K g wg
def wgNil : WGs := fun xs ρ P => xs = [] ∧ P ρ
def wgCons (wg : WG) (wr : WGs) : WGs := fun xs ρ P => ∃ x r, xs = x :: r ∧ wg x ρ fun ρ1 => wr r ρ1 P
theorem gs_nil : PGsd X [] gNil wgNil := by
  refine ⟨pgs_nil, fun F O M σ H ρ R xs vs r P hp Q k => ?_⟩
  obtain ⟨e, hp⟩ := hp
  subst e
  cases r
  exact ⟨rfl, k ρ σ H R (Same.refl H) hp⟩
theorem gs_cons {g : TG} {gr : TGs} {wg : WG} {wgr : WGs} (h1 : PGd X e g wg) (h2 : PGsd X es gr wgr)
    (hs : (assignEach (e :: es) X.env).map (·.2) = assign e X.env :: (assignEach es X.env).map (·.2) := by rfl) : PGsd X (e :: es) (gCons g gr) (wgCons wg wgr) := by
  refine ⟨pgs_cons h1.p h2.p hs, fun F O M σ H ρ R xs vs r P hp Q k => ?_⟩
  obtain ⟨x, xr, e, hp⟩ := hp
  subst e
  cases r with
  | cons r1 r2 =>
    refine ⟨_, _, rfl, h1.i F O M σ H ρ R _ _ r1 _ hp _ fun ρ1 σ1 H1 R1 s1 q1 => ?_⟩
    exact h2.i F O M σ1 H1 ρ1 R1 _ _ (r2.same R.ml s1) _ q1 _ fun ρ2 σ2 H2 R2 s2 q2 => k ρ2 σ2 H2 R2 (s1.trans s2) q2
def wgTup (n : Nat) (wg : WGs) : WG := fun x ρ P => ∃ xs, x = .tuple xs ∧ xs.length = n ∧ wg xs ρ P
theorem g_tup {k : Nat} {g : TGs} {wg : WGs} {n : Nat} (hc : X.calm = true) (h : PGsd X es g wg)
    (hn : (assignEach es X.env).length = n := by rfl) (hst : (assignEach es X.env).findIdx? (·.1) = none := by rfl) : PGd X (.Tuple es k pos) (gTup X.K n g) (wgTup n wg) := by
  refine ⟨pg_tup hc h.p hn hst, fun F O M σ H ρ R x v r P hp Q kk => ?_⟩
  obtain ⟨xs, e, hl, hp⟩ := hp
  subst e
  cases r with
  | tup e1 h1 => exact ⟨_, _, rfl, e1, by rw [h1.length]; exact hl, h.i F O M σ H ρ R xs _ h1 P hp Q kk⟩

/-! ### assignments -/
def wAsg (we : WE) (wg : WG) : WS := fun E ρ => we ρ fun x ρ1 => wg x ρ1 E.nx
theorem imp_asg {g : TG} {wg : WG} (he : ImpE K te we) (hg : ImpG K g wg) : ImpS K (tAsg te g) (wAsg we wg) := by
  intro F O M σ H ρ R E hw D cn
  refine he F O M σ H ρ R _ hw _ fun x ρ1 v H1 R1 g1 r1 q => ?_
  exact hg F O M σ H1 ρ1 R1 x v r1 _ q _ fun ρ2 σ2 H2 R2 s2 q2 => cn.nx ρ2 O M σ2 H2 R2 (g1.trans (Gr.same s2) R.om) q2
theorem s_asg {tg : Expr} {g : TG} {wg : WG} (he : PEd X e te we) (hg : PGd X tg g wg) (hs : swapsWithSole [tg] e pos.line X.env = pure false := by rfl) (hw : swappedStores [tg] e X.env = pure none := by rfl)
    (h1 : (assignEach [tg] X.env).map (·.2) = [assign tg X.env] := by rfl) : PSd X (.Assign [tg] e pos) (tAsg te g) (wAsg we wg) := ⟨ps_asg he.p hg.p hs hw h1, imp_asg he.i hg.i⟩
theorem s_set {i : Nat} {x : Str} {pos' : Pos} (hN : X.N.Nodup) (he : PEd X e te we) (hi : X.N[i]? = some x := by rfl) (hx : Loc X.env.scope x := by first | exact Or.inl rfl | exact Or.inr rfl) (hs : swapsWith e (some (.Name x pos')) pos.line X.env = pure false := by rfl) (hf : X.fn x = true ∨ X.env.scope.names.lookup x = some .local := by first | exact .inl rfl | exact .inr rfl | assumption) :
    PSd X (.Assign [.Name x pos'] e pos) (tAsg te (gName i)) (wAsg we (wName i)) := ⟨ps_set hN hi hx he.p hs hf, imp_asg he.i (imp_name i)⟩
def wPar (i j : Nat) (wr : WA) : WS := fun E ρ => wr ρ fun xs ρ1 => ∃ x y, xs = [x, y] ∧ E.nx ((ρ1.set i (some (.d x))).set j (some (.d y)))
theorem s_par {i j : Nat} {x y : Str} {px py pt : Pos} {kt k2 pt2} (hN : X.N.Nodup) (ha : PAd X [a, b] tr wr) (hij : i ≠ j := by decide) (hc : X.calm = true := by rfl) (hi : X.N[i]? = some x := by rfl) (hj : X.N[j]? = some y := by rfl)
    (hx : X.env.scope.names.lookup x = some .local := by rfl) (hy : X.env.scope.names.lookup y = some .local := by rfl)
    (hw : swappedStores [.Tuple [.Name x px, .Name y py] kt pt] (.Tuple [a, b] k2 pt2) X.env = pure (some [x, y]) := by rfl)
    (hs : swapsWithSole [.Tuple [.Name x px, .Name y py] kt pt] (.Tuple [a, b] k2 pt2) pos.line X.env = pure false := by rfl) :
    PSd X (.Assign [.Tuple [.Name x px, .Name y py] kt pt] (.Tuple [a, b] k2 pt2) pos) (tPar i j tr) (wPar i j wr) := by
  refine ⟨ps_par hc hN hi hj hij hx hy ha.p hw hs, fun F O M σ H ρ R E hq D cn => ?_⟩
  refine ha.i F O M σ H ρ R _ hq _ fun xs ρ1 vs H1 R1 g1 r1 ⟨x, y, e, q⟩ => ?_
  subst e
  cases r1 with
  | cons r1 r2 =>
    cases r2 with
    | cons r2 r3 =>
      cases r3
      exact ⟨_, _, rfl, cn.nx _ O M _ H1 ((R1.put i r1).put j r2) g1 q⟩

/-! ### own lists -/
theorem set_key {ρ : DE} {k i : Nat} {y z : Option Sl} (e : (ρ.set k z)[i]? = some y) : (i = k ∧ y = z ∧ k < ρ.length) ∨ (i ≠ k ∧ ρ[i]? = some y) := by
  by_cases hk : i = k
  · subst hk
    have hl : i < ρ.length := by
      have := (List.getElem?_eq_some_iff.mp e).1
      rwa [List.length_set] at this
    rw [List.getElem?_set_self hl] at e
    exact .inl ⟨rfl, (Option.some.inj e).symm, hl⟩
  · rw [List.getElem?_set_ne (Ne.symm hk)] at e
    exact .inr ⟨hk, e⟩
theorem RepS.fresh0 {F : Frm} {O : OA} {M : MS} {H : Hp} {σ : L2.St} {ρ : DE} (r : RepS K F O M H σ ρ) {p : Addr} (h : H p = none) : F.H0 p = none := by
  cases e : F.H0 p with
  | none => rfl
  | some o =>
    have q := r.fr p o e fun i z => by
      have m := r.ml p (r.sub p (r.b0 i p z))
      rw [h] at m
      exact m
    rw [q] at h
    cases h
/-- a new list becomes one's own: slot k -/
theorem RepS.take {F : Frm} {O : OA} {M : MS} {H H' : Hp} {σ : L2.St} {ρ : DE} (r : RepS K F O M H' σ ρ) (k : Nat) {p : Addr} {vs : List V} {xs : List PyData} (h0 : F.H0 p = none) (hm : ¬ M p) (hp : H' p = some (.lst vs)) (ha : RpAll K (fun q => M q ∨ q = p) H' vs xs)
    (hd : ∀ (i : Nat) (x : PyData) (v : V), ρ[i]? = some (some (Sl.d x)) → σ[i]? = some (some v) → Rp K M H' v x → Rp K (fun q => M q ∨ q = p) H' v x)
    (ho : ∀ (i : Nat) (b : Bool) (ys : List PyData) (p' : Addr) (vs' : List V), ρ[i]? = some (some (Sl.o b ys)) → σ[i]? = some (some (V.ref p')) → RpAll K M H' vs' ys → H' p' = some (.lst vs') → RpAll K (fun q => M q ∨ q = p) H' vs' ys) :
    RepS K F (fun i => if i = k then some p else O i) (fun q => M q ∨ q = p) H' (σ.set k (some (.ref p))) (ρ.set k (some (.o true xs))) := by
  have hl := r.len
  have key : ∀ (i : Nat) (y z : Option Sl), (ρ.set k z)[i]? = some y → (i = k ∧ y = z ∧ k < ρ.length) ∨ (i ≠ k ∧ ρ[i]? = some y) := fun _ _ _ e => set_key e
  have st : ∀ (i : Nat), i ≠ k → (σ.set k (some (V.ref p)))[i]? = σ[i]? := fun i hi => List.getElem?_set_ne (Ne.symm hi)
  have nop : ∀ (i : Nat) b ys, ρ[i]? = some (some (.o b ys)) → σ[i]? ≠ some (some (.ref p)) := fun i b ys e z => by
    obtain ⟨p', vs', h1, h2, _⟩ := r.own i b ys e
    rw [h1] at z
    cases z
    exact hm h2
  refine ⟨by rw [List.length_set, List.length_set]; exact hl, fun a q => .inl (r.sub a q), r.m0, r.b0, fun a q => ?_, fun a q => ?_, r.fr, fun i y e => ?_, fun i b ys e => ?_, fun i p' e => ?_, fun i j b c' ys zs p' e1 e2 q1 q2 => ?_⟩
  · rcases q with q | q
    · exact r.ml a q
    · subst q
      rw [hp]
      trivial
  · rcases q with q | q
    · exact r.mn a q
    · subst q
      exact .inr h0
  · rcases key i _ _ e with ⟨_, z1, _⟩ | ⟨hi, e1⟩
    · cases z1
    · rw [st i hi]
      obtain ⟨v, h1, h2⟩ := r.dat i y e1
      exact ⟨v, h1, hd i y v e1 h1 h2⟩
  · rcases key i _ _ e with ⟨rfl, e1, hlt⟩ | ⟨hi, e1⟩
    · cases e1
      exact ⟨p, vs, List.getElem?_set_self (by omega), .inr rfl, hp, ha, by rw [if_pos rfl]; exact h0, by rw [if_pos rfl]⟩
    · rw [st i hi]
      obtain ⟨p', vs', h1, h2, h3, h4, h5, h6⟩ := r.own i b ys e1
      exact ⟨p', vs', h1, .inl h2, h3, ho i b ys p' vs' e1 h1 h4 h3, h5, by rw [if_neg hi]; exact h6⟩
  · by_cases hi : i = k
    · rw [if_pos hi] at e
      cases e
      exact .inr rfl
    · rw [if_neg hi] at e
      exact .inl (r.om i p' e)
  · rcases key i _ _ e1 with ⟨k1, z1, hk1⟩ | ⟨hi, y1⟩
    · rcases key j _ _ e2 with ⟨k2, _, _⟩ | ⟨hj, y2⟩
      · rw [k1, k2]
      · rw [k1, List.getElem?_set_self (by omega)] at q1
        cases q1
        rw [st j hj] at q2
        exact absurd q2 (nop j c' zs y2)
    · rcases key j _ _ e2 with ⟨k2, z2, hk2⟩ | ⟨hj, y2⟩
      · rw [k2, List.getElem?_set_self (by omega)] at q2
        cases q2
        rw [st i hi] at q1
        exact absurd q1 (nop i b ys y1)
      · rw [st i hi] at q1
        rw [st j hj] at q2
        exact r.inj i j b c' ys zs p' y1 y2 q1 q2
/-- .. where the list has just been laid -/
theorem RepS.takeNew {F : Frm} {O : OA} {M : MS} {H : Hp} {σ : L2.St} {ρ : DE} (r : RepS K F O M H σ ρ) (k : Nat) {p : Addr} {vs : List V} {xs : List PyData} (hp : H p = none) (ha : RpAll K M H vs xs) :
    RepS K F (fun i => if i = k then some p else O i) (fun q => M q ∨ q = p) (upd H p (.lst vs)) (σ.set k (some (.ref p))) (ρ.set k (some (.o true xs))) ∧ Gr O M H (fun i => if i = k then some p else O i) (fun q => M q ∨ q = p) (upd H p (.lst vs)) := by
  have s := same_new (o := .lst vs) hp
  have g : Gr O M H (fun i => if i = k then some p else O i) (fun q => M q ∨ q = p) (upd H p (.lst vs)) := ⟨fun a q => q.elim .inl fun z => .inr (z ▸ hp), fun i a e => by
    by_cases hi : i = k
    · rw [if_pos hi] at e
      cases e
      exact .inr hp
    · rw [if_neg hi] at e
      exact .inl ⟨i, e⟩, fun a o _ e => s a o e⟩
  have hm : ¬ M p := fun q => by
    have := r.ml p q
    rw [hp] at this
    exact this
  refine ⟨RepS.take (H := H) (r.same s) k (r.fresh0 hp) hm upd_same (RpAll.gr r.kp g xs vs ha) (fun i x v e1 e2 q => ?_) (fun i b ys p' vs' e1 e2 q1 q2 => ?_), g⟩
  · obtain ⟨v', h1, h2⟩ := r.dat i x e1
    rw [e2] at h1
    cases h1
    exact Rp.gr r.kp g x v h2
  · obtain ⟨p'', vs'', h1, h2, h3, h4, h5⟩ := r.own i b ys e1
    rw [e2] at h1
    cases h1
    have e3 := s _ _ h3
    rw [q2] at e3
    cases e3
    exact RpAll.gr r.kp g ys vs' h4
/-- one's own list has new items -/
theorem RepS.write {F : Frm} {O : OA} {M : MS} {H : Hp} {σ : L2.St} {ρ : DE} (r : RepS K F O M H σ ρ) (k : Nat) {p : Addr} {vs us : List V} {b : Bool} {xs ys : List PyData} (e : ρ[k]? = some (some (.o b xs))) (es : σ[k]? = some (some (.ref p))) (hp : H p = some (.lst vs)) (ha : RpAll K M H us ys) :
    RepS K F O M (upd H p (.lst us)) σ (ρ.set k (some (.o b ys))) ∧ Gr O M H O M (upd H p (.lst us)) := by
  obtain ⟨p0, vs0, h1, h2, h3, h4, h5, h6⟩ := r.own k b xs e
  rw [es] at h1
  cases h1
  rw [hp] at h3
  cases h3
  have g : Gr O M H O M (upd H p (.lst us)) := ⟨fun _ q => .inl q, fun i _ q => .inl ⟨i, q⟩, fun a o n q => by
    have z : a ≠ p := fun z => by
      subst z
      exact n k h6
    rw [upd_ne z]
    exact q⟩
  have hk : k < ρ.length := (List.getElem?_eq_some_iff.mp e).1
  have key : ∀ (i : Nat) (y z : Option Sl), (ρ.set k z)[i]? = some y → (i = k ∧ y = z) ∨ (i ≠ k ∧ ρ[i]? = some y) := fun _ _ _ e => (set_key e).imp (fun q => ⟨q.1, q.2.1⟩) id
  have key2 : ∀ (i : Nat) b' zs, (ρ.set k (some (.o b ys)))[i]? = some (some (.o b' zs)) → ∃ zs', ρ[i]? = some (some (.o b' zs')) := fun i b' zs q => by
    rcases key i _ _ q with ⟨rfl, q'⟩ | ⟨_, q'⟩
    · cases q'
      exact ⟨xs, e⟩
    · exact ⟨zs, q'⟩
  refine ⟨⟨by rw [List.length_set]; exact r.len, r.sub, r.m0, r.b0, fun a q => ?_, r.mn, fun a o q n => ?_, fun i y q => ?_, fun i b' zs q => ?_, r.om, fun i j b1 b2 zs1 zs2 p' q1 q2 w1 w2 => ?_⟩, g⟩
  · by_cases z : a = p
    · rw [z, upd_same]
      trivial
    · rw [upd_ne z]
      exact r.ml a q
  · by_cases z : a = p
    · subst z
      have q' := r.fr a o q n
      cases b with
      | true =>
        rw [if_pos rfl] at h5
        rw [h5] at q
        cases q
      | false =>
        rw [if_neg Bool.false_ne_true] at h5
        exact absurd h5 (n k)
    · rw [upd_ne z]
      exact r.fr a o q n
  · rcases key i _ _ q with ⟨_, q'⟩ | ⟨_, q'⟩
    · cases q'
    · obtain ⟨v, z1, z2⟩ := r.dat i y q'
      exact ⟨v, z1, Rp.gr r.kp g y v z2⟩
  · rcases key i _ _ q with ⟨rfl, q'⟩ | ⟨hi, q'⟩
    · cases q'
      exact ⟨p, us, es, h2, upd_same, RpAll.gr r.kp g ys us ha, h5, h6⟩
    · obtain ⟨p', vs', z1, z2, z3, z4, z5⟩ := r.own i b' zs q'
      have ne : p' ≠ p := fun z => by
        subst z
        exact hi (r.inj i k _ _ _ _ _ q' e z1 es)
      exact ⟨p', vs', z1, z2, by rw [upd_ne ne]; exact z3, RpAll.gr r.kp g zs vs' z4, z5⟩
  · obtain ⟨_, y1⟩ := key2 i b1 zs1 q1
    obtain ⟨_, y2⟩ := key2 j b2 zs2 q2
    exact r.inj i j b1 b2 _ _ p' y1 y2 w1 w2
/-- one's own list becomes a datum -/
theorem RepS.freeze {F : Frm} {O : OA} {M : MS} {H : Hp} {σ : L2.St} {ρ : DE} (r : RepS K F O M H σ ρ) (k : Nat) {xs : List PyData} (e : ρ[k]? = some (some (.o true xs))) :
    ∃ O' M', RepS K F O' M' H σ (ρ.set k (some (.d (.list xs)))) ∧ Gr O M H O' M' H := by
  obtain ⟨p, vs, h1, h2, h3, h4, h5, h6⟩ := r.own k true xs e
  rw [if_pos rfl] at h5
  have hk : k < ρ.length := (List.getElem?_eq_some_iff.mp e).1
  have key : ∀ (i : Nat) (y z : Option Sl), (ρ.set k z)[i]? = some y → (i = k ∧ y = z) ∨ (i ≠ k ∧ ρ[i]? = some y) := fun _ _ _ e => (set_key e).imp (fun q => ⟨q.1, q.2.1⟩) id
  have less : ∀ a, (M a ∧ a ≠ p) → M a := fun a q => q.1
  refine ⟨fun i => if O i = some p then none else O i, fun a => M a ∧ a ≠ p, ⟨by rw [List.length_set]; exact r.len, fun a q => ⟨r.sub a q, fun z => ?_⟩, r.m0, r.b0, fun a q => r.ml a q.1, fun a q => r.mn a q.1, r.fr, fun i y q => ?_, fun i b' zs q => ?_, fun i p' q => ?_, fun i j b1 b2 zs1 zs2 p' q1 q2 w1 w2 => ?_⟩, ⟨fun a q => .inl q.1, fun i a q => ?_, fun _ _ _ q => q⟩⟩
  · subst z
    exact r.m0 a q h5
  · rcases key i _ _ q with ⟨rfl, q'⟩ | ⟨_, q'⟩
    · cases q'
      exact ⟨_, h1, .lst (fun z => z.2 rfl) h3 (RpAll.less less xs vs h4)⟩
    · obtain ⟨v, z1, z2⟩ := r.dat i y q'
      exact ⟨v, z1, Rp.less less y v z2⟩
  · rcases key i _ _ q with ⟨rfl, q'⟩ | ⟨hi, q'⟩
    · cases q'
    · obtain ⟨p', vs', z1, z2, z3, z4, z5, z6⟩ := r.own i b' zs q'
      have ne : p' ≠ p := fun z => by
        subst z
        exact hi (r.inj i k _ _ _ _ _ q' e z1 h1)
      refine ⟨p', vs', z1, ⟨z2, ne⟩, z3, RpAll.less less zs vs' z4, z5, ?_⟩
      rw [z6, if_neg (fun z => ne (Option.some.inj z))]
  · by_cases z : O i = some p
    · rw [if_pos z] at q
      cases q
    · rw [if_neg z] at q
      exact ⟨r.om i p' q, fun z2 => z (z2 ▸ q)⟩
  · rcases key i _ _ q1 with ⟨_, y1⟩ | ⟨hi, y1⟩
    · cases y1
    · rcases key j _ _ q2 with ⟨_, y2⟩ | ⟨hj, y2⟩
      · cases y2
      · exact r.inj i j b1 b2 _ _ p' y1 y2 w1 w2
  · by_cases z : O i = some p
    · rw [if_pos z] at q
      cases q
    · rw [if_neg z] at q
      exact .inl ⟨i, q⟩
def wFreeze (k : Nat) (w : WS) : WS := fun E ρ => ∃ xs, ρ[k]? = some (some (.o true xs)) ∧ w E (ρ.set k (some (.d (.list xs))))
theorem imp_freeze (k : Nat) (h : ImpS K t w) : ImpS K t (wFreeze k w) := by
  intro F O M σ H ρ R E ⟨xs, e, hw⟩ D cn
  obtain ⟨O', M', R', g⟩ := R.freeze k e
  exact h F O' M' σ H _ R' E hw D (cn.gr g R'.om)
theorem b_freeze {sts : List Stmt} (k : Nat) (h : PBd X sts t w) : PBd X sts t (wFreeze k w) := ⟨h.p, imp_freeze k h.i⟩
theorem s_freeze (k : Nat) (h : PSd X st t w) : PSd X st t (wFreeze k w) := ⟨h.p, imp_freeze k h.i⟩
/-- x = [..], one's own from here on -/
def wOwn (wr : WA) (k : Nat) : WS := fun E ρ => wr ρ fun xs ρ1 => xs.length ≤ sizeLine ∧ E.nx (ρ1.set k (some (.o true xs)))
theorem s_own {k : Nat} {x : Str} {pos' lp : Pos} (hN : X.N.Nodup) (h : PAd X es tr wr) (hi : X.N[k]? = some x := by rfl) (hx : Loc X.env.scope x := by first | exact Or.inl rfl | exact Or.inr rfl) (hs : swapsWith (.List es lp) (some (.Name x pos')) pos.line X.env = pure false := by rfl) (hf : X.fn x = true ∨ X.env.scope.names.lookup x = some .local := by first | exact .inl rfl | exact .inr rfl | assumption) :
    PSd X (.Assign [.Name x pos'] (.List es lp) pos) (tAsg (tLst tr) (gName k)) (wOwn wr k) := by
  refine ⟨ps_set hN hi hx (pe_lst h.p) hs hf, fun F O M σ H ρ R E hw D cn => ?_⟩
  refine h.i F O M σ H ρ R _ hw _ fun xs ρ1 vs H1 R1 g1 r1 ⟨hl, q⟩ => ⟨by rw [r1.length]; exact hl, fun p hp => ?_⟩
  obtain ⟨R2, g2⟩ := R1.takeNew k hp r1
  exact cn.nx _ _ _ _ _ R2 (g1.trans g2 R.om) q
/-- xs.append(e) -/
def wApp (k : Nat) (we : WE) : WS := fun E ρ => (∃ b xs, ρ[k]? = some (some (.o b xs))) ∧ we ρ fun x ρ1 => ∃ b xs, ρ1[k]? = some (some (.o b xs)) ∧ xs.length < sizeLine ∧ E.nx (ρ1.set k (some (.o b (xs ++ [x]))))
theorem s_app (k : Nat) {x : Str} {p ap cp : Pos} (he : PEd X e te we) (hN : X.N[k]? = some x := by rfl) (hv : Vis X.env.scope x := by first | exact Or.inl rfl | exact Or.inr (Or.inl rfl) | exact Or.inr (Or.inr rfl)) (hd : (x == ("__debug__" : Str)) = false := by decide) (hcd : (x == ("__classdict__" : Str)) = false := by decide)
    (hbase : attributeBase (.Name x p) "append" X.env (eval (.Name x p) X.env) = eval (.Name x p) X.env := by rfl)
    (hfew : ((backTo cp (starEach [e] X.env)).all (fun x => !x.1) && (backToKw cp (keywordEach [] X.env)).all (fun x => x.1.isSome)
      && decide ([e].length + ([] : List Keyword).length + (if ([] : List Keyword).isEmpty then 0 else 1) < 30)) = true := by rfl)
    (hline : (ap.endLine == cp.line) = true := by rfl) (hs : starEach [e] X.env = (false, eval e X.env) :: starEach [] X.env := by rfl) (hsw : swapsWith (.Call (.Attribute (.Name x p) "append" ap) [e] [] cp) none pos.line X.env = pure false := by rfl) :
    PSd X (.Expr (.Call (.Attribute (.Name x p) "append" ap) [e] [] cp) pos) (tDrop (tBM X.K "list" rAppend (tVar k) (tCons te tNil))) (wApp k we) := by
  refine ⟨ps_expr (pe_bm PySem.F.plainAttrs_list PySem.F.slot_list_append PySem.F.type_list_append mt_append (pe_var hN hv hd hcd) (pa_cons he.p pa_nil hs) hbase hfew hline hs) hsw, fun F O M σ H ρ R E hw D cn => ?_⟩
  obtain ⟨⟨b0, xs0, e0⟩, hw⟩ := hw
  obtain ⟨p0, vs0, h1, h2, h3, h4, h5⟩ := R.own k b0 xs0 e0
  refine ⟨.ref p0, h1, .inl ⟨rfl, vs0, SqL.of h3⟩, ?_⟩
  refine he.i F O M σ H ρ R _ hw _ fun y ρ1 v H1 R1 g1 r1 ⟨b1, xs1, e1, hl, q⟩ => ?_
  obtain ⟨p1, vs1, z1, z2, z3, z4, z5⟩ := R1.own k b1 xs1 e1
  rw [h1] at z1
  cases z1
  refine ⟨p0, vs1, v, rfl, rfl, z3, by rw [z4.length]; exact hl, ?_⟩
  obtain ⟨R2, g2⟩ := R1.write k e1 h1 z3 (z4.append (.cons r1 .nil))
  exact cn.nx _ O M σ _ R2 (g1.trans g2 R.om) q
/-- xs.extend(a list) -/
def wExt (k : Nat) (we : WE) : WS := fun E ρ => (∃ b xs, ρ[k]? = some (some (.o b xs))) ∧ we ρ fun x ρ1 => ∃ b xs ys, x = .list ys ∧ ρ1[k]? = some (some (.o b xs)) ∧ xs.length + ys.length ≤ sizeLine ∧ E.nx (ρ1.set k (some (.o b (xs ++ ys))))
theorem s_ext (k : Nat) {x : Str} {p ap cp : Pos} (he : PEd X e te we) (hN : X.N[k]? = some x := by rfl) (hv : Vis X.env.scope x := by first | exact Or.inl rfl | exact Or.inr (Or.inl rfl) | exact Or.inr (Or.inr rfl)) (hd : (x == ("__debug__" : Str)) = false := by decide) (hcd : (x == ("__classdict__" : Str)) = false := by decide)
    (hbase : attributeBase (.Name x p) "extend" X.env (eval (.Name x p) X.env) = eval (.Name x p) X.env := by rfl)
    (hfew : ((backTo cp (starEach [e] X.env)).all (fun x => !x.1) && (backToKw cp (keywordEach [] X.env)).all (fun x => x.1.isSome)
      && decide ([e].length + ([] : List Keyword).length + (if ([] : List Keyword).isEmpty then 0 else 1) < 30)) = true := by rfl)
    (hline : (ap.endLine == cp.line) = true := by rfl) (hs : starEach [e] X.env = (false, eval e X.env) :: starEach [] X.env := by rfl) (hsw : swapsWith (.Call (.Attribute (.Name x p) "extend" ap) [e] [] cp) none pos.line X.env = pure false := by rfl) :
    PSd X (.Expr (.Call (.Attribute (.Name x p) "extend" ap) [e] [] cp) pos) (tDrop (tBM X.K "list" rExtend (tVar k) (tCons te tNil))) (wExt k we) := by
  refine ⟨ps_expr (pe_bm PySem.F.plainAttrs_list PySem.F.slot_list_extend PySem.F.type_list_extend mt_extend (pe_var hN hv hd hcd) (pa_cons he.p pa_nil hs) hbase hfew hline hs) hsw, fun F O M σ H ρ R E hw D cn => ?_⟩
  obtain ⟨⟨b0, xs0, e0⟩, hw⟩ := hw
  obtain ⟨p0, vs0, h1, h2, h3, h4, h5⟩ := R.own k b0 xs0 e0
  refine ⟨.ref p0, h1, .inl ⟨rfl, vs0, SqL.of h3⟩, ?_⟩
  refine he.i F O M σ H ρ R _ hw _ fun y ρ1 v H1 R1 g1 r1 ⟨b1, xs1, ys, ey, e1, hl, q⟩ => ?_
  subst ey
  obtain ⟨p1, vs1, z1, z2, z3, z4, z5⟩ := R1.own k b1 xs1 e1
  rw [h1] at z1
  cases z1
  cases r1 with
  | lst n1 l1 a1 =>
    refine ⟨p0, _, vs1, _, rfl, rfl, z3, l1, by rw [z4.length, a1.length]; exact hl, ?_⟩
    obtain ⟨R2, g2⟩ := R1.write k e1 h1 z3 (z4.append a1)
    exact cn.nx _ O M σ _ R2 (g1.trans g2 R.om) q
/-- xs.reverse() -/
def wRev (k : Nat) : WS := fun E ρ => ∃ b xs, ρ[k]? = some (some (.o b xs)) ∧ E.nx (ρ.set k (some (.o b xs.reverse)))
theorem s_rev (k : Nat) {x : Str} {p ap cp : Pos} (hN : X.N[k]? = some x := by rfl) (hv : Vis X.env.scope x := by first | exact Or.inl rfl | exact Or.inr (Or.inl rfl) | exact Or.inr (Or.inr rfl)) (hd : (x == ("__debug__" : Str)) = false := by decide) (hcd : (x == ("__classdict__" : Str)) = false := by decide)
    (hbase : attributeBase (.Name x p) "reverse" X.env (eval (.Name x p) X.env) = eval (.Name x p) X.env := by rfl) (hline : (ap.endLine == cp.line) = true := by rfl) (hsw : swapsWith (.Call (.Attribute (.Name x p) "reverse" ap) [] [] cp) none pos.line X.env = pure false := by rfl) :
    PSd X (.Expr (.Call (.Attribute (.Name x p) "reverse" ap) [] [] cp) pos) (tDrop (tBM0 X.K "list" rReverse (tVar k))) (wRev k) := by
  refine ⟨ps_expr (pe_bm0 PySem.F.plainAttrs_list PySem.F.slot_list_reverse PySem.F.type_list_reverse mt_reverse (pe_var hN hv hd hcd) hbase hline) hsw, fun F O M σ H ρ R E hw D cn => ?_⟩
  obtain ⟨b0, xs0, e0, q⟩ := hw
  obtain ⟨p0, vs0, h1, h2, h3, h4, h5⟩ := R.own k b0 xs0 e0
  refine ⟨.ref p0, h1, .inl ⟨rfl, vs0, SqL.of h3⟩, p0, vs0, rfl, rfl, h3, ?_⟩
  obtain ⟨R2, g2⟩ := R.write k e0 h1 h3 h4.reverse
  exact cn.nx _ O M σ _ R2 g2 q
/-- xs[i] = e -/
def wPutI (k : Nat) (i : Int) (we : WE) : WS := fun E ρ => we ρ fun x ρ1 => ∃ b xs j, ρ1[k]? = some (some (.o b xs)) ∧ ixN xs.length i = some j ∧ E.nx (ρ1.set k (some (.o b (xs.set j x))))
theorem s_putI (k : Nat) {i : Int} {x : Str} {p sp ip : Pos} {ij : Nat} (he : PEd X e te we) (hN : X.N[k]? = some x := by rfl) (hv : Vis X.env.scope x := by first | exact Or.inl rfl | exact Or.inr (Or.inl rfl) | exact Or.inr (Or.inr rfl)) (hd : (x == ("__debug__" : Str)) = false := by decide) (hcd : (x == ("__classdict__" : Str)) = false := by decide)
    (hs : swapsWithSole [.Subscript (.Name x p) (.Constant (.int i) ij ip) sp] e pos.line X.env = pure false := by rfl) (hw : swappedStores [.Subscript (.Name x p) (.Constant (.int i) ij ip) sp] e X.env = pure none := by rfl) :
    PSd X (.Assign [.Subscript (.Name x p) (.Constant (.int i) ij ip) sp] e pos) (tAsg te (gSub (tVar k) (tC (.int i)) rSetL)) (wPutI k i we) := by
  refine ⟨ps_asg he.p (pg_sub (pe_var hN hv hd hcd) pe_int set_list) hs hw, fun F O M σ H ρ R E hq D cn => ?_⟩
  refine he.i F O M σ H ρ R _ hq _ fun y ρ1 v H1 R1 g1 r1 ⟨b1, xs1, j, e1, hj, q⟩ => ?_
  obtain ⟨p1, vs1, z1, z2, z3, z4, z5⟩ := R1.own k b1 xs1 e1
  refine ⟨.ref p1, z1, p1, vs1, i, j, rfl, rfl, z3, by rw [z4.length]; exact hj, ?_⟩
  obtain ⟨R2, g2⟩ := R1.write k e1 z1 z3 (RpAll.set r1 j z4)
  exact cn.nx _ O M σ _ R2 (g1.trans g2 R.om) q
/-- xs[i] of one's own list -/
def wIxO (k : Nat) (wb : WE) : WE := fun ρ P => wb ρ fun y ρ1 => ∃ b xs i x, ρ1[k]? = some (some (.o b xs)) ∧ y = .int i ∧ atI xs i = some x ∧ P x ρ1
def wIxK (k : Nat) (wb : WE) : WE := fun ρ P => (∃ bb xs, ρ[k]? = some (some (.o bb xs))) ∧ wIxO k wb ρ P
theorem d_ixO (k : Nat) {x : Str} {p : Pos} (hb : PEd X b tb wb) (hN : X.N[k]? = some x := by rfl) (hv : Vis X.env.scope x := by first | exact Or.inl rfl | exact Or.inr (Or.inl rfl) | exact Or.inr (Or.inr rfl)) (hd : (x == ("__debug__" : Str)) = false := by decide) (hcd : (x == ("__classdict__" : Str)) = false := by decide) (hs : PlainIx b := by exact fun _ _ => rfl) :
    PEd X (.Subscript (.Name x p) b pos) (tOp (rIxL X.K) (tVar k) tb) (wIxK k wb) := by
  refine ⟨pe_ix ix_list (pe_var hN hv hd hcd) hb.p hs, fun F O M σ H ρ R P hw Q kk => ?_⟩
  obtain ⟨⟨b0, xs0, e0⟩, hw⟩ := hw
  obtain ⟨p0, vs0, h1, h2, h3, h4, h5⟩ := R.own k b0 xs0 e0
  refine ⟨.ref p0, h1, ?_⟩
  refine hb.i F O M σ H ρ R _ hw _ fun y ρ1 v H1 R1 g1 r1 ⟨b1, xs1, i, z, e1, ey, ea, q⟩ => ?_
  subst ey
  cases r1
  obtain ⟨p1, vs1, z1, z2, z3, z4, z5⟩ := R1.own k b1 xs1 e1
  rw [h1] at z1
  cases z1
  obtain ⟨v', q1, q2⟩ := atI_rp z4 ea
  exact ⟨p0, vs1, i, v', rfl, rfl, SqL.of z3, q1, kk z ρ1 v' H1 R1 g1 q2 q⟩
end
end Dat
namespace Dat
open PySem PySem.Spec PyProof.Rows L2

/-! ### what is walked -/
structure ItOk (K : PySem.W.Frag) (M : MS) (H : Hp) (J : It) (xs : List PyData) : Prop where
  go : ∀ O O' M' H', (∀ i p, O i = some p → M p) → Gr O M H O' M' H' → (∀ a, M' a → Mut (H' a)) → ∀ (i : Nat) x, xs[i]? = some x → J.go i H' ∧ ∀ v H'', J.yld i H' v H'' → Same H' H'' ∧ Rp K M' H'' v x
  stop : ∀ O O' M' H', (∀ i p, O i = some p → M p) → Gr O M H O' M' H' → (∀ a, M' a → Mut (H' a)) → J.stop xs.length H'
abbrev WI := DE → (List PyData → DE → Prop) → Prop
def ImpI (K : PySem.W.Frag) (wi : TI) (w : WI) : Prop := ∀ (F : Frm) (O : OA) (M : MS) (σ : L2.St) (H : Hp) (ρ : DE), RepS K F O M H σ ρ → ∀ P, w ρ P → ∀ R : It → Hp → Prop,
  (∀ xs ρ' J H', RepS K F O M H' σ ρ' → Gr O M H O M H' → ItOk K M H' J xs → P xs ρ' → R J H') → wi σ H R
structure PId (X : Cx) (tg iter : Expr) (wi : TI) (w : WI) : Prop where
  p : PI X tg iter wi
  i : ImpI X.K wi w
section
variable {K : PySem.W.Frag} {X : Cx} {tg a b c e : Expr} {es : List Expr} {ta tb tc te : TE} {wa wb wc we : WE} {pos : Pos} {tt : TT} {wt : WT} {tr : TA} {wr : WA}
variable {st : Stmt} {rest : List Stmt} {t u : TS} {w w2 : WS}
def wiList (we : WE) : WI := fun ρ P => we ρ fun x ρ1 => ∃ xs, x = .list xs ∧ P xs ρ1
def wiTup (we : WE) : WI := fun ρ P => we ρ fun x ρ1 => ∃ xs, x = .tuple xs ∧ P xs ρ1
theorem i_list (h : PEd X e te we) : PId X tg e (iList X.K te) (wiList we) := by
  refine ⟨pi_list h.p, fun F O M σ H ρ R P hw Rr k => ?_⟩
  refine h.i F O M σ H ρ R _ hw _ fun x ρ1 v H1 R1 g1 r1 ⟨xs, e, q⟩ => ?_
  subst e
  cases r1 with
  | @lst p vs _ n1 l1 a1 =>
    refine ⟨p, rfl, ⟨_, SqL.of l1⟩, k xs ρ1 _ H1 R1 g1 ⟨fun O2 O' M' H' om g ml' i x ex => ?_, fun O2 O' M' H' om g ml' => ?_⟩ q⟩
    · have l2 := g.at ⟨R1.ml, om⟩ n1 l1
      obtain ⟨v, q1, q2⟩ := a1.get ex
      refine ⟨⟨vs, v, SqL.of l2, q1⟩, fun v' H'' y => ?_⟩
      obtain ⟨y1, y2⟩ := y
      subst y1
      have y3 := y2 vs (SqL.of l2)
      rw [q1] at y3
      cases y3
      exact ⟨Same.refl _, Rp.gr ⟨R1.ml, om⟩ g x v q2⟩
    · exact ⟨vs, SqL.of (g.at ⟨R1.ml, om⟩ n1 l1), by rw [a1.length]; exact Nat.le_refl _⟩
theorem i_tup (h : PEd X e te we) : PId X tg e (iTup X.K te) (wiTup we) := by
  refine ⟨pi_tup h.p, fun F O M σ H ρ R P hw Rr k => ?_⟩
  refine h.i F O M σ H ρ R _ hw _ fun x ρ1 v H1 R1 g1 r1 ⟨xs, e, q⟩ => ?_
  subst e
  cases r1 with
  | @tup p vs _ l1 a1 =>
    refine ⟨p, rfl, ⟨_, l1⟩, k xs ρ1 _ H1 R1 g1 ⟨fun O2 O' M' H' om g ml' i x ex => ?_, fun O2 O' M' H' om g ml' => ?_⟩ q⟩
    · have l2 := SqT.gr ⟨R1.ml, om⟩ g l1
      obtain ⟨v, q1, q2⟩ := a1.get ex
      refine ⟨⟨vs, v, l2, q1⟩, fun v' H'' y => ?_⟩
      obtain ⟨y1, y2⟩ := y
      subst y1
      have y3 := y2 vs l2
      rw [q1] at y3
      cases y3
      exact ⟨Same.refl _, Rp.gr ⟨R1.ml, om⟩ g x v q2⟩
    · exact ⟨vs, SqT.gr ⟨R1.ml, om⟩ g l1, by rw [a1.length]; exact Nat.le_refl _⟩
def rangeD (lo : Int) (n : Nat) : List PyData := (List.range n).map fun i => .int (lo + (i : Nat))
theorem rangeD_len (lo : Int) (n : Nat) : (rangeD lo n).length = n := by unfold rangeD; rw [List.length_map, List.length_range]
theorem rangeD_get {lo : Int} {n i : Nat} {x : PyData} (h : (rangeD lo n)[i]? = some x) : i < n ∧ x = .int (lo + (i : Nat)) := by
  have hl := (List.getElem?_eq_some_iff.mp h).1
  rw [rangeD_len] at hl
  unfold rangeD at h
  rw [List.getElem?_map, List.getElem?_range hl] at h
  exact ⟨hl, (Option.some.inj h).symm⟩
theorem itok_range {M : MS} {H : Hp} (lo : Int) (n : Nat) : ItOk K M H (Itr lo n) (rangeD lo n) := by
  refine ⟨fun O2 O' M' H' om g ml' i x ex => ?_, fun O2 O' M' H' om g ml' => by rw [rangeD_len]; exact Nat.le_refl n⟩
  obtain ⟨h1, h2⟩ := rangeD_get ex
  refine ⟨h1, fun v H'' y => ?_⟩
  obtain ⟨y1, y2⟩ := y
  subst y1
  subst y2
  subst h2
  exact ⟨Same.refl _, .int _⟩
def wiRng1 (wr : WA) : WI := fun ρ P => wr ρ fun xs ρ1 => ∃ j : Int, xs = [.int j] ∧ j < 2 ^ 62 ∧ -(2 ^ 62) ≤ j ∧ P (rangeD 0 j.toNat) ρ1
def wiRng2 (wr : WA) : WI := fun ρ P => wr ρ fun xs ρ1 => ∃ i j : Int, xs = [.int i, .int j] ∧ (-(2 ^ 62) ≤ i ∧ i < 2 ^ 62 ∧ -(2 ^ 62) ≤ j ∧ j < 2 ^ 62) ∧ P (rangeD i (j - i).toNat) ρ1
theorem i_rng1 {p : Pos} (hm : X.mg "range" = none) (ha : PAd X [a] tr wr) (hg : Gl X "range" := by rfl) (hs : starEach [a] X.env = [(false, eval a X.env)] := by rfl) : PId X tg (.Call (.Name "range" p) [a] [] pos) (iRng1 tr) (wiRng1 wr) := by
  refine ⟨pi_range1 hg hm ha.p hs, fun F O M σ H ρ R P hw Rr k => ?_⟩
  refine ha.i F O M σ H ρ R _ hw _ fun xs ρ1 vs H1 R1 g1 r1 ⟨j, e, h1, h2, q⟩ => ?_
  subst e
  cases r1 with
  | cons r1 r2 =>
    cases r2
    cases r1
    exact ⟨j, rfl, h2, h1, k _ ρ1 _ H1 R1 g1 (itok_range 0 j.toNat) q⟩
theorem i_rng2 {p : Pos} (hm : X.mg "range" = none) (ha : PAd X [a, b] tr wr) (hg : Gl X "range" := by rfl) (hs : starEach [a, b] X.env = [(false, eval a X.env), (false, eval b X.env)] := by rfl) (hs2 : starEach [b] X.env = [(false, eval b X.env)] := by rfl) :
    PId X tg (.Call (.Name "range" p) [a, b] [] pos) (iRng2 tr) (wiRng2 wr) := by
  refine ⟨pi_range2 hg hm ha.p hs hs2, fun F O M σ H ρ R P hw Rr k => ?_⟩
  refine ha.i F O M σ H ρ R _ hw _ fun xs ρ1 vs H1 R1 g1 r1 ⟨i, j, e, h1, q⟩ => ?_
  subst e
  cases r1 with
  | cons r1 r2 =>
    cases r2 with
    | cons r2 r3 =>
      cases r3
      cases r1
      cases r2
      exact ⟨i, j, rfl, h1, k _ ρ1 _ H1 R1 g1 (itok_range i (j - i).toNat) q⟩

/-! ### for -/
def forRec (wg : WG) (wb : WS) (E : DEnds) : List PyData → DE → Prop
  | [], ρ => E.nx ρ
  | x :: xs, ρ => wg x ρ fun ρ1 => wb { E with nx := forRec wg wb E xs, ct := forRec wg wb E xs, bk := E.nx } ρ1
def wFor (wi : WI) (wg : WG) (wb : WS) : WS := fun E ρ => wi ρ fun xs ρ1 => forRec wg wb E xs ρ1
theorem imp_for {wi : TI} {wj : WI} {g : TG} {wg : WG} {tb : TS} {wb : WS} (hi : ImpI K wi wj) (hg : ImpG K g wg) (hb : ImpS K tb wb) : ImpS K (tFor wi g tb) (wFor wj wg wb) := by
  intro F O M σ H ρ R E hw D cn
  refine hi F O M σ H ρ R _ hw _ fun xs ρ1 J H1 R1 g1 ok q => ?_
  refine ⟨fun i m σ' H' => i ≤ xs.length ∧ m = xs.length - i ∧ ∃ O' M' ρ', RepS K F O' M' H' σ' ρ' ∧ Gr O M H1 O' M' H' ∧ forRec wg wb E (xs.drop i) ρ', ⟨xs.length, Nat.zero_le _, rfl, O, M, ρ1, R1, Gr.refl O M H1, q⟩, ?_⟩
  rintro i m σ' H' ⟨hi1, rfl, O', M', ρ', R', g', q'⟩
  by_cases hlt : i < xs.length
  · right
    have hx : xs[i]? = some xs[i] := List.getElem?_eq_getElem hlt
    obtain ⟨go, yl⟩ := ok.go O O' M' H' R1.om g' R'.ml i _ hx
    rw [List.drop_eq_getElem_cons hlt] at q'
    refine ⟨go, fun σ2 H2 => ∃ O2 M2 ρ2, RepS K F O2 M2 H2 σ2 ρ2 ∧ Gr O M H1 O2 M2 H2 ∧ forRec wg wb E (xs.drop (i + 1)) ρ2, fun σ2 H2 ⟨O2, M2, ρ2, z1, z2, z3⟩ => ⟨xs.length - (i + 1), by omega, hlt, rfl, O2, M2, ρ2, z1, z2, z3⟩, fun v H'' y => ?_⟩
    obtain ⟨s2, r2⟩ := yl v H'' y
    refine hg F O' M' σ' H'' ρ' (R'.same s2) _ v r2 _ q' _ fun ρ3 σ3 H3 R3 s3 q3 => ?_
    have g3 : Gr O M H1 O' M' H3 := g'.trans (Gr.same (s2.trans s3)) R1.om
    refine hb F O' M' σ3 H3 ρ3 R3 _ q3 _ ⟨R3.om, fun ρ4 O4 M4 σ4 H4 R4 g4 q4 => ⟨O4, M4, ρ4, R4, g3.trans g4 R1.om, q4⟩, fun x ρ4 v4 O4 M4 σ4 H4 R4 g4 => cn.rt x ρ4 v4 O4 M4 σ4 H4 R4 (g1.trans (g3.trans g4 R1.om) R.om), fun ρ4 O4 M4 σ4 H4 R4 g4 => cn.nx ρ4 O4 M4 σ4 H4 R4 (g1.trans (g3.trans g4 R1.om) R.om), fun ρ4 O4 M4 σ4 H4 R4 g4 q4 => ⟨O4, M4, ρ4, R4, g3.trans g4 R1.om, q4⟩, fun ys ρ4 p4 vs4 O4 M4 σ4 H4 R4 g4 => cn.rl ys ρ4 p4 vs4 O4 M4 σ4 H4 R4 (g1.trans (g3.trans g4 R1.om) R.om)⟩
  · left
    have e : i = xs.length := by omega
    subst e
    rw [List.drop_length] at q'
    exact ⟨ok.stop O O' M' H' R1.om g' R'.ml, cn.nx ρ' O' M' σ' H' R' (g1.trans g' R.om) q'⟩
theorem s_for {iter : Expr} {body : List Stmt} {wi : TI} {wj : WI} {g : TG} {wg : WG} {tb : TS} {wb : WS} (hp : PassesOwn (model X.prog X.w) X.A X.env X.xe) (hi : PId X tg iter wi wj) (hg : PGd X tg g wg) (hb : PBd X body tb wb) (hc : X.calm = true := by rfl)
    (hs : ∀ x, foldedSetIterable iter X.env x = pure x := by intro _; rfl) : PSd X (.For tg iter body [] pos) (tFor wi g tb) (wFor wj wg wb) := ⟨ps_for hp hc hi.p hg.p hb.p hs, imp_for hi.i hg.i hb.i⟩

/-! ### while -/
def wWhile (wt : WT) (wb : WS) : WS := fun E ρ => ∃ I : Nat → DE → Prop, (∃ m, I m ρ) ∧ ∀ m ρ, I m ρ → wt ρ fun b ρ1 =>
  if b = true then wb { E with nx := fun ρ' => ∃ m', m' < m ∧ I m' ρ', ct := fun ρ' => ∃ m', m' < m ∧ I m' ρ', bk := E.nx } ρ1 else E.nx ρ1
theorem imp_while {tb : TS} {wb : WS} (hc : ImpT K tt wt) (hb : ImpS K tb wb) : ImpS K (tWhile tt tb) (wWhile wt wb) := by
  intro F O M σ H ρ R E hw D cn
  obtain ⟨I, ⟨m0, i0⟩, hI⟩ := hw
  refine ⟨fun m σ' H' => ∃ O' M' ρ', RepS K F O' M' H' σ' ρ' ∧ Gr O M H O' M' H' ∧ I m ρ', ⟨m0, O, M, ρ, R, Gr.refl O M H, i0⟩, ?_⟩
  rintro m σ' H' ⟨O', M', ρ', R', g', i'⟩
  refine hc F O' M' σ' H' ρ' R' _ (hI m ρ' i') _ fun b ρ1 H1 R1 g1 q => ?_
  cases b with
  | true =>
    rw [if_pos rfl] at q ⊢
    refine ⟨fun σ2 H2 => ∃ m', m' < m ∧ ∃ O2 M2 ρ2, RepS K F O2 M2 H2 σ2 ρ2 ∧ Gr O M H O2 M2 H2 ∧ I m' ρ2, fun σ2 H2 z => z, ?_⟩
    have g2 := g'.trans g1 R.om
    exact hb F O' M' σ' H1 ρ1 R1 _ q _ ⟨R1.om, fun ρ4 O4 M4 σ4 H4 R4 g4 ⟨m', h1, h2⟩ => ⟨m', h1, O4, M4, ρ4, R4, g2.trans g4 R.om, h2⟩, fun x ρ4 v4 O4 M4 σ4 H4 R4 g4 => cn.rt x ρ4 v4 O4 M4 σ4 H4 R4 (g2.trans g4 R.om), fun ρ4 O4 M4 σ4 H4 R4 g4 => cn.nx ρ4 O4 M4 σ4 H4 R4 (g2.trans g4 R.om), fun ρ4 O4 M4 σ4 H4 R4 g4 ⟨m', h1, h2⟩ => ⟨m', h1, O4, M4, ρ4, R4, g2.trans g4 R.om, h2⟩, fun ys ρ4 p4 vs4 O4 M4 σ4 H4 R4 g4 => cn.rl ys ρ4 p4 vs4 O4 M4 σ4 H4 R4 (g2.trans g4 R.om)⟩
  | false =>
    rw [if_neg Bool.false_ne_true] at q ⊢
    exact cn.nx ρ1 O' M' σ' H1 R1 (g'.trans g1 R.om) q
theorem s_while {c : Expr} {body : List Stmt} {tb : TS} {wb : WS} (hp : PassesOwn (model X.prog X.w) X.A X.env X.xe) (hc : PTd X c tt wt) (hb : PBd X body tb wb) : PSd X (.While c body [] pos) (tWhile tt tb) (wWhile wt wb) := ⟨ps_while hp hc.p hb.p, imp_while hc.i hb.i⟩

/-! ### list comprehensions -/
def wipeD (ρ : DE) : List Nat → DE
  | [] => ρ
  | v :: vs => (wipeD ρ vs).set v none
theorem wipeD_some {ρ : DE} {i : Nat} {x : Sl} : ∀ {vs : List Nat}, (wipeD ρ vs)[i]? = some (some x) → ρ[i]? = some (some x) ∧ i ∉ vs
  | [], h => ⟨h, by simp⟩
  | v :: vs, h => by
    rcases set_key (show ((wipeD ρ vs).set v none)[i]? = some (some x) from h) with ⟨_, z, _⟩ | ⟨hi, h'⟩
    · cases z
    · obtain ⟨h1, h2⟩ := wipeD_some h'
      exact ⟨h1, by simp only [List.mem_cons, not_or]; exact ⟨hi, h2⟩⟩
theorem wipeD_len (ρ : DE) : ∀ vs : List Nat, (wipeD ρ vs).length = ρ.length
  | [] => rfl
  | v :: vs => by unfold wipeD; rw [List.length_set, wipeD_len ρ vs]
theorem RepS.wipe {F : Frm} {O : OA} {M : MS} {H : Hp} {σ : L2.St} {ρ : DE} (r : RepS K F O M H σ ρ) (vs : List Nat) : RepS K F O M H σ (wipeD ρ vs) := by
  induction vs with
  | nil => exact r
  | cons v vs ih => exact ih.forget v
/-- other slots where nothing is known -/
theorem RepS.swap {F : Frm} {O : OA} {M : MS} {H : Hp} {σ σ' : L2.St} {ρ : DE} (r : RepS K F O M H σ ρ) (hl : σ'.length = σ.length) (h : ∀ (i : Nat) (y : Sl), ρ[i]? = some (some y) → σ'[i]? = σ[i]?) : RepS K F O M H σ' ρ :=
  ⟨hl.trans r.len, r.sub, r.m0, r.b0, r.ml, r.mn, r.fr, fun i x e => by rw [h i _ e]; exact r.dat i x e, fun i b xs e => by rw [h i _ e]; exact r.own i b xs e, r.om, fun i j b c xs ys p e1 e2 q1 q2 => by
    rw [h i _ e1] at q1
    rw [h j _ e2] at q2
    exact r.inj i j b c xs ys p e1 e2 q1 q2⟩
/-- targets of a comprehension: only its own slots change -/
def ImpGv (K : PySem.W.Frag) (vs : List Nat) (g : TG) (wg : WG) : Prop := ∀ (F : Frm) (O : OA) (M : MS) (σ : L2.St) (H : Hp) (ρ : DE), RepS K F O M H σ ρ → ∀ x v, Rp K M H v x → ∀ P, wg x ρ P → ∀ Q : L2.St → Hp → Prop,
  (∀ ρ' σ' H', RepS K F O M H' σ' ρ' → Same H H' → L2.wipe σ' vs = L2.wipe σ vs → P ρ' → Q σ' H') → g v σ H Q
theorem wipe_set {σ : L2.St} {i : Nat} {o : Option V} : ∀ {vs : List Nat}, i ∈ vs → L2.wipe (σ.set i o) vs = L2.wipe σ vs
  | [], h => by cases h
  | v :: vs, h => by
    unfold L2.wipe
    by_cases hv : i = v
    · subst hv
      by_cases hm : i ∈ vs
      · rw [wipe_set hm]
      · have key : ∀ ws : List Nat, i ∉ ws → L2.wipe (σ.set i o) ws = (L2.wipe σ ws).set i o := by
          intro ws
          induction ws with
          | nil => intro _; rfl
          | cons w ws ih =>
            intro hn
            have h1 : i ≠ w := fun z => hn (by rw [z]; exact List.mem_cons_self)
            have h2 : i ∉ ws := fun z => hn (List.mem_cons_of_mem _ z)
            unfold L2.wipe
            rw [ih h2, List.set_comm _ _ h1]
        rw [key vs hm, List.set_set]
    · rcases List.mem_cons.mp h with h | h
      · exact absurd h hv
      · rw [wipe_set h]
theorem v_name {i : Nat} {vs : List Nat} (h : i ∈ vs) : ImpGv K vs (gName i) (wName i) := fun F O M σ H ρ R x v r P hp Q k => k _ _ H (R.put i r) (Same.refl H) (wipe_set h) hp
def ImpGsv (K : PySem.W.Frag) (vs : List Nat) (g : TGs) (wg : WGs) : Prop := ∀ (F : Frm) (O : OA) (M : MS) (σ : L2.St) (H : Hp) (ρ : DE), RepS K F O M H σ ρ → ∀ xs us, RpAll K M H us xs → ∀ P, wg xs ρ P → ∀ Q : L2.St → Hp → Prop,
  (∀ ρ' σ' H', RepS K F O M H' σ' ρ' → Same H H' → L2.wipe σ' vs = L2.wipe σ vs → P ρ' → Q σ' H') → g us σ H Q
theorem vs_nil {vs : List Nat} : ImpGsv K vs gNil wgNil := by
  intro F O M σ H ρ R xs us r P hp Q k
  obtain ⟨e, hp⟩ := hp
  subst e
  cases r
  exact ⟨rfl, k ρ σ H R (Same.refl H) rfl hp⟩
theorem vs_cons {vs : List Nat} {g : TG} {gr : TGs} {wg : WG} {wgr : WGs} (h1 : ImpGv K vs g wg) (h2 : ImpGsv K vs gr wgr) : ImpGsv K vs (gCons g gr) (wgCons wg wgr) := by
  intro F O M σ H ρ R xs us r P hp Q k
  obtain ⟨x, xr, e, hp⟩ := hp
  subst e
  cases r with
  | cons r1 r2 =>
    refine ⟨_, _, rfl, h1 F O M σ H ρ R _ _ r1 _ hp _ fun ρ1 σ1 H1 R1 s1 w1 q1 => ?_⟩
    exact h2 F O M σ1 H1 ρ1 R1 _ _ (r2.same R.ml s1) _ q1 _ fun ρ2 σ2 H2 R2 s2 w2 q2 => k ρ2 σ2 H2 R2 (s1.trans s2) (w2.trans w1) q2
theorem v_tup {vs : List Nat} {n : Nat} {g : TGs} {wg : WGs} (h : ImpGsv K vs g wg) : ImpGv K vs (gTup K n g) (wgTup n wg) := by
  intro F O M σ H ρ R x v r P hp Q kk
  obtain ⟨xs, e, hl, hp⟩ := hp
  subst e
  cases r with
  | tup e1 h1 => exact ⟨_, _, rfl, e1, by rw [h1.length]; exact hl, h F O M σ H ρ R xs _ h1 P hp Q kk⟩
def wYes : WT := fun ρ P => P true ρ
theorem imp_yes : ImpT K tYes wYes := fun F O M σ H ρ R P hp Q k => k true ρ H R (Gr.refl O M H) hp
abbrev WLx := DE → (List PyData → DE → Prop) → Prop
def lcRec (wg : WG) (wt : WT) (we : WE) (vs : List Nat) : List PyData → List PyData → DE → (List PyData → DE → Prop) → Prop
  | [], acc, ρ, P => P acc ρ
  | x :: xs, acc, ρ, P => wg x ρ fun ρ1 => wt ρ1 fun b ρ2 => if b = true then we ρ2 fun y ρ3 => acc.length < sizeLine ∧ lcRec wg wt we vs xs (acc ++ [y]) (wipeD ρ3 vs) P else lcRec wg wt we vs xs acc (wipeD ρ2 vs) P
def wLc (wi : WI) (wg : WG) (wt : WT) (we : WE) (vs : List Nat) : WLx := fun ρ P => wi ρ fun xs ρ1 => lcRec wg wt we vs xs [] (wipeD ρ1 vs) P
/-- the new list is kept apart -/
theorem RepS.apart {F : Frm} {O : OA} {M : MS} {H : Hp} {σ : L2.St} {ρ : DE} (r : RepS K F O M H σ ρ) {p : Addr} (hp : H p = none) : RepS K F O (fun q => M q ∨ q = p) (upd H p (.lst [])) σ ρ ∧ Gr O M H O (fun q => M q ∨ q = p) (upd H p (.lst [])) := by
  have s := same_new (o := .lst []) hp
  have g : Gr O M H O (fun q => M q ∨ q = p) (upd H p (.lst [])) := ⟨fun a q => q.elim .inl fun z => .inr (z ▸ hp), fun i _ q => .inl ⟨i, q⟩, fun a o _ e => s a o e⟩
  have r2 := r.same s
  refine ⟨⟨r.len, fun a q => .inl (r.sub a q), r.m0, r.b0, fun a q => ?_, fun a q => ?_, r2.fr, fun i x e => ?_, fun i b xs e => ?_, fun i q e => .inl (r.om i q e), r.inj⟩, g⟩
  · rcases q with q | q
    · exact r2.ml a q
    · subst q
      rw [upd_same]
      trivial
  · rcases q with q | q
    · exact r.mn a q
    · subst q
      exact .inr (r.fresh0 hp)
  · obtain ⟨v, h1, h2⟩ := r.dat i x e
    exact ⟨v, h1, Rp.gr r.kp g x v h2⟩
  · obtain ⟨q, vs, h1, h2, h3, h4, h5⟩ := r.own i b xs e
    exact ⟨q, vs, h1, .inl h2, s _ _ h3, RpAll.gr r.kp g xs vs h4, h5⟩
/-- .. and grows: data that keep away from it stay -/
theorem Rp.away {K : PySem.W.Frag} {M : MS} {H : Hp} {p : Addr} {us : List V} (ml : ∀ a, M a → Mut (H a)) (hp : M p) {d : PyData} {v : V} (h : Rp K M H v d) : Rp K M (upd H p (.lst us)) v d :=
  Rp.gr (O := fun i => if i = 0 then some p else none) (O' := fun i => if i = 0 then some p else none) ⟨ml, fun i q e => by
    by_cases z : i = 0
    · rw [if_pos z] at e
      cases e
      exact hp
    · rw [if_neg z] at e
      cases e⟩ ⟨fun _ q => .inl q, fun i _ q => .inl ⟨i, q⟩, fun a o n q => by
    have z : a ≠ p := fun z => n 0 (by rw [if_pos rfl, z])
    rw [upd_ne z]
    exact q⟩ d v h
theorem RpAll.away {K : PySem.W.Frag} {M : MS} {H : Hp} {p : Addr} {us : List V} (ml : ∀ a, M a → Mut (H a)) (hp : M p) : ∀ {ds : List PyData} {vs : List V}, RpAll K M H vs ds → RpAll K M (upd H p (.lst us)) vs ds
  | [], _, .nil => .nil
  | _ :: _, _, .cons h t => .cons (h.away ml hp) (RpAll.away ml hp t)
theorem RepS.grow {F : Frm} {O : OA} {M : MS} {H : Hp} {σ : L2.St} {ρ : DE} {p : Addr} (r : RepS K F O M H σ ρ) (hM : M p) (hO : ∀ i, O i ≠ some p) {us : List V} (h0 : F.H0 p = none) : RepS K F O M (upd H p (.lst us)) σ ρ := by
  refine ⟨r.len, r.sub, r.m0, r.b0, fun a q => ?_, r.mn, fun a o e n => ?_, fun i x e => ?_, fun i b xs e => ?_, r.om, r.inj⟩
  · by_cases z : a = p
    · rw [z, upd_same]
      trivial
    · rw [upd_ne z]
      exact r.ml a q
  · have z : a ≠ p := fun z => by
      subst z
      rw [h0] at e
      cases e
    rw [upd_ne z]
    exact r.fr a o e n
  · obtain ⟨v, h1, h2⟩ := r.dat i x e
    exact ⟨v, h1, h2.away r.ml hM⟩
  · obtain ⟨q, ws, h1, h2, h3, h4, h5, h6⟩ := r.own i b xs e
    have z : q ≠ p := fun z => hO i (z ▸ h6)
    exact ⟨q, ws, h1, h2, by rw [upd_ne z]; exact h3, h4.away r.ml hM, h5, h6⟩
/-- .. and is given out -/
theorem RepS.unapart {F : Frm} {O : OA} {M : MS} {H : Hp} {σ : L2.St} {ρ : DE} {p : Addr} (r : RepS K F O (fun q => M q ∨ q = p) H σ ρ) (sub : ∀ a, F.M0 a → M a) (om : ∀ i q, O i = some q → M q) : RepS K F O M H σ ρ :=
  ⟨r.len, sub, r.m0, r.b0, fun a q => r.ml a (.inl q), fun a q => r.mn a (.inl q), r.fr, fun i x e => by
    obtain ⟨v, h1, h2⟩ := r.dat i x e
    exact ⟨v, h1, Rp.less (fun _ q => .inl q) x v h2⟩, fun i b xs e => by
    obtain ⟨q, ws, h1, h2, h3, h4, h5, h6⟩ := r.own i b xs e
    exact ⟨q, ws, h1, om i q h6, h3, RpAll.less (fun _ q => .inl q) xs ws h4, h5, h6⟩, om, r.inj⟩
/-- an expression that gives a new list, held by nobody else -/
abbrev WL := DE → (List PyData → DE → Prop) → Prop
def ImpL (K : PySem.W.Frag) (t : TE) (w : WL) : Prop := ∀ (F : Frm) (O : OA) (M : MS) (σ : L2.St) (H : Hp) (ρ : DE), RepS K F O M H σ ρ → ∀ P, w ρ P → ∀ Q : VK,
  (∀ ys ρ' p vs H', RepS K F O (fun q => M q ∨ q = p) H' σ ρ' → Gr O M H O (fun q => M q ∨ q = p) H' → F.H0 p = none → ¬ M p → H' p = some (.lst vs) → RpAll K (fun q => M q ∨ q = p) H' vs ys → P ys ρ' → Q (.ref p) H') → t σ H Q
structure PLd (X : Cx) (e : Expr) (t : TE) (w : WL) : Prop where
  p : PE X e t
  i : ImpL X.K t w
def wL (w : WL) : WE := fun ρ P => w ρ fun ys ρ' => P (.list ys) ρ'
theorem ImpL.ee {t : TE} {w : WL} (h : ImpL K t w) : ImpE K t (wL w) := by
  intro F O M σ H ρ R P hw Q k
  refine h F O M σ H ρ R _ hw Q fun ys ρ' p vs H' R' g h0 hm hp ha q => ?_
  exact k _ ρ' _ H' (R'.unapart R.sub R.om) ⟨fun a z => .inl z, g.o, g.h⟩ (.lst hm hp (RpAll.less (fun _ z => .inl z) ys vs ha)) q
theorem PLd.ee {t : TE} {w : WL} (h : PLd X a t w) : PEd X a t (wL w) := ⟨h.p, h.i.ee⟩
theorem wipe_wipe (σ : L2.St) (vs : List Nat) : L2.wipe (L2.wipe σ vs) vs = L2.wipe σ vs := by
  have key : ∀ ws : List Nat, (∀ i ∈ ws, i ∈ vs) → L2.wipe (L2.wipe σ ws) vs = L2.wipe σ vs := by
    intro ws
    induction ws with
    | nil => intro _; rfl
    | cons w ws ih =>
      intro h
      show L2.wipe ((L2.wipe σ ws).set w none) vs = _
      rw [wipe_set (h w (List.mem_cons_self)), ih fun i hi => h i (List.mem_cons_of_mem _ hi)]
  exact key vs fun _ h => h
theorem imp_lc {wi : TI} {wj : WI} {g : TG} {wg : WG} {vs : List Nat} (hi : ImpI K wi wj) (hg : ImpGv K vs g wg) (ht : ImpT K tt wt) (he : ImpE K te we) : ImpL K (tLc wi g tt te vs) (wLc wj wg wt we vs) := by
  intro F O M σ H ρ R P hw Q k
  refine hi F O M σ H ρ R _ hw _ fun xs ρ1 J H1 R1 g1 ok q => ?_
  intro Dd hD
  have hMD : ¬ M Dd := fun z => by
    have := R1.ml Dd z
    rw [hD] at this
    exact this
  have hOD : ∀ i, O i ≠ some Dd := fun i z => hMD (R1.om i Dd z)
  have hH0 : F.H0 Dd = none := R1.fresh0 hD
  obtain ⟨R2, g2⟩ := R1.apart hD
  generalize eM : (fun q => M q ∨ q = Dd) = Mb at R2 g2
  have hMb : Mb Dd := by rw [← eM]; exact .inr rfl
  have hMs : ∀ a, M a → Mb a := fun a z => by rw [← eM]; exact .inl z
  have sw : RepS K F O Mb (upd H1 Dd (.lst [])) (L2.wipe σ vs) (wipeD ρ1 vs) := (R2.wipe vs).swap (wipe_length σ vs) fun i y e => wipe_out (wipeD_some e).2
  refine ⟨fun i m H' => i ≤ xs.length ∧ m = xs.length - i ∧ ∃ ρ' acc av, RepS K F O Mb H' (L2.wipe σ vs) ρ' ∧ (∀ (j : Nat) (y : Sl), ρ'[j]? = some (some y) → j ∉ vs) ∧ Gr O M H1 O Mb H' ∧ H' Dd = some (.lst av) ∧ RpAll K Mb H' av acc ∧ lcRec wg wt we vs (xs.drop i) acc ρ' P,
    ⟨xs.length, Nat.zero_le _, rfl, _, [], [], sw, fun j y e => (wipeD_some e).2, g2, upd_same, .nil, q⟩, ?_⟩
  rintro i m H' ⟨hi1, rfl, ρ', acc, av, R', hv', g', hp', ha', q'⟩
  by_cases hlt : i < xs.length
  · right
    have hx : xs[i]? = some xs[i] := List.getElem?_eq_getElem hlt
    obtain ⟨go, yl⟩ := ok.go O O Mb H' R1.om g' R'.ml i _ hx
    rw [List.drop_eq_getElem_cons hlt] at q'
    refine ⟨go, fun H2 => ∃ ρ2 acc2 av2, RepS K F O Mb H2 (L2.wipe σ vs) ρ2 ∧ (∀ (j : Nat) (y : Sl), ρ2[j]? = some (some y) → j ∉ vs) ∧ Gr O M H1 O Mb H2 ∧ H2 Dd = some (.lst av2) ∧ RpAll K Mb H2 av2 acc2 ∧ lcRec wg wt we vs (xs.drop (i + 1)) acc2 ρ2 P,
      fun H2 z => ⟨xs.length - (i + 1), by omega, hlt, rfl, z⟩, fun v H'' y => ?_⟩
    obtain ⟨s2, r2⟩ := yl v H'' y
    refine hg F O _ _ H'' ρ' (R'.same s2) _ v r2 _ q' _ fun ρ3 σ3 H3 R3 s3 w3 q3 => ⟨by rw [w3, wipe_wipe], ?_⟩
    have w3' : L2.wipe σ3 vs = L2.wipe σ vs := by rw [w3, wipe_wipe]
    have back : ∀ {H4 : Hp} {ρ4 : DE}, RepS K F O Mb H4 σ3 ρ4 → RepS K F O Mb H4 (L2.wipe σ vs) (wipeD ρ4 vs) := fun {H4 ρ4} r4 => (r4.wipe vs).swap (by rw [← w3', wipe_length]) fun j y e => by rw [← w3']; exact wipe_out (wipeD_some e).2
    have s23 : Same H' H3 := s2.trans s3
    refine ht F O _ σ3 H3 ρ3 R3 _ q3 _ fun bb ρ4 H4 R4 g4 q4 => ?_
    have g34 : Gr O Mb H' O Mb H4 := (Gr.same s23).trans g4 R'.om
    cases bb with
    | true =>
      rw [if_pos rfl] at q4 ⊢
      refine he F O _ σ3 H4 ρ4 R4 _ q4 _ fun z ρ5 v5 H5 R5 g5 r5 ⟨hl5, q5⟩ => ?_
      have g35 : Gr O Mb H' O Mb H5 := g34.trans g5 R'.om
      have e5 : H5 Dd = some (.lst av) := g35.h Dd _ hOD hp'
      have ra5 : RpAll K Mb H5 av acc := RpAll.gr R'.kp g35 acc av ha'
      refine ⟨av, e5, by rw [ha'.length]; exact hl5, ?_⟩
      have R6 := (back R5).grow hMb hOD (us := av ++ [v5]) hH0
      refine ⟨_, acc ++ [z], av ++ [v5], R6, fun j y e => (wipeD_some e).2, ?_, upd_same, (ra5.append (.cons r5 .nil)).away R5.ml hMb, q5⟩
      have g15 := g'.trans g35 R1.om
      refine ⟨g15.m, g15.o, fun a o n e => ?_⟩
      have z : a ≠ Dd := fun z => by
        subst z
        rw [hD] at e
        cases e
      rw [upd_ne z]
      exact g15.h a o n e
    | false =>
      rw [if_neg Bool.false_ne_true] at q4 ⊢
      exact ⟨_, acc, av, back R4, fun j y e => (wipeD_some e).2, g'.trans g34 R1.om, g34.h Dd _ hOD hp', RpAll.gr R'.kp g34 acc av ha', q4⟩
  · left
    have e : i = xs.length := by omega
    subst e
    rw [List.drop_length] at q'
    subst eM
    exact ⟨ok.stop O O _ H' R1.om g' R'.ml, k acc ρ' Dd av H' (R'.swap (wipe_length σ vs).symm fun j y e => (wipe_out (hv' j y e)).symm) (g1.trans g' R.om) hH0 hMD hp' ha' q'⟩
theorem d_lc {elt iter : Expr} {ifs : List Expr} {scope : Scope} {own : List (Str × Nat)} {wi : TI} {wj : WI} {g : TG} {wg : WG} (hN : X.N.Nodup) (hi : PId X tg iter wi wj) (ok : BlkOk X.N X.env.scope scope own)
    (hg : ∀ (s : Shared) (H : Hp) (C : Addr) (cl : List (Str × Addr)) (fp : List Addr), PG (X.blk s H scope (compEnvC scope cl C X.env) fp) tg g) (hgv : ImpGv X.K (own.map (·.2)) g wg)
    (ht : ∀ (s : Shared) (H : Hp) (C : Addr) (cl : List (Str × Addr)) (fp : List Addr), PTs (X.blk s H scope (compEnvC scope cl C X.env) fp) ifs tt) (hti : ImpT X.K tt wt)
    (he : ∀ (s : Shared) (H : Hp) (C : Addr) (cl : List (Str × Addr)) (fp : List Addr), PEd (X.blk s H scope (compEnvC scope cl C X.env) fp) elt te we) (hc : X.calm = true := by rfl) (hs : ∀ x, foldedSetIterable iter X.env x = pure x := by intro _; rfl) :
    PLd X (.ListComp elt [⟨tg, iter, ifs, 0⟩] scope pos) (tLc wi g tt te (own.map (·.2))) (wLc wj wg wt we (own.map (·.2))) :=
  ⟨pe_lc hc hN hi.p ok hg ht (fun s H C cl fp => (he s H C cl fp).p) hs, imp_lc hi.i hgv hti (he X.s_0 X.H_0 0 [] []).i⟩
end
end Dat
namespace Dat
open PySem PySem.Spec PyProof.Rows L2
section
variable {K : PySem.W.Frag} {X : Cx} {tg a b c e : Expr} {es : List Expr} {ta tb tc te : TE} {wa wb wc we : WE} {pos : Pos} {tt : TT} {wt : WT} {tr : TA} {wr : WA}
variable {st : Stmt} {rest : List Stmt} {t u : TS} {w w2 : WS}

/-! ### new lists taken, given back -/
def wTake (w : WL) (k : Nat) : WS := fun E ρ => w ρ fun ys ρ1 => E.nx (ρ1.set k (some (.o true ys)))
theorem imp_take {w : WL} (h : ImpL K te w) (k : Nat) : ImpS K (tAsg te (gName k)) (wTake w k) := by
  intro F O M σ H ρ R E hw D cn
  refine h F O M σ H ρ R _ hw _ fun ys ρ1 p vs H1 R1 g1 h0 hm hp ha q => ?_
  have Ru : RepS K F O M H1 σ ρ1 := R1.unapart R.sub R.om
  have R2 := RepS.take (H := H) Ru k h0 hm hp ha (fun i x v e1 e2 _ => by
    obtain ⟨v', z1, z2⟩ := R1.dat i x e1
    rw [e2] at z1
    cases z1
    exact z2) (fun i b ys p' vs' e1 e2 _ z => by
    obtain ⟨p'', vs'', z1, z2, z3, z4, _⟩ := R1.own i b ys e1
    rw [e2] at z1
    cases z1
    rw [z] at z3
    cases z3
    exact z4)
  refine cn.nx _ _ _ _ _ R2 ⟨g1.m, fun i a e => ?_, g1.h⟩ q
  by_cases hi : i = k
  · rw [if_pos hi] at e
    cases e
    cases hh : H p with
    | none => exact .inr rfl
    | some o =>
      rcases g1.m p (.inr rfl) with z | z
      · exact absurd z hm
      · exact .inr (z ▸ hh ▸ rfl)
  · rw [if_neg hi] at e
    exact .inl ⟨i, e⟩
theorem s_take {k : Nat} {x : Str} {pos' : Pos} {w : WL} (hN : X.N.Nodup) (he : PLd X e te w) (hi : X.N[k]? = some x := by rfl) (hx : Loc X.env.scope x := by first | exact Or.inl rfl | exact Or.inr rfl) (hs : swapsWith e (some (.Name x pos')) pos.line X.env = pure false := by rfl) (hf : X.fn x = true ∨ X.env.scope.names.lookup x = some .local := by first | exact .inl rfl | exact .inr rfl | assumption) :
    PSd X (.Assign [.Name x pos'] e pos) (tAsg te (gName k)) (wTake w k) := ⟨ps_set hN hi hx he.p hs hf, imp_take he.i k⟩
def wRetL (w : WL) : WS := fun E ρ => w ρ fun ys ρ1 => E.rl ys ρ1
theorem s_retL {w : WL} (he : PLd X e te w) : PSd X (.Return (some e) pos) (tRet te) (wRetL w) :=
  ⟨ps_ret he.p, fun F O M σ H ρ R E hw D cn => he.i F O M σ H ρ R _ hw _ fun ys ρ1 p vs H1 R1 g1 h0 hm hp ha q => cn.rl ys ρ1 p vs O _ σ H1 R1 g1 h0 (.inr rfl) hp ha q⟩
/-- return x, x one's own list -/
def wRetO (k : Nat) : WS := fun E ρ => ∃ xs, ρ[k]? = some (some (.o true xs)) ∧ E.rl xs ρ
theorem s_retO (k : Nat) {x : Str} {p : Pos} (hN : X.N[k]? = some x := by rfl) (hv : Vis X.env.scope x := by first | exact Or.inl rfl | exact Or.inr (Or.inl rfl) | exact Or.inr (Or.inr rfl)) (hd : (x == ("__debug__" : Str)) = false := by decide) (hcd : (x == ("__classdict__" : Str)) = false := by decide) :
    PSd X (.Return (some (.Name x p)) pos) (tRet (tVar k)) (wRetO k) := by
  refine ⟨ps_ret (pe_var hN hv hd hcd), fun F O M σ H ρ R E hw D cn => ?_⟩
  obtain ⟨xs, e, q⟩ := hw
  obtain ⟨p, vs, h1, h2, h3, h4, h5, h6⟩ := R.own k true xs e
  rw [if_pos rfl] at h5
  exact ⟨.ref p, h1, cn.rl xs ρ p vs O M σ H R (Gr.refl O M H) h5 h2 h3 h4 q⟩
/-- a display as a new list -/
def wLstL (wr : WA) : WL := fun ρ P => wr ρ fun xs ρ1 => xs.length ≤ sizeLine ∧ P xs ρ1
theorem l_lst (h : PAd X es tr wr) : PLd X (.List es pos) (tLst tr) (wLstL wr) := by
  refine ⟨pe_lst h.p, fun F O M σ H ρ R P hw Q k => ?_⟩
  refine h.i F O M σ H ρ R _ hw _ fun xs ρ1 vs H1 R1 g1 r1 ⟨hl, q⟩ => ⟨by rw [r1.length]; exact hl, fun p hp => ?_⟩
  obtain ⟨R2, g2⟩ := R1.apart hp
  have hM : ¬ M p := fun z => by
    have := R1.ml p z
    rw [hp] at this
    exact this
  have hO : ∀ i, O i ≠ some p := fun i z => hM (R1.om i p z)
  have R3 := R2.grow (.inr rfl) hO (us := vs) (R1.fresh0 hp)
  rw [upd_upd] at R3
  have g3 : Gr O M H1 O (fun q => M q ∨ q = p) (upd H1 p (.lst vs)) := ⟨g2.m, g2.o, fun a o _ e => same_new hp a o e⟩
  exact k xs ρ1 p vs _ R3 (g1.trans g3 R.om) (R1.fresh0 hp) hM upd_same (RpAll.gr R1.kp g3 xs vs r1) q

/-! ### isinstance(x, T), T built in -/
def tyName : PyData → String
  | .none => "NoneType"
  | .bool _ => "bool"
  | .int _ => "int"
  | .str _ => "str"
  | .list _ => "list"
  | .tuple _ => "tuple"
  | .dict _ => "list"
def fIsi (T : String) (x : PyData) : Option PyData := (kitB (tyName x) T).map .bool
theorem ty_rp {M : MS} {H : Hp} {x : PyData} {v : V} (r : Rp K M H v x) : TyX K H v (.type (tyName x)) := by
  cases r with
  | non => exact .base .non
  | bl b => exact .base (.bl b)
  | int i => exact .base (.int i)
  | str s => exact .base (.str s)
  | lst n e h => exact .base (.lst e)
  | tup e h =>
    rcases e with (e | ⟨o, e⟩) | ⟨o, its, n, hk, hc, _⟩
    · exact .base (.tup e)
    · exact .fTuple e
    · exact .kTuple hk hc
  | scr e h =>
    rcases h with ⟨_, e | ⟨o, e⟩⟩ | h
    · exact .base (.lst e)
    · exact .base (.frz e)
    · rcases h (fun _ => none) with (z | ⟨o, z⟩) | ⟨o, its, n, hk, hc, _⟩
      · cases z
      · cases z
      · exact .kList hk hc
theorem d_isi {T : String} {x2 : Str} {p p2 : Pos} (hm : X.mg "isinstance" = none) (hm2 : X.mg x2 = none) (hv2 : bootBuiltins x2 = some (.type T)) (ha : PEd X a ta wa) (hg : Gl X "isinstance" := by rfl) (hg2 : Gl X x2 := by rfl)
    (hn : x2 ≠ "__name__" := by decide) (hd : (x2 == ("__debug__" : Str)) = false := by decide)
    (he : starEach [a, .Name x2 p2] X.env = (false, eval a X.env) :: starEach [.Name x2 p2] X.env := by rfl) (he2 : starEach [.Name x2 p2] X.env = (false, eval (.Name x2 p2) X.env) :: starEach [] X.env := by rfl) (hpl : (backTo pos (starEach [.Name x2 p2] X.env)).any (·.1) = false := by rfl) :
    PEd X (.Call (.Name "isinstance" p) [a, .Name x2 p2] [] pos) (tCB (rIsi X.K) (tCons ta (tCons (tC (.ty T)) tNil))) (wUn (fIsi T) wa) := by
  refine ⟨pe_callB call_isi hg hm (by decide +kernel) (pa_cons ha.p (pa_cons (pe_bltn hg2 hm2 hv2 rfl hn hd) pa_nil he2) he) (by decide) (by decide) he hpl, fun F O M σ H ρ R P hw Q k => ?_⟩
  refine ha.i F O M σ H ρ R _ hw _ fun x ρ1 v H1 R1 g1 r1 ⟨z, e, q⟩ => ?_
  unfold fIsi at e
  obtain ⟨bb, e1, e2⟩ := Option.map_eq_some_iff.mp e
  subst e2
  exact ⟨v, .ty T, _, _, bb, rfl, .ty T, ty_rp r1, kit_ty e1, k _ ρ1 _ H1 R1 g1 (.bl bb) q⟩

/-! ### repr of data -/
def fRepr (x : PyData) : Option PyData := if (x.showable && SeqAt.shaped x && decide (x.shown.length ≤ sizeLine)) = true then some (.str x.shown) else none
def rRepr (K : PySem.W.Frag) : List V → Hp → VK → Prop := fun xs H Q => ∃ x d, xs = [x] ∧ Dp K H x d ∧ d.showable = true ∧ SeqAt.shaped d = true ∧ d.shown.length ≤ sizeLine ∧ Q (.str d.shown) H
theorem call_reprD (hg : X.A.guards = some []) (hu : X.A.units + 80 < cLine) : CallR X (.builtin "repr") (rRepr X.K) := by
  intro pins s σ H xs us Q I r h
  obtain ⟨x, d, rfl, hd, hs, hsh, hz, q⟩ := h
  obtain ⟨u, rfl, rx⟩ := vals1 r
  obtain ⟨as, rd⟩ := Dp.reads I d x u hd rx
  have hdep := SeqAt.depth_of_shaped hsh
  have hnd : d.hasDict = false := PyData.hasDict_of_canLay d (SeqAt.canLay_of_shaped hsh)
  cases rd with
  | none => exact PySem.P.repr_of_none ⟨.str _, H, I.tok _, ⟨_, rfl⟩, q⟩
  | bool bb => exact PySem.P.repr_of_bool ⟨.str _, H, I.tok _, ⟨_, rfl⟩, q⟩
  | int i tk => exact PySem.P.repr_of_int (by simpa [PyData.showable] using hs) ⟨.str _, H, I.tok _, ⟨_, rfl⟩, q⟩
  | str x tk => exact PySem.P.repr_of_str ⟨.str _, H, I.tok _, ⟨_, rfl⟩, q⟩ hz
  | list h1 h2 h3 h4 =>
    exact repr_of_reads' (.list h1 h2 h3 h4) hs (PyData.noDict_hsm hnd) hg (by omega) (fun _ _ e => e) (fun h' u' tk hk => ⟨.str _, H, I.kept (t' := tk) hk, ⟨_, rfl⟩, q⟩) hz
  | tuple h1 h2 h3 h4 =>
    exact repr_of_reads' (.tuple h1 h2 h3 h4) hs (PyData.noDict_hsm hnd) hg (by omega) (fun _ _ e => e) (fun h' u' tk hk => ⟨.str _, H, I.kept (t' := tk) hk, ⟨_, rfl⟩, q⟩) hz
  | dict _ _ _ _ _ => simp [PyData.hasDict] at hnd
theorem l_repr : LiftC K (rRepr K) (f1 fRepr) := by
  intro M H xs z vs ml e r Q k
  replace e := f1_some e
  obtain ⟨x, rfl, e⟩ := e
  unfold fRepr at e
  split at e
  · rename_i h
    cases e
    rw [Bool.and_eq_true, Bool.and_eq_true, decide_eq_true_eq] at h
    cases r with
    | cons r t =>
      cases t
      exact ⟨_, x, rfl, Rp.dp x _ (nodict h.1.2) r, h.1.1, h.1.2, h.2, k _ H (Same.refl H) (.str _)⟩
  · cases e
/-- all of a list of truth values -/
def boolsD : List PyData → Option (List Bool)
  | [] => some []
  | .bool b :: r => (boolsD r).map (b :: ·)
  | _ => none
def fAll : PyData → Option PyData
  | .list xs => (boolsD xs).map fun bs => .bool (bs.all id)
  | _ => none
theorem bools_rp {M : MS} {H : Hp} : ∀ {xs : List PyData} {vs : List V} {bs : List Bool}, RpAll K M H vs xs → boolsD xs = some bs → vs = bs.map V.bl
  | [], _, _, .nil, e => by cases e; rfl
  | x :: xs, _, bs, .cons r t, e => by
    cases r <;> first | (simp [boolsD] at e; done) | skip
    rename_i b
    simp only [boolsD] at e
    obtain ⟨bs', e1, e2⟩ := Option.map_eq_some_iff.mp e
    subst e2
    rw [bools_rp t e1]
    rfl
theorem l_all : LiftC K (rAll K) (f1 fAll) := by
  intro M H xs z vs ml e r Q k
  replace e := f1_some e
  obtain ⟨x, rfl, e⟩ := e
  cases r with
  | cons r t =>
    cases t
    cases r with
    | lst n1 e1 h1 =>
      simp only [fAll] at e
      obtain ⟨bs, e2, e3⟩ := Option.map_eq_some_iff.mp e
      subst e3
      have q := bools_rp h1 e2
      subst q
      exact ⟨_, bs, rfl, SqL.of e1, k _ H (Same.refl H) (.bl _)⟩
    | _ => simp [fAll] at e
theorem c_chain {op op' : CmpOp} {r r' : R2} {f g : PyData → PyData → Option PyData} (ho : OpR X (compareOp op) r) (ho' : OpR X (compareOp op') r') (l : LiftR X.K r f) (l' : LiftR X.K r' g) (ha : PEd X a ta wa) (hb : PEd X b tb wb) (hc : PEd X c tc wc)
    (hm : lastMarks [op, op'] [b, c] = false := by with_unfolding_all rfl) : PTd X (.Compare a [op, op'] [b, c] pos) (tTest (tChain r r' ta tb tc)) (wTest (wChain f g wa wb wc)) := ⟨pt_chain ho ho' ha.p hb.p hc.p hm, imp_test (imp_chain l l' ha.i hb.i hc.i)⟩
theorem d_chain {op op' : CmpOp} {r r' : R2} {f g : PyData → PyData → Option PyData} (ho : OpR X (compareOp op) r) (ho' : OpR X (compareOp op') r') (l : LiftR X.K r f) (l' : LiftR X.K r' g) (ha : PEd X a ta wa) (hb : PEd X b tb wb) (hc : PEd X c tc wc)
    (hm : lastMarks [op, op'] [b, c] = false := by with_unfolding_all rfl) : PEd X (.Compare a [op, op'] [b, c] pos) (tChain r r' ta tb tc) (wChain f g wa wb wc) := ⟨pe_chain ho ho' ha.p hb.p hc.p hm, imp_chain l l' ha.i hb.i hc.i⟩
end
end Dat
namespace Dat
open PySem PySem.Spec PyProof.Rows L2

/-! ### defs, called where no repr is under way -/
structure FnG (P : Program) (w : World) (K : PySem.W.Frag) (mg : Str → Option Value) (base : Heap) (k : Nat) (f : Addr) (fd : FuncData) (ps : List Str) (sp : Sp) : Prop where
  len : ∀ vs H Q, sp vs H Q E0 → vs.length = ps.length
  run : ∀ (A : Around) (outer : List Env) (s : Shared) (H : Hp) (args : Args) (us : List Value) (vs : List V) (Q : VK), A.guards = some [] → Room k A → Env0 P w K mg base A outer s H → BindsTo s fd args (ps.zip us) → Vals vs us → sp vs H Q E0 →
    codeAny (model P w) A (.call (.ref f) args) (CR CX0 outer P w H s Q E0) s
theorem FnG.mono {P : Program} {w : World} {K : PySem.W.Frag} {mg : Str → Option Value} {base : Heap} {j k : Nat} {f : Addr} {fd : FuncData} {ps : List Str} {sp : Sp} (F : FnG P w K mg base j f fd ps sp) (h : j ≤ k) : FnG P w K mg base k f fd ps sp :=
  ⟨F.len, fun A outer s H args us vs Q hg hr => F.run A outer s H args us vs Q hg (hr.mono h)⟩
section
variable {P : Program} {w : World} {K : PySem.W.Frag} {mg : Str → Option Value} {base : Heap} {x qual : Str} {params : Arguments} {body : List Stmt} {scope : Scope} {dvs : List V} {kws : List (Str × V)} {f : Addr} {fd : FuncData} {N ps : List Str} {k : Nat} {sp : Sp}
theorem fnG_of (F : FunD K x qual params body scope dvs kws f fd) (S : FnScope N ps scope) (len : ∀ vs H Q, sp vs H Q E0 → vs.length = ps.length)
    (hbody : ∀ (cdv : Value) (A : Around) (outer : List Env) (s : Shared) (H : Hp) (vs : List V) (Q : VK), A.guards = some [] → Room k (A.deeper (envOfC qual scope s.heap.objs.size f cdv)) → sp vs H Q E0 →
      ∃ t, PSs (cxOf CX0 P w K mg base N qual scope f cdv A outer s H E0).nox body t ∧ t { nx := fun _ H' => Q .non H', rt := Q } (L2.start N vs) H) : FnG P w K mg base (k + 1) f fd ps sp := by
  obtain ⟨oc, od, dV, kV, doc, pm, an, cdv, ct, osl, rfl, lk, hcd, _, _⟩ := F.ex
  refine ⟨len, fun A outer s H args us vs Q hg hr e0 hb r hsp => ?_⟩
  have kin : K.In s.heap := e0.mod.kin.keeps fun b o e => (e0.bs b o e).1
  refine codeAny_call_function hr.depth (kin _ _ lk) rfl S.co S.gen rfl (PySem.W.codeRec_of kin hcd) (hb _ _ _ _ ?_)
  refine wpAny_newFunctionEnv_cells S.kind (fun y hy => ?_) fun env he s1 x1 => ?_
  · rcases S.par y.1 (List.of_mem_zip hy).1 with q | q
    · exact .inl q
    · exact .inr ⟨q, PySem.W.cellsFrom_some _ _ _ (.inl q)⟩
  subst he
  refine ⟨(e0.mod.nolimit.keeps fun b o e => (e0.bs b o e).1).keeps x1.toInCall.keep, codeAny_func ?_⟩
  obtain ⟨t, ht, hq⟩ := hbody cdv A outer s H vs Q hg (hr.deeper _) hsp
  have I := inv_start (CX := CX0) (P := P) (w := w) (N := N) (E := E0) S hr.hd e0 (len _ _ _ hsp) r x1
  refine wpAny_mono (ht.nox.run [] s1 (L2.start N vs) H _ I hq) (fun fl s' hs => ?_) fun e s' hs => hs
  cases fl with
  | ret u =>
    obtain ⟨v, σ', H', J, rv, q⟩ := hs
    exact ⟨v, H', J.os, J.bare, J.base, J.hok, rv, q⟩
  | next =>
    obtain ⟨σ', H', J, q⟩ := hs
    exact ⟨V.non, H', J.os, J.bare, J.base, J.hok, rfl, q⟩
  | brk =>
    obtain ⟨_, _, _, q⟩ := hs
    exact False.elim q
  | cont =>
    obtain ⟨_, _, _, q⟩ := hs
    exact False.elim q

/-! ### promises over data -/
abbrev WF := List PyData → (PyData → Prop) → Prop
abbrev WFL := List PyData → (List PyData → Prop) → Prop
abbrev WFB := List PyData → List PyData → (PyData → List PyData → Prop) → Prop
def spP (K : PySem.W.Frag) (wf : WF) : Sp := fun vs H Q _ => ∃ (M : MS) (xs : List PyData) (P : PyData → Prop), (∀ a, M a → Mut (H a)) ∧ RpAll K M H vs xs ∧ wf xs P ∧ ∀ x v H', Same H H' → Rp K M H' v x → P x → Q v H'
def spL (K : PySem.W.Frag) (wf : WFL) : Sp := fun vs H Q _ => ∃ (M : MS) (xs : List PyData) (P : List PyData → Prop), (∀ a, M a → Mut (H a)) ∧ RpAll K M H vs xs ∧ wf xs P ∧ ∀ ys p us H', Same H H' → H p = none → H' p = some (.lst us) → RpAll K (fun q => M q ∨ q = p) H' us ys → P ys → Q (.ref p) H'
def spB (K : PySem.W.Frag) (wf : WFB) : Sp := fun vs H Q _ => ∃ (M : MS) (p : Addr) (vr bs : List V) (ds xs : List PyData) (P : PyData → List PyData → Prop), (∀ a, M a → Mut (H a)) ∧ vs = .ref p :: vr ∧ M p ∧ H p = some (.lst bs) ∧ RpAll K M H bs ds ∧ RpAll K M H vr xs ∧ wf ds xs P ∧
  ∀ x ds' v bs' H', (∀ a o, a ≠ p → H a = some o → H' a = some o) → H' p = some (.lst bs') → RpAll K M H' bs' ds' → Rp K M H' v x → P x ds' → Q v H'
def startD (N : List Str) (xs : List PyData) : DE := xs.map (fun x => some (.d x)) ++ List.replicate (N.length - xs.length) none
def startB (N : List Str) (ds xs : List PyData) : DE := some (.o false ds) :: (xs.map (fun x => some (.d x)) ++ List.replicate (N.length - (xs.length + 1)) none)
theorem start_get {H : Hp} {M : MS} {vs : List V} {xs : List PyData} (ha : RpAll K M H vs xs) (n : Nat) : (∀ (i : Nat) x, (xs.map (fun x => some (Sl.d x)) ++ List.replicate n none)[i]? = some (some (.d x)) → ∃ v, (vs.map some ++ List.replicate n none)[i]? = some (some v) ∧ Rp K M H v x)
    ∧ ∀ (i : Nat) b ys, (xs.map (fun x => some (Sl.d x)) ++ List.replicate n none)[i]? ≠ some (some (.o b ys)) := by
  have hl := ha.length
  refine ⟨fun i x e => ?_, fun i b ys e => ?_⟩
  · by_cases hi : i < xs.length
    · rw [List.getElem?_append_left (by rw [List.length_map]; exact hi), List.getElem?_map] at e
      obtain ⟨y, e1, e2⟩ := Option.map_eq_some_iff.mp e
      cases e2
      obtain ⟨v, q1, q2⟩ := ha.get e1
      refine ⟨v, ?_, q2⟩
      rw [List.getElem?_append_left (by rw [List.length_map]; omega), List.getElem?_map, q1]
      rfl
    · rw [List.getElem?_append_right (by rw [List.length_map]; omega), List.getElem?_replicate] at e
      split at e <;> cases e
  · by_cases hi : i < xs.length
    · rw [List.getElem?_append_left (by rw [List.length_map]; exact hi), List.getElem?_map] at e
      obtain ⟨y, e1, e2⟩ := Option.map_eq_some_iff.mp e
      cases e2
    · rw [List.getElem?_append_right (by rw [List.length_map]; omega), List.getElem?_replicate] at e
      split at e <;> cases e
theorem rep_start {M : MS} {H : Hp} {vs : List V} {xs : List PyData} (ml : ∀ a, M a → Mut (H a)) (ha : RpAll K M H vs xs) (hl : xs.length ≤ N.length) : RepS K ⟨M, H, fun _ => none⟩ (fun _ => none) M H (L2.start N vs) (startD N xs) := by
  have h := start_get ha (N.length - xs.length)
  have e : L2.start N vs = vs.map some ++ List.replicate (N.length - xs.length) none := by unfold L2.start; rw [ha.length]
  rw [e]
  unfold startD
  refine ⟨?_, fun _ q => q, fun a q z => ?_, fun _ _ z => (by cases z), ml, fun _ q => .inl q, fun a o q _ => q, h.1, fun i b ys q => absurd q (h.2 i b ys), fun _ _ z => (by cases z), fun i j b c xs ys p q => absurd q (h.2 i b xs)⟩
  · rw [List.length_append, List.length_append, List.length_map, List.length_map, ha.length, List.length_replicate, List.length_replicate]
  · have := ml a q
    have z' : H a = none := z
    rw [z'] at this
    exact this
theorem rep_startB {M : MS} {H : Hp} {p : Addr} {vr bs : List V} {ds xs : List PyData} (ml : ∀ a, M a → Mut (H a)) (hM : M p) (hp : H p = some (.lst bs)) (hb : RpAll K M H bs ds) (ha : RpAll K M H vr xs) :
    RepS K ⟨M, H, fun i => if i = 0 then some p else none⟩ (fun i => if i = 0 then some p else none) M H (L2.start N (.ref p :: vr)) (startB N ds xs) := by
  have h := start_get ha (N.length - (xs.length + 1))
  have e : L2.start N (.ref p :: vr) = some (.ref p) :: (vr.map some ++ List.replicate (N.length - (xs.length + 1)) none) := by
    unfold L2.start
    rw [List.length_cons, ha.length]
    rfl
  have z0 : ∀ (i : Nat) (a : Addr), (if i = 0 then some p else none) = some a → i = 0 ∧ a = p := fun i a z => by
    by_cases hi : i = 0
    · rw [if_pos hi] at z
      cases z
      exact ⟨hi, rfl⟩
    · rw [if_neg hi] at z
      cases z
  have no : ∀ (i : Nat) b ys, (startB N ds xs)[i]? = some (some (.o b ys)) → i = 0 ∧ b = false ∧ ys = ds := fun i b ys q => by
    cases i with
    | zero =>
      have q' : some (some (Sl.o false ds)) = some (some (Sl.o b ys)) := q
      cases q'
      exact ⟨rfl, rfl, rfl⟩
    | succ i =>
      have q' : (xs.map (fun x => some (Sl.d x)) ++ List.replicate (N.length - (xs.length + 1)) none)[i]? = some (some (.o b ys)) := by
        simpa [startB] using q
      exact absurd q' (h.2 i b ys)
  rw [e]
  refine ⟨?_, fun _ q => q, fun a q z => ?_, fun i a z => ?_, ml, fun _ q => .inl q, fun a o q _ => q, fun i x q => ?_, fun i b ys q => ?_, fun i a z => ?_, fun i j b c xs ys q q1 q2 w1 w2 => ?_⟩
  · unfold startB
    rw [List.length_cons, List.length_cons, List.length_append, List.length_append, List.length_map, List.length_map, ha.length, List.length_replicate, List.length_replicate]
  · have := ml a q
    have z' : H a = none := z
    rw [z'] at this
    exact this
  · rw [(z0 i a z).2]
    exact hM
  · cases i with
    | zero =>
      have q' : some (some (Sl.o false ds)) = some (some (Sl.d x)) := q
      cases q'
    | succ i =>
      have q' : (xs.map (fun x => some (Sl.d x)) ++ List.replicate (N.length - (xs.length + 1)) none)[i]? = some (some (.d x)) := by
        simpa [startB] using q
      obtain ⟨v, y1, y2⟩ := h.1 i x q'
      exact ⟨v, by simpa using y1, y2⟩
  · obtain ⟨e1, e2, e3⟩ := no i b ys q
    subst e1
    subst e2
    subst e3
    exact ⟨p, bs, rfl, hM, hp, hb, by rw [if_neg Bool.false_ne_true]; rfl, rfl⟩
  · rw [(z0 i a z).2]
    exact hM
  · rw [(no i b xs q1).1, (no j c ys q2).1]
/-- the ends of a def over data -/
abbrev endsP (P : PyData → Prop) : DEnds := { nx := fun _ => P .none, rt := fun x _ => P x, rl := fun ys _ => P (.list ys) }
abbrev endsL (P : List PyData → Prop) : DEnds := { nx := fun _ => False, rt := fun _ _ => False, rl := fun ys _ => P ys }
abbrev endsB (P : PyData → List PyData → Prop) : DEnds := { nx := fun ρ => ∃ ds, ρ[0]? = some (some (.o false ds)) ∧ P .none ds, rt := fun x ρ => ∃ ds, ρ[0]? = some (some (.o false ds)) ∧ P x ds, rl := fun ys ρ => ∃ ds, ρ[0]? = some (some (.o false ds)) ∧ P (.list ys) ds }
theorem pureOk {wf : WF} (F : FunD K x qual params body scope dvs kws f fd) (S : FnScope N ps scope) (len : ∀ xs P, wf xs P → xs.length = ps.length)
    (hb : ∀ (cdv : Value) (A : Around) (outer : List Env) (s : Shared) (H : Hp), A.guards = some [] → Room k (A.deeper (envOfC qual scope s.heap.objs.size f cdv)) →
      ∃ t w', PBd (cxOf CX0 P w K mg base N qual scope f cdv A outer s H E0).nox body t w' ∧ ∀ xs P, wf xs P → w' (endsP P) (startD N xs)) : FnG P w K mg base (k + 1) f fd ps (spP K wf) := by
  have hpl : ps.length ≤ N.length := by have := congrArg List.length S.pre; rw [List.length_take] at this; omega
  refine fnG_of F S (fun vs H Q ⟨M, xs, P, _, ha, hw, _⟩ => by rw [ha.length]; exact len xs P hw) fun cdv A outer s H vs Q hg hr ⟨M, xs, P, ml, ha, hw, q⟩ => ?_
  obtain ⟨t, w', hd, hi⟩ := hb cdv A outer s H hg hr
  have hl := len xs P hw
  refine ⟨t, hd.p, hd.i _ _ M _ H _ (rep_start ml ha (by omega)) _ (hi xs P hw) _ ⟨fun _ _ z => (by cases z), fun ρ' O' M' σ' H' R' g e => ?_, fun y ρ' v O' M' σ' H' R' g r e => ?_, fun _ _ _ _ _ _ _ e => False.elim e, fun _ _ _ _ _ _ _ e => False.elim e, fun ys ρ' p us O' M' σ' H' R' g h0 hm hp r e => ?_⟩⟩
  · exact q _ _ H' (fun a o z => R'.fr a o z fun i => by simp) .non e
  · exact q y v H' (fun a o z => R'.fr a o z fun i => by simp) r e
  · refine q _ _ H' (fun a o z => R'.fr a o z fun i => by simp) (.lst (fun z => R'.m0 p z h0) hp (RpAll.less R'.sub ys us r)) e
theorem freshOk {wf : WFL} (F : FunD K x qual params body scope dvs kws f fd) (S : FnScope N ps scope) (len : ∀ xs P, wf xs P → xs.length = ps.length)
    (hb : ∀ (cdv : Value) (A : Around) (outer : List Env) (s : Shared) (H : Hp), A.guards = some [] → Room k (A.deeper (envOfC qual scope s.heap.objs.size f cdv)) →
      ∃ t w', PBd (cxOf CX0 P w K mg base N qual scope f cdv A outer s H E0).nox body t w' ∧ ∀ xs P, wf xs P → w' (endsL P) (startD N xs)) : FnG P w K mg base (k + 1) f fd ps (spL K wf) := by
  have hpl : ps.length ≤ N.length := by have := congrArg List.length S.pre; rw [List.length_take] at this; omega
  refine fnG_of F S (fun vs H Q ⟨M, xs, P, _, ha, hw, _⟩ => by rw [ha.length]; exact len xs P hw) fun cdv A outer s H vs Q hg hr ⟨M, xs, P, ml, ha, hw, q⟩ => ?_
  obtain ⟨t, w', hd, hi⟩ := hb cdv A outer s H hg hr
  have hl := len xs P hw
  refine ⟨t, hd.p, hd.i _ _ M _ H _ (rep_start ml ha (by omega)) _ (hi xs P hw) _ ⟨fun _ _ z => (by cases z), fun _ _ _ _ _ _ _ e => False.elim e, fun _ _ _ _ _ _ _ _ _ _ e => False.elim e, fun _ _ _ _ _ _ _ e => False.elim e, fun _ _ _ _ _ _ _ e => False.elim e, fun ys ρ' p us O' M' σ' H' R' g h0 hm hp r e => ?_⟩⟩
  exact q ys p us H' (fun a o z => R'.fr a o z fun i => by simp) h0 hp (RpAll.less (fun a z => z.elim (R'.sub a) fun z => z ▸ hm) ys us r) e
theorem bagOk {wf : WFB} (F : FunD K x qual params body scope dvs kws f fd) (S : FnScope N ps scope) (len : ∀ ds xs P, wf ds xs P → xs.length + 1 = ps.length)
    (hb : ∀ (cdv : Value) (A : Around) (outer : List Env) (s : Shared) (H : Hp), A.guards = some [] → Room k (A.deeper (envOfC qual scope s.heap.objs.size f cdv)) →
      ∃ t w', PBd (cxOf CX0 P w K mg base N qual scope f cdv A outer s H E0).nox body t w' ∧ ∀ ds xs P, wf ds xs P → w' (endsB P) (startB N ds xs)) : FnG P w K mg base (k + 1) f fd ps (spB K wf) := by
  refine fnG_of F S (fun vs H Q ⟨M, p, vr, bs, ds, xs, P, _, e, _, _, _, ha, hw, _⟩ => by rw [e, List.length_cons, ha.length]; exact len ds xs P hw) fun cdv A outer s H vs Q hg hr ⟨M, p, vr, bs, ds, xs, P, ml, e, hM, hp, hbs, ha, hw, q⟩ => ?_
  subst e
  obtain ⟨t, w', hd, hi⟩ := hb cdv A outer s H hg hr
  have R0 := rep_startB (N := N) ml hM hp hbs ha
  have fin : ∀ {ρ' : DE} {O' : OA} {M' : MS} {σ' : L2.St} {H' : Hp} {ds' : List PyData}, RepS K ⟨M, H, fun i => if i = 0 then some p else none⟩ O' M' H' σ' ρ' → ρ'[0]? = some (some (.o false ds')) → (∀ a o, a ≠ p → H a = some o → H' a = some o) ∧ ∃ bs', H' p = some (.lst bs') ∧ RpAll K M H' bs' ds' := fun {ρ' O' M' σ' H' ds'} R' e => by
    refine ⟨fun a o n z => R'.fr a o z fun i => ?_, ?_⟩
    · show (if i = 0 then some p else none) ≠ some a
      intro z2
      by_cases hi : i = 0
      · rw [if_pos hi] at z2
        cases z2
        exact n rfl
      · rw [if_neg hi] at z2
        cases z2
    · obtain ⟨p', vs', h1, h2, h3, h4, h5, _⟩ := R'.own 0 false ds' e
      rw [if_neg Bool.false_ne_true] at h5
      have h5' : some p = some p' := h5
      cases h5'
      exact ⟨vs', h3, RpAll.less R'.sub ds' vs' h4⟩
  refine ⟨t, hd.p, hd.i _ _ M _ H _ R0 _ (hi ds xs P hw) _ ⟨R0.om, fun ρ' O' M' σ' H' R' g ⟨ds', e1, e2⟩ => ?_, fun y ρ' v O' M' σ' H' R' g r ⟨ds', e1, e2⟩ => ?_, fun _ _ _ _ _ _ _ e => False.elim e, fun _ _ _ _ _ _ _ e => False.elim e, fun ys ρ' pp us O' M' σ' H' R' g h0 hm hpp r ⟨ds', e1, e2⟩ => ?_⟩⟩
  · obtain ⟨z1, bs', z2, z3⟩ := fin R' e1
    exact q _ ds' _ bs' H' z1 z2 z3 .non e2
  · obtain ⟨z1, bs', z2, z3⟩ := fin R' e1
    exact q y ds' v bs' H' z1 z2 z3 r e2
  · obtain ⟨z1, bs', z2, z3⟩ := fin R' e1
    exact q _ ds' _ bs' H' z1 z2 z3 (.lst (fun z => R'.m0 pp z h0) hpp (RpAll.less R'.sub ys us r)) e2
end
end Dat
namespace Dat
open PySem PySem.Spec PyProof.Rows L2
section
variable {X : Cx} {k : Nat} {f : Addr} {fd : FuncData} {ps ks : List Str} {sp : Sp} {dvs : List V} {ds : List Value} {x : Str} {p pos kpos : Pos} {e : Expr} {es : List Expr} {t tk tr : TA} {te : TE} {we : WE} {wr wk : WA} {kws : List Keyword}
/-- the callee has run -/
theorem ran {pins : List (Addr × Obj)} {σ : L2.St} {H : Hp} {s : Shared} {Q : VK} {args : Args} {us : List Value} {vs : List V} (F : FnG X.prog X.w X.K X.mg X.base k f fd ps sp) (hg : X.A.guards = some []) (hr : Room k X.A) (I : Inv X pins σ H s)
    (hb : BindsTo s fd args (ps.zip us)) (r : Vals vs us) (h : sp vs H Q E0) : codeAny (model X.prog X.w) X.A (.call (.ref f) args) (fun r s' => match r with
      | .ok (.ret u) => EP X pins σ Q u s'
      | .ok _ => False
      | .error e => X.xe e s') s := by
  refine codeAny_mono (F.run X.A X.stack s H args us vs Q hg hr I.env0 hb r h) fun r s' hq => ?_
  match r, hq with
  | .ok (.ret u), hq => exact I.after hq
  | .ok .next, hq => exact False.elim hq
  | .ok .brk, hq => exact False.elim hq
  | .ok .cont, hq => exact False.elim hq
  | .error e, hq => exact False.elim hq
theorem ran_call {pins : List (Addr × Obj)} {σ : L2.St} {H : Hp} {s : Shared} {Q : VK} {us us' : List Value} {vs : List V} {kw : List (Str × Value)} (F : FnG X.prog X.w X.K X.mg X.base k f fd ps sp) (hg : X.A.guards = some []) (hr : Room k X.A) (I : Inv X pins σ H s)
    (hb : BindsTo s fd ⟨us, kw⟩ (ps.zip us')) (r : Vals vs us') (h : sp vs H Q E0) : wpAny (model X.prog X.w) X.A (call (.ref f) us kw) (EP X pins σ Q) X.xe s := by
  refine wpAny_call (codeAny_mono (ran F hg hr I hb r h) fun r s' hq => ?_)
  match r, hq with
  | .ok (.ret u), hq => exact hq
  | .error e, hq => exact hq
theorem pe_callG (F : FnG X.prog X.w X.K X.mg X.base k f fd ps sp) (hg : X.A.guards = some []) (hr : Room k X.A) (gl : Gl X x) (hm : X.mg x = some (.ref f)) (hk : PySem.W.keepIn X.K (.ref f) = true) (hb : Binds X.K fd ps ds) (hd : Vals dvs ds)
    (ha : PA X (e :: es) t) (hdb : (x == ("__debug__" : Str)) = false := by decide) (he : starEach (e :: es) X.env = (false, eval e X.env) :: starEach es X.env := by rfl) (hpl : (backTo pos (starEach es X.env)).any (·.1) = false := by rfl) :
    PE X (.Call (.Name x p) (e :: es) [] pos) (tCall sp dvs E0 t) := by
  refine ⟨fun pins s σ H Q I h => wpAny_Call_Name_kw (ld_glob I gl hm ?_ hdb)⟩
  refine PySem.W.callWith_K (h₀ := X.base) I.ok.mod.kin hk (thn (ha.run pos pins s σ H _ I h) fun us s1 ⟨vs, H1, I1, r, q⟩ => ⟨I1.kIn, ?_⟩) he hpl
  have r2 : Vals (vs ++ dvs) (us ++ ds) := r.append hd
  exact ran_call F hg hr I1 (hb s1 us I1.kIn (by rw [← r2.length]; exact F.len _ _ _ q)) r2 q
theorem pe_callNG {n : Nat} {g : List Value → List Value → List Value} {gV : List V → List V → List V} (F : FnG X.prog X.w X.K X.mg X.base k f fd ps sp) (hg : X.A.guards = some []) (hr : Room k X.A) (gl : Gl X x) (hm : X.mg x = some (.ref f)) (hk : PySem.W.keepIn X.K (.ref f) = true) (hb : KBn X.K fd ps n ks g gV)
    (ha : PA X (e :: es) t) (hkw : PK X kws tk) (hall : (backToKw pos (keywordEach kws X.env)).all (·.1.isSome) = true := by rfl) (hks : (backToKw pos (keywordEach kws X.env)).filterMap (·.1) = ks := by rfl)
    (hdb : (x == ("__debug__" : Str)) = false := by decide) (he : starEach (e :: es) X.env = (false, eval e X.env) :: starEach es X.env := by rfl)
    (hpl : ((backTo pos (starEach (e :: es) X.env)).any (·.1) || (backToKw pos (keywordEach kws X.env)).any (·.1.isNone)) = false := by rfl) :
    PE X (.Call (.Name x p) (e :: es) kws pos) (tCallN n ks.length sp gV E0 t tk) := by
  refine ⟨fun pins s σ H Q I h => wpAny_Call_Name_kw (ld_glob I gl hm ?_ hdb)⟩
  refine PySem.W.callWith_KW (h₀ := X.base) I.ok.mod.kin hk hall (thn (ha.run pos pins s σ H _ I h) fun us s1 ⟨vs, H1, I1, r, q⟩ => ?_) hpl he
  refine thn (hkw.run pos pins s1 σ H1 _ I1 q) fun ws s2 ⟨zs, H2, I2, rz, l1, l2, q2⟩ => ⟨I2.kIn, ?_⟩
  rw [hks]
  exact ran_call F hg hr I2 (hb.to s2 us ws I2.kIn (r.length.symm.trans l1) (rz.length.symm.trans l2)) (hb.rel r rz) q2

/-! ### calls over data -/
variable {K : PySem.W.Frag}
theorem call_P {F : Frm} {O : OA} {M : MS} {σ : L2.St} {H : Hp} {ρ : DE} {wf : WF} {xs : List PyData} {vs : List V} {P : PyData → DE → Prop} {Q : VK} {E : XK} (R : RepS K F O M H σ ρ) (ha : RpAll K M H vs xs) (hw : wf xs fun z => P z ρ)
    (k : ∀ x ρ' v H', RepS K F O M H' σ ρ' → Gr O M H O M H' → Rp K M H' v x → P x ρ' → Q v H') : spP K wf vs H Q E :=
  ⟨M, xs, _, R.ml, ha, hw, fun z v H' s r q => k z ρ v H' (R.same s) (Gr.same s) r q⟩
def wCall (wf : WF) (dds : List PyData) (wr : WA) : WE := fun ρ P => wr ρ fun xs ρ1 => wf (xs ++ dds) fun z => P z ρ1
theorem d_call {wf : WF} {dds : List PyData} (F : FnG X.prog X.w X.K X.mg X.base k f fd ps (spP X.K wf)) (hg : X.A.guards = some []) (hr : Room k X.A) (hm : X.mg x = some (.ref f)) (hk : PySem.W.keepIn X.K (.ref f) = true) (hb : Binds X.K fd ps ds) (hd : Vals dvs ds) (hdd : ∀ M H, RpAll X.K M H dvs dds)
    (ha : PAd X (e :: es) tr wr) (gl : Gl X x := by rfl) (hdb : (x == ("__debug__" : Str)) = false := by decide) (he : starEach (e :: es) X.env = (false, eval e X.env) :: starEach es X.env := by rfl) (hpl : (backTo pos (starEach es X.env)).any (·.1) = false := by rfl) :
    PEd X (.Call (.Name x p) (e :: es) [] pos) (tCall (spP X.K wf) dvs E0 tr) (wCall wf dds wr) := by
  refine ⟨pe_callG F hg hr gl hm hk hb hd ha.p hdb he hpl, fun F O M σ H ρ R P hw Q kk => ?_⟩
  refine ha.i F O M σ H ρ R _ hw _ fun xs ρ1 vs H1 R1 g1 r1 q => ?_
  exact call_P R1 (r1.append (hdd M H1)) q fun x ρ' v H' R' g' r' q' => kk x ρ' v H' R' (g1.trans g' R.om) r' q'
def wCallK (n m : Nat) (wf : WF) (wr wk : WA) : WE := fun ρ P => wr ρ fun xs ρ1 => wk ρ1 fun ys ρ2 => xs.length = n ∧ ys.length = m ∧ wf (xs ++ ys) fun z => P z ρ2
structure PKd (X : Cx) (kws : List Keyword) (t : TA) (w : WA) : Prop where
  p : PK X kws t
  i : ImpA X.K t w
theorem k_nil : PKd X [] tNil wNil := ⟨pk_nil, imp_nil⟩
theorem k_cons {nm : Option Str} (ha : PEd X e te we) (hr : PKd X kws tk wk) : PKd X (⟨nm, e, kpos⟩ :: kws) (tCons te tk) (wCons we wk) := ⟨pk_cons ha.p hr.p, imp_cons ha.i hr.i⟩
theorem d_callK {n : Nat} {wf : WF} (F : FnG X.prog X.w X.K X.mg X.base k f fd ps (spP X.K wf)) (hg : X.A.guards = some []) (hr : Room k X.A) (hm : X.mg x = some (.ref f)) (hk : PySem.W.keepIn X.K (.ref f) = true) (hb : KBn X.K fd ps n ks (· ++ ·) (· ++ ·))
    (ha : PAd X (e :: es) tr wr) (hkw : PKd X kws tk wk) (gl : Gl X x := by rfl) (hall : (backToKw pos (keywordEach kws X.env)).all (·.1.isSome) = true := by rfl) (hks : (backToKw pos (keywordEach kws X.env)).filterMap (·.1) = ks := by rfl)
    (hdb : (x == ("__debug__" : Str)) = false := by decide) (he : starEach (e :: es) X.env = (false, eval e X.env) :: starEach es X.env := by rfl)
    (hpl : ((backTo pos (starEach (e :: es) X.env)).any (·.1) || (backToKw pos (keywordEach kws X.env)).any (·.1.isNone)) = false := by rfl) :
    PEd X (.Call (.Name x p) (e :: es) kws pos) (tCallN n ks.length (spP X.K wf) (· ++ ·) E0 tr tk) (wCallK n ks.length wf wr wk) := by
  refine ⟨pe_callNG F hg hr gl hm hk hb ha.p hkw.p hall hks hdb he hpl, fun F O M σ H ρ R P hw Q kk => ?_⟩
  refine ha.i F O M σ H ρ R _ hw _ fun xs ρ1 vs H1 R1 g1 r1 q => ?_
  refine hkw.i F O M σ H1 ρ1 R1 _ q _ fun ys ρ2 us H2 R2 g2 r2 ⟨l1, l2, q2⟩ => ⟨r1.length.trans l1, r2.length.trans l2, ?_⟩
  exact call_P R2 ((RpAll.gr R1.kp g2 xs vs r1).append r2) q2 fun x ρ' v H' R' g' r' q' => kk x ρ' v H' R' ((g1.trans g2 R.om).trans g' R.om) r' q'
/-- a call that gives a new list -/
theorem call_L {F : Frm} {O : OA} {M : MS} {σ : L2.St} {H : Hp} {ρ : DE} {wf : WFL} {xs : List PyData} {vs : List V} {P : List PyData → DE → Prop} {Q : VK} {E : XK} (R : RepS K F O M H σ ρ) (ha : RpAll K M H vs xs) (hw : wf xs fun z => P z ρ)
    (k : ∀ ys ρ' p vs H', RepS K F O (fun q => M q ∨ q = p) H' σ ρ' → Gr O M H O (fun q => M q ∨ q = p) H' → F.H0 p = none → ¬ M p → H' p = some (.lst vs) → RpAll K (fun q => M q ∨ q = p) H' vs ys → P ys ρ' → Q (.ref p) H') : spL K wf vs H Q E := by
  refine ⟨M, xs, _, R.ml, ha, hw, fun ys p us H' s hp hp' r q => ?_⟩
  have hM : ¬ M p := fun z => by
    have := R.ml p z
    rw [hp] at this
    exact this
  have g : Gr O M H O (fun q => M q ∨ q = p) H' := ⟨fun a z => z.elim .inl fun z => .inr (z ▸ hp), fun i _ z => .inl ⟨i, z⟩, fun a o _ z => s a o z⟩
  have R2 := R.same s
  refine k ys ρ p us H' ⟨R.len, fun a z => .inl (R.sub a z), R.m0, R.b0, fun a z => ?_, fun a z => ?_, R2.fr, fun i y e => ?_, fun i b zs e => ?_, fun i a z => .inl (R.om i a z), R.inj⟩ g (R.fresh0 hp) hM hp' r q
  · rcases z with z | z
    · exact R2.ml a z
    · rw [z, hp']
      trivial
  · rcases z with z | z
    · exact R.mn a z
    · exact .inr (z ▸ R.fresh0 hp)
  · obtain ⟨v, h1, h2⟩ := R.dat i y e
    exact ⟨v, h1, Rp.gr R.kp g y v h2⟩
  · obtain ⟨a, ws, h1, h2, h3, h4, h5⟩ := R.own i b zs e
    exact ⟨a, ws, h1, .inl h2, s _ _ h3, RpAll.gr R.kp g zs ws h4, h5⟩
def wCallL (wf : WFL) (dds : List PyData) (wr : WA) : WL := fun ρ P => wr ρ fun xs ρ1 => wf (xs ++ dds) fun z => P z ρ1
theorem l_call {wf : WFL} {dds : List PyData} (F : FnG X.prog X.w X.K X.mg X.base k f fd ps (spL X.K wf)) (hg : X.A.guards = some []) (hr : Room k X.A) (hm : X.mg x = some (.ref f)) (hk : PySem.W.keepIn X.K (.ref f) = true) (hb : Binds X.K fd ps ds) (hd : Vals dvs ds) (hdd : ∀ M H, RpAll X.K M H dvs dds)
    (ha : PAd X (e :: es) tr wr) (gl : Gl X x := by rfl) (hdb : (x == ("__debug__" : Str)) = false := by decide) (he : starEach (e :: es) X.env = (false, eval e X.env) :: starEach es X.env := by rfl) (hpl : (backTo pos (starEach es X.env)).any (·.1) = false := by rfl) :
    PLd X (.Call (.Name x p) (e :: es) [] pos) (tCall (spL X.K wf) dvs E0 tr) (wCallL wf dds wr) := by
  refine ⟨pe_callG F hg hr gl hm hk hb hd ha.p hdb he hpl, fun F O M σ H ρ R P hw Q kk => ?_⟩
  refine ha.i F O M σ H ρ R _ hw _ fun xs ρ1 vs H1 R1 g1 r1 q => ?_
  exact call_L R1 (r1.append (hdd M H1)) q fun ys ρ' p vs H' R' g' h0 hm' hp r' q' => kk ys ρ' p vs H' R' (g1.trans g' R.om) h0 hm' hp r' q'
def wCallLK (n m : Nat) (wf : WFL) (wr wk : WA) : WL := fun ρ P => wr ρ fun xs ρ1 => wk ρ1 fun ys ρ2 => xs.length = n ∧ ys.length = m ∧ wf (xs ++ ys) fun z => P z ρ2
theorem l_callK {n : Nat} {wf : WFL} (F : FnG X.prog X.w X.K X.mg X.base k f fd ps (spL X.K wf)) (hg : X.A.guards = some []) (hr : Room k X.A) (hm : X.mg x = some (.ref f)) (hk : PySem.W.keepIn X.K (.ref f) = true) (hb : KBn X.K fd ps n ks (· ++ ·) (· ++ ·))
    (ha : PAd X (e :: es) tr wr) (hkw : PKd X kws tk wk) (gl : Gl X x := by rfl) (hall : (backToKw pos (keywordEach kws X.env)).all (·.1.isSome) = true := by rfl) (hks : (backToKw pos (keywordEach kws X.env)).filterMap (·.1) = ks := by rfl)
    (hdb : (x == ("__debug__" : Str)) = false := by decide) (he : starEach (e :: es) X.env = (false, eval e X.env) :: starEach es X.env := by rfl)
    (hpl : ((backTo pos (starEach (e :: es) X.env)).any (·.1) || (backToKw pos (keywordEach kws X.env)).any (·.1.isNone)) = false := by rfl) :
    PLd X (.Call (.Name x p) (e :: es) kws pos) (tCallN n ks.length (spL X.K wf) (· ++ ·) E0 tr tk) (wCallLK n ks.length wf wr wk) := by
  refine ⟨pe_callNG F hg hr gl hm hk hb ha.p hkw.p hall hks hdb he hpl, fun F O M σ H ρ R P hw Q kk => ?_⟩
  refine ha.i F O M σ H ρ R _ hw _ fun xs ρ1 vs H1 R1 g1 r1 q => ?_
  refine hkw.i F O M σ H1 ρ1 R1 _ q _ fun ys ρ2 us H2 R2 g2 r2 ⟨l1, l2, q2⟩ => ⟨r1.length.trans l1, r2.length.trans l2, ?_⟩
  exact call_L R2 ((RpAll.gr R1.kp g2 xs vs r1).append r2) q2 fun zs ρ' p vs H' R' g' h0 hm' hp r' q' => kk zs ρ' p vs H' R' ((g1.trans g2 R.om).trans g' R.om) h0 hm' hp r' q'
/-- a call whose first argument is one's own list, which it may change -/
def wCallB (i : Nat) (wf : WFB) (wr : WA) : WE := fun ρ P => (∃ b ds, ρ[i]? = some (some (.o b ds))) ∧ wr ρ fun xs ρ1 => ∃ b ds, ρ1[i]? = some (some (.o b ds)) ∧ wf ds xs fun z ds' => P z (ρ1.set i (some (.o b ds')))
theorem d_callB (i : Nat) {y : Str} {py : Pos} {wf : WFB} (F : FnG X.prog X.w X.K X.mg X.base k f fd ps (spB X.K wf)) (hg : X.A.guards = some []) (hr : Room k X.A) (hm : X.mg x = some (.ref f)) (hk : PySem.W.keepIn X.K (.ref f) = true) (hb : Binds X.K fd ps []) (ha : PAd X es tr wr)
    (hN : X.N[i]? = some y := by rfl) (hv : Vis X.env.scope y := by first | exact Or.inl rfl | exact Or.inr (Or.inl rfl) | exact Or.inr (Or.inr rfl)) (hd : (y == ("__debug__" : Str)) = false := by decide) (hcd : (y == ("__classdict__" : Str)) = false := by decide)
    (gl : Gl X x := by rfl) (hdb : (x == ("__debug__" : Str)) = false := by decide) (he : starEach (.Name y py :: es) X.env = (false, eval (.Name y py) X.env) :: starEach es X.env := by rfl) (hpl : (backTo pos (starEach es X.env)).any (·.1) = false := by rfl) :
    PEd X (.Call (.Name x p) (.Name y py :: es) [] pos) (tCall (spB X.K wf) [] E0 (tCons (tVar i) tr)) (wCallB i wf wr) := by
  refine ⟨pe_callG F hg hr gl hm hk hb .nil (pa_cons (pe_var hN hv hd hcd) ha.p he) hdb he hpl, fun F O M σ H ρ R P hw Q kk => ?_⟩
  obtain ⟨⟨b0, ds0, e0⟩, hw⟩ := hw
  obtain ⟨p0, vs0, h1, h2, h3, h4, h5⟩ := R.own i b0 ds0 e0
  refine ⟨.ref p0, h1, ?_⟩
  refine ha.i F O M σ H ρ R _ hw _ fun xs ρ1 vs H1 R1 g1 r1 ⟨b1, ds1, e1, q⟩ => ?_
  obtain ⟨p1, bs1, z1, z2, z3, z4, z5, z6⟩ := R1.own i b1 ds1 e1
  rw [h1] at z1
  cases z1
  show spB X.K wf (.ref p0 :: vs ++ []) H1 Q E0
  rw [List.append_nil]
  refine ⟨M, p0, vs, bs1, ds1, xs, _, R1.ml, rfl, z2, z3, z4, r1, q, fun z ds' v bs' H' fr hp' rb rv q' => ?_⟩
  have ne : ∀ (a : Addr), (∀ j, O j ≠ some a) → a ≠ p0 := fun a n z => n i (z ▸ z6)
  have g : Gr O M H1 O M H' := ⟨fun _ z => .inl z, fun j _ z => .inl ⟨j, z⟩, fun a o n z => fr a o (ne a n) z⟩
  have ml' : ∀ a, M a → Mut (H' a) := fun a ha => by
    by_cases z : a = p0
    · rw [z, hp']
      trivial
    · have m := R1.ml a ha
      cases e : H1 a with
      | none => rw [e] at m; exact m.elim
      | some o => rw [fr a o z e, ← e]; exact m
  have key : ∀ (j : Nat) (s s' : Option Sl), (ρ1.set i s')[j]? = some s → (j = i ∧ s = s') ∨ (j ≠ i ∧ ρ1[j]? = some s) := fun _ _ _ e => (set_key e).imp (fun q => ⟨q.1, q.2.1⟩) id
  refine kk z _ v H' ⟨by rw [List.length_set]; exact R1.len, R1.sub, R1.m0, R1.b0, ml', R1.mn, fun a o e n => ?_, fun j y e => ?_, fun j c ys e => ?_, R1.om, fun j l c d ys zs a y1 y2 w1 w2 => ?_⟩ (g1.trans g R.om) rv q'
  · by_cases z : a = p0
    · subst z
      have := R1.fr a o e n
      cases b1 with
      | true =>
        rw [if_pos rfl] at z5
        rw [z5] at e
        cases e
      | false =>
        rw [if_neg Bool.false_ne_true] at z5
        exact absurd z5 (n i)
    · exact fr a o z (R1.fr a o e n)
  · rcases key j _ _ e with ⟨_, q⟩ | ⟨_, q⟩
    · cases q
    · obtain ⟨v, y1, y2⟩ := R1.dat j y q
      exact ⟨v, y1, Rp.gr R1.kp g y v y2⟩
  · rcases key j _ _ e with ⟨q0, q⟩ | ⟨hj, q⟩
    · cases q
      subst q0
      exact ⟨p0, bs', h1, z2, hp', rb, z5, z6⟩
    · obtain ⟨a, ws, y1, y2, y3, y4, y5⟩ := R1.own j c ys q
      have na : a ≠ p0 := fun z => by
        subst z
        exact hj (R1.inj j i _ _ _ _ _ q e1 y1 h1)
      exact ⟨a, ws, y1, y2, fr a _ na y3, RpAll.gr R1.kp g ys ws y4, y5⟩
  · have o1 : ∃ c' ys', ρ1[j]? = some (some (.o c' ys')) := by
      rcases key j _ _ y1 with ⟨q0, _⟩ | ⟨_, q⟩
      · rw [q0]; exact ⟨_, _, e1⟩
      · exact ⟨_, _, q⟩
    have o2 : ∃ c' ys', ρ1[l]? = some (some (.o c' ys')) := by
      rcases key l _ _ y2 with ⟨q0, _⟩ | ⟨_, q⟩
      · rw [q0]; exact ⟨_, _, e1⟩
      · exact ⟨_, _, q⟩
    obtain ⟨_, _, o1⟩ := o1
    obtain ⟨_, _, o2⟩ := o2
    exact R1.inj j l _ _ _ _ a o1 o2 w1 w2
end

/-! ### the law's own end -/
theorem lawG {P : Program} {w : World} {K : PySem.W.Frag} {mg mb : Str → Option Value} {k : Nat} {fa a : Addr} {fd : FuncData} {x : Str} {wf : WF} {s1 : Shared} {vs : List Value} {ns : List Int}
    (KX : K.In s1.heap) (hns : s1.heap.Ns mainGlobals mg) (hb : s1.heap.Ns builtinsNs mb) (hbb : ∀ x : Str, x ≠ "__name__" → mb x = bootBuiltins x) (hlim : s1.heap.NoLimit) (hg : s1.gens = #[])
    (ha : s1.heap.get? a = some { cls := .type "list", data := .seq vs.toArray }) (hi : IntsAre vs ns) (hl : ns.length ≤ sizeLine) (hr : Room k callerA)
    (F : ∀ base : Heap, K.In base → base.Ns mainGlobals mg → FnG P w K mg base k fa fd [x] (spP K wf)) (hbind : ∀ (s : Shared) (u : Value), BindsTo s fd ⟨[u], []⟩ [(x, u)])
    (hw : wf [scrD ns] fun z => z = .bool true) :
    codeAny (model P w) callerA (.call (.ref fa) ⟨[.ref a], []⟩) (fun r s' => r = .ok (.ret (.bool true)) ∧ OldK s1.heap s'.heap ∧ s'.os = s1.os ∧ AllBare s'.gens) s1 := by
  have rv := vals_ints hi
  have go : ∀ H : Hp, (∀ b, H b = none ∨ (b = a ∧ ∃ xs, H b = some (.frz { cls := .type "list", data := .seq vs.toArray } (.lst xs)))) → (H a ≠ none → K.lookup a = none) → HOk P w H s1.heap → Rp K (fun _ => False) H (.ref a) (scrD ns) →
      codeAny (model P w) callerA (.call (.ref fa) ⟨[.ref a], []⟩) (fun r s' => r = .ok (.ret (.bool true)) ∧ OldK s1.heap s'.heap ∧ s'.os = s1.os ∧ AllBare s'.gens) s1 := by
    intro H only hK hok rp
    have free : ∀ {b : Addr} {o : Obj}, s1.heap.get? b = some o → (∀ xs n, o.data ≠ .seq xs n) → H b = none := fun {b o} e d => by
      rcases only b with z | ⟨z, _⟩
      · exact z
      · subst z
        rw [ha] at e
        cases e
        exact absurd rfl (d _ _)
    have ns' : ∀ {b : Addr} {m : Str → Option Value}, s1.heap.Ns b m → (hidT s1.heap H).Ns b m := fun {b m} ⟨o, es, ep, e, d, r⟩ => ⟨o, es, ep, hidT_get e (free e fun xs n z => by rw [d] at z; cases z), d, r⟩
    have kb : K.In (hidT s1.heap H) := fun b o e => hidT_get (KX b o e) (by
      rcases only b with z | ⟨z, ⟨xs, z2⟩⟩
      · exact z
      · subst z
        rw [hK (by rw [z2]; simp)] at e
        cases e)
    have md : Mod K mg (hidT s1.heap H) := ⟨kb, ns' hns, ⟨mb, ns' hb, hbb⟩, let ⟨mc, h1, h2⟩ := hlim; ⟨mc, ns' h1, h2⟩⟩
    have e0 : Env0 P w K mg (hidT s1.heap H) callerA [] s1 H := ⟨rfl, md, fun b o e => of_hidT e, Nat.le_of_eq (hidT_size _ _), trivial, fun b hb => absurd hb (by simp [frs]), hok, .of_eq hg⟩
    refine codeAny_mono ((F _ kb (ns' hns)).run callerA [] s1 H ⟨[.ref a], []⟩ [.ref a] [.ref a] (fun v _ => v = .bl true) rfl hr e0 (hbind s1 (.ref a)) (.cons rfl .nil)
      ⟨fun _ => False, [scrD ns], _, fun _ z => z.elim, .cons rp .nil, hw, fun z v H' _ r q => by subst q; cases r; rfl⟩) fun r s' h => ?_
    match r, h with
    | .ok (.ret u), h =>
      obtain ⟨v, H', os, bare, un, hok', r', q⟩ := h
      have q' : v = .bl true := q
      subst q'
      have r'' : u = Value.bool true := r'
      subst r''
      refine ⟨rfl, OldK.of_keep fun b o e => ?_, os, bare⟩
      rcases only b with z | ⟨_, xs, z⟩
      · exact un.keep b o e z (by simp [frs]) (by simp)
      · obtain ⟨e1, _⟩ := hok b _ z
        obtain ⟨e2, _⟩ := hok' b _ (un.frzs b _ _ z)
        rw [e] at e1
        cases e1
        exact e2
    | .ok .next, h => exact False.elim h
    | .ok .brk, h => exact False.elim h
    | .ok .cont, h => exact False.elim h
    | .error e, h => exact False.elim h
  cases hk : K.lookup a with
  | some o =>
    have e := KX a o hk
    rw [ha] at e
    cases e
    refine go (fun _ => none) (fun _ => .inl rfl) (fun z => absurd rfl z) (fun b u z => by cases z) (.scr rfl (.inr fun H' => .inr ⟨_, vs.toArray, _, hk, rfl, rfl, rfl, ?_, by simpa using rv⟩))
    rw [List.size_toArray, hi.length]
    exact hl
  | none =>
    refine go (fun b => if b = a then some (.frz { cls := .type "list", data := .seq vs.toArray } (.lst (ns.map V.int))) else none) (fun b => ?_) (fun _ => hk) (fun b u z => ?_) (.scr rfl (.inl ⟨id, .inr ⟨_, if_pos rfl⟩⟩))
    · by_cases hb : b = a
      · exact .inr ⟨hb, _, if_pos hb⟩
      · exact .inl (if_neg hb)
    · by_cases hb : b = a
      · have z' := (if_pos hb).symm.trans z
        cases z'
        subst hb
        exact ⟨ha, by rw [List.length_map]; exact hl, vs, _, rv, ha⟩
      · have z' := (if_neg hb).symm.trans z
        cases z'
theorem walkG {l : PySem.W.OpenLaw} {n k : Nat} {q : Program} {loose : List Str} {XP : (Str → Option Value) → Heap → Prop} {YP : World → Heap → Prop} {d : DefRec} {K : Params → PySem.W.Frag} {wf : WF} {x : Str}
    (hn : l.most = some n) (hn2 : n ≤ sizeLine) (hdf : d.params.defaults = []) (hr : Room k callerA) (hY : ∀ (w : World) (h : Heap), YP w h → (K w.params).In h)
    (F : ∀ (w : World) (mg : Str → Option Value) (fa : Addr) (h : Heap), (K w.params).In h → h.Ns mainGlobals mg → mg d.name = some (.ref fa) →
      ∃ fd : FuncData, (∀ (s : Shared) (u : Value), BindsTo s fd ⟨[u], []⟩ [(x, u)]) ∧ ∀ base : Heap, (K w.params).In base → base.Ns mainGlobals mg → FnG l.prog w (K w.params) mg base k fa fd [x] (spP (K w.params) wf))
    (hw : ∀ ns : List Int, ns.length ≤ n → wf [scrD ns] fun z => z = .bool true) : PySem.W.WalkO q loose XP YP l.row.toRowW d [] (fun f vs => PySem.call f vs) := by
  refine Att.attach_call hn hdf fun w s0 s1 mg mb fa o pm cd doc a vs ns G Y ho hd hcd hmg hobj hints hlen hg => ?_
  obtain ⟨fd, hb, hF⟩ := F w mg fa _ (hY w _ Y) G.T.g hmg
  exact lawG (hY w _ Y) G.T.g G.T.b G.T.builtins G.T.nolimit hg hobj hints (Nat.le_trans hlen hn2) hr hF hb (hw ns hlen)
end Dat
namespace Dat
open PySem PySem.Spec PyProof.Rows L2

/-! ### a, *b = t -/
theorem unpackStarT {prog : Program} {w : World} {A : Around} {E : Value → Shared → Prop} {s : Shared} {t : Addr} {items : Array Value} {i : Nat} {Q : List Value → Shared → Prop} (hh : A.handled = none) (ht : IsTup s.heap t items) (hi : i ≤ items.size) (hz : items.size ≤ 16384)
    (hQ : ∀ (h' : Heap) (tk : Nat), (∀ b o, s.heap.get? b = some o → h'.get? b = some o) → Q (items.toList.take i ++ [.ref h'.objs.size]) { s with heap := h'.push { cls := .type "list", data := .seq (items.toList.drop i).toArray }, toks := tk }) :
    wpAny (model prog w) A (unpackItems (.ref t) (i + 1) (some i)) Q E s := by
  obtain ⟨o0, ho0, _⟩ := id ht
  have hne : t ≠ s.heap.objs.size := Nat.ne_of_lt (Heap.lt_size ho0)
  unfold unpackItems
  refine wpAny_bind ?_
  unfold notIterableAtAll
  refine wpAny_bind (wpAny_specialOf ht.typeIs slot_tuple_iter.lookup (wpAny_pure ?_))
  simp only [Bool.false_eq_true, if_false]
  refine wpAny_bind (wpAny_holding (iter_tuple ht ?_))
  refine wpAny_bind (wpAny_holding (draw_tuple hne i 0 _ _ ⟨_, Heap.get?_push_size _ rfl, rfl, rfl⟩ (ht.push _) (by omega) fun h1 it1 sb1 => ?_))
  have ht1 : IsTup h1 t items := (ht.push _).extBut sb1.extBut hne
  rw [Nat.zero_add] at it1
  obtain ⟨oi, hoi, _⟩ := id it1
  obtain ⟨ol, hol, _⟩ := id ht1
  rw [List.drop_zero, if_neg (by rw [List.length_take, Array.length_toList]; omega)]
  refine wpAny_bind (wpAny_holding (PySem.W.kun_collect (s := { s with heap := h1 }) (T := "tuple_iterator") (.inr (.inr (.inr rfl))) (Walks.tuple (A := A.in1) hh s.heap.objs.size t hne items) (fun j u st => st.1.typeIs) (k := i) hi ⟨it1, ht1⟩ (Heap.lt_size hoi) (Heap.lt_size hol) (fun h2 tk kp => ?_) (by rw [sizeLine_eq]; omega)))
  have hl : (items.toList.drop i).length - (i + 1 - 1 - i) = (items.toList.drop i).length := by omega
  show wpAny _ _ (if (items.toList.drop i).length < i + 1 - 1 - i then _ else _) _ _ _
  rw [if_neg (by omega)]
  show wpAny _ _ (newList ((items.toList.drop i).take ((items.toList.drop i).length - (i + 1 - 1 - i))) >>= fun d => pure (items.toList.take i ++ [d] ++ (items.toList.drop i).drop ((items.toList.drop i).length - (i + 1 - 1 - i)))) _ _ _
  rw [hl, List.take_length, List.drop_length]
  refine wpAny_bind (wpAny_newObj_type (wpAny_pure ?_) (by show (items.toList.drop i).toArray.size ≤ sizeLine; rw [List.size_toArray, List.length_drop, Array.length_toList, sizeLine_eq]; omega))
  rw [List.append_nil]
  exact hQ h2 tk fun b o e => kp b o (Nat.ne_of_lt (Heap.lt_size e)) (sb1.extBut b o (Nat.ne_of_lt (Heap.lt_size e)) (Heap.get?_push_of_some _ e))
section
variable {K : PySem.W.Frag} {X : Cx} {tg a b c e : Expr} {es : List Expr} {ta tb tc te : TE} {wa wb wc we : WE} {pos p1 : Pos} {tr : TA} {wr : WA}
def gStar (K : PySem.W.Frag) (i : Nat) (t : TGs) : TG := fun v σ H Q => ∃ a xs, v = .ref a ∧ SqT K H a xs ∧ i ≤ xs.length ∧ xs.length ≤ 16384 ∧ ∀ p, H p = none → t (xs.take i ++ [.ref p]) σ (upd H p (.lst (xs.drop i))) Q
theorem pg_star {k i : Nat} {t : TGs} (hc : X.calm = true) (h : PGs X es t) (hn : (assignEach es X.env).length = i + 1) (hst : (assignEach es X.env).findIdx? (·.1) = some i) : PG X (.Tuple es k pos) (gStar X.K i t) := by
  refine ⟨fun pins s σ H v u Q I r hw => ?_⟩
  obtain ⟨a, xs, e1, hq, h1, h2, hw⟩ := hw
  subst e1
  cases r
  obtain ⟨its, rv, ht, hz⟩ := I.tuple hq
  have hl := rv.length
  rw [assign_Tuple]
  refine wpAny_bind (wpAny_standAt ?_)
  unfold unpack
  rw [hn, hst]
  refine wpAny_bind (wpAny_holding (unpackStarT (I.ok.hd hc) ht (by rw [List.size_toArray]; omega) (by rw [List.size_toArray]; omega) fun h' tk kp => ?_))
  have I1 : Inv X pins σ H { s with heap := h', toks := tk } := I.kept kp
  have I2 := I1.lnew (its := its.drop i) (t' := tk) (rv.drop i) (by rw [List.length_drop]; omega)
  exact h.run pins _ σ _ (xs.take i ++ [.ref h'.objs.size]) _ Q I2 ((rv.take i).append (.cons (show L2.RelV (.ref h'.objs.size) (.ref h'.objs.size) from rfl) .nil)) (hw _ I1.fresh)
theorem pgs_star {t : TG} {u : TGs} (h1 : PG X e t) (h2 : PGs X es u) (hs : (assignEach (.Starred e p1 :: es) X.env).map (·.2) = assign e X.env :: (assignEach es X.env).map (·.2) := by rfl) : PGs X (.Starred e p1 :: es) (gCons t u) := by
  refine ⟨fun pins s σ H vs us Q I r h => ?_⟩
  obtain ⟨v, vr, e1, h⟩ := h
  subst e1
  cases r with
  | cons r rr =>
    rw [hs]
    refine assignInOrder_cons (thn (h1.run pins s σ H _ _ _ I r h) fun _ s1 ⟨σ1, H1, I1, q1⟩ => ?_)
    exact h2.run pins s1 σ1 H1 _ _ Q I1 rr q1
def wgStar (i : Nat) (wg : WGs) : WG := fun x ρ P => ∃ xs, x = .tuple xs ∧ i ≤ xs.length ∧ xs.length ≤ 16384 ∧ wg (xs.take i ++ [.list (xs.drop i)]) ρ P
theorem g_star {k i : Nat} {g : TGs} {wg : WGs} (h : PGsd X es g wg) (hc : X.calm = true := by rfl) (hn : (assignEach es X.env).length = i + 1 := by rfl) (hst : (assignEach es X.env).findIdx? (·.1) = some i := by rfl) : PGd X (.Tuple es k pos) (gStar X.K i g) (wgStar i wg) := by
  refine ⟨pg_star hc h.p hn hst, fun F O M σ H ρ R x v r P hp Q kk => ?_⟩
  obtain ⟨xs, e, h1, h2, hp⟩ := hp
  subst e
  cases r with
  | @tup _ us _ e1 a1 =>
    refine ⟨_, us, rfl, e1, by rw [a1.length]; exact h1, by rw [a1.length]; exact h2, fun p hn => ?_⟩
    have s1 := same_new (o := .lst (us.drop i)) hn
    exact h.i F O M σ _ ρ (R.same s1) _ _ (((a1.take i).same R.ml s1).append (.cons (rp_newL R.ml hn (a1.drop i)) .nil)) P hp Q fun ρ' σ' H' R' s2 q => kk ρ' σ' H' R' (s1.trans s2) q
theorem gs_star {g : TG} {gr : TGs} {wg : WG} {wgr : WGs} (h1 : PGd X e g wg) (h2 : PGsd X es gr wgr) (hs : (assignEach (.Starred e p1 :: es) X.env).map (·.2) = assign e X.env :: (assignEach es X.env).map (·.2) := by rfl) : PGsd X (.Starred e p1 :: es) (gCons g gr) (wgCons wg wgr) := by
  refine ⟨pgs_star h1.p h2.p hs, fun F O M σ H ρ R xs vs r P hp Q k => ?_⟩
  obtain ⟨x, xr, e, hp⟩ := hp
  subst e
  cases r with
  | cons r1 r2 =>
    refine ⟨_, _, rfl, h1.i F O M σ H ρ R _ _ r1 _ hp _ fun ρ1 σ1 H1 R1 s1 q1 => ?_⟩
    exact h2.i F O M σ1 H1 ρ1 R1 _ _ (r2.same R.ml s1) _ q1 _ fun ρ2 σ2 H2 R2 s2 q2 => k ρ2 σ2 H2 R2 (s1.trans s2) q2

/-! ### slices -/
def fSl (lo hi : Option Int) : PyData → Option PyData
  | .list xs => some (.list ((xs.drop (HT.sIx xs.length 0 lo)).take (HT.sIx xs.length xs.length hi - HT.sIx xs.length 0 lo)))
  | .tuple xs => some (.tuple ((xs.drop (HT.sIx xs.length 0 lo)).take (HT.sIx xs.length xs.length hi - HT.sIx xs.length 0 lo)))
  | _ => none
def WO := DE → (Option Int → DE → Prop) → Prop
def ImpO (K : PySem.W.Frag) (t : TO) (w : WO) : Prop := ∀ (F : Frm) (O : OA) (M : MS) (σ : L2.St) (H : Hp) (ρ : DE), RepS K F O M H σ ρ → ∀ P, w ρ P → ∀ Q : Option Int → Hp → Prop,
  (∀ o ρ' H', RepS K F O M H' σ ρ' → Gr O M H O M H' → P o ρ' → Q o H') → t σ H Q
structure POd (X : Cx) (e : Option Expr) (t : TO) (w : WO) : Prop where
  p : PO X e t
  i : ImpO X.K t w
def woNone : WO := fun ρ P => P none ρ
def woSome (we : WE) : WO := fun ρ P => we ρ fun x ρ1 => ∃ i, x = .int i ∧ P (some i) ρ1
theorem o_none : POd X none tNoPart woNone := ⟨po_none, fun F O M σ H ρ R P hp Q k => k none ρ H R (Gr.refl O M H) hp⟩
theorem o_some (h : PEd X e te we) : POd X (some e) (tPart te) (woSome we) := by
  refine ⟨po_some h.p, fun F O M σ H ρ R P hp Q k => ?_⟩
  refine h.i F O M σ H ρ R _ hp _ fun x ρ1 v H1 R1 g1 r1 ⟨i, e, q⟩ => ?_
  subst e
  cases r1
  exact ⟨i, rfl, k _ ρ1 H1 R1 g1 q⟩
def rSlD (K : PySem.W.Frag) : V → Option Int → Option Int → Hp → VK → Prop := fun x lo hi H Q => rSlL K x lo hi H Q ∨ rSlA K x lo hi H Q
def wSl (we : WE) (wl wh : WO) : WE := fun ρ P => we ρ fun x ρ1 => wl ρ1 fun lo ρ2 => wh ρ2 fun hi ρ3 => ∃ z, fSl lo hi x = some z ∧ P z ρ3
theorem d_slice {lo hi : Option Expr} {tl th : TO} {wl wh : WO} {p2 : Pos} (he : PEd X e te we) (hl : POd X lo tl wl) (hh : POd X hi th wh) : PEd X (.Subscript e (.Slice lo hi none p2) pos) (tSl (rSlD X.K) te tl th) (wSl we wl wh) := by
  refine ⟨pe_slice (SlR.or sl_list sl_tupA) he.p hl.p hh.p, fun F O M σ H ρ R P hw Q k => ?_⟩
  refine he.i F O M σ H ρ R _ hw _ fun x ρ1 v H1 R1 g1 r1 hw1 => ?_
  refine hl.i F O M σ H1 ρ1 R1 _ hw1 _ fun l ρ2 H2 R2 g2 hw2 => ?_
  refine hh.i F O M σ H2 ρ2 R2 _ hw2 _ fun u ρ3 H3 R3 g3 ⟨z, e, hp⟩ => ?_
  have r3 := Rp.gr R2.kp g3 x v (Rp.gr R1.kp g2 x v r1)
  have g := (g1.trans g2 R.om).trans g3 R.om
  cases r3 with
  | lst n1 e1 h1 =>
    cases e
    refine .inl ⟨_, _, rfl, SqL.of e1, fun p hp' => k _ ρ3 _ _ (R3.same (same_new hp')) (g.trans (Gr.same (same_new hp')) R.om) ?_ hp⟩
    unfold cutV
    rw [h1.length]
    exact rp_newL R3.ml hp' ((h1.drop _).take _)
  | tup e1 h1 =>
    cases e
    refine .inr ⟨_, _, rfl, e1, fun hw' => ?_, fun _ p hp' => k _ ρ3 _ _ (R3.same (same_new hp')) (g.trans (Gr.same (same_new hp')) R.om) ?_ hp⟩
    · rw [h1.length] at hw'
      refine k _ ρ3 _ H3 R3 g ?_ hp
      rw [hw'.1, hw'.2, List.drop_zero, Nat.sub_zero, List.take_length]
      exact .tup e1 h1
    · unfold cutV
      rw [h1.length]
      exact rp_newT R3.ml hp' ((h1.drop _).take _)
  | _ => simp [fSl] at e

/-! ### {'a': e, ..}[k], {'a': e, ..}.get(k, d) -/
theorem RepS.apartO {F : Frm} {O : OA} {M : MS} {H : Hp} {σ : L2.St} {ρ : DE} (r : RepS K F O M H σ ρ) {p : Addr} {o : HO} (hp : H p = none) (hm : Mut (some o)) : RepS K F O (fun q => M q ∨ q = p) (upd H p o) σ ρ ∧ Gr O M H O (fun q => M q ∨ q = p) (upd H p o) := by
  have s := same_new (o := o) hp
  have g : Gr O M H O (fun q => M q ∨ q = p) (upd H p o) := ⟨fun a q => q.elim .inl fun z => .inr (z ▸ hp), fun i _ q => .inl ⟨i, q⟩, fun a o _ e => s a o e⟩
  have r2 := r.same s
  refine ⟨⟨r.len, fun a q => .inl (r.sub a q), r.m0, r.b0, fun a q => ?_, fun a q => ?_, r2.fr, fun i x e => ?_, fun i b xs e => ?_, fun i q e => .inl (r.om i q e), r.inj⟩, g⟩
  · rcases q with q | q
    · exact r2.ml a q
    · rw [q, upd_same]
      exact hm
  · rcases q with q | q
    · exact r.mn a q
    · exact .inr (q ▸ r.fresh0 hp)
  · obtain ⟨v, h1, h2⟩ := r.dat i x e
    exact ⟨v, h1, Rp.gr r.kp g x v h2⟩
  · obtain ⟨q, vs, h1, h2, h3, h4, h5⟩ := r.own i b xs e
    exact ⟨q, vs, h1, .inl h2, s _ _ h3, RpAll.gr r.kp g xs vs h4, h5⟩
/-- an object that nobody holds is written -/
theorem RepS.set {F : Frm} {O : OA} {M : MS} {H : Hp} {σ : L2.St} {ρ : DE} {p : Addr} {o : HO} (r : RepS K F O M H σ ρ) (hM : M p) (hO : ∀ i, O i ≠ some p) (hm : Mut (some o)) (h0 : F.H0 p = none) : RepS K F O M (upd H p o) σ ρ ∧ ∀ ds vs, RpAll K M H vs ds → RpAll K M (upd H p o) vs ds := by
  have aw : ∀ d v, Rp K M H v d → Rp K M (upd H p o) v d := fun d v h => Rp.gr (O := fun i => if i = 0 then some p else none) (O' := fun i => if i = 0 then some p else none) ⟨r.ml, fun i q e => by
    by_cases z : i = 0
    · rw [if_pos z] at e
      cases e
      exact hM
    · rw [if_neg z] at e
      cases e⟩ ⟨fun _ q => .inl q, fun i _ q => .inl ⟨i, q⟩, fun a o n q => by
    have z : a ≠ p := fun z => n 0 (by rw [if_pos rfl, z])
    rw [upd_ne z]
    exact q⟩ d v h
  have awA : ∀ (ds : List PyData) (vs : List V), RpAll K M H vs ds → RpAll K M (upd H p o) vs ds := by
    intro ds
    induction ds with
    | nil => intro vs h; cases h; exact .nil
    | cons d ds ih => intro vs h; cases h with | cons h1 h2 => exact .cons (aw _ _ h1) (ih _ h2)
  refine ⟨⟨r.len, r.sub, r.m0, r.b0, fun a q => ?_, r.mn, fun a x e n => ?_, fun i x e => ?_, fun i b xs e => ?_, r.om, r.inj⟩, awA⟩
  · by_cases z : a = p
    · rw [z, upd_same]
      exact hm
    · rw [upd_ne z]
      exact r.ml a q
  · have z : a ≠ p := fun z => by
      rw [z, h0] at e
      cases e
    rw [upd_ne z]
    exact r.fr a x e n
  · obtain ⟨v, h1, h2⟩ := r.dat i x e
    exact ⟨v, h1, aw _ _ h2⟩
  · obtain ⟨q, ws, h1, h2, h3, h4, h5, h6⟩ := r.own i b xs e
    have z : q ≠ p := fun z => hO i (z ▸ h6)
    exact ⟨q, ws, h1, h2, by rw [upd_ne z]; exact h3, awA _ _ h4, h5, h6⟩
def trsOf : List Str → List TE → List (TE × TE)
  | k :: ks, t :: ts => (tC (.str k), t) :: trsOf ks ts
  | _, _ => []
/-- the values of a display, from the left -/
inductive PVd (X : Cx) (pos : Pos) : List (Option Expr) → List Expr → List Str → List TE → List WE → Prop
  | nil : PVd X pos [] [] [] [] []
  | cons {ks : List (Option Expr)} {vs : List Expr} {zs : List Str} {ts : List TE} {ws : List WE} {z : Str} {j : Nat} {kp : Pos} {e : Expr} {te : TE} {we : WE} : PEd X e te we → PVd X pos ks vs zs ts ws → PVd X pos (some (.Constant (.str z) j kp) :: ks) (e :: vs) (z :: zs) (te :: ts) (we :: ws)
def wVals : List WE → WA
  | [] => wNil
  | w :: ws => wCons w (wVals ws)
theorem PVd.pps {keys : List (Option Expr)} {vals : List Expr} {zs : List Str} {ts : List TE} {ws : List WE} (h : PVd X pos keys vals zs ts ws) : PPs X pos keys vals (trsOf zs ts) := by
  induction h with
  | nil => exact pps_nil
  | cons h1 h2 ih => exact pps_cons pe_str h1.p ih
theorem PVd.imp {keys : List (Option Expr)} {vals : List Expr} {zs : List Str} {ts : List TE} {ws : List WE} (h : PVd X pos keys vals zs ts ws) : ∀ (F : Frm) (O : OA) (M : MS) (σ : L2.St) (H : Hp) (ρ : DE), RepS X.K F O M H σ ρ → ∀ P, wVals ws ρ P → ∀ Q : List (V × V) → Hp → Prop,
    (∀ xs ρ' vs H', RepS X.K F O M H' σ ρ' → Gr O M H O M H' → RpAll X.K M H' vs xs → zs.length = vs.length → P xs ρ' → Q ((zs.map V.str).zip vs) H') → tPairs (trsOf zs ts) σ H Q := by
  induction h with
  | nil => intro F O M σ H ρ R P hp Q k; exact k [] ρ [] H R (Gr.refl O M H) .nil rfl hp
  | cons h1 h2 ih =>
    intro F O M σ H ρ R P hp Q k
    refine h1.i F O M σ H ρ R _ hp _ fun x ρ1 v H1 R1 g1 r1 hp1 => ?_
    refine ih F O M σ H1 ρ1 R1 _ hp1 _ fun xs ρ2 vs H2 R2 g2 r2 hl q => ?_
    exact k (x :: xs) ρ2 (v :: vs) H2 R2 (g1.trans g2 R.om) (.cons (Rp.gr R1.kp g2 x v r1) r2) (by rw [List.length_cons, List.length_cons, hl]) q
theorem PVd.len {keys : List (Option Expr)} {vals : List Expr} {zs : List Str} {ts : List TE} {ws : List WE} (h : PVd X pos keys vals zs ts ws) : keys.all (·.isSome) = true ∧ keys.length = vals.length ∧ keys.length = zs.length := by
  induction h with
  | nil => exact ⟨rfl, rfl, rfl⟩
  | cons h1 h2 ih => exact ⟨by rw [List.all_cons]; exact Bool.and_eq_true_iff.mpr ⟨rfl, ih.1⟩, by rw [List.length_cons, List.length_cons, ih.2.1], by rw [List.length_cons, List.length_cons, ih.2.2]⟩
def lookD : List Str → List PyData → Str → Option PyData
  | k :: ks, x :: xs, z => if k = z then some x else lookD ks xs z
  | _, _, _ => none
theorem mergeK_nodup : ∀ (zs : List Str) (vs : List V) (acc : List (Key × V)), zs.Nodup → (∀ z ∈ zs, valV acc (Sum.inr z : Key) = none) → mergeK acc (((zs.map (fun z => (Sum.inr z : Key))).zip vs)) = acc ++ ((zs.map (fun z => (Sum.inr z : Key))).zip vs)
  | [], vs, acc, _, _ => by simp [mergeK]
  | z :: zs, [], acc, _, _ => by simp [mergeK]
  | z :: zs, v :: vs, acc, hn, h => by
    have h1 : putK acc (Sum.inr z : Key) v = acc ++ [(Sum.inr z, v)] := putK_new v (h z (List.mem_cons_self))
    have hn' := List.nodup_cons.mp hn
    have ih := mergeK_nodup zs vs (acc ++ [(Sum.inr z, v)]) hn'.2 fun y hy => by
      have hne : z ≠ y := fun e => hn'.1 (e ▸ hy)
      have := h y (List.mem_cons_of_mem _ hy)
      unfold valV at this ⊢
      rw [List.find?_append]
      have h0 : acc.find? (fun kv => decide (kv.1 = (Sum.inr y : Key))) = none := by
        cases q : acc.find? (fun kv => decide (kv.1 = (Sum.inr y : Key))) with
        | none => rfl
        | some o => rw [q] at this; cases this
      rw [h0]
      have : (Sum.inr z : Key) ≠ Sum.inr y := fun e => hne (Sum.inr.inj e)
      simp [List.find?_cons, this]
    unfold mergeK at ih ⊢
    rw [List.map_cons, List.zip_cons_cons, List.foldl_cons, h1, ih, List.append_assoc]
    rfl
theorem val_zip {M : MS} {H : Hp} {z : Str} : ∀ {zs : List Str} {vs : List V} {xs : List PyData}, RpAll K M H vs xs → (match lookD zs xs z with
    | some x => ∃ v, valV ((zs.map (fun z => (Sum.inr z : Key))).zip vs) (Sum.inr z : Key) = some v ∧ Rp K M H v x
    | none => zs.length = vs.length → valV ((zs.map (fun z => (Sum.inr z : Key))).zip vs) (Sum.inr z : Key) = none)
  | [], _, _, _ => by simp [lookD, valV]
  | k :: ks, _, [], .nil => by simp [lookD]
  | k :: ks, v :: vs, x :: xs, .cons r t => by
    unfold lookD
    by_cases h : k = z
    · rw [if_pos h]
      exact ⟨v, by rw [List.map_cons, List.zip_cons_cons]; exact valV_pos (by rw [h]), r⟩
    · rw [if_neg h]
      have ih := val_zip (z := z) (zs := ks) t
      have hv : valV (((k :: ks).map (fun z => (Sum.inr z : Key))).zip (v :: vs)) (Sum.inr z : Key) = valV ((ks.map (fun z => (Sum.inr z : Key))).zip vs) (Sum.inr z) := by
        rw [List.map_cons, List.zip_cons_cons]
        exact valV_neg (fun e => h (Sum.inr.inj e))
      cases q : lookD ks xs z with
      | some y =>
        rw [q] at ih
        obtain ⟨u, e1, e2⟩ := ih
        exact ⟨u, by rw [hv]; exact e1, e2⟩
      | none =>
        rw [q] at ih
        intro hl
        rw [hv]
        exact ih (by simpa using hl)
theorem zip_kv (zs : List Str) (vs : List V) : (zs.map V.str).zip vs = ((zs.map (fun z => (Sum.inr z : Key))).zip vs).map fun kv => (kV kv.1, kv.2) := by
  rw [List.zip_map_left, List.zip_map_left, List.map_map]
  rfl
def wDisp (zs : List Str) (ws : List WE) (wk : WE) : WE := fun ρ P => wVals ws ρ fun xs ρ1 => wk ρ1 fun k ρ2 => ∃ z y, k = .str z ∧ lookD zs xs z = some y ∧ P y ρ2
def wDispG (zs : List Str) (ws : List WE) (wk wd : WE) : WE := fun ρ P => wVals ws ρ fun xs ρ1 => wk ρ1 fun k ρ2 => wd ρ2 fun d ρ3 => ∃ z, k = .str z ∧ P ((lookD zs xs z).getD d) ρ3
theorem disp_start {keys : List (Option Expr)} {vals : List Expr} {zs : List Str} {ts : List TE} {ws : List WE} (h : PVd X pos keys vals zs ts ws) (hn : zs.Nodup) (hz : zs.length ≤ 15) {F : Frm} {O : OA} {M : MS} {σ : L2.St} {H : Hp} {ρ : DE} (R : RepS X.K F O M H σ ρ) {P : List PyData → DE → Prop} (hw : wVals ws ρ P) {Q : VK}
    (k : ∀ xs ρ' vs p H', RepS X.K F O (fun q => M q ∨ q = p) H' σ ρ' → Gr O M H O (fun q => M q ∨ q = p) H' → (∀ i, O i ≠ some p) → H' p = some (.dK ((zs.map (fun z => (Sum.inr z : Key))).zip vs)) → RpAll X.K (fun q => M q ∨ q = p) H' vs xs → zs.length = vs.length → P xs ρ' → Q (.ref p) H') : tDisp (trsOf zs ts) σ H Q := by
  intro p hp
  obtain ⟨R1, g1⟩ := R.apartO (o := .dK []) hp trivial
  have hM : ¬ M p := fun z => by
    have := R.ml p z
    rw [hp] at this
    exact this
  have hO : ∀ i, O i ≠ some p := fun i z => hM (R.om i p z)
  refine h.imp F O _ σ _ ρ R1 _ hw _ fun xs ρ2 vs H2 R2 g2 r2 hl q => ?_
  refine ⟨g2.h p _ hO upd_same, _, zip_kv zs vs, by rw [List.length_zip, List.length_map]; omega, ?_⟩
  rw [mergeK_nodup zs vs [] hn fun _ _ => rfl, List.nil_append]
  obtain ⟨R3, aw⟩ := R2.set (o := .dK ((zs.map (fun z => (Sum.inr z : Key))).zip vs)) (.inr rfl) hO trivial (R.fresh0 hp)
  have g12 := g1.trans g2 R.om
  refine k xs ρ2 vs p _ R3 ⟨g12.m, g12.o, fun a o n e => ?_⟩ hO upd_same ?_ hl q
  · have z : a ≠ p := fun z => by
      rw [z, hp] at e
      cases e
    rw [upd_ne z]
    exact g12.h a o n e
  · exact aw xs vs r2
theorem d_dispIx {keys : List (Option Expr)} {vals : List Expr} {zs : List Str} {ts : List TE} {ws : List WE} {pd : Pos} (hu : X.A.units + 1 < cLine) (h : PVd X pd keys vals zs ts ws) (hb : PEd X b tb wb) (hn : zs.Nodup := by decide +kernel) (hz : zs.length ≤ 15 := by decide) (h0 : keys ≠ [] := by exact fun z => nomatch z) (hc : keys.length ≤ 15 := by decide) (hs : NoSl b := by exact fun _ _ => rfl) :
    PEd X (.Subscript (.Dict keys vals pd) b pos) (tDGet (tDisp (trsOf zs ts)) tb) (wDisp zs ws wb) := by
  refine ⟨pe_dget hu (pe_disp h.pps h.len.1 h.len.2.1 h0 hc) hb.p hs, fun F O M σ H ρ R P hw Q k => ?_⟩
  refine disp_start h hn hz R hw fun xs ρ1 vs p H1 R1 g1 hO hp r1 hl hw1 => ?_
  refine hb.i F O _ σ H1 ρ1 R1 _ hw1 _ fun y ρ2 v H2 R2 g2 r2 ⟨z, d, e1, e2, q⟩ => ?_
  subst e1
  cases r2
  have hv := val_zip (z := z) (zs := zs) r1
  rw [e2] at hv
  obtain ⟨u, q1, q2⟩ := hv
  refine ⟨p, u, rfl, ?_, k d ρ2 u H2 (R2.unapart R.sub R.om) ?_ (Rp.less (fun _ z => .inl z) d u (Rp.gr R1.kp g2 d u q2)) q⟩
  · rw [← q1]
    exact DGet.k (k := Sum.inr z) (g2.h p _ hO hp)
  · have g := g1.trans g2 R.om
    exact ⟨fun a z => .inl z, g.o, g.h⟩
theorem d_dispGet {keys : List (Option Expr)} {vals : List Expr} {zs : List Str} {ts : List TE} {ws : List WE} {pd ap cp : Pos} (hu : X.A.units + 1 < cLine) (h : PVd X pd keys vals zs ts ws) (hb : PEd X b tb wb) (hd : PEd X c tc wc) (m : M2 X (.Dict keys vals pd) "get" ap b c cp := by exact ⟨rfl, rfl, rfl, rfl⟩) (hn : zs.Nodup := by decide +kernel) (hz : zs.length ≤ 15 := by decide) (h0 : keys ≠ [] := by exact fun z => nomatch z) (hc : keys.length ≤ 15 := by decide) :
    PEd X (.Call (.Attribute (.Dict keys vals pd) "get" ap) [b, c] [] cp) (tDGet2 (tDisp (trsOf zs ts)) tb tc) (wDispG zs ws wb wc) := by
  refine ⟨pe_dget2 hu (pe_disp h.pps h.len.1 h.len.2.1 h0 hc) hb.p hd.p m, fun F O M σ H ρ R P hw Q k => ?_⟩
  refine disp_start h hn hz R hw fun xs ρ1 vs p H1 R1 g1 hO hp r1 hl hw1 => ?_
  refine ⟨p, rfl, .inl ⟨_, .inl hp⟩, ?_⟩
  refine hb.i F O _ σ H1 ρ1 R1 _ hw1 _ fun y ρ2 v H2 R2 g2 r2 hw2 => ?_
  refine hd.i F O _ σ H2 ρ2 R2 _ hw2 _ fun d ρ3 u H3 R3 g3 r3 ⟨z, e1, q⟩ => ?_
  subst e1
  cases r2
  have hv := val_zip (z := z) (zs := zs) r1
  have g23 := g2.trans g3 R1.om
  have g := g1.trans g23 R.om
  have gm : Gr O M H O M H3 := ⟨fun a z => .inl z, g.o, g.h⟩
  refine ⟨valV ((zs.map (fun z => (Sum.inr z : Key))).zip vs) (Sum.inr z), DGet.k (k := Sum.inr z) (g23.h p _ hO hp), ?_⟩
  cases e2 : lookD zs xs z with
  | some y =>
    rw [e2] at hv q
    obtain ⟨w', q1, q2⟩ := hv
    rw [q1]
    exact k y ρ3 w' H3 (R3.unapart R.sub R.om) gm (Rp.less (fun _ z => .inl z) y w' (Rp.gr R1.kp g23 y w' q2)) q
  | none =>
    rw [e2] at hv q
    rw [hv hl]
    exact k d ρ3 u H3 (R3.unapart R.sub R.om) gm (Rp.less (fun _ z => .inl z) d u r3) q
end
end Dat
namespace Dat
open PySem PySem.Spec PyProof.Rows L2
/-! ### a def that may be called -/
structure Cal (P : Program) (w : World) (K : PySem.W.Frag) (mg : Str → Option Value) (base : Heap) (x : Str) (k : Nat) (ps : List Str) (sp : Sp) (f : Addr) (fd : FuncData) : Prop where
  g : FnG P w K mg base k f fd ps sp
  m : mg x = some (.ref f)
  kp : PySem.W.keepIn K (.ref f) = true
  bd : Binds K fd ps []
/-- .. with one keyword-only parameter, the last one, and its default -/
structure CalK (P : Program) (w : World) (K : PySem.W.Frag) (mg : Str → Option Value) (base : Heap) (x : Str) (k n : Nat) (ps ks : List Str) (dvs : List V) (sp : Sp) (f : Addr) (fd : FuncData) : Prop where
  g : FnG P w K mg base k f fd ps sp
  m : mg x = some (.ref f)
  kp : PySem.W.keepIn K (.ref f) = true
  kb : KBn K fd ps n ks (· ++ ·) (· ++ ·)
  dv : ∃ ds, Vals dvs ds ∧ Binds K fd ps ds
section
variable {X : Cx} {k j n : Nat} {f : Addr} {fd : FuncData} {ps ks : List Str} {dvs : List V} {x : Str} {pn pos : Pos} {e : Expr} {es : List Expr} {tr tk : TA} {wr wk : WA} {kws : List Keyword}
theorem Cal.p {wf : WF} (C : Cal X.prog X.w X.K X.mg X.base x k ps (spP X.K wf) f fd) (hg : X.A.guards = some []) (hr : Room k X.A) (ha : PAd X (e :: es) tr wr) (gl : Gl X x := by rfl) (hdb : (x == ("__debug__" : Str)) = false := by decide) (he : starEach (e :: es) X.env = (false, eval e X.env) :: starEach es X.env := by rfl) (hpl : (backTo pos (starEach es X.env)).any (·.1) = false := by rfl) :
    PEd X (.Call (.Name x pn) (e :: es) [] pos) (tCall (spP X.K wf) [] E0 tr) (wCall wf [] wr) := d_call C.g hg hr C.m C.kp C.bd .nil (fun _ _ => .nil) ha gl hdb he hpl
theorem Cal.l {wf : WFL} (C : Cal X.prog X.w X.K X.mg X.base x k ps (spL X.K wf) f fd) (hg : X.A.guards = some []) (hr : Room k X.A) (ha : PAd X (e :: es) tr wr) (gl : Gl X x := by rfl) (hdb : (x == ("__debug__" : Str)) = false := by decide) (he : starEach (e :: es) X.env = (false, eval e X.env) :: starEach es X.env := by rfl) (hpl : (backTo pos (starEach es X.env)).any (·.1) = false := by rfl) :
    PLd X (.Call (.Name x pn) (e :: es) [] pos) (tCall (spL X.K wf) [] E0 tr) (wCallL wf [] wr) := l_call C.g hg hr C.m C.kp C.bd .nil (fun _ _ => .nil) ha gl hdb he hpl
theorem Cal.b {wf : WFB} (C : Cal X.prog X.w X.K X.mg X.base x k ps (spB X.K wf) f fd) (i : Nat) {y : Str} {py : Pos} (hg : X.A.guards = some []) (hr : Room k X.A) (ha : PAd X es tr wr)
    (hN : X.N[i]? = some y := by rfl) (hv : Vis X.env.scope y := by first | exact Or.inl rfl | exact Or.inr (Or.inl rfl) | exact Or.inr (Or.inr rfl)) (hd : (y == ("__debug__" : Str)) = false := by decide) (hcd : (y == ("__classdict__" : Str)) = false := by decide)
    (gl : Gl X x := by rfl) (hdb : (x == ("__debug__" : Str)) = false := by decide) (he : starEach (.Name y py :: es) X.env = (false, eval (.Name y py) X.env) :: starEach es X.env := by rfl) (hpl : (backTo pos (starEach es X.env)).any (·.1) = false := by rfl) :
    PEd X (.Call (.Name x pn) (.Name y py :: es) [] pos) (tCall (spB X.K wf) [] E0 (tCons (tVar i) tr)) (wCallB i wf wr) := d_callB i C.g hg hr C.m C.kp C.bd ha hN hv hd hcd gl hdb he hpl
theorem CalK.pk {wf : WF} (C : CalK X.prog X.w X.K X.mg X.base x k n ps ks dvs (spP X.K wf) f fd) (hg : X.A.guards = some []) (hr : Room k X.A) (ha : PAd X (e :: es) tr wr) (hkw : PKd X kws tk wk) {m : Nat} (hm : ks.length = m := by rfl) (gl : Gl X x := by rfl) (hall : (backToKw pos (keywordEach kws X.env)).all (·.1.isSome) = true := by rfl) (hks : (backToKw pos (keywordEach kws X.env)).filterMap (·.1) = ks := by rfl)
    (hdb : (x == ("__debug__" : Str)) = false := by decide) (he : starEach (e :: es) X.env = (false, eval e X.env) :: starEach es X.env := by rfl)
    (hpl : ((backTo pos (starEach (e :: es) X.env)).any (·.1) || (backToKw pos (keywordEach kws X.env)).any (·.1.isNone)) = false := by rfl) :
    PEd X (.Call (.Name x pn) (e :: es) kws pos) (tCallN n m (spP X.K wf) (· ++ ·) E0 tr tk) (wCallK n m wf wr wk) := by
  subst hm
  exact d_callK C.g hg hr C.m C.kp C.kb ha hkw gl hall hks hdb he hpl
theorem CalK.lk {wf : WFL} (C : CalK X.prog X.w X.K X.mg X.base x k n ps ks dvs (spL X.K wf) f fd) (hg : X.A.guards = some []) (hr : Room k X.A) (ha : PAd X (e :: es) tr wr) (hkw : PKd X kws tk wk) {m : Nat} (hm : ks.length = m := by rfl) (gl : Gl X x := by rfl) (hall : (backToKw pos (keywordEach kws X.env)).all (·.1.isSome) = true := by rfl) (hks : (backToKw pos (keywordEach kws X.env)).filterMap (·.1) = ks := by rfl)
    (hdb : (x == ("__debug__" : Str)) = false := by decide) (he : starEach (e :: es) X.env = (false, eval e X.env) :: starEach es X.env := by rfl)
    (hpl : ((backTo pos (starEach (e :: es) X.env)).any (·.1) || (backToKw pos (keywordEach kws X.env)).any (·.1.isNone)) = false := by rfl) :
    PLd X (.Call (.Name x pn) (e :: es) kws pos) (tCallN n m (spL X.K wf) (· ++ ·) E0 tr tk) (wCallLK n m wf wr wk) := by
  subst hm
  exact l_callK C.g hg hr C.m C.kp C.kb ha hkw gl hall hks hdb he hpl
theorem CalK.pd {wf : WF} {dds : List PyData} (C : CalK X.prog X.w X.K X.mg X.base x k n ps ks dvs (spP X.K wf) f fd) (hdd : ∀ M H, RpAll X.K M H dvs dds) (hg : X.A.guards = some []) (hr : Room k X.A) (ha : PAd X (e :: es) tr wr) (gl : Gl X x := by rfl) (hdb : (x == ("__debug__" : Str)) = false := by decide) (he : starEach (e :: es) X.env = (false, eval e X.env) :: starEach es X.env := by rfl) (hpl : (backTo pos (starEach es X.env)).any (·.1) = false := by rfl) :
    PEd X (.Call (.Name x pn) (e :: es) [] pos) (tCall (spP X.K wf) dvs E0 tr) (wCall wf dds wr) := by
  obtain ⟨ds, h1, h2⟩ := C.dv
  exact d_call C.g hg hr C.m C.kp h2 h1 hdd ha gl hdb he hpl
theorem CalK.ld {wf : WFL} {dds : List PyData} (C : CalK X.prog X.w X.K X.mg X.base x k n ps ks dvs (spL X.K wf) f fd) (hdd : ∀ M H, RpAll X.K M H dvs dds) (hg : X.A.guards = some []) (hr : Room k X.A) (ha : PAd X (e :: es) tr wr) (gl : Gl X x := by rfl) (hdb : (x == ("__debug__" : Str)) = false := by decide) (he : starEach (e :: es) X.env = (false, eval e X.env) :: starEach es X.env := by rfl) (hpl : (backTo pos (starEach es X.env)).any (·.1) = false := by rfl) :
    PLd X (.Call (.Name x pn) (e :: es) [] pos) (tCall (spL X.K wf) dvs E0 tr) (wCallL wf dds wr) := by
  obtain ⟨ds, h1, h2⟩ := C.dv
  exact l_call C.g hg hr C.m C.kp h2 h1 hdd ha gl hdb he hpl
end
/-- a keyword-only parameter that is given -/
theorem kbn_of {K : PySem.W.Frag} {x qual : Str} {params : Arguments} {body : List Stmt} {scope : Scope} {kws : List (Str × V)} {f : Addr} {fd : FuncData} {ps ks : List Str} {n : Nat} (F : FunD K x qual params body scope [] kws f fd)
    (h : ∀ (kV doc pm : Value) (an : Option Addr) (cdv ct : Value) (us ws : List Value), us.length = n → ws.length = ks.length → bindArgs (PySem.W.fnOf x qual params body scope .none kV doc pm an cdv ct) ⟨us, ks.zip ws⟩ = pure (ps.zip (us ++ ws))) : KBn K fd ps n ks (· ++ ·) (· ++ ·) := by
  obtain ⟨oc, od, dV, kV, doc, pm, an, cdv, ct, osl, rfl, lk, hcd, hD, hK⟩ := F.ex
  rcases hD with ⟨_, rfl⟩ | ⟨e, _⟩
  · exact ⟨fun s us ws _ h1 h2 => .of_eq (h kV doc pm an cdv ct us ws h1 h2), fun r1 r2 => r1.append r2⟩
  · exact absurd rfl e
theorem walkGE {l : PySem.W.OpenLaw} {n k : Nat} {q : Program} {loose : List Str} {XP : (Str → Option Value) → Heap → Prop} {YP : World → Heap → Prop} {d : DefRec} {wf : WF} {x : Str}
    (hn : l.most = some n) (hn2 : n ≤ sizeLine) (hdf : d.params.defaults = []) (hr : Room k callerA)
    (F : ∀ (w : World) (mg : Str → Option Value) (fa : Addr) (h : Heap), YP w h → h.Ns mainGlobals mg → mg d.name = some (.ref fa) →
      ∃ (K : PySem.W.Frag) (fd : FuncData), K.In h ∧ (∀ (s : Shared) (u : Value), BindsTo s fd ⟨[u], []⟩ [(x, u)]) ∧ ∀ base : Heap, K.In base → base.Ns mainGlobals mg → FnG l.prog w K mg base k fa fd [x] (spP K wf))
    (hw : ∀ ns : List Int, ns.length ≤ n → wf [scrD ns] fun z => z = .bool true) : PySem.W.WalkO q loose XP YP l.row.toRowW d [] (fun f vs => PySem.call f vs) := by
  refine Att.attach_call hn hdf fun w s0 s1 mg mb fa o pm cd doc a vs ns G Y ho hd hcd hmg hobj hints hlen hg => ?_
  obtain ⟨K, fd, KX, hb, hF⟩ := F w mg fa _ Y G.T.g hmg
  exact lawG KX G.T.g G.T.b G.T.builtins G.T.nolimit hg hobj hints (Nat.le_trans hlen hn2) hr hF hb (hw ns hlen)
end Dat
namespace Dat
open PySem PySem.Spec PyProof.Rows L2

/-! ### comprehensions of several clauses: what a turn does is told by the clauses behind it -/
abbrev TK := Addr → L2.St → Hp → (Hp → Prop) → Prop
/-- the last: an item more -/
def kApp (te : TE) : TK := fun D σ H Nx => te σ H fun y H1 => ∃ acc, H1 D = some (.lst acc) ∧ acc.length < sizeLine ∧ Nx (upd H1 D (.lst (acc ++ [y])))
def turns (J : It) (g : TG) (tt : TT) (tk : TK) (vs : List Nat) (σ : L2.St) (D : Addr) (W : Nat → Nat → Hp → Prop) (Nx : Hp → Prop) : Prop := ∀ i m H, W i m H →
  (J.stop i H ∧ Nx H) ∨ (J.go i H ∧ ∃ Ny : Hp → Prop, (∀ H', Ny H' → ∃ m', m' < m ∧ W (i + 1) m' H') ∧ ∀ x H', J.yld i H x H' → g x (wipe σ vs) H' fun σ2 H2 => wipe σ2 vs = wipe σ vs ∧ tt σ2 H2 fun b H3 => if b = true then tk D σ2 H3 Ny else Ny H3)
/-- a clause -/
def kCl (wi : TI) (g : TG) (tt : TT) (tk : TK) (vs : List Nat) : TK := fun D σ H Nx => wi σ H fun J H1 => ∃ W : Nat → Nat → Hp → Prop, (∃ m, W 0 m H1) ∧ turns J g tt tk vs σ D W Nx
/-- what may hang on where the block stands -/
abbrev BF (α : Type) := Shared → Hp → Addr → List (Str × Addr) → List Addr → α
def tLcN (wi : TI) (g : BF TG) (tt : BF TT) (tk : BF TK) (vs : List Nat) : TE := fun σ H Q => wi σ H fun J H1 => ∀ D, H1 D = none → ∀ (s : Shared) (H' : Hp) (C : Addr) (cl : List (Str × Addr)) (fp : List Addr), ∃ W : Nat → Nat → Hp → Prop, (∃ m, W 0 m (upd H1 D (.lst []))) ∧ turns J (g s H' C cl fp) (tt s H' C cl fp) (tk s H' C cl fp) vs σ D W fun H2 => Q (.ref D) H2

def turnG (t i : Expr) (ifs : List Expr) (it : Value) (env : Env) (yes no : Sem Fin) : Sem Fin := do
  standAt i.pos
  match ← pyNext it with
  | none => pure (.done .next)
  | some v =>
    letOwnedTupleGo t it v
    assign t env v
    let mut ok := true
    for c in ifs do
      if ok then ok ← isTrue c env (eval c env)
    if ok then yes else no
def midG (C : Expr) (k : Nat) (i : Expr) (env : Env) (acc : Value) (rest : Sem Fin) : Sem Fin := do
  let x ← eval i env
  standAt i.pos
  let x ← foldedSetIterable i env x
  let _ ← runOwn (.compStart C k (← holding [x] (pyIter x)) acc env) env
  rest
def lastG (elt : Expr) (env : Env) (acc : Value) (rest : Sem Fin) : Sem Fin := do
  (do let _ ← call (.builtin "list.append") [acc, ← eval elt env])
  rest
abbrev TurnsAs (C : Expr) (k : Nat) (t i : Expr) (ifs : List Expr) (yes : Env → Value → Sem Fin → Sem Fin) : Prop := ∀ (it acc : Value) (env : Env), compTurn C k it acc env = turnG t i ifs it env (yes env acc (again (.compLoop C k it acc env))) (again (.compLoop C k it acc env))
theorem turns1 {elt t0 i0 : Expr} {ifs0 : List Expr} {scope : Scope} {pos : Pos} : TurnsAs (.ListComp elt [⟨t0, i0, ifs0, 0⟩] scope pos) 0 t0 i0 ifs0 (lastG elt) := fun _ _ _ => rfl
theorem turns2 {elt t0 i0 t1 i1 : Expr} {ifs0 ifs1 : List Expr} {scope : Scope} {pos : Pos} : TurnsAs (.ListComp elt [⟨t0, i0, ifs0, 0⟩, ⟨t1, i1, ifs1, 0⟩] scope pos) 0 t0 i0 ifs0 (midG (.ListComp elt [⟨t0, i0, ifs0, 0⟩, ⟨t1, i1, ifs1, 0⟩] scope pos) 1 i1) := fun _ _ _ => rfl
theorem turns21 {elt t0 i0 t1 i1 : Expr} {ifs0 ifs1 : List Expr} {scope : Scope} {pos : Pos} : TurnsAs (.ListComp elt [⟨t0, i0, ifs0, 0⟩, ⟨t1, i1, ifs1, 0⟩] scope pos) 1 t1 i1 ifs1 (lastG elt) := fun _ _ _ => rfl
theorem turns3 {elt t0 i0 t1 i1 t2 i2 : Expr} {ifs0 ifs1 ifs2 : List Expr} {scope : Scope} {pos : Pos} : TurnsAs (.ListComp elt [⟨t0, i0, ifs0, 0⟩, ⟨t1, i1, ifs1, 0⟩, ⟨t2, i2, ifs2, 0⟩] scope pos) 0 t0 i0 ifs0 (midG (.ListComp elt [⟨t0, i0, ifs0, 0⟩, ⟨t1, i1, ifs1, 0⟩, ⟨t2, i2, ifs2, 0⟩] scope pos) 1 i1) := fun _ _ _ => rfl
theorem turns31 {elt t0 i0 t1 i1 t2 i2 : Expr} {ifs0 ifs1 ifs2 : List Expr} {scope : Scope} {pos : Pos} : TurnsAs (.ListComp elt [⟨t0, i0, ifs0, 0⟩, ⟨t1, i1, ifs1, 0⟩, ⟨t2, i2, ifs2, 0⟩] scope pos) 1 t1 i1 ifs1 (midG (.ListComp elt [⟨t0, i0, ifs0, 0⟩, ⟨t1, i1, ifs1, 0⟩, ⟨t2, i2, ifs2, 0⟩] scope pos) 2 i2) := fun _ _ _ => rfl
theorem turns32 {elt t0 i0 t1 i1 t2 i2 : Expr} {ifs0 ifs1 ifs2 : List Expr} {scope : Scope} {pos : Pos} : TurnsAs (.ListComp elt [⟨t0, i0, ifs0, 0⟩, ⟨t1, i1, ifs1, 0⟩, ⟨t2, i2, ifs2, 0⟩] scope pos) 2 t2 i2 ifs2 (lastG elt) := fun _ _ _ => rfl
/-- a clause's start goes to its loop -/
abbrev StartsAs (C : Expr) (k : Nat) : Prop := ∀ {prog : Program} {w : World} {A : Around} {R : Result → Shared → Prop} {s : Shared} {it acc : Value} {env : Env},
  codeAny (model prog w) A (.compLoop C k it acc env) R s → wpAny (model prog w) A (pyIter it) (fun it' s' => codeAny (model prog w) A (.compLoop C k it' acc env) R s') (notedBy (model prog w) A env fun x s' => R (.error x) s') s → codeAny (model prog w) A (.compStart C k it acc env) R s
theorem starts_of {elt : Expr} {gs : List Comprehension} {scope : Scope} {pos : Pos} {k : Nat} {c : Comprehension} (hk : (clausesOf (.ListComp elt gs scope pos))[k]? = some c) (ha : (c.is_async != 0) = false) : StartsAs (.ListComp elt gs scope pos) k := by
  intro prog w A R s it acc env h0 h
  refine codeAny_of_tree ?_
  show wpAny _ _ ((compStart (.ListComp elt gs scope pos) k it acc env).onRaise (fun x => do noteFrame x env; standAt theWindowsPlace)) _ _ s
  refine wpAny_notedAt ?_
  unfold compStart
  rw [hk]
  simp only [Option.elim, ha, Bool.false_eq_true, if_false]
  refine wpAny_bind (wpAny_askSetting (wpAny_ite ?_))
  split
  · first
      | exact wpAny_bind (wpAny_pure (wpAny_pure (And.intro rfl h0)))
      | exact wpAny_pure (And.intro rfl h0)
  · exact wpAny_bind (wpAny_rule (wpAny_bind (wpAny_standAt (wpAny_bind (wpAny_mono h (fun it' s' h' => wpAny_pure (And.intro rfl h')) fun _ _ x => x)))))

structure PAct (Y : Cx) (yes : Env → Value → Sem Fin → Sem Fin) (vs : List Nat) (t : TK) : Prop where
  run : ∀ (pins : List (Addr × Obj)) (s : Shared) (σ : L2.St) (H : Hp) (D : Addr) (Nx : Hp → Prop) (rest : Sem Fin) (Post : Fin → Shared → Prop) (E : Value → Shared → Prop), Inv Y pins σ H s → t D σ H Nx →
    (∀ s' H', Inv Y pins (wipe σ vs) H' s' → Nx H' → wpAny (model Y.prog Y.w) Y.A rest Post E s') → wpAny (model Y.prog Y.w) Y.A (yes Y.env (.ref D) rest) Post E s
theorem thnX {α : Type} {Y : Cx} {t : Sem α} {Q Q' : α → Shared → Prop} {M : Model} {A : Around} {E : Value → Shared → Prop} {s : Shared} (hx : Y.xe = fun _ _ => False) (h : wpAny M A t Q Y.xe s) (hQ : ∀ a s, Q a s → Q' a s) : wpAny M A t Q' E s := by
  rw [hx] at h
  exact thnF h hQ
theorem act_last {Y : Cx} {elt : Expr} {te : TE} (hx : Y.xe = fun _ _ => False) (pe : PE Y elt te) : PAct Y (lastG elt) [] (kApp te) := by
  refine ⟨fun pins s σ H D Nx rest Post E I h hr => ?_⟩
  unfold lastG
  refine wpAny_bind (wpAny_bind (thnX hx (pe.run pins s σ H _ I h) fun z s1 ⟨yv, H1, I1, r1, acc, hD, hz, nx⟩ => ?_))
  exact wpAny_bind (app_ok (X := Y) I1 hD hz r1 fun s2 I2 => wpAny_pure (hr s2 _ I2 nx))
theorem cl_loop {Y : Cx} {el : Expr} {gl : List Comprehension} {sl : Scope} {pl : Pos} {k : Nat} {t i : Expr} {ifs : List Expr} {yes : Env → Value → Sem Fin → Sem Fin} {vs vs' : List Nat} {g : TG} {tt : TT} {tk : TK} (hc : Y.calm = true) (hx : Y.xe = fun _ _ => False) (hT : TurnsAs (.ListComp el gl sl pl) k t i ifs yes)
    (pg : PG Y t g) (pt : PTs Y ifs tt) (pa : PAct Y yes vs' tk) (hv : ∀ j ∈ vs', j ∈ vs) {pins : List (Addr × Obj)} {s : Shared} {σ : L2.St} {H : Hp} {D it : Addr} {fp : List Addr} {tn : Nat → Heap → Prop} {J : It} {W : Nat → Nat → Hp → Prop} {Nx : Hp → Prop} {m0 : Nat} {R : Result → Shared → Prop}
    (I : Inv Y pins (wipe σ vs) H s) (T : Turn Y.prog Y.w Y.K t J fp it tn) (st : tn 0 s.heap) (f : ∀ b ∈ fp, FpOk Y pins H b) (w0 : W 0 m0 H) (turn : turns J g tt tk vs σ D W Nx)
    (hR : ∀ s' H', Inv Y pins (wipe σ vs) H' s' → Nx H' → R (.ok .next) s') : codeAny (model Y.prog Y.w) Y.A (.compLoop (.ListComp el gl sl pl) k (.ref it) (.ref D) Y.env) R s := by
  have stat : ∀ {H' : Hp}, (∀ b ∈ fp, H' b = none) → ∀ b ∈ fp, FpOk Y pins H' b := fun hn b hb => ⟨hn b hb, (f b hb).2⟩
  refine codeAny_loop rfl (fun n s' => ∃ j H', Inv Y pins (wipe σ vs) H' s' ∧ tn j s'.heap ∧ (∀ b ∈ fp, H' b = none) ∧ W j n H') (fun n s1 ⟨j, H1, I1, st1, n1, w1⟩ => ?_) m0 ⟨0, H, I, st, fun b hb => (f b hb).1, w0⟩
  show wpAny _ Y.A ((compTurn (.ListComp el gl sl pl) k (.ref it) (.ref D) Y.env).onRaise (fun x => do noteFrame x Y.env; theTreesLotGoes x)) _ _ s1
  refine wpAny_noted ?_
  rw [hT]
  unfold turnG
  refine wpAny_bind (wpAny_standAt (wpAny_bind ?_))
  rcases turn j n H1 w1 with ⟨stop, nx⟩ | ⟨go, Ny, hNy, step⟩
  · refine thnF (T.done Y rfl rfl rfl hc j pins s1 _ H1 (fun _ _ => False) I1 (stat n1) st1 stop) fun r s2 ⟨hr, I2⟩ => ?_
    subst hr
    exact wpAny_pure (hR s2 H1 I2 nx)
  · refine thnF (T.item Y rfl rfl rfl hc j pins s1 _ H1 (fun _ _ => False) I1 (stat n1) st1 go) fun r s2 ⟨u, hr, h2⟩ => ?_
    subst hr
    refine wpAny_bind (thnF h2 fun _ s3 ⟨x, H3, I3, r3, y3, st3, n3⟩ => ?_)
    have I3' := I3.pinned (stat n3) (T.obj _ _ st3)
    refine wpAny_bind (thnX hx (pg.run _ s3 _ H3 x u _ I3' r3 (step x H3 y3)) fun _ s4 ⟨σ4, H4, I4, hw4, q4⟩ => ?_)
    refine wpAny_bind (thnX hx (pt.run _ s4 σ4 H4 _ I4 q4) fun b s5 ⟨H5, I5, q5⟩ => ?_)
    have fin : ∀ {σ5 : L2.St} {s' : Shared} {H' : Hp}, Inv Y (pins ++ pinsAt fp s3.heap) σ5 H' s' → (wipe σ vs).length = σ5.length → (∀ (l : Nat) v, (wipe σ vs)[l]? = some (some v) → σ5[l]? = some (some v)) → Ny H' → ∃ m, m < n ∧ ∃ j H', Inv Y pins (wipe σ vs) H' s' ∧ tn j s'.heap ∧ (∀ b ∈ fp, H' b = none) ∧ W j m H' := fun {σ5 s' H'} I' hl hk nx => by
      obtain ⟨m', hm, w'⟩ := hNy H' nx
      have pin' : ∀ b ∈ fp, ∀ o, s3.heap.get? b = some o → s'.heap.get? b = some o ∧ H' b = none := fun b hb o e =>
        let z := I'.pin (b, o) (List.mem_append_right _ (List.mem_append_right _ (mem_pinsAt hb e)))
        ⟨z.1, z.2.1⟩
      refine ⟨m', hm, j + 1, H', I'.unpinned.weak hl hk, T.keep _ _ _ st3 fun b hb o e => (pin' b hb o e).1, fun b hb => ?_, w'⟩
      obtain ⟨o, e, _⟩ := T.obj _ _ st3 b hb
      exact (pin' b hb o e).2
    have hl4 : (wipe σ vs).length = σ4.length := by rw [← hw4, wipe_length]
    cases b with
    | false =>
      simp only [Bool.false_eq_true, if_false] at q5 ⊢
      exact wpAny_pure ⟨rfl, fin I5 hl4 (fun l v e => by rw [← hw4] at e; exact (wipe_some e).1) q5⟩
    | true =>
      simp only [if_true] at q5 ⊢
      refine pa.run _ s5 σ4 H5 D Ny _ _ _ I5 q5 fun s6 H6 I6 nx => wpAny_pure ⟨rfl, fin I6 (hl4.trans (wipe_length σ4 vs').symm) (fun l v e => ?_) nx⟩
      rw [← hw4] at e
      obtain ⟨e1, e2⟩ := wipe_some e
      rw [wipe_out fun z => e2 (hv l z)]
      exact e1
theorem act_cl {Y : Cx} {el : Expr} {gl : List Comprehension} {sl : Scope} {pl : Pos} {k : Nat} {t i : Expr} {ifs : List Expr} {yes : Env → Value → Sem Fin → Sem Fin} {vs vs' : List Nat} {wi : TI} {g : TG} {tt : TT} {tk : TK} (hc : Y.calm = true) (hx : Y.xe = fun _ _ => False) (hT : TurnsAs (.ListComp el gl sl pl) k t i ifs yes) (hS : StartsAs (.ListComp el gl sl pl) k)
    (pi : PI Y t i wi) (pg : PG Y t g) (pt : PTs Y ifs tt) (pa : PAct Y yes vs' tk) (hv : ∀ j ∈ vs', j ∈ vs) (hs : ∀ x, foldedSetIterable i Y.env x = pure x) : PAct Y (midG (.ListComp el gl sl pl) k i) vs (kCl wi g tt tk vs) := by
  refine ⟨fun pins s σ H D Nx rest Post E I h hr => ?_⟩
  unfold midG
  refine wpAny_bind (thnX hx (pi.run pins s σ H _ I h) fun xv s1 h1 => ?_)
  refine wpAny_bind (wpAny_standAt (wpAny_bind (wpAny_of_eq (hs xv) (wpAny_bind (wpAny_holding (thnX hx h1 fun itv s2 h2 => ?_))))))
  obtain ⟨it, fp, tn, J, H2, e, I2, T, st2, f2, W, ⟨m0, w0⟩, turn⟩ := h2
  subst e
  refine wpAny_bind (wpAny_runOwn ?_)
  rw [Around.mark_none]
  have loop := cl_loop (R := fun r s' => match r with
    | .ok _ => wpAny (model Y.prog Y.w) Y.A rest Post E s'
    | .error _ => False) hc hx hT pg pt pa hv (I2.weak (wipe_length _ _) (fun j v e => (wipe_some e).1)) T st2 f2 w0 turn fun s' H' I' nx => hr s' H' I' nx
  refine codeAny_mono (hS loop (T.self Y.A 0 _ _ _ st2 loop)) fun r s' hq => ?_
  cases r with
  | ok _ => exact hq
  | error _ => exact hq.elim
section
variable {X : Cx} {pins : List (Addr × Obj)} {s : Shared} {σ : L2.St} {H : Hp} {Q : VK} {elt tg iter : Expr} {ifs : List Expr} {gs : List Comprehension} {scope : Scope} {own : List (Str × Nat)} {pos pos' : Pos} {wi : TI} {g : BF TG} {tt : BF TT} {tk : BF TK} {use : Option (Value → Sem Unit)} {Qf : Value → Shared → Prop} {yes : Env → Value → Sem Fin → Sem Fin} {vs' : List Nat}
theorem lcN_core (hc : X.calm = true) (hN : X.N.Nodup) (I : Inv X pins σ H s) (hi : PI X tg iter wi) (ok : BlkOk X.N X.env.scope scope own) (hT : TurnsAs (.ListComp elt (⟨tg, iter, ifs, 0⟩ :: gs) scope pos) 0 tg iter ifs yes) (hv : ∀ j ∈ vs', j ∈ own.map (·.2))
    (hg : ∀ (s : Shared) (H : Hp) (C : Addr) (cl : List (Str × Addr)) (fp : List Addr), PG (X.blk s H scope (compEnvC scope cl C X.env) fp) tg (g s H C cl fp)) (ht : ∀ (s : Shared) (H : Hp) (C : Addr) (cl : List (Str × Addr)) (fp : List Addr), PTs (X.blk s H scope (compEnvC scope cl C X.env) fp) ifs (tt s H C cl fp))
    (ha : ∀ (s : Shared) (H : Hp) (C : Addr) (cl : List (Str × Addr)) (fp : List Addr), PAct (X.blk s H scope (compEnvC scope cl C X.env) fp) yes vs' (tk s H C cl fp)) (hs : ∀ x, foldedSetIterable iter X.env x = pure x)
    (h : tLcN wi g tt tk (own.map (·.2)) σ H Q)
    (hRR : ∀ D C s' m H', Inv X pins σ H' s' → Q (.ref D) H' → s'.heap.Ns C m → FpOk X pins H' C → compPost (model X.prog X.w) X.A X.xe use Qf (.ref D) C (.ok .next) s') :
    wpAny (model X.prog X.w) X.A (comprehension (.ListComp elt (⟨tg, iter, ifs, 0⟩ :: gs) scope pos) scope X.env pos' (newList []) false (eval iter X.env) use) Qf X.xe s := by
  have hfree : ∀ y ∈ scope.names, y.2 = .free → ∃ c, X.env.cells.lookup y.1 = some c := fun y hy e => (ok.free y hy e).elim (fun k => I.ok.has _ (.inl k)) fun k => I.ok.has _ (.inr k)
  refine wpAny_comprehension_free (use := use) rfl hs (closure_ok hfree) ok.kind (fun y hy e => by rw [ok.uniq y hy, e]) (thn (hi.run pins s σ H _ I h) fun xv s1 hx => thn hx fun itv s2 h2 => ?_)
  obtain ⟨it, fp, tn, J, H2, e, I2, T, st2, f2, q⟩ := h2
  subst e
  refine wpAny_newObj_type (newEnv_comp ?_) (by show 0 ≤ sizeLine; decide)
  generalize hD : s2.heap.objs.size = D
  have hDn := I2.hok.fresh (Nat.le_of_eq hD)
  generalize hs3 : ({ s2 with heap := s2.heap.push { cls := .type "list", data := .seq ([] : List Value).toArray } } : Shared) = s3
  have I3 : Inv X pins σ (upd H2 D (.lst [])) s3 := by
    rw [← hs3]
    refine I2.laid (t' := s2.toks) (fun b o e => Heap.get?_push_of_some _ e) (Nat.le_of_eq hD) ⟨Nat.zero_le _, [], 0, .nil, ?_⟩
    rw [← hD]
    exact Heap.get?_push_size _ rfl
  have h3 : s3.heap = s2.heap.push { cls := .type "list", data := .seq ([] : List Value).toArray } := by rw [← hs3]
  have f3 : ∀ b ∈ fp, FpOk X pins (upd H2 D (.lst [])) b ∧ b < s3.heap.objs.size := fun b hb => by
    obtain ⟨o, e, _⟩ := T.obj _ _ st2 b hb
    have hlt := Heap.lt_size e
    refine ⟨⟨?_, (f2 b hb).2⟩, by rw [h3, Heap.size_push]; exact Nat.lt_succ_of_lt hlt⟩
    rw [upd_ne (by rw [← hD]; exact Nat.ne_of_lt hlt)]
    exact (f2 b hb).1
  have st3 : tn 0 s3.heap := T.keep _ _ _ st2 fun b _ o e => by rw [h3]; exact Heap.get?_push_of_some _ e
  have I4 := block_start I3 ok hN f3
  obtain ⟨W, ⟨m0, w0⟩, turn⟩ := q D hDn s3 (upd H2 D (.lst [])) s3.heap.objs.size (cellsFrom (s3.heap.objs.size + 1) scope.names (cloFrom X.env.cells scope.names [])) fp
  have pg := hg s3 (upd H2 D (.lst [])) s3.heap.objs.size (cellsFrom (s3.heap.objs.size + 1) scope.names (cloFrom X.env.cells scope.names [])) fp
  have pt := ht s3 (upd H2 D (.lst [])) s3.heap.objs.size (cellsFrom (s3.heap.objs.size + 1) scope.names (cloFrom X.env.cells scope.names [])) fp
  have pa := ha s3 (upd H2 D (.lst [])) s3.heap.objs.size (cellsFrom (s3.heap.objs.size + 1) scope.names (cloFrom X.env.cells scope.names [])) fp
  generalize g s3 (upd H2 D (.lst [])) s3.heap.objs.size (cellsFrom (s3.heap.objs.size + 1) scope.names (cloFrom X.env.cells scope.names [])) fp = g0 at turn pg
  generalize tt s3 (upd H2 D (.lst [])) s3.heap.objs.size (cellsFrom (s3.heap.objs.size + 1) scope.names (cloFrom X.env.cells scope.names [])) fp = tt0 at turn pt
  generalize tk s3 (upd H2 D (.lst [])) s3.heap.objs.size (cellsFrom (s3.heap.objs.size + 1) scope.names (cloFrom X.env.cells scope.names [])) fp = tk0 at turn pa
  show codeAny _ _ (.compStart (.ListComp elt (⟨tg, iter, ifs, 0⟩ :: gs) scope pos) 0 (.ref it) (.ref D) (compEnvC scope (cellsFrom (s3.heap.objs.size + 1) scope.names (cloFrom X.env.cells scope.names [])) s3.heap.objs.size X.env)) (compPost (model X.prog X.w) X.A X.xe use Qf (.ref D) s3.heap.objs.size) { s3 with heap := pushCells (s3.heap.push { cls := .type "dict", data := .dict #[] }) scope.names }
  generalize hce : compEnvC scope (cellsFrom (s3.heap.objs.size + 1) scope.names (cloFrom X.env.cells scope.names [])) s3.heap.objs.size X.env = ce at I4 pg pt pa ⊢
  have cL : ce.locals = s3.heap.objs.size := by subst hce; rfl
  generalize hH3 : upd H2 D (.lst []) = H3 at I3 I4 pg pt pa w0 f3
  generalize hs4 : ({ s3 with heap := pushCells (s3.heap.push { cls := .type "dict", data := .dict #[] }) scope.names } : Shared) = s4 at I4 ⊢
  have st4 : tn 0 s4.heap := T.keep _ _ _ st3 fun b _ o e => by rw [← hs4]; exact pushCells_keeps _ _ _ _ (Heap.get?_push_of_some _ e)
  have f4 : ∀ b ∈ fp, FpOk (X.blk s3 H3 scope ce fp) [] H3 b := fun b hb => ⟨(f3 b hb).1.1, (I4.ok.exf b hb).1, I4.ok.exfs b hb, .inl hb, fun x c e => (I4.ok.exf b hb).2 x c e, fun p hp => absurd (show p ∈ ([] : List (Addr × Obj)) ++ [] from hp) (by simp)⟩
  have loop : codeAny (model X.prog X.w) X.A (.compLoop (.ListComp elt (⟨tg, iter, ifs, 0⟩ :: gs) scope pos) 0 (.ref it) (.ref D) ce) (compPost (model X.prog X.w) X.A X.xe use Qf (.ref D) s3.heap.objs.size) s4 := by
    refine cl_loop (Y := X.blk s3 H3 scope ce fp) hc rfl hT pg pt pa hv I4 T st4 f4 w0 turn fun s6 H5 I6 qq => ?_
    have I7 : Inv X pins σ H5 s6 := I3.call' (ch := fp) I6.os I6.base I6.hok I6.bare fun b hb => ⟨(f3 b hb).1.2.2.2.1, (f3 b hb).1.2.1, (f3 b hb).1.2.2.2.2.1, (f3 b hb).1.2.2.2.2.2⟩
    have nC : H5 s3.heap.objs.size = none := by
      have z : H5 ce.locals = none := I6.free
      rw [cL] at z
      exact z
    obtain ⟨m, hn, _⟩ := I6.loc
    have hn : s6.heap.Ns ce.locals m := hn
    rw [cL] at hn
    exact hRR D s3.heap.objs.size s6 m H5 I7 qq hn (I3.fpOk (Nat.le_refl _) nC)
  exact codeAny_compStart_list loop (T.self X.A 0 _ _ _ st4 loop)
theorem pe_lcN (hc : X.calm = true) (hN : X.N.Nodup) (hi : PI X tg iter wi) (ok : BlkOk X.N X.env.scope scope own) (hT : TurnsAs (.ListComp elt (⟨tg, iter, ifs, 0⟩ :: gs) scope pos) 0 tg iter ifs yes) (hv : ∀ j ∈ vs', j ∈ own.map (·.2))
    (hg : ∀ (s : Shared) (H : Hp) (C : Addr) (cl : List (Str × Addr)) (fp : List Addr), PG (X.blk s H scope (compEnvC scope cl C X.env) fp) tg (g s H C cl fp)) (ht : ∀ (s : Shared) (H : Hp) (C : Addr) (cl : List (Str × Addr)) (fp : List Addr), PTs (X.blk s H scope (compEnvC scope cl C X.env) fp) ifs (tt s H C cl fp))
    (ha : ∀ (s : Shared) (H : Hp) (C : Addr) (cl : List (Str × Addr)) (fp : List Addr), PAct (X.blk s H scope (compEnvC scope cl C X.env) fp) yes vs' (tk s H C cl fp)) (hs : ∀ x, foldedSetIterable iter X.env x = pure x) : PE X (.ListComp elt (⟨tg, iter, ifs, 0⟩ :: gs) scope pos) (tLcN wi g tt tk (own.map (·.2))) := by
  refine ⟨fun pins s σ H Q I h => ?_⟩
  rw [eval_ListComp]
  refine lcN_core hc hN I hi ok hT hv hg ht ha hs h fun D C s' m H' I' q hn f => ⟨m, hn, fun h'' sb => ?_⟩
  obtain ⟨f0, f1, f2, f3, f4, f5⟩ := f
  exact ⟨.ref D, H', I'.turned (t' := s'.toks) (fun b o hb e => (sb.2 b hb).trans e) f0 f1 f3 f4 f5, rfl, q⟩
/-- name = [..] on one line -/
theorem ps_setN {i : Nat} {y : Str} {py spos : Pos} (hc : X.calm = true) (hN : X.N.Nodup) (hy : X.N[i]? = some y) (hyl : X.env.scope.names.lookup y = some .local) (hsw : swapsWith (.ListComp elt (⟨tg, iter, ifs, 0⟩ :: gs) scope pos) (some (.Name y py)) spos.line X.env = pure true)
    (hi : PI X tg iter wi) (ok : BlkOk X.N X.env.scope scope own) (hT : TurnsAs (.ListComp elt (⟨tg, iter, ifs, 0⟩ :: gs) scope pos) 0 tg iter ifs yes) (hv : ∀ j ∈ vs', j ∈ own.map (·.2))
    (hg : ∀ (s : Shared) (H : Hp) (C : Addr) (cl : List (Str × Addr)) (fp : List Addr), PG (X.blk s H scope (compEnvC scope cl C X.env) fp) tg (g s H C cl fp)) (ht : ∀ (s : Shared) (H : Hp) (C : Addr) (cl : List (Str × Addr)) (fp : List Addr), PTs (X.blk s H scope (compEnvC scope cl C X.env) fp) ifs (tt s H C cl fp))
    (ha : ∀ (s : Shared) (H : Hp) (C : Addr) (cl : List (Str × Addr)) (fp : List Addr), PAct (X.blk s H scope (compEnvC scope cl C X.env) fp) yes vs' (tk s H C cl fp)) (hs : ∀ x, foldedSetIterable iter X.env x = pure x) :
    PS X (.Assign [.Name y py] (.ListComp elt (⟨tg, iter, ifs, 0⟩ :: gs) scope pos) spos) (tAsg (tLcN wi g tt tk (own.map (·.2))) (gName i)) := by
  refine ⟨fun pins s σ H D I h => ?_⟩
  rw [exec_Assign_Name_used _ _ _ _ hsw]
  refine wpAny_bind (wpAny_standAt (wpAny_bind ?_))
  show wpAny _ X.A (do let _ ← comprehension (.ListComp elt (⟨tg, iter, ifs, 0⟩ :: gs) scope pos) scope X.env (firstIterPos (⟨tg, iter, ifs, 0⟩ :: gs) pos) (newList []) false (eval iter X.env) (some (assign (.Name y py) X.env))) _ _ s
  have h : tLcN wi g tt tk (own.map (·.2)) σ H (fun x H1 => gName i x σ H1 D.nx) := h
  refine wpAny_bind (thn (lcN_core (Qf := fun _ s' => SP X pins D .next s') hc hN I hi ok hT hv hg ht ha hs h fun L C s' m H' I' q hn f => ?_) fun _ s' hq => wpAny_pure (wpAny_pure hq))
  show wpAny _ _ (assign (.Name y py) X.env (.ref L)) _ _ _
  refine wpAny_assign_Name (store_ok2 (v := V.ref L) I' hN hy (.inl hyl) rfl (fun s2 I2 ⟨a, sb, ha⟩ => ?_) (.inr hyl))
  obtain ⟨f0, f1, f2, f3, f4, f5⟩ := f
  have haC : C ≠ a := by
    rcases ha with z | z
    · rw [z]; exact f1
    · exact fun e => f4 y a z e.symm
  refine ⟨m, hn.sameBut sb haC, fun h3 sb3 => ?_⟩
  exact ⟨_, H', I2.turned (t' := s2.toks) (fun b o hb e => (sb3.2 b hb).trans e) f0 f1 f3 f4 f5, q⟩
end
end Dat
namespace Dat
open PySem PySem.Spec PyProof.Rows L2
/-! ### comprehensions of several clauses, over data -/
abbrev WK := DE → List PyData → (List PyData → DE → Prop) → Prop
def wkApp (we : WE) : WK := fun ρ acc P => we ρ fun y ρ1 => acc.length < sizeLine ∧ P (acc ++ [y]) ρ1
def clRec (wg : WG) (wt : WT) (wk : WK) (vs : List Nat) : List PyData → List PyData → DE → (List PyData → DE → Prop) → Prop
  | [], acc, ρ, P => P acc ρ
  | x :: xs, acc, ρ, P => wg x ρ fun ρ1 => wt ρ1 fun b ρ2 => if b = true then wk ρ2 acc fun acc' ρ3 => clRec wg wt wk vs xs acc' (wipeD ρ3 vs) P else clRec wg wt wk vs xs acc (wipeD ρ2 vs) P
def wkCl (wi : WI) (wg : WG) (wt : WT) (wk : WK) (vs : List Nat) : WK := fun ρ acc P => wi ρ fun xs ρ1 => clRec wg wt wk vs xs acc (wipeD ρ1 vs) P
def wLcN (wi : WI) (wg : WG) (wt : WT) (wk : WK) (vs : List Nat) : WL := fun ρ P => wi ρ fun xs ρ1 => clRec wg wt wk vs xs [] (wipeD ρ1 vs) P
/-- one list more -/
def more (O : OA) (D : Addr) : OA
  | 0 => some D
  | i + 1 => O i
theorem more_no {O : OA} {D a : Addr} (h : ∀ i, more O D i ≠ some a) : (∀ i, O i ≠ some a) ∧ a ≠ D := ⟨fun i => h (i + 1), fun z => h 0 (by rw [z]; rfl)⟩
theorem more_om {O : OA} {M : MS} {D : Addr} (om : ∀ i p, O i = some p → M p) (hD : M D) : ∀ i p, more O D i = some p → M p
  | 0, p, h => by cases h; exact hD
  | i + 1, p, h => om i p h
theorem Gr.mr {O : OA} {M : MS} {H H' : Hp} (D : Addr) (g : Gr O M H O M H') : Gr (more O D) M H (more O D) M H' := ⟨g.m, fun i a h => .inl ⟨i, h⟩, fun a x n e => g.h a x (more_no n).1 e⟩
theorem gr_moreD {O : OA} {M : MS} {H : Hp} {D : Addr} {o : HO} : Gr (more O D) M H (more O D) M (upd H D o) := ⟨fun _ h => .inl h, fun i a h => .inl ⟨i, h⟩, fun a x n e => by rw [upd_ne (more_no n).2]; exact e⟩
theorem wipe_sub {σ : L2.St} {vs : List Nat} : ∀ {ws : List Nat}, (∀ i ∈ ws, i ∈ vs) → L2.wipe (L2.wipe σ ws) vs = L2.wipe σ vs
  | [], _ => rfl
  | w :: ws, h => by
    show L2.wipe ((L2.wipe σ ws).set w none) vs = _
    rw [wipe_set (h w (List.mem_cons_self)), wipe_sub fun i hi => h i (List.mem_cons_of_mem _ hi)]
def ImpK (K : PySem.W.Frag) (vs : List Nat) (t : TK) (wk : WK) : Prop := ∀ (F : Frm) (O : OA) (M : MS) (σ : L2.St) (H : Hp) (ρ : DE) (D : Addr) (av : List V) (acc : List PyData), RepS K F O M H σ ρ → M D → (∀ i, O i ≠ some D) → F.H0 D = none → H D = some (.lst av) → RpAll K M H av acc → ∀ P, wk ρ acc P → ∀ Nx : Hp → Prop,
  (∀ acc' ρ' av' H', RepS K F O M H' (L2.wipe σ vs) ρ' → (∀ (j : Nat) (y : Sl), ρ'[j]? = some (some y) → j ∉ vs) → Gr (more O D) M H (more O D) M H' → H' D = some (.lst av') → RpAll K M H' av' acc' → P acc' ρ' → Nx H') → t D σ H Nx
section
variable {K : PySem.W.Frag} {X : Cx} {tg elt iter : Expr} {ifs : List Expr} {te : TE} {we : WE} {pos : Pos} {tt : TT} {wt : WT} {wi : TI} {wj : WI} {g : TG} {wg : WG} {tk : TK} {wk : WK} {vs vs' : List Nat}
theorem imp_kapp (he : ImpE K te we) : ImpK K [] (kApp te) (wkApp we) := by
  intro F O M σ H ρ D av acc R hM hO h0 hD ha P hw Nx k
  refine he F O M σ H ρ R _ hw _ fun y ρ1 v H1 R1 g1 r1 ⟨hl, q⟩ => ?_
  have e1 := g1.h D _ hO hD
  have a1 := RpAll.gr R.kp g1 acc av ha
  refine ⟨av, e1, by rw [ha.length]; exact hl, ?_⟩
  exact k (acc ++ [y]) ρ1 (av ++ [v]) _ (R1.grow hM hO h0) (fun _ _ _ z => by cases z) ((g1.mr D).trans gr_moreD (more_om R.om hM)) upd_same ((a1.append (.cons r1 .nil)).away R1.ml hM) q
/-- the loop of a clause -/
theorem cl_turns {F : Frm} {O : OA} {M : MS} {σ : L2.St} {H : Hp} {ρ : DE} {D : Addr} {av : List V} {acc : List PyData} {J : It} {xs : List PyData} {P : List PyData → DE → Prop} {Nx : Hp → Prop} {M1 : MS} {H1 : Hp} {O1 : OA} (hg : ImpGv K vs g wg) (ht : ImpT K tt wt) (hk : ImpK K vs' tk wk) (hv : ∀ j ∈ vs', j ∈ vs)
    (ok : ItOk K M1 H1 J xs) (om1 : ∀ i p, O1 i = some p → M1 p) (g1 : Gr O1 M1 H1 (more O D) M H) (R : RepS K F O M H σ ρ) (hM : M D) (hO : ∀ i, O i ≠ some D) (h0 : F.H0 D = none) (hD : H D = some (.lst av)) (ha : RpAll K M H av acc) (q : clRec wg wt wk vs xs acc (wipeD ρ vs) P)
    (k : ∀ acc' ρ' av' H', RepS K F O M H' (L2.wipe σ vs) ρ' → (∀ (j : Nat) (y : Sl), ρ'[j]? = some (some y) → j ∉ vs) → Gr (more O D) M H (more O D) M H' → H' D = some (.lst av') → RpAll K M H' av' acc' → P acc' ρ' → Nx H') :
    ∃ W : Nat → Nat → Hp → Prop, (∃ m, W 0 m H) ∧ turns J g tt tk vs σ D W Nx := by
  have omD := more_om R.om hM
  refine ⟨fun i m H' => i ≤ xs.length ∧ m = xs.length - i ∧ ∃ ρ' acc' av', RepS K F O M H' (L2.wipe σ vs) ρ' ∧ (∀ (j : Nat) (y : Sl), ρ'[j]? = some (some y) → j ∉ vs) ∧ Gr (more O D) M H (more O D) M H' ∧ H' D = some (.lst av') ∧ RpAll K M H' av' acc' ∧ clRec wg wt wk vs (xs.drop i) acc' ρ' P,
    ⟨xs.length, Nat.zero_le _, rfl, wipeD ρ vs, acc, av, (R.wipe vs).swap (wipe_length σ vs) fun i y e => wipe_out (wipeD_some e).2, fun j y e => (wipeD_some e).2, Gr.refl _ _ _, hD, ha, q⟩, ?_⟩
  rintro i m H' ⟨hi1, rfl, ρ', acc', av', R', hv', g', hp', ha', q'⟩
  have gg := g1.trans g' om1
  by_cases hlt : i < xs.length
  · right
    have hx : xs[i]? = some xs[i] := List.getElem?_eq_getElem hlt
    obtain ⟨go, yl⟩ := ok.go O1 _ M H' om1 gg R'.ml i _ hx
    rw [List.drop_eq_getElem_cons hlt] at q'
    refine ⟨go, fun H2 => ∃ ρ2 acc2 av2, RepS K F O M H2 (L2.wipe σ vs) ρ2 ∧ (∀ (j : Nat) (y : Sl), ρ2[j]? = some (some y) → j ∉ vs) ∧ Gr (more O D) M H (more O D) M H2 ∧ H2 D = some (.lst av2) ∧ RpAll K M H2 av2 acc2 ∧ clRec wg wt wk vs (xs.drop (i + 1)) acc2 ρ2 P,
      fun H2 z => ⟨xs.length - (i + 1), by omega, hlt, rfl, z⟩, fun v H'' y => ?_⟩
    obtain ⟨s2, r2⟩ := yl v H'' y
    refine hg F O _ _ H'' ρ' (R'.same s2) _ v r2 _ q' _ fun ρ3 σ3 H3 R3 s3 w3 q3 => ⟨by rw [w3, wipe_wipe], ?_⟩
    have w3' : L2.wipe σ3 vs = L2.wipe σ vs := by rw [w3, wipe_wipe]
    have back : ∀ {σ4 : L2.St} {H4 : Hp} {ρ4 : DE}, L2.wipe σ4 vs = L2.wipe σ vs → RepS K F O M H4 σ4 ρ4 → RepS K F O M H4 (L2.wipe σ vs) (wipeD ρ4 vs) := fun {σ4 H4 ρ4} w4 r4 => (r4.wipe vs).swap (by rw [← w4, wipe_length]) fun j y e => by rw [← w4]; exact wipe_out (wipeD_some e).2
    have s23 : Same H' H3 := s2.trans s3
    refine ht F O _ σ3 H3 ρ3 R3 _ q3 _ fun bb ρ4 H4 R4 g4 q4 => ?_
    have g34 : Gr O M H' O M H4 := (Gr.same s23).trans g4 R'.om
    have e4 := g34.h D _ hO hp'
    have a4 := RpAll.gr R'.kp g34 acc' av' ha'
    cases bb with
    | true =>
      rw [if_pos rfl] at q4 ⊢
      refine hk F O M σ3 H4 ρ4 D av' acc' R4 hM hO h0 e4 a4 _ q4 _ fun acc5 ρ5 av5 H5 R5 hv5 g5 e5 a5 q5 => ?_
      refine ⟨_, acc5, av5, back ?_ R5, fun j y e => (wipeD_some e).2, (g'.trans (g34.mr D) omD).trans g5 omD, e5, a5, q5⟩
      rw [wipe_sub hv]
      exact w3'
    | false =>
      rw [if_neg Bool.false_ne_true] at q4 ⊢
      exact ⟨_, acc', av', back w3' R4, fun j y e => (wipeD_some e).2, g'.trans (g34.mr D) omD, e4, a4, q4⟩
  · left
    have e : i = xs.length := by omega
    subst e
    rw [List.drop_length] at q'
    exact ⟨ok.stop O1 _ M H' om1 gg R'.ml, k acc' ρ' av' H' R' hv' g' hp' ha' q'⟩
theorem imp_kcl (hi : ImpI K wi wj) (hg : ImpGv K vs g wg) (ht : ImpT K tt wt) (hk : ImpK K vs' tk wk) (hv : ∀ j ∈ vs', j ∈ vs) : ImpK K vs (kCl wi g tt tk vs) (wkCl wj wg wt wk vs) := by
  intro F O M σ H ρ D av acc R hM hO h0 hD ha P hw Nx k
  refine hi F O M σ H ρ R _ hw _ fun xs ρ1 J H1 R1 g1 ok q => ?_
  have e1 := g1.h D _ hO hD
  have a1 := RpAll.gr R.kp g1 acc av ha
  exact cl_turns hg ht hk hv ok (more_om R1.om hM) (Gr.refl _ _ _) R1 hM hO h0 e1 a1 q fun acc' ρ' av' H' R' hv' g' e' a' q' => k acc' ρ' av' H' R' hv' ((g1.mr D).trans g' (more_om R.om hM)) e' a' q'
theorem imp_lcN {g : BF TG} {tt : BF TT} {tk : BF TK} (hi : ImpI K wi wj) (hg : ∀ s H C cl fp, ImpGv K vs (g s H C cl fp) wg) (ht : ∀ s H C cl fp, ImpT K (tt s H C cl fp) wt) (hk : ∀ s H C cl fp, ImpK K vs' (tk s H C cl fp) wk) (hv : ∀ j ∈ vs', j ∈ vs) : ImpL K (tLcN wi g tt tk vs) (wLcN wj wg wt wk vs) := by
  intro F O M σ H ρ R P hw Q k
  refine hi F O M σ H ρ R _ hw _ fun xs ρ1 J H1 R1 g1 ok q => ?_
  intro D hD bs bH bC bl bf
  have hMD : ¬ M D := fun z => by
    have := R1.ml D z
    rw [hD] at this
    exact this
  have hOD : ∀ i, O i ≠ some D := fun i z => hMD (R1.om i D z)
  have hH0 : F.H0 D = none := R1.fresh0 hD
  obtain ⟨R2, g2⟩ := R1.apart hD
  have g2' : Gr O M H1 (more O D) (fun q => M q ∨ q = D) (upd H1 D (.lst [])) := ⟨g2.m, fun i a h => by
    cases i with
    | zero => cases h; exact .inr hD
    | succ i => exact .inl ⟨i, h⟩, g2.h⟩
  refine cl_turns (hg bs bH bC bl bf) (ht bs bH bC bl bf) (hk bs bH bC bl bf) hv ok R1.om g2' R2 (.inr rfl) hOD hH0 upd_same .nil q fun acc' ρ' av' H' R' hv' g' e' a' q' => ?_
  have gg : Gr O M H1 O (fun q => M q ∨ q = D) H' := by
    have z := g2'.trans g' R1.om
    exact ⟨z.m, fun i a h => .inl ⟨i, h⟩, z.h⟩
  exact k acc' ρ' D av' H' (R'.swap (wipe_length σ vs).symm fun j y e => (wipe_out (hv' j y e)).symm) (g1.trans gg R.om) hH0 hMD e' a' q'
/-- the clauses behind, over data -/
structure PKt (Y : Cx) (yes : Env → Value → Sem Fin → Sem Fin) (vs : List Nat) (t : TK) (wk : WK) : Prop where
  p : PAct Y yes vs t
  i : ImpK Y.K vs t wk
theorem kt_last {Y : Cx} (h : PEd Y elt te we) (hx : Y.xe = fun _ _ => False := by rfl) : PKt Y (lastG elt) [] (kApp te) (wkApp we) := ⟨act_last hx h.p, imp_kapp h.i⟩
theorem kt_cl {Y : Cx} {el : Expr} {gl : List Comprehension} {sl : Scope} {pl : Pos} {k : Nat} {yes : Env → Value → Sem Fin → Sem Fin} (vs : List Nat) (hT : TurnsAs (.ListComp el gl sl pl) k tg iter ifs yes) (hS : StartsAs (.ListComp el gl sl pl) k) (pi : PId Y tg iter wi wj) (pg : PG Y tg g) (hgv : ImpGv Y.K vs g wg)
    (pt : PTs Y ifs tt) (hti : ImpT Y.K tt wt) (pa : PKt Y yes vs' tk wk) (hv : ∀ j ∈ vs', j ∈ vs := by decide) (hx : Y.xe = fun _ _ => False := by rfl) (hc : Y.calm = true := by rfl) (hs : ∀ x, foldedSetIterable iter Y.env x = pure x := by intro _; rfl) : PKt Y (midG (.ListComp el gl sl pl) k iter) vs (kCl wi g tt tk vs) (wkCl wj wg wt wk vs) :=
  ⟨act_cl hc hx hT hS pi.p pg pt pa.p hv hs, imp_kcl pi.i hgv hti pa.i hv⟩
theorem d_lcN {g : BF TG} {tt : BF TT} {tk : BF TK} {gs : List Comprehension} {scope : Scope} {own : List (Str × Nat)} {yes : Env → Value → Sem Fin → Sem Fin} (hN : X.N.Nodup) (hi : PId X tg iter wi wj) (ok : BlkOk X.N X.env.scope scope own) (hT : TurnsAs (.ListComp elt (⟨tg, iter, ifs, 0⟩ :: gs) scope pos) 0 tg iter ifs yes)
    (hg : ∀ (s : Shared) (H : Hp) (C : Addr) (cl : List (Str × Addr)) (fp : List Addr), PG (X.blk s H scope (compEnvC scope cl C X.env) fp) tg (g s H C cl fp)) (hgv : ∀ s H C cl fp, ImpGv X.K (own.map (·.2)) (g s H C cl fp) wg)
    (ht : ∀ (s : Shared) (H : Hp) (C : Addr) (cl : List (Str × Addr)) (fp : List Addr), PTs (X.blk s H scope (compEnvC scope cl C X.env) fp) ifs (tt s H C cl fp)) (hti : ∀ s H C cl fp, ImpT X.K (tt s H C cl fp) wt)
    (ha : ∀ (s : Shared) (H : Hp) (C : Addr) (cl : List (Str × Addr)) (fp : List Addr), PKt (X.blk s H scope (compEnvC scope cl C X.env) fp) yes vs' (tk s H C cl fp) wk) (hv : ∀ j ∈ vs', j ∈ own.map (·.2) := by decide) (hc : X.calm = true := by rfl) (hs : ∀ x, foldedSetIterable iter X.env x = pure x := by intro _; rfl) :
    PLd X (.ListComp elt (⟨tg, iter, ifs, 0⟩ :: gs) scope pos) (tLcN wi g tt tk (own.map (·.2))) (wLcN wj wg wt wk (own.map (·.2))) :=
  ⟨pe_lcN hc hN hi.p ok hT hv hg ht (fun s H C cl fp => (ha s H C cl fp).p) hs, imp_lcN hi.i hgv hti (fun s H C cl fp => (ha s H C cl fp).i) hv⟩
end
end Dat
namespace Dat
open PySem PySem.Spec PyProof.Rows L2
/-! ### the same, in the shape in which they are printed -/
structure PTsd (X : Cx) (ifs : List Expr) (tt : TT) (wt : WT) : Prop where
  p : PTs X ifs tt
  i : ImpT X.K tt wt
structure PGvd (X : Cx) (vs : List Nat) (tg : Expr) (g : TG) (wg : WG) : Prop where
  p : PG X tg g
  i : ImpGv X.K vs g wg
structure PGsvd (X : Cx) (vs : List Nat) (es : List Expr) (g : TGs) (wg : WGs) : Prop where
  p : PGs X es g
  i : ImpGsv X.K vs g wg
section
variable {X : Cx} {tg elt iter e : Expr} {es : List Expr} {ifs : List Expr} {te : TE} {we : WE} {pos : Pos} {tt : TT} {wt : WT} {wi : TI} {wj : WI} {g : TG} {wg : WG} {gr : TGs} {wgr : WGs} {tk : TK} {wk : WK} {vs vs' : List Nat}
theorem ts_nil : PTsd X [] tYes wYes := ⟨pts_nil, imp_yes⟩
theorem ts_one (h : PTd X e tt wt) : PTsd X [e] tt wt := ⟨pts_one h.p, h.i⟩
theorem q_name {i : Nat} {x : Str} (hN : X.N.Nodup) (hm : i ∈ vs := by decide) (hi : X.N[i]? = some x := by rfl) (hx : Loc X.env.scope x := by first | exact Or.inl rfl | exact Or.inr rfl) (hf : X.fn x = true ∨ X.env.scope.names.lookup x = some .local := by first | exact .inl rfl | exact .inr rfl | assumption) : PGvd X vs (.Name x pos) (gName i) (wName i) := ⟨pg_name hN hi hx hf, v_name hm⟩
theorem qs_nil : PGsvd X vs [] gNil wgNil := ⟨pgs_nil, vs_nil⟩
theorem qs_cons (h1 : PGvd X vs e g wg) (h2 : PGsvd X vs es gr wgr) (hs : (assignEach (e :: es) X.env).map (·.2) = assign e X.env :: (assignEach es X.env).map (·.2) := by rfl) : PGsvd X vs (e :: es) (gCons g gr) (wgCons wg wgr) := ⟨pgs_cons h1.p h2.p hs, vs_cons h1.i h2.i⟩
theorem q_tup {k n : Nat} (h : PGsvd X vs es gr wgr) (hc : X.calm = true := by rfl) (hn : (assignEach es X.env).length = n := by rfl) (hst : (assignEach es X.env).findIdx? (·.1) = none := by rfl) : PGvd X vs (.Tuple es k pos) (gTup X.K n gr) (wgTup n wgr) := ⟨pg_tup hc h.p hn hst, v_tup h.i⟩
theorem k_clause {Y : Cx} {el : Expr} {gl : List Comprehension} {sl : Scope} {pl : Pos} {k : Nat} {yes : Env → Value → Sem Fin → Sem Fin} (vs : List Nat) (hT : TurnsAs (.ListComp el gl sl pl) k tg iter ifs yes) (pi : PId Y tg iter wi wj) (pg : PGvd Y vs tg g wg)
    (pt : PTsd Y ifs tt wt) (pa : PKt Y yes vs' tk wk) (hS : StartsAs (.ListComp el gl sl pl) k := by exact starts_of rfl rfl) (hv : ∀ j ∈ vs', j ∈ vs := by decide) (hx : Y.xe = fun _ _ => False := by rfl) (hc : Y.calm = true := by rfl) (hs : ∀ x, foldedSetIterable iter Y.env x = pure x := by intro _; rfl) : PKt Y (midG (.ListComp el gl sl pl) k iter) vs (kCl wi g tt tk vs) (wkCl wj wg wt wk vs) :=
  kt_cl vs hT hS pi pg.p pg.i pt.p pt.i pa hv hx hc hs
theorem d_comp {g : BF TG} {tt : BF TT} {tk : BF TK} {gs : List Comprehension} {scope : Scope} {yes : Env → Value → Sem Fin → Sem Fin} (own : List (Str × Nat)) (hN : X.N.Nodup) (ok : BlkOk X.N X.env.scope scope own) (hT : TurnsAs (.ListComp elt (⟨tg, iter, ifs, 0⟩ :: gs) scope pos) 0 tg iter ifs yes) (hi : PId X tg iter wi wj)
    (hg : ∀ (s : Shared) (H : Hp) (C : Addr) (cl : List (Str × Addr)) (fp : List Addr), PGvd (X.blk s H scope (compEnvC scope cl C X.env) fp) (own.map (·.2)) tg (g s H C cl fp) wg)
    (ht : ∀ (s : Shared) (H : Hp) (C : Addr) (cl : List (Str × Addr)) (fp : List Addr), PTsd (X.blk s H scope (compEnvC scope cl C X.env) fp) ifs (tt s H C cl fp) wt)
    (ha : ∀ (s : Shared) (H : Hp) (C : Addr) (cl : List (Str × Addr)) (fp : List Addr), PKt (X.blk s H scope (compEnvC scope cl C X.env) fp) yes vs' (tk s H C cl fp) wk) (hv : ∀ j ∈ vs', j ∈ own.map (·.2) := by decide) (hc : X.calm = true := by rfl) (hs : ∀ x, foldedSetIterable iter X.env x = pure x := by intro _; rfl) :
    PLd X (.ListComp elt (⟨tg, iter, ifs, 0⟩ :: gs) scope pos) (tLcN wi g tt tk (own.map (·.2))) (wLcN wj wg wt wk (own.map (·.2))) :=
  d_lcN hN hi ok hT (fun s H C cl fp => (hg s H C cl fp).p) (fun s H C cl fp => (hg s H C cl fp).i) (fun s H C cl fp => (ht s H C cl fp).p) (fun s H C cl fp => (ht s H C cl fp).i) ha hv hc hs
end
/-- the start of a def of n slots -/
abbrev startN (n : Nat) (xs : List PyData) : DE := xs.map (fun x => some (.d x)) ++ List.replicate (n - xs.length) none
abbrev startBN (n : Nat) (ds xs : List PyData) : DE := some (.o false ds) :: (xs.map (fun x => some (.d x)) ++ List.replicate (n - (xs.length + 1)) none)
end Dat
namespace Dat
open PySem PySem.Spec PyProof.Rows L2
/-! ### one's own lists may be looked at as data, where nothing of them is kept -/
def lendS : Option Sl → Option Sl
  | some (.o _ xs) => some (.d (.list xs))
  | s => s
def lendD (ρ : DE) : DE := ρ.map lendS
def wLend (we : WE) : WE := fun ρ P => we (lendD ρ) fun x _ => flatD x = true ∧ P x ρ
section
variable {K : PySem.W.Frag} {X : Cx} {e : Expr} {te : TE} {we : WE}
theorem imp_lend (h : ImpE K te we) : ImpE K te (wLend we) := by
  intro F O M σ H ρ R P hw Q k
  have R' : RepS K ⟨fun _ => False, H, fun _ => none⟩ (fun _ => none) (fun _ => False) H σ (lendD ρ) := by
    refine ⟨by rw [R.len]; unfold lendD; rw [List.length_map], fun _ z => z, fun _ z => False.elim z, fun _ _ z => (by cases z), fun _ z => False.elim z, fun _ z => False.elim z, fun _ _ z _ => z, fun i x e => ?_, fun i b xs e => ?_, fun _ _ z => (by cases z), fun i j b c xs ys p e => ?_⟩
    · unfold lendD at e
      rw [List.getElem?_map] at e
      obtain ⟨y, e1, e2⟩ := Option.map_eq_some_iff.mp e
      cases y with
      | none => cases e2
      | some y =>
        cases y with
        | d z =>
          cases e2
          obtain ⟨v, q1, q2⟩ := R.dat i _ e1
          exact ⟨v, q1, Rp.less (fun _ z => False.elim z) _ _ q2⟩
        | o b xs =>
          cases e2
          obtain ⟨p, vs, q1, q2, q3, q4, _⟩ := R.own i b xs e1
          exact ⟨_, q1, .lst (fun z => z) q3 (RpAll.less (fun _ z => False.elim z) _ _ q4)⟩
    · unfold lendD at e
      rw [List.getElem?_map] at e
      obtain ⟨y, e1, e2⟩ := Option.map_eq_some_iff.mp e
      cases y with
      | none => cases e2
      | some y => cases y <;> cases e2
    · unfold lendD at e
      rw [List.getElem?_map] at e
      obtain ⟨y, e1, e2⟩ := Option.map_eq_some_iff.mp e
      cases y with
      | none => cases e2
      | some y => cases y <;> cases e2
  refine h _ _ _ σ H _ R' _ hw _ fun x ρ1 v H1 R1 g1 r1 ⟨hf, q⟩ => ?_
  have s : Same H H1 := fun a o z => R1.fr a o z fun i => by intro z2; cases z2
  refine k x ρ v H1 (R.same s) (Gr.same s) ?_ q
  cases r1 <;> first | exact .non | exact .bl _ | exact .int _ | exact .str _ | (simp [flatD] at hf)
theorem d_lend (h : PEd X e te we) : PEd X e te (wLend we) := ⟨h.p, imp_lend h.i⟩
end
theorem r80 {k : Nat} {A : Around} (r : Room k A) : A.units + 80 < cLine := by have := r.un; omega
abbrev fMax : List PyData → Option PyData := f2 (intF fun i j => some (.int (if j > i then j else i)))
abbrev fMin : List PyData → Option PyData := f2 (intF fun i j => some (.int (if j < i then j else i)))
end Dat
namespace Dat
open PySem PySem.Spec PyProof.Rows L2
section
variable {K : PySem.W.Frag} {X : Cx} {a b c e o : Expr} {ta tb tc te tl to : TE} {wa wb wc we wo : WE} {pos apos : Pos}
/-! ### a text's method of one argument -/
def wM1 (f : PyData → PyData → Option PyData) (wo we : WE) : WE := fun ρ P => wo ρ fun x ρ1 => (∃ s, x = .str s) ∧ we ρ1 fun y ρ2 => ∃ z, f x y = some z ∧ P z ρ2
def LiftM (K : PySem.W.Frag) (r : V → List V → Hp → VK → Prop) (f : PyData → PyData → Option PyData) : Prop := ∀ (M : MS) (H : Hp) x y z v u, (∀ a, M a → Mut (H a)) → f x y = some z → Rp K M H v x → Rp K M H u y → ∀ Q : VK, (∀ v' H', Same H H' → Rp K M H' v' z → Q v' H') → r v [u] H Q
theorem imp_m1 {r : V → List V → Hp → VK → Prop} {f : PyData → PyData → Option PyData} (l : LiftM K r f) (ho : ImpE K to wo) (he : ImpE K te we) : ImpE K (tM1 r to te) (wM1 f wo we) := by
  intro F O M σ H ρ R P hw Q k
  refine ho F O M σ H ρ R _ hw _ fun x ρ1 v H1 R1 g1 r1 ⟨⟨s, es⟩, hw⟩ => ?_
  subst es
  cases r1
  refine ⟨⟨s, rfl⟩, he F O M σ H1 ρ1 R1 _ hw _ fun y ρ2 u H2 R2 g2 r2 ⟨z, ez, q⟩ => ?_⟩
  refine l M H2 _ y z _ u R2.ml ez (.str s) r2 Q fun v' H' sm r' => k z ρ2 v' H' (R2.same sm) ((g1.trans g2 R.om).trans (Gr.same sm) R.om) r' q
def strsL : List PyData → Option (List Str)
  | [] => some []
  | .str s :: r => (strsL r).map (s :: ·)
  | _ => none
theorem strsL_rp {M : MS} {H : Hp} : ∀ {ds : List PyData} {vs : List V} {ys : List Str}, RpAll K M H vs ds → strsL ds = some ys → vs = ys.map V.str
  | [], _, _, .nil, e => by cases e; rfl
  | x :: ds, _, ys, .cons r t, e => by
    cases r with
    | str s =>
      simp only [strsL] at e
      obtain ⟨zs, e1, e2⟩ := Option.map_eq_some_iff.mp e
      subst e2
      rw [strsL_rp t e1]
      rfl
    | _ => simp [strsL] at e
def joinD (a : Str) (ds : List PyData) : Option PyData := match strsL ds with
  | some ys => if (ys.map (·.length)).sum + ys.length * a.length ≤ 16777216 then some (.str (Txt.join a ys)) else none
  | none => none
def fJoin : PyData → PyData → Option PyData
  | .str a, .list ds => joinD a ds
  | .str a, .tuple ds => joinD a ds
  | _, _ => none
theorem joinD_some {a : Str} {ds : List PyData} {z : PyData} (h : joinD a ds = some z) : ∃ ys, strsL ds = some ys ∧ (ys.map (·.length)).sum + ys.length * a.length ≤ 16777216 ∧ z = .str (Txt.join a ys) := by
  unfold joinD at h
  split at h
  · rename_i ys e
    split at h
    · rename_i hl
      exact ⟨ys, e, hl, (Option.some.inj h).symm⟩
    · cases h
  · cases h
theorem l_join : LiftM K (fun x xs H Q => ∃ a p, ∃ ys : List Str, x = .str a ∧ xs = [.ref p] ∧ (SqL K H p (ys.map V.str) ∨ SqT K H p (ys.map V.str)) ∧ (ys.map (·.length)).sum + ys.length * a.length ≤ 16777216 ∧ Q (.str (Txt.join a ys)) H) fJoin := by
  intro M H x y z v u ml e rx ry Q k
  unfold fJoin at e
  split at e
  · obtain ⟨ys, e1, hl, rfl⟩ := joinD_some e
    cases rx
    cases ry with
    | lst n l al =>
      have ev := strsL_rp al e1
      subst ev
      exact ⟨_, _, ys, rfl, rfl, .inl (SqL.of l), hl, k _ H (Same.refl H) (.str _)⟩
  · obtain ⟨ys, e1, hl, rfl⟩ := joinD_some e
    cases rx
    cases ry with
    | tup l al =>
      have ev := strsL_rp al e1
      subst ev
      exact ⟨_, _, ys, rfl, rfl, .inr l, hl, k _ H (Same.refl H) (.str _)⟩
  · cases e
theorem d_join (ho : PEd X o to wo) (he : PEd X e te we) (hs : starEach [e] X.env = [(false, eval e X.env)] := by rfl) (hbase : attributeBase o "join" X.env (eval o X.env) = eval o X.env := by rfl) (hline : (apos.endLine == pos.line) = true := by rfl) :
    PEd X (.Call (.Attribute o "join" apos) [e] [] pos) (tM1 (fun x xs H Q => ∃ a p, ∃ ys : List Str, x = .str a ∧ xs = [.ref p] ∧ (SqL X.K H p (ys.map V.str) ∨ SqT X.K H p (ys.map V.str)) ∧ (ys.map (·.length)).sum + ys.length * a.length ≤ 16777216 ∧ Q (.str (Txt.join a ys)) H) to te) (wM1 fJoin wo we) :=
  ⟨pe_join ho.p he.p hs hbase hline, imp_m1 l_join ho.i he.i⟩
/-! ### two at once, the second one's own new list -/
theorem own_put {F : Frm} {O : OA} {M : MS} {H H1 : Hp} {σ1 : L2.St} {ρ1 : DE} {p : Addr} {vs : List V} {ys : List PyData} (k : Nat) (sub : ∀ a, F.M0 a → M a) (om : ∀ i q, O i = some q → M q) (R1 : RepS K F O (fun q => M q ∨ q = p) H1 σ1 ρ1) (g1 : Gr O M H O (fun q => M q ∨ q = p) H1)
    (h0 : F.H0 p = none) (hm : ¬ M p) (hp : H1 p = some (.lst vs)) (ha : RpAll K (fun q => M q ∨ q = p) H1 vs ys) :
    RepS K F (fun i => if i = k then some p else O i) (fun q => M q ∨ q = p) H1 (σ1.set k (some (.ref p))) (ρ1.set k (some (.o true ys))) ∧ Gr O M H (fun i => if i = k then some p else O i) (fun q => M q ∨ q = p) H1 := by
  have Ru : RepS K F O M H1 σ1 ρ1 := R1.unapart sub om
  have R2 := RepS.take (H := H) Ru k h0 hm hp ha (fun i x v e1 e2 _ => by
    obtain ⟨v', z1, z2⟩ := R1.dat i x e1
    rw [e2] at z1
    cases z1
    exact z2) (fun i b ys p' vs' e1 e2 _ z => by
    obtain ⟨p'', vs'', z1, z2, z3, z4, _⟩ := R1.own i b ys e1
    rw [e2] at z1
    cases z1
    rw [z] at z3
    cases z3
    exact z4)
  refine ⟨R2, ⟨g1.m, fun i a e => ?_, g1.h⟩⟩
  by_cases hi : i = k
  · rw [if_pos hi] at e
    cases e
    cases hh : H p with
    | none => exact .inr rfl
    | some o =>
      rcases g1.m p (.inr rfl) with z | z
      · exact absurd z hm
      · exact .inr (z ▸ hh ▸ rfl)
  · rw [if_neg hi] at e
    exact .inl ⟨i, e⟩
def wParDO (i j : Nat) (wa : WE) (wl : WL) : WS := fun E ρ => wa ρ fun x ρ1 => wl ρ1 fun ys ρ2 => E.nx ((ρ2.set i (some (.d x))).set j (some (.o true ys)))
theorem s_parDO {wl : WL} {i j : Nat} {x y : Str} {px py pt : Pos} {kt k2 pt2} (hN : X.N.Nodup) (ha : PEd X a ta wa) (hb : PLd X b tl wl) (hij : i ≠ j := by decide) (hc : X.calm = true := by rfl) (hi : X.N[i]? = some x := by rfl) (hj : X.N[j]? = some y := by rfl)
    (hx : X.env.scope.names.lookup x = some .local := by rfl) (hy : X.env.scope.names.lookup y = some .local := by rfl) (he1 : starEach [a, b] X.env = (false, eval a X.env) :: starEach [b] X.env := by rfl) (he2 : starEach [b] X.env = (false, eval b X.env) :: starEach [] X.env := by rfl)
    (hw : swappedStores [.Tuple [.Name x px, .Name y py] kt pt] (.Tuple [a, b] k2 pt2) X.env = pure (some [x, y]) := by rfl)
    (hs : swapsWithSole [.Tuple [.Name x px, .Name y py] kt pt] (.Tuple [a, b] k2 pt2) pos.line X.env = pure false := by rfl) :
    PSd X (.Assign [.Tuple [.Name x px, .Name y py] kt pt] (.Tuple [a, b] k2 pt2) pos) (tPar i j (tCons ta (tCons tl tNil))) (wParDO i j wa wl) := by
  refine ⟨ps_par hc hN hi hj hij hx hy (pa_cons ha.p (pa_cons hb.p pa_nil he2) he1) hw hs, fun F O M σ H ρ R E hq D cn => ?_⟩
  refine ha.i F O M σ H ρ R _ hq _ fun x ρ1 v H1 R1 g1 r1 q1 => ?_
  refine hb.i F O M σ H1 ρ1 R1 _ q1 _ fun ys ρ2 p vs H2 R2 g2 h0 hm hp ha2 q2 => ?_
  refine ⟨_, _, rfl, ?_⟩
  have r1' : Rp X.K (fun q => M q ∨ q = p) H2 v x := Rp.gr R1.kp g2 x v r1
  obtain ⟨R4, g4⟩ := own_put j R.sub R.om (R2.put i r1') (g1.trans g2 R.om) h0 hm hp ha2
  exact cn.nx _ _ _ _ H2 R4 g4 q2
/-- the same by way of a tuple (a name that a block below looks at) -/
theorem s_tupDO {wl : WL} {i j : Nat} {x y : Str} {px py pt : Pos} {kt k2 pt2} (hN : X.N.Nodup) (ha : PEd X a ta wa) (hb : PLd X b tl wl) (hc : X.calm = true := by rfl) (hi : X.N[i]? = some x := by rfl) (hj : X.N[j]? = some y := by rfl)
    (hx : Loc X.env.scope x := by first | exact Or.inl rfl | exact Or.inr rfl) (hy : Loc X.env.scope y := by first | exact Or.inl rfl | exact Or.inr rfl) (hfx : X.fn x = true ∨ X.env.scope.names.lookup x = some .local := by first | exact .inl rfl | exact .inr rfl) (hfy : X.fn y = true ∨ X.env.scope.names.lookup y = some .local := by first | exact .inl rfl | exact .inr rfl)
    (he1 : starEach [a, b] X.env = (false, eval a X.env) :: starEach [b] X.env := by rfl) (he2 : starEach [b] X.env = (false, eval b X.env) :: starEach [] X.env := by rfl)
    (hw : swappedStores [.Tuple [.Name x px, .Name y py] kt pt] (.Tuple [a, b] k2 pt2) X.env = pure none := by rfl)
    (hs : swapsWithSole [.Tuple [.Name x px, .Name y py] kt pt] (.Tuple [a, b] k2 pt2) pos.line X.env = pure false := by rfl)
    (h1 : (assignEach [.Tuple [.Name x px, .Name y py] kt pt] X.env).map (·.2) = [assign (.Tuple [.Name x px, .Name y py] kt pt) X.env] := by rfl) (hn : (assignEach [.Name x px, .Name y py] X.env).length = 2 := by rfl) (hst : (assignEach [.Name x px, .Name y py] X.env).findIdx? (·.1) = none := by rfl)
    (hs1 : (assignEach [.Name x px, .Name y py] X.env).map (·.2) = assign (.Name x px) X.env :: (assignEach [.Name y py] X.env).map (·.2) := by rfl) (hs2 : (assignEach [.Name y py] X.env).map (·.2) = assign (.Name y py) X.env :: (assignEach [] X.env).map (·.2) := by rfl) :
    PSd X (.Assign [.Tuple [.Name x px, .Name y py] kt pt] (.Tuple [a, b] k2 pt2) pos) (tAsg (tTup (tCons ta (tCons tl tNil))) (gTup X.K 2 (gCons (gName i) (gCons (gName j) gNil)))) (wParDO i j wa wl) := by
  refine ⟨ps_asg (pe_tup (pa_cons ha.p (pa_cons hb.p pa_nil he2) he1)) (pg_tup hc (pgs_cons (pg_name hN hi hx hfx) (pgs_cons (pg_name hN hj hy hfy) pgs_nil hs2) hs1) hn hst) hs hw h1, fun F O M σ H ρ R E hq D cn => ?_⟩
  refine ha.i F O M σ H ρ R _ hq _ fun x ρ1 v H1 R1 g1 r1 q1 => ?_
  refine hb.i F O M σ H1 ρ1 R1 _ q1 _ fun ys ρ2 p vs H2 R2 g2 h0 hm hp ha2 q2 => ?_
  refine ⟨by show (2 : Nat) ≤ sizeLine; decide, fun l hl => ⟨l, _, rfl, .inl (.inl upd_same), rfl, _, _, rfl, _, _, rfl, rfl, ?_⟩⟩
  have sm := same_new (o := .tup [v, .ref p]) hl
  have r1' : Rp X.K (fun q => M q ∨ q = p) H2 v x := Rp.gr R1.kp g2 x v r1
  have R3 := R2.same sm
  obtain ⟨R4, g4⟩ := own_put j R.sub R.om (R3.put i (r1'.same R2.ml sm)) ((g1.trans g2 R.om).trans (Gr.same sm) R.om) h0 hm (sm _ _ hp) (ha2.same R2.ml sm)
  exact cn.nx _ _ _ _ _ R4 g4 q2
theorem c_cmpL {op : CmpOp} {r : R2} {f : PyData → PyData → Option PyData} (ho : OpR X (compareOp op) r) (l : LiftR X.K r f) (ha : PEd X a ta wa) (hb : PEd X b tb wb) (hm : behindInMarks op b = false) : PTd X (.Compare a [op] [b] pos) (tTest (tOp r ta tb)) (wTest (wLend (wBin f wa wb))) :=
  ⟨(c_cmp ho l ha hb hm).p, imp_test (imp_lend (imp_op l ha.i hb.i))⟩
end
end Dat
namespace Pl
open PySem PySem.Spec PyProof.Rows L2 Dat
/-! ### the bag of digits -/
def Bag (n : Nat) (ds : List PyData) : Prop := ∃ a b c : Int, ds = [.int a, .int b, .int c] ∧ 0 ≤ a ∧ 0 ≤ b ∧ b < 2305843009213693951 ∧ 0 ≤ c ∧ c ≤ n
theorem Bag.mono {n m : Nat} {ds : List PyData} (h : Bag n ds) (l : n ≤ m) : Bag m ds := by
  obtain ⟨a, b, c, h1, h2, h3, h4, h5, h6⟩ := h
  exact ⟨a, b, c, h1, h2, h3, h4, h5, by omega⟩
theorem f_mod {i j : Int} (h : 0 < j) : fMod (.int i) (.int j) = some (.int (i % j)) := by simp [fMod, intF, h]
theorem f_div {i j : Int} (h : 0 < j) (h2 : j < 1073741824) : fDiv (.int i) (.int j) = some (.int (i / j)) := by simp [fDiv, intF, h, h2]
theorem f_mulR {i j : Int} (h : -(2 ^ 64) < j) (h2 : j < 2 ^ 64) : fMul (.int i) (.int j) = some (.int (i * j)) := by
  have e : cMul i j = true := by
    unfold cMul
    rw [Bool.or_eq_true]
    exact .inr (decide_eq_true ⟨h, h2⟩)
  show (if cMul i j = true then some (PyData.int (i * j)) else none) = _
  rw [if_pos e]
theorem f_mulL {i j : Int} (h : -(2 ^ 64) < i) (h2 : i < 2 ^ 64) : fMul (.int i) (.int j) = some (.int (i * j)) := by
  have e : cMul i j = true := by
    unfold cMul
    rw [Bool.or_eq_true]
    exact .inl (decide_eq_true ⟨h, h2⟩)
  show (if cMul i j = true then some (PyData.int (i * j)) else none) = _
  rw [if_pos e]
theorem f_pow {i j : Int} (h : 0 ≤ j) (h2 : j ≤ 1000000) (h3 : i.natAbs < 2 ^ 64) : fPow (.int i) (.int j) = some (.int (i ^ j.toNat)) := by
  have e : decide (0 ≤ j ∧ j ≤ 1000000 ∧ i.natAbs < 2 ^ 64) = true := decide_eq_true ⟨h, h2, h3⟩
  show (if decide (0 ≤ j ∧ j ≤ 1000000 ∧ i.natAbs < 2 ^ 64) = true then some (PyData.int (i ^ j.toNat)) else none) = _
  rw [if_pos e]
theorem f_add {i j : Int} : fAdd (.int i) (.int j) = some (.int (i + j)) := rfl
theorem f_sub {i j : Int} : fSub (.int i) (.int j) = some (.int (i - j)) := rfl
theorem f_lt {i j : Int} : fLt (.int i) (.int j) = some (.bool (decide (i < j))) := rfl
theorem f_le {i j : Int} : fLe (.int i) (.int j) = some (.bool (decide (i ≤ j))) := rfl
theorem f_gt {i j : Int} : fGt (.int i) (.int j) = some (.bool (decide (j < i))) := rfl
theorem f_ge {i j : Int} : fGe (.int i) (.int j) = some (.bool (decide (j ≤ i))) := rfl
def wf__law_take : WFB := fun ds xs P => ∃ (n : Nat) (m : Int), n < 1000000000 ∧ Bag n ds ∧ xs = [.int m] ∧ 0 < m ∧ m < 1073741824 ∧ ∀ r ds', 0 ≤ r → r < m → Bag (n + 1) ds' → P (.int r) ds'
def w__law_take : WS := (wSeq (wIfS (wTest (wBin fGt (wIxK 0 (wC (.int 0))) (wC (.int 0)))) (wSeq (wAsg (wBin fMod (wIxK 0 (wC (.int 0))) (wVar 1)) (wName 3))
    (wSeq (wPutI 0 0 (wBin fDiv (wIxK 0 (wC (.int 0))) (wVar 1)))
    (wRet (wVar 3)))) wNext)
    (wSeq (wPutI 0 2 (wBin fAdd (wIxK 0 (wC (.int 2))) (wC (.int 1))))
    (wSeq (wAsg (wBin fMod (wBin fPow (wBin fAdd (wIxK 0 (wC (.int 1))) (wBin fMul (wC (.int 1000003)) (wIxK 0 (wC (.int 2))))) (wC (.int 3))) (wC (.int 2305843009213693921))) (wName 2))
    (wSeq (wAsg (wBin fMod (wBin fPow (wBin fAdd (wVar 2) (wBin fMul (wC (.int 15485863)) (wIxK 0 (wC (.int 2))))) (wC (.int 2))) (wC (.int 2305843009213693951))) (wName 2))
    (wRet (wBin fMod (wBin fDiv (wVar 2) (wC (.int 1024))) (wVar 1)))))))
theorem wl__law_take (ds xs : List PyData) (P : PyData → List PyData → Prop) (h : wf__law_take ds xs P) : xs.length + 1 = 2 := by
  obtain ⟨n, m, _, _, rfl, _⟩ := h
  rfl
theorem wp__law_take (ds xs : List PyData) (P : PyData → List PyData → Prop) (h : wf__law_take ds xs P) : w__law_take (endsB P) (startBN 4 ds xs) := by
  obtain ⟨n, m, hn, ⟨a, b, c, rfl, ha, hb, hb2, hc, hc2⟩, rfl, hm, hm2, hP⟩ := h
  have bag0 : ∀ a' c' : Int, 0 ≤ a' → 0 ≤ c' → c' ≤ (n + 1 : Nat) → Bag (n + 1) [.int a', .int b, .int c'] := fun a' c' h1 h2 h3 => ⟨a', b, c', rfl, h1, hb, hb2, h2, h3⟩
  have e0 : (ixN 3 0) = some 0 := rfl
  have e1 : (ixN 3 1) = some 1 := rfl
  have e2 : (ixN 3 2) = some 2 := rfl
  show w__law_take (endsB P) [some (.o false [.int a, .int b, .int c]), some (.d (.int m)), none, none]
  unfold w__law_take
  simp only [wSeq, wAsg, wName, wBin, wVar, wC, wTest, wIfS, wIf, wNext, wRet, wCons, wNil, wCB, wIxK, wIxO, wPutI, wCallB, wPar, wLst, wTup, wUn, wL, wLstL, wRetL, wOr, wAnd, wNot, wOwn, wExt, wApp, wRev, wTake, wRetO, wFreeze, wCall, wCallL, wCallK, wCallLK, wiRng1, wiList, wiTup, wFor, wLcN, wkCl, wkApp, wYes, wgTup, wgCons, wgNil, wLend, lendD, lendS, wipeD, List.map_cons, List.map_nil, List.getElem?_cons_zero, List.getElem?_cons_succ, List.set_cons_zero, List.set_cons_succ, Option.some.injEq, Sl.d.injEq, Sl.o.injEq, PyData.int.injEq, PyData.bool.injEq, exists_eq_left, exists_eq_left', and_assoc, exists_and_left, exists_eq', and_true, true_and, if_true, List.length_cons, List.length_nil, Option.bind_some, List.cons_append, List.nil_append, List.append_nil, f1, f2, f_gt, f_add, f_mod hm, f_div hm hm2, atI, e0, e1, e2]
  split
  · exact hP _ _ (Int.emod_nonneg _ (by omega)) (Int.emod_lt_of_pos _ hm) (bag0 _ _ (Int.ediv_nonneg ha (by omega)) hc (by omega))
  · have q1 := Int.emod_nonneg ((b + 1000003 * (c + 1)) ^ (3 : Int).toNat) (show (2305843009213693921 : Int) ≠ 0 by decide)
    have q2 := Int.emod_lt_of_pos ((b + 1000003 * (c + 1)) ^ (3 : Int).toNat) (show (0 : Int) < 2305843009213693921 by decide)
    refine ⟨_, f_mulL (by decide) (by decide), _, rfl, _, f_pow (by decide) (by decide) (by omega), _, f_mod (by decide), _, f_mulL (by decide) (by decide), _, rfl, _, f_pow (by decide) (by decide) (by omega), _, f_mod (by decide), _, f_div (by decide) (by decide), _, f_mod hm, ?_⟩
    exact hP _ _ (Int.emod_nonneg _ (by omega)) (Int.emod_lt_of_pos _ hm) (bag0 _ _ ha (by omega) (by omega))
theorem take_use {ds : List PyData} {P : PyData → List PyData → Prop} (n : Nat) {m : Int} (hb : Bag n ds) (hn : n < 1000000000) (h0 : 0 < m) (h1 : m < 1073741824) (k : ∀ r ds', 0 ≤ r → r < m → Bag (n + 1) ds' → P (.int r) ds') : wf__law_take ds [.int m] P := ⟨n, m, hn, hb, rfl, h0, h1, k⟩
theorem ix_pick (xs : List PyData) {i : Int} (h : 0 ≤ i) (h2 : i < xs.length) : ∃ z, z ∈ xs ∧ atI xs i = some z := by
  have hl : i.toNat < xs.length := by omega
  refine ⟨xs[i.toNat], List.getElem_mem hl, ?_⟩
  unfold atI ixN
  rw [if_pos h, if_pos h2]
  exact List.getElem?_eq_getElem hl
/-! ### the digits of one cell -/
def wf__law_bag : WFL := fun xs P => ∃ (ns : List Int) (at_ : Int), xs = [scrD ns, .int at_] ∧ 0 ≤ at_ ∧ at_ < 1000 ∧ ∀ ds, Bag 0 ds → P ds
def w__law_bag : WS := (wSeq (wAsg (wIf (wTest (wBin fLt (wVar 1) (wCB (f1 fLen) (wCons (wVar 0) wNil)))) (wBin fIx (wVar 0) (wVar 1)) (wC (.int 0))) (wName 2))
    (wSeq (wAsg (wIf (wTest (wBin fGe (wCB (f1 fAbs) (wCons (wVar 2) wNil)) (wBin fPow (wC (.int 10)) (wC (.int 18))))) (wCB (f1 fAbs) (wCons (wVar 2) wNil)) (wC (.int 0))) (wName 3))
    (wRetL (wLstL (wCons (wVar 3) (wCons (wBin fMod (wBin fMul (wBin fAdd (wBin fAdd (wBin fMod (wVar 2) (wC (.int 2305843009213693951))) (wBin fMul (wC (.int 7919)) (wVar 1))) (wC (.int 3))) (wC (.int 6700417))) (wC (.int 2305843009213693951))) (wCons (wC (.int 0)) wNil)))))))
theorem wl__law_bag (xs : List PyData) (P : List PyData → Prop) (h : wf__law_bag xs P) : xs.length = 2 := by
  obtain ⟨ns, i, rfl, _⟩ := h
  rfl
theorem fix_scr {ns : List Int} {i : Int} (h : 0 ≤ i) (h2 : i < ns.length) : ∃ n, fIx (scrD ns) (.int i) = some (.int n) := by
  have hl : i.toNat < (ns.map fun n => (PyData.int n, PyData.none)).length := by rw [List.length_map]; omega
  refine ⟨ns[i.toNat]'(by omega), ?_⟩
  show (atI (ns.map fun n => (PyData.int n, PyData.none)) i).map (·.1) = _
  unfold atI ixN
  rw [if_pos h, if_pos (by rw [List.length_map]; exact h2)]
  show (List.map _ ns)[i.toNat]?.map _ = _
  rw [List.getElem?_eq_getElem hl, List.getElem_map]
  rfl
theorem flen_scr {ns : List Int} : fLen (scrD ns) = some (.int ns.length) := by
  show some (PyData.int (ns.map fun n => (PyData.int n, PyData.none)).length) = _
  rw [List.length_map]
def ab (i : Int) : Int := if i < 0 then -i else i
theorem ab_nn (i : Int) : 0 ≤ ab i := by unfold ab; split <;> omega
theorem f_abs {i : Int} : fAbs (.int i) = some (.int (ab i)) := rfl
theorem wp__law_bag (xs : List PyData) (P : List PyData → Prop) (h : wf__law_bag xs P) : w__law_bag (endsL P) (startN 4 xs) := by
  obtain ⟨ns, i, rfl, h0, h1, hP⟩ := h
  have ep : fPow (.int 10) (.int 18) = some (.int (10 ^ (18 : Int).toNat)) := f_pow (by decide) (by decide) (by decide)
  have key : ∀ cell d : Int, 0 ≤ d → ∃ z, fMod (.int cell) (.int 2305843009213693951) = some z ∧ ∃ z1, fMul (.int 7919) (.int i) = some z1 ∧ ∃ z2, fAdd z z1 = some z2 ∧ ∃ z3, fAdd z2 (.int 3) = some z3 ∧ ∃ z4, fMul z3 (.int 6700417) = some z4 ∧ ∃ z5, fMod z4 (.int 2305843009213693951) = some z5 ∧ 0 + 1 + 1 + 1 ≤ sizeLine ∧ P [.int d, z5, .int 0] := fun cell d hd =>
    ⟨_, f_mod (by decide), _, f_mulL (by decide) (by decide), _, rfl, _, rfl, _, f_mulR (by decide) (by decide), _, f_mod (by decide), by decide, hP _ ⟨_, _, _, rfl, hd, Int.emod_nonneg _ (by decide), Int.emod_lt_of_pos _ (by decide), by decide, by decide⟩⟩
  show w__law_bag (endsL P) [some (.d (scrD ns)), some (.d (.int i)), none, none]
  unfold w__law_bag
  by_cases hl : i < ns.length
  · obtain ⟨cell, hc⟩ := fix_scr h0 hl
    simp only [wSeq, wAsg, wName, wBin, wVar, wC, wTest, wIfS, wIf, wNext, wRet, wCons, wNil, wCB, wIxK, wIxO, wPutI, wCallB, wPar, wLst, wTup, wUn, wL, wLstL, wRetL, wOr, wAnd, wNot, wOwn, wExt, wApp, wRev, wTake, wRetO, wFreeze, wCall, wCallL, wCallK, wCallLK, wiRng1, wiList, wiTup, wFor, wLcN, wkCl, wkApp, wYes, wgTup, wgCons, wgNil, wLend, lendD, lendS, wipeD, List.map_cons, List.map_nil, List.getElem?_cons_zero, List.getElem?_cons_succ, List.set_cons_zero, List.set_cons_succ, Option.some.injEq, Sl.d.injEq, Sl.o.injEq, PyData.int.injEq, PyData.bool.injEq, exists_eq_left, exists_eq_left', and_assoc, exists_and_left, exists_eq', and_true, true_and, if_true, List.length_cons, List.length_nil, Option.bind_some, List.cons_append, List.nil_append, List.append_nil, f1, f2, flen_scr, f_lt, hl, decide_true, if_true, hc, f_abs, ep, f_ge]
    split
    · exact key cell _ (ab_nn cell)
    · exact key cell 0 (by decide)
  · simp only [wSeq, wAsg, wName, wBin, wVar, wC, wTest, wIfS, wIf, wNext, wRet, wCons, wNil, wCB, wIxK, wIxO, wPutI, wCallB, wPar, wLst, wTup, wUn, wL, wLstL, wRetL, wOr, wAnd, wNot, wOwn, wExt, wApp, wRev, wTake, wRetO, wFreeze, wCall, wCallL, wCallK, wCallLK, wiRng1, wiList, wiTup, wFor, wLcN, wkCl, wkApp, wYes, wgTup, wgCons, wgNil, wLend, lendD, lendS, wipeD, List.map_cons, List.map_nil, List.getElem?_cons_zero, List.getElem?_cons_succ, List.set_cons_zero, List.set_cons_succ, Option.some.injEq, Sl.d.injEq, Sl.o.injEq, PyData.int.injEq, PyData.bool.injEq, exists_eq_left, exists_eq_left', and_assoc, exists_and_left, exists_eq', and_true, true_and, if_true, List.length_cons, List.length_nil, Option.bind_some, List.cons_append, List.nil_append, List.append_nil, f1, f2, flen_scr, f_lt, hl, decide_false, Bool.false_eq_true, if_false, f_abs, ep, f_ge]
    split
    · exact key 0 _ (ab_nn 0)
    · exact key 0 0 (by decide)
/-! ### operands, expressions -/
def Opd (m : Int) (d : PyData) : Prop := d = .str "x" ∨ d = .str "y" ∨ ∃ i, d = .int i ∧ 0 ≤ i ∧ i < m
def wf__law_operand : WFB := fun ds xs P => ∃ (n : Nat) (m : Int), n + 2 < 1000000000 ∧ Bag n ds ∧ xs = [.int m] ∧ 0 < m ∧ m < 1073741824 ∧ ∀ d ds', Opd m d → Bag (n + 2) ds' → P d ds'
def w__law_operand : WS := (wSeq (wAsg (wCallB 0 wf__law_take (wCons (wVar 1) wNil)) (wName 2))
    (wRet (wBin fIx (wLst (wCons (wC (.str "x")) (wCons (wC (.str "y")) (wCons (wVar 2) wNil)))) (wCallB 0 wf__law_take (wCons (wC (.int 3)) wNil)))))
theorem wl__law_operand (ds xs : List PyData) (P : PyData → List PyData → Prop) (h : wf__law_operand ds xs P) : xs.length + 1 = 2 := by
  obtain ⟨n, m, _, _, rfl, _⟩ := h
  rfl
theorem wp__law_operand (ds xs : List PyData) (P : PyData → List PyData → Prop) (h : wf__law_operand ds xs P) : w__law_operand (endsB P) (startBN 3 ds xs) := by
  obtain ⟨n, m, hn, hb, rfl, hm, hm2, hP⟩ := h
  show w__law_operand (endsB P) [some (.o false ds), some (.d (.int m)), none]
  unfold w__law_operand
  simp only [wSeq, wAsg, wName, wBin, wVar, wC, wTest, wIfS, wIf, wNext, wRet, wCons, wNil, wCB, wIxK, wIxO, wPutI, wCallB, wPar, wLst, wTup, wUn, wL, wLstL, wRetL, wOr, wAnd, wNot, wOwn, wExt, wApp, wRev, wTake, wRetO, wFreeze, wCall, wCallL, wCallK, wCallLK, wiRng1, wiList, wiTup, wFor, wLcN, wkCl, wkApp, wYes, wgTup, wgCons, wgNil, wLend, lendD, lendS, wipeD, List.map_cons, List.map_nil, List.getElem?_cons_zero, List.getElem?_cons_succ, List.set_cons_zero, List.set_cons_succ, Option.some.injEq, Sl.d.injEq, Sl.o.injEq, PyData.int.injEq, PyData.bool.injEq, exists_eq_left, exists_eq_left', and_assoc, exists_and_left, exists_eq', and_true, true_and, if_true, List.length_cons, List.length_nil, Option.bind_some, List.cons_append, List.nil_append, List.append_nil, f1, f2, fIx]
  refine take_use n hb (by omega) hm hm2 fun r ds1 r0 r1 b1 => ?_
  refine ⟨by decide, take_use (n + 1) b1 (by omega) (by decide) (by decide) fun i ds2 i0 i1 b2 => ?_⟩
  obtain ⟨z, hz, e⟩ := ix_pick [.str "x", .str "y", .int r] i0 i1
  refine ⟨z, e, hP z ds2 ?_ b2⟩
  simp only [List.mem_cons, List.not_mem_nil, or_false] at hz
  rcases hz with rfl | rfl | rfl
  · exact .inl rfl
  · exact .inr (.inl rfl)
  · exact .inr (.inr ⟨r, rfl, r0, r1⟩)
theorem operand_use {ds : List PyData} {P : PyData → List PyData → Prop} (n : Nat) {m : Int} (hb : Bag n ds) (hn : n + 2 < 1000000000) (h0 : 0 < m) (h1 : m < 1073741824) (k : ∀ d ds', Opd m d → Bag (n + 2) ds' → P d ds') : wf__law_operand ds [.int m] P := ⟨n, m, hn, hb, rfl, h0, h1, k⟩
def sgns : List PyData := [.str "+", .str "-", .str "*"]
def Exn (m : Int) (d : PyData) : Prop := Opd m d ∨ ∃ s l r, d = .tuple [s, l, r] ∧ s ∈ sgns ∧ Opd m l ∧ Opd m r
def wf__law_expression : WFB := fun ds xs P => ∃ (n : Nat) (m : Int), n + 6 < 1000000000 ∧ Bag n ds ∧ xs = [.int m] ∧ 0 < m ∧ m < 1073741824 ∧ ∀ d ds', Exn m d → Bag (n + 6) ds' → P d ds'
def w__law_expression : WS := (wSeq (wPar 2 3 (wCons (wCallB 0 wf__law_operand (wCons (wVar 1) wNil)) (wCons (wCallB 0 wf__law_operand (wCons (wVar 1) wNil)) wNil)))
    (wSeq (wAsg (wBin fIx (wLst (wCons (wC (.str "+")) (wCons (wC (.str "-")) (wCons (wC (.str "*")) wNil)))) (wCallB 0 wf__law_take (wCons (wC (.int 3)) wNil))) (wName 4))
    (wRet (wBin fIx (wLst (wCons (wVar 2) (wCons (wVar 2) (wCons (wTup (wCons (wVar 4) (wCons (wVar 2) (wCons (wVar 3) wNil)))) wNil)))) (wCallB 0 wf__law_take (wCons (wC (.int 3)) wNil))))))
theorem wl__law_expression (ds xs : List PyData) (P : PyData → List PyData → Prop) (h : wf__law_expression ds xs P) : xs.length + 1 = 2 := by
  obtain ⟨n, m, _, _, rfl, _⟩ := h
  rfl
theorem wp__law_expression (ds xs : List PyData) (P : PyData → List PyData → Prop) (h : wf__law_expression ds xs P) : w__law_expression (endsB P) (startBN 5 ds xs) := by
  obtain ⟨n, m, hn, hb, rfl, hm, hm2, hP⟩ := h
  show w__law_expression (endsB P) [some (.o false ds), some (.d (.int m)), none, none, none]
  unfold w__law_expression
  simp only [wSeq, wAsg, wName, wBin, wVar, wC, wTest, wIfS, wIf, wNext, wRet, wCons, wNil, wCB, wIxK, wIxO, wPutI, wCallB, wPar, wLst, wTup, wUn, wL, wLstL, wRetL, wOr, wAnd, wNot, wOwn, wExt, wApp, wRev, wTake, wRetO, wFreeze, wCall, wCallL, wCallK, wCallLK, wiRng1, wiList, wiTup, wFor, wLcN, wkCl, wkApp, wYes, wgTup, wgCons, wgNil, wLend, lendD, lendS, wipeD, List.map_cons, List.map_nil, List.getElem?_cons_zero, List.getElem?_cons_succ, List.set_cons_zero, List.set_cons_succ, Option.some.injEq, Sl.d.injEq, Sl.o.injEq, PyData.int.injEq, PyData.bool.injEq, exists_eq_left, exists_eq_left', and_assoc, exists_and_left, exists_eq', and_true, true_and, if_true, List.length_cons, List.length_nil, Option.bind_some, List.cons_append, List.nil_append, List.append_nil, f1, f2, fIx]
  refine operand_use n hb (by omega) hm hm2 fun l ds1 ol b1 => ?_
  refine operand_use (n + 2) b1 (by omega) hm hm2 fun r ds2 or_ b2 => ?_
  refine ⟨l, r, rfl, by decide, take_use (n + 4) b2 (by omega) (by decide) (by decide) fun i ds3 i0 i1 b3 => ?_⟩
  obtain ⟨z, hz, e⟩ := ix_pick sgns i0 i1
  refine ⟨z, e, by decide, by decide, take_use (n + 5) b3 (by omega) (by decide) (by decide) fun j ds4 j0 j1 b4 => ?_⟩
  obtain ⟨y, hy, e2⟩ := ix_pick [l, l, .tuple [z, l, r]] j0 j1
  refine ⟨y, e2, hP y ds4 ?_ b4⟩
  simp only [List.mem_cons, List.not_mem_nil, or_false] at hy
  rcases hy with rfl | rfl | rfl
  · exact .inl ol
  · exact .inl ol
  · exact .inr ⟨z, l, r, rfl, hz, ol, or_⟩
theorem expression_use {ds : List PyData} {P : PyData → List PyData → Prop} (n : Nat) {m : Int} (hb : Bag n ds) (hn : n + 6 < 1000000000) (h0 : 0 < m) (h1 : m < 1073741824) (k : ∀ d ds', Exn m d → Bag (n + 6) ds' → P d ds') : wf__law_expression ds [.int m] P := ⟨n, m, hn, hb, rfl, h0, h1, k⟩
end Pl
namespace Pl
open PySem PySem.Spec PyProof.Rows L2 Dat
/-! ### rows, texts -/
def Vrb (d : PyData) : Prop := d = .str "x" ∨ d = .str "y"
inductive RowOk (m k : Int) (ns : List PyData) : PyData → Prop
  | say {e} : Exn m e → RowOk m k ns (.tuple [.str "say", e])
  | ask {v} : Vrb v → RowOk m k ns (.tuple [.str "ask", v])
  | set {v e} : Vrb v → Exn m e → RowOk m k ns (.tuple [.str "set", v, e])
  | iff {e f g} : Exn m e → Exn m f → 0 ≤ g → g ≤ k → RowOk m k ns (.tuple [.str "if", e, f, .int g])
  | read {c v} : 0 ≤ c → c < 2 → Vrb v → RowOk m k ns (.tuple [.str "read", .int c, v])
  | write {c e} : 0 ≤ c → c < 2 → Exn m e → RowOk m k ns (.tuple [.str "write", .int c, e])
  | go {g} : 0 ≤ g → g ≤ k → RowOk m k ns (.tuple [.str "go", .int g])
  | call {n e v} : n ∈ ns → Exn m e → Vrb v → RowOk m k ns (.tuple [.str "call", n, e, v])
  | end_ {e} : Exn m e → RowOk m k ns (.tuple [.str "end", e])
def wf__law_row : WFB := fun ds xs P => ∃ (n : Nat) (m k : Int) (ns : List PyData), n + 17 < 1000000000 ∧ Bag n ds ∧ xs = [.int m, .int k, .list ns] ∧ 0 < m ∧ m < 1073741824 ∧ 0 ≤ k ∧ k < 1000 ∧ 0 < ns.length ∧ ns.length < 1000 ∧ ∀ d ds', RowOk m k ns d → Bag (n + 17) ds' → P d ds'
def w__law_row : WS := (wSeq (wPar 4 5 (wCons (wCallB 0 wf__law_expression (wCons (wVar 1) wNil)) (wCons (wCallB 0 wf__law_expression (wCons (wVar 1) wNil)) wNil)))
    (wSeq (wPar 6 7 (wCons (wBin fIx (wLst (wCons (wC (.str "x")) (wCons (wC (.str "y")) wNil))) (wCallB 0 wf__law_take (wCons (wC (.int 2)) wNil))) (wCons (wBin fIx (wVar 3) (wCallB 0 wf__law_take (wCons (wCB (f1 fLen) (wCons (wVar 3) wNil)) wNil))) wNil)))
    (wSeq (wPar 8 9 (wCons (wCallB 0 wf__law_take (wCons (wBin fAdd (wVar 2) (wC (.int 1))) wNil)) (wCons (wCallB 0 wf__law_take (wCons (wC (.int 2)) wNil)) wNil)))
    (wSeq (wAsg (wLst (wCons (wTup (wCons (wC (.str "say")) (wCons (wVar 4) wNil))) (wCons (wTup (wCons (wC (.str "ask")) (wCons (wVar 6) wNil))) (wCons (wTup (wCons (wC (.str "say")) (wCons (wVar 4) wNil))) (wCons (wTup (wCons (wC (.str "ask")) (wCons (wVar 6) wNil))) (wCons (wTup (wCons (wC (.str "set")) (wCons (wVar 6) (wCons (wVar 4) wNil)))) wNil)))))) (wName 10))
    (wSeq (wAsg (wBin fAdd (wVar 10) (wLst (wCons (wTup (wCons (wC (.str "if")) (wCons (wVar 4) (wCons (wVar 5) (wCons (wVar 8) wNil))))) (wCons (wTup (wCons (wC (.str "read")) (wCons (wVar 9) (wCons (wVar 6) wNil)))) (wCons (wTup (wCons (wC (.str "write")) (wCons (wVar 9) (wCons (wVar 4) wNil)))) (wCons (wTup (wCons (wC (.str "go")) (wCons (wVar 8) wNil))) wNil)))))) (wName 10))
    (wRet (wBin fIx (wBin fAdd (wVar 10) (wLst (wCons (wTup (wCons (wC (.str "call")) (wCons (wVar 7) (wCons (wVar 4) (wCons (wVar 6) wNil))))) (wCons (wTup (wCons (wC (.str "end")) (wCons (wVar 4) wNil))) (wCons (wTup (wCons (wC (.str "if")) (wCons (wVar 4) (wCons (wVar 5) (wCons (wVar 8) wNil))))) wNil))))) (wCallB 0 wf__law_take (wCons (wC (.int 12)) wNil)))))))))
theorem wl__law_row (ds xs : List PyData) (P : PyData → List PyData → Prop) (h : wf__law_row ds xs P) : xs.length + 1 = 4 := by
  obtain ⟨n, m, k, ns, _, _, rfl, _⟩ := h
  rfl
theorem f_addL {xs ys : List PyData} (h : xs.length + ys.length ≤ sizeLine) : fAdd (.list xs) (.list ys) = some (.list (xs ++ ys)) := by
  show (if xs.length + ys.length ≤ sizeLine then some (PyData.list (xs ++ ys)) else none) = _
  rw [if_pos h]
theorem f_lenL {xs : List PyData} : fLen (.list xs) = some (.int xs.length) := rfl
theorem f_lenT {xs : List PyData} : fLen (.tuple xs) = some (.int xs.length) := rfl
theorem wp__law_row (ds xs : List PyData) (P : PyData → List PyData → Prop) (h : wf__law_row ds xs P) : w__law_row (endsB P) (startBN 11 ds xs) := by
  obtain ⟨n, m, k, ns, hn, hb, rfl, hm, hm2, hk, hk2, hs, hs2, hP⟩ := h
  show w__law_row (endsB P) [some (.o false ds), some (.d (.int m)), some (.d (.int k)), some (.d (.list ns)), none, none, none, none, none, none, none]
  unfold w__law_row
  simp only [wSeq, wAsg, wName, wBin, wVar, wC, wTest, wIfS, wIf, wNext, wRet, wCons, wNil, wCB, wIxK, wIxO, wPutI, wCallB, wPar, wLst, wTup, wUn, wL, wLstL, wRetL, wOr, wAnd, wNot, wOwn, wExt, wApp, wRev, wTake, wRetO, wFreeze, wCall, wCallL, wCallK, wCallLK, wiRng1, wiList, wiTup, wFor, wLcN, wkCl, wkApp, wYes, wgTup, wgCons, wgNil, wLend, lendD, lendS, wipeD, List.map_cons, List.map_nil, List.getElem?_cons_zero, List.getElem?_cons_succ, List.set_cons_zero, List.set_cons_succ, Option.some.injEq, Sl.d.injEq, Sl.o.injEq, PyData.int.injEq, PyData.bool.injEq, exists_eq_left, exists_eq_left', and_assoc, exists_and_left, exists_eq', and_true, true_and, if_true, List.length_cons, List.length_nil, Option.bind_some, List.cons_append, List.nil_append, List.append_nil, f1, f2, fIx, f_lenL, f_add]
  refine expression_use n hb (by omega) hm hm2 fun one ds1 o1 b1 => ?_
  refine expression_use (n + 6) b1 (by omega) hm hm2 fun other ds2 o2 b2 => ?_
  refine ⟨one, other, rfl, by decide, take_use (n + 12) b2 (by omega) (by decide) (by decide) fun i ds3 i0 i1 b3 => ?_⟩
  obtain ⟨v, hv, e3⟩ := ix_pick [.str "x", .str "y"] i0 i1
  have hv : Vrb v := by
    simp only [List.mem_cons, List.not_mem_nil, or_false] at hv
    exact hv
  refine ⟨v, e3, take_use (n + 13) b3 (by omega) (by omega) (by omega) fun j ds4 j0 j1 b4 => ?_⟩
  obtain ⟨nm, hnm, e4⟩ := ix_pick ns j0 j1
  refine ⟨nm, e4, v, nm, rfl, take_use (n + 14) b4 (by omega) (by omega) (by omega) fun g ds5 g0 g1 b5 => ?_⟩
  refine take_use (n + 15) b5 (by omega) (by decide) (by decide) fun c ds6 c0 c1 b6 => ?_
  refine ⟨.int g, .int c, rfl, ?_⟩
  refine ⟨by decide, by decide, by decide, by decide, by decide, by decide, by decide, by decide, by decide, by decide, by decide, _, f_addL (show (9 : Nat) ≤ sizeLine by decide), by decide, by decide, by decide, by decide, _, f_addL (show (12 : Nat) ≤ sizeLine by decide), take_use (n + 16) b6 (by omega) (by decide) (by decide) fun q ds7 q0 q1 b7 => ?_⟩
  obtain ⟨z, hz, e⟩ := ix_pick ([.tuple [.str "say", one], .tuple [.str "ask", v], .tuple [.str "say", one], .tuple [.str "ask", v], .tuple [.str "set", v, one]] ++ [.tuple [.str "if", one, other, .int g], .tuple [.str "read", .int c, v], .tuple [.str "write", .int c, one], .tuple [.str "go", .int g]] ++ [.tuple [.str "call", nm, one, v], .tuple [.str "end", one], .tuple [.str "if", one, other, .int g]]) q0 (by show q < ((12 : Nat) : Int); exact q1)
  refine ⟨z, e, hP z ds7 ?_ b7⟩
  simp only [List.cons_append, List.nil_append, List.mem_cons, List.not_mem_nil, or_false] at hz
  have hg : g ≤ k := by omega
  rcases hz with rfl | rfl | rfl | rfl | rfl | rfl | rfl | rfl | rfl | rfl | rfl | rfl
  · exact .say o1
  · exact .ask hv
  · exact .say o1
  · exact .ask hv
  · exact .set hv o1
  · exact .iff o1 o2 g0 hg
  · exact .read c0 c1 hv
  · exact .write c0 c1 o1
  · exact .go g0 hg
  · exact .call hnm o1 hv
  · exact .end_ o1
  · exact .iff o1 o2 g0 hg
theorem row_use {ds ns : List PyData} {P : PyData → List PyData → Prop} (n : Nat) {m k : Int} (hb : Bag n ds) (hn : n + 17 < 1000000000) (h0 : 0 < m) (h1 : m < 1073741824) (h2 : 0 ≤ k) (h3 : k < 1000) (h4 : 0 < ns.length) (h5 : ns.length < 1000) (q : ∀ d ds', RowOk m k ns d → Bag (n + 17) ds' → P d ds') : wf__law_row ds [.int m, .int k, .list ns] P :=
  ⟨n, m, k, ns, hn, hb, rfl, h0, h1, h2, h3, h4, h5, q⟩
def wf__law_text : WFB := fun ds xs P => ∃ (n : Nat) (m most : Int) (ns : List PyData), n + 2000 < 1000000000 ∧ Bag n ds ∧ xs = [.int m, .int most, .list ns] ∧ 0 < m ∧ m < 1073741824 ∧ 0 ≤ most ∧ most ≤ 100 ∧ 0 < ns.length ∧ ns.length < 1000 ∧
  ∀ rows ds', (rows.length : Int) ≤ most → (∀ r ∈ rows, RowOk m rows.length ns r) → Bag (n + 2000) ds' → P (.tuple rows) ds'
def w__law_text : WS := (wSeq (wAsg (wCallB 0 wf__law_take (wCons (wBin fAdd (wVar 2) (wC (.int 1))) wNil)) (wName 4))
    (wRet (wCB (f1 fTuple) (wCons (wL (wLcN (wiRng1 (wCons (wVar 4) wNil)) (wName 5) wYes (wkApp (wCallB 0 wf__law_row (wCons (wVar 1) (wCons (wVar 4) (wCons (wVar 3) wNil))))) [5])) wNil))))
theorem wl__law_text (ds xs : List PyData) (P : PyData → List PyData → Prop) (h : wf__law_text ds xs P) : xs.length + 1 = 4 := by
  obtain ⟨n, m, k, ns, _, _, rfl, _⟩ := h
  rfl
theorem sl16 : sizeLine = 16777216 := rfl
theorem text_loop {m k : Int} {ns : List PyData} {most : PyData} (h0 : 0 < m) (h1 : m < 1073741824) (h2 : 0 ≤ k) (h3 : k < 1000) (h4 : 0 < ns.length) (h5 : ns.length < 1000) : ∀ (xs acc : List PyData) (n : Nat) (ds : List PyData) (P : List PyData → DE → Prop), Bag n ds → n + 17 * xs.length < 1000000000 → acc.length + xs.length ≤ 1000 →
    (∀ rows ds', rows.length = xs.length → (∀ r ∈ rows, RowOk m k ns r) → Bag (n + 17 * xs.length) ds' → P (acc ++ rows) [some (.o false ds'), some (.d (.int m)), some (.d most), some (.d (.list ns)), some (.d (.int k)), none]) →
    clRec (wName 5) wYes (wkApp (wCallB 0 wf__law_row (wCons (wVar 1) (wCons (wVar 4) (wCons (wVar 3) wNil))))) [5] xs acc [some (.o false ds), some (.d (.int m)), some (.d most), some (.d (.list ns)), some (.d (.int k)), none] P
  | [], acc, n, ds, P, hb, _, _, hP => by
    have q := hP [] ds rfl (fun _ z => by cases z) hb
    rw [List.append_nil] at q
    exact q
  | x :: xs, acc, n, ds, P, hb, hn, ha, hP => by
    rw [List.length_cons] at hn ha
    simp only [clRec, wSeq, wAsg, wName, wBin, wVar, wC, wTest, wIfS, wIf, wNext, wRet, wCons, wNil, wCB, wIxK, wIxO, wPutI, wCallB, wPar, wLst, wTup, wUn, wL, wLstL, wRetL, wOr, wAnd, wNot, wOwn, wExt, wApp, wRev, wTake, wRetO, wFreeze, wCall, wCallL, wCallK, wCallLK, wiRng1, wiList, wiTup, wFor, wLcN, wkCl, wkApp, wYes, wgTup, wgCons, wgNil, wLend, lendD, lendS, wipeD, List.map_cons, List.map_nil, List.getElem?_cons_zero, List.getElem?_cons_succ, List.set_cons_zero, List.set_cons_succ, Option.some.injEq, Sl.d.injEq, Sl.o.injEq, PyData.int.injEq, PyData.bool.injEq, exists_eq_left, exists_eq_left', and_assoc, exists_and_left, exists_eq', and_true, true_and, if_true, List.length_cons, List.length_nil, Option.bind_some, List.cons_append, List.nil_append, List.append_nil, f1, f2]
    refine row_use n hb (by omega) h0 h1 h2 h3 h4 h5 fun d ds1 hd b1 => ⟨by rw [sl16]; omega, ?_⟩
    refine text_loop h0 h1 h2 h3 h4 h5 xs (acc ++ [d]) (n + 17) ds1 P b1 (by omega) (by rw [List.length_append, List.length_singleton]; omega) fun rows ds' hr hr2 b' => ?_
    rw [List.append_assoc]
    refine hP (d :: rows) ds' (by rw [List.length_cons, List.length_cons, hr]) (fun r hm => ?_) (b'.mono (by rw [List.length_cons]; omega))
    rcases List.mem_cons.mp hm with rfl | hm
    · exact hd
    · exact hr2 r hm
theorem wp__law_text (ds xs : List PyData) (P : PyData → List PyData → Prop) (h : wf__law_text ds xs P) : w__law_text (endsB P) (startBN 6 ds xs) := by
  obtain ⟨n, m, most, ns, hn, hb, rfl, hm, hm2, hk, hk2, hs, hs2, hP⟩ := h
  show w__law_text (endsB P) [some (.o false ds), some (.d (.int m)), some (.d (.int most)), some (.d (.list ns)), none, none]
  unfold w__law_text
  simp only [wSeq, wAsg, wName, wBin, wVar, wC, wTest, wIfS, wIf, wNext, wRet, wCons, wNil, wCB, wIxK, wIxO, wPutI, wCallB, wPar, wLst, wTup, wUn, wL, wLstL, wRetL, wOr, wAnd, wNot, wOwn, wExt, wApp, wRev, wTake, wRetO, wFreeze, wCall, wCallL, wCallK, wCallLK, wiRng1, wiList, wiTup, wFor, wLcN, wkCl, wkApp, wYes, wgTup, wgCons, wgNil, wLend, lendD, lendS, wipeD, List.map_cons, List.map_nil, List.getElem?_cons_zero, List.getElem?_cons_succ, List.set_cons_zero, List.set_cons_succ, Option.some.injEq, Sl.d.injEq, Sl.o.injEq, PyData.int.injEq, PyData.bool.injEq, exists_eq_left, exists_eq_left', and_assoc, exists_and_left, exists_eq', and_true, true_and, if_true, List.length_cons, List.length_nil, Option.bind_some, List.cons_append, List.nil_append, List.append_nil, f1, f2, f_add]
  refine take_use n hb (by omega) (by omega) (by omega) fun k ds1 k0 k1 b1 => ⟨k, rfl, by omega, by omega, ?_⟩
  refine text_loop hm hm2 k0 (by omega) hs hs2 _ _ (n + 1) ds1 _ b1 (by rw [rangeD_len]; omega) (by rw [rangeD_len, List.length_nil]; omega) fun rows ds' hr hr2 b' => ?_
  rw [rangeD_len] at hr b'
  rw [List.nil_append]
  refine ⟨_, rfl, ds', rfl, ?_⟩
  have e : (rows.length : Int) = k := by omega
  refine hP _ ds' (by omega) (fun r hm => ?_) (b'.mono (by omega))
  rw [e]
  exact hr2 r hm
theorem text_use {ds ns : List PyData} {P : PyData → List PyData → Prop} (n : Nat) {m most : Int} (hb : Bag n ds) (hn : n + 2000 < 1000000000) (h0 : 0 < m) (h1 : m < 1073741824) (h2 : 0 ≤ most) (h3 : most ≤ 100) (h4 : 0 < ns.length) (h5 : ns.length < 1000)
    (q : ∀ rows ds', (rows.length : Int) ≤ most → (∀ r ∈ rows, RowOk m rows.length ns r) → Bag (n + 2000) ds' → P (.tuple rows) ds') : wf__law_text ds [.int m, .int most, .list ns] P := ⟨n, m, most, ns, hn, hb, rfl, h0, h1, h2, h3, h4, h5, q⟩
end Pl
namespace Pl
open PySem PySem.Spec PyProof.Rows L2 Dat
/-! ### the stands of a text -/
def dt_SILENT : PyData := (.tuple [(.str "set"), (.str "if"), (.str "go")])
def silS (s : Str) : Bool := [PyData.str "set", PyData.str "if", PyData.str "go"].any fun y => PyData.eqv y (.str s)
theorem fin_sil (s : Str) : fIn true (.str s) (.tuple [.str "set", .str "if", .str "go"]) = some (.bool (!silS s)) := rfl
def sil (rows : List PyData) (i : Nat) : Bool := match rows[i]? with
  | some (.tuple (.str s :: _)) => silS s
  | _ => false
def Hd (r : PyData) : Prop := ∃ s t, r = .tuple (.str s :: t)
theorem RowOk.hd {m k : Int} {ns : List PyData} {r : PyData} (h : RowOk m k ns r) : Hd r := by cases h <;> exact ⟨_, _, rfl⟩
theorem row_at {rows : List PyData} (h : ∀ r ∈ rows, Hd r) {i : Nat} (hi : i < rows.length) : ∃ s t, atI rows (i : Int) = some (.tuple (.str s :: t)) ∧ sil rows i = silS s := by
  obtain ⟨s, t, e⟩ := h _ (List.getElem_mem hi)
  refine ⟨s, t, ?_, ?_⟩
  · unfold atI ixN
    rw [if_pos (by omega), if_pos (by omega)]
    show rows[(i : Int).toNat]? = _
    rw [Int.toNat_natCast, List.getElem?_eq_getElem hi, e]
  · unfold sil
    rw [List.getElem?_eq_getElem hi, e]
theorem at0 {x : PyData} {t : List PyData} : atI (x :: t) 0 = some x := by
  unfold atI ixN
  rw [if_pos (by decide), if_pos (by rw [List.length_cons]; omega)]
  rfl
def stf (b : Int) (i : PyData) : PyData → PyData
  | .int k => .tuple [i, .int (k / b), .int (k % b)]
  | d => d
def stn (b : Int) (i : PyData) : List PyData := (rangeD 0 (b * b).toNat).map (stf b i)
def ini (l : List Nat) : List PyData := l.map fun i => .int (0 + (i : Nat))
theorem ini_range (n : Nat) : rangeD 0 n = ini (List.range n) := rfl
def idx (rows : List PyData) : List PyData := ini ((List.range rows.length).filter fun i => !sil rows i) ++ [.int rows.length]
def stands (rows : List PyData) (b : Int) : List PyData := (idx rows).flatMap (stn b)
theorem stn_len (b : Int) (i : PyData) : (stn b i).length = (b * b).toNat := by unfold stn; rw [List.length_map, rangeD_len]
/-! #### as the law lists them -/
def wf__law_stands : WFL := fun xs P => ∃ (rows : List PyData) (b : Int), xs = [.tuple rows, .int b] ∧ 2 ≤ b ∧ b ≤ 4 ∧ rows.length ≤ 100 ∧ (∀ r ∈ rows, Hd r) ∧ P (stands rows b)
def w__law_stands : WS := (wSeq (wOwn wNil 2)
    (wSeq (wFor (wiRng1 (wCons (wBin fAdd (wCB (f1 fLen) (wCons (wVar 0) wNil)) (wC (.int 1))) wNil)) (wName 3) (wIfS (wOr (wTest (wBin fEq (wVar 3) (wCB (f1 fLen) (wCons (wVar 0) wNil)))) (wTest (wBin (fIn true) (wBin fIx (wBin fIx (wVar 0) (wVar 3)) (wC (.int 0))) (wTup (wCons (wC (.str "set")) (wCons (wC (.str "if")) (wCons (wC (.str "go")) wNil))))))) (wExt 2 (wL (wLcN (wiRng1 (wCons (wBin fMul (wVar 1) (wVar 1)) wNil)) (wName 4) wYes (wkApp (wTup (wCons (wVar 3) (wCons (wBin fDiv (wVar 4) (wVar 1)) (wCons (wBin fMod (wVar 4) (wVar 1)) wNil))))) [4]))) wNext))
    (wRetO 2)))
theorem wl__law_stands (xs : List PyData) (P : List PyData → Prop) (h : wf__law_stands xs P) : xs.length = 2 := by
  obtain ⟨rows, b, rfl, _⟩ := h
  rfl
theorem st_comp {b : Int} (hb : 2 ≤ b) (hb2 : b ≤ 4) {r i : PyData} : ∀ (l : List Nat) (acc : List PyData) (P : List PyData → DE → Prop) (o : Option Sl), acc.length + l.length ≤ 100000 → P (acc ++ (ini l).map (stf b i)) [some (.d r), some (.d (.int b)), o, some (.d i), none] →
    clRec (wName 4) wYes (wkApp (wTup (wCons (wVar 3) (wCons (wBin fDiv (wVar 4) (wVar 1)) (wCons (wBin fMod (wVar 4) (wVar 1)) wNil))))) [4] (ini l) acc [some (.d r), some (.d (.int b)), o, some (.d i), none] P
  | [], acc, P, o, _, h => by
    rw [show (ini []).map (stf b i) = [] from rfl, List.append_nil] at h
    exact h
  | x :: l, acc, P, o, hl, h => by
    rw [List.length_cons] at hl
    show clRec _ _ _ _ (.int (0 + (x : Nat)) :: ini l) acc _ P
    simp only [clRec, wSeq, wAsg, wName, wBin, wVar, wC, wTest, wIfS, wIf, wNext, wRet, wCons, wNil, wCB, wIxK, wIxO, wPutI, wCallB, wPar, wLst, wTup, wUn, wL, wLstL, wRetL, wOr, wAnd, wNot, wOwn, wExt, wApp, wRev, wTake, wRetO, wFreeze, wCall, wCallL, wCallK, wCallLK, wiRng1, wiList, wiTup, wFor, wLcN, wkCl, wkApp, wYes, wgTup, wgCons, wgNil, wLend, lendD, lendS, wipeD, List.map_cons, List.map_nil, List.getElem?_cons_zero, List.getElem?_cons_succ, List.set_cons_zero, List.set_cons_succ, Option.some.injEq, Sl.d.injEq, Sl.o.injEq, PyData.int.injEq, PyData.bool.injEq, exists_eq_left, exists_eq_left', and_assoc, exists_and_left, exists_eq', and_true, true_and, if_true, List.length_cons, List.length_nil, Option.bind_some, List.cons_append, List.nil_append, List.append_nil, f1, f2, f_div (show 0 < b by omega) (show b < 1073741824 by omega), f_mod (show 0 < b by omega)]
    refine ⟨by decide, by rw [sl16]; omega, st_comp hb hb2 l _ P o (by rw [List.length_append, List.length_singleton]; omega) ?_⟩
    rw [List.append_assoc]
    exact h
theorem b_sq {b : Int} (hb : 2 ≤ b) (hb2 : b ≤ 4) : 4 ≤ b * b ∧ b * b ≤ 16 := by
  have h : b = 2 ∨ b = 3 ∨ b = 4 := by omega
  rcases h with rfl | rfl | rfl <;> decide
def keep (rows : List PyData) (i : Nat) : Bool := i == rows.length || !sil rows i
theorem feq_int {i j : Int} : fEq (.int i) (.int j) = some (.bool (i == j)) := rfl
theorem st_for {rows : List PyData} {b : Int} (hb : 2 ≤ b) (hb2 : b ≤ 4) (hr : rows.length ≤ 100) (hh : ∀ r ∈ rows, Hd r) {E : DEnds} : ∀ (l : List Nat) (found : List PyData) (o3 o4 : Option Sl), (∀ i ∈ l, i ≤ rows.length) → found.length + 16 * l.length ≤ 10000 →
    (∀ o3 o4, E.nx [some (.d (.tuple rows)), some (.d (.int b)), some (.o true (found ++ (l.filter (keep rows)).flatMap fun i => stn b (.int (0 + (i : Nat))))), o3, o4]) →
    forRec (wName 3) (wIfS (wOr (wTest (wBin fEq (wVar 3) (wCB (f1 fLen) (wCons (wVar 0) wNil)))) (wTest (wBin (fIn true) (wBin fIx (wBin fIx (wVar 0) (wVar 3)) (wC (.int 0))) (wTup (wCons (wC (.str "set")) (wCons (wC (.str "if")) (wCons (wC (.str "go")) wNil))))))) (wExt 2 (wL (wLcN (wiRng1 (wCons (wBin fMul (wVar 1) (wVar 1)) wNil)) (wName 4) wYes (wkApp (wTup (wCons (wVar 3) (wCons (wBin fDiv (wVar 4) (wVar 1)) (wCons (wBin fMod (wVar 4) (wVar 1)) wNil))))) [4]))) wNext) E (ini l) [some (.d (.tuple rows)), some (.d (.int b)), some (.o true found), o3, o4]
  | [], found, o3, o4, _, _, h => by
    have q := h o3 o4
    rw [List.filter_nil, List.flatMap_nil, List.append_nil] at q
    exact q
  | i :: l, found, o3, o4, hi, hl, h => by
    rw [List.length_cons] at hl
    have hsq := b_sq hb hb2
    have hi0 := hi i List.mem_cons_self
    show forRec _ _ _ (.int (0 + (i : Nat)) :: ini l) _
    have ext : keep rows i = true → (fun E ρ => (wExt 2 (wL (wLcN (wiRng1 (wCons (wBin fMul (wVar 1) (wVar 1)) wNil)) (wName 4) wYes (wkApp (wTup (wCons (wVar 3) (wCons (wBin fDiv (wVar 4) (wVar 1)) (wCons (wBin fMod (wVar 4) (wVar 1)) wNil))))) [4]))) E ρ) { E with nx := forRec (wName 3) (wIfS (wOr (wTest (wBin fEq (wVar 3) (wCB (f1 fLen) (wCons (wVar 0) wNil)))) (wTest (wBin (fIn true) (wBin fIx (wBin fIx (wVar 0) (wVar 3)) (wC (.int 0))) (wTup (wCons (wC (.str "set")) (wCons (wC (.str "if")) (wCons (wC (.str "go")) wNil))))))) (wExt 2 (wL (wLcN (wiRng1 (wCons (wBin fMul (wVar 1) (wVar 1)) wNil)) (wName 4) wYes (wkApp (wTup (wCons (wVar 3) (wCons (wBin fDiv (wVar 4) (wVar 1)) (wCons (wBin fMod (wVar 4) (wVar 1)) wNil))))) [4]))) wNext) E (ini l), ct := forRec (wName 3) (wIfS (wOr (wTest (wBin fEq (wVar 3) (wCB (f1 fLen) (wCons (wVar 0) wNil)))) (wTest (wBin (fIn true) (wBin fIx (wBin fIx (wVar 0) (wVar 3)) (wC (.int 0))) (wTup (wCons (wC (.str "set")) (wCons (wC (.str "if")) (wCons (wC (.str "go")) wNil))))))) (wExt 2 (wL (wLcN (wiRng1 (wCons (wBin fMul (wVar 1) (wVar 1)) wNil)) (wName 4) wYes (wkApp (wTup (wCons (wVar 3) (wCons (wBin fDiv (wVar 4) (wVar 1)) (wCons (wBin fMod (wVar 4) (wVar 1)) wNil))))) [4]))) wNext) E (ini l), bk := E.nx } [some (.d (.tuple rows)), some (.d (.int b)), some (.o true found), some (.d (.int (0 + (i : Nat)))), o4] := by
      intro hk
      simp only [wSeq, wAsg, wName, wBin, wVar, wC, wTest, wIfS, wIf, wNext, wRet, wCons, wNil, wCB, wIxK, wIxO, wPutI, wCallB, wPar, wLst, wTup, wUn, wL, wLstL, wRetL, wOr, wAnd, wNot, wOwn, wExt, wApp, wRev, wTake, wRetO, wFreeze, wCall, wCallL, wCallK, wCallLK, wiRng1, wiList, wiTup, wFor, wLcN, wkCl, wkApp, wYes, wgTup, wgCons, wgNil, wLend, lendD, lendS, wipeD, List.map_cons, List.map_nil, List.getElem?_cons_zero, List.getElem?_cons_succ, List.set_cons_zero, List.set_cons_succ, Option.some.injEq, Sl.d.injEq, Sl.o.injEq, PyData.int.injEq, PyData.bool.injEq, exists_eq_left, exists_eq_left', and_assoc, exists_and_left, exists_eq', and_true, true_and, if_true, List.length_cons, List.length_nil, Option.bind_some, List.cons_append, List.nil_append, List.append_nil, f1, f2, f_mulL (show -(2 ^ 64) < b by omega) (show b < 2 ^ 64 by omega)]
      refine ⟨_, rfl, by omega, by omega, ?_⟩
      rw [ini_range]
      refine st_comp hb hb2 (r := .tuple rows) _ [] _ _ (by rw [List.length_range, List.length_nil]; omega) ?_
      refine ⟨true, found, _, rfl, rfl, ?_, ?_⟩
      · rw [List.nil_append, List.length_map, sl16]
        unfold ini
        rw [List.length_map, List.length_range]
        omega
      · refine st_for hb hb2 hr hh l _ _ _ (fun j hj => hi j (List.mem_cons_of_mem _ hj)) ?_ fun o3 o4 => ?_
        · rw [List.length_append, List.nil_append, List.length_map]
          unfold ini
          rw [List.length_map, List.length_range]
          omega
        · have q := h o3 o4
          rw [List.filter_cons_of_pos (by exact hk), List.flatMap_cons, ← List.append_assoc] at q
          exact q
    by_cases he : i = rows.length
    · have e1 : ((0 + (i : Nat) : Int) == (rows.length : Int)) = true := by rw [he]; simp
      have hk : keep rows i = true := by unfold keep; rw [he]; simp
      have q := ext hk
      simp only [forRec, wSeq, wAsg, wName, wBin, wVar, wC, wTest, wIfS, wIf, wNext, wRet, wCons, wNil, wCB, wIxK, wIxO, wPutI, wCallB, wPar, wLst, wTup, wUn, wL, wLstL, wRetL, wOr, wAnd, wNot, wOwn, wExt, wApp, wRev, wTake, wRetO, wFreeze, wCall, wCallL, wCallK, wCallLK, wiRng1, wiList, wiTup, wFor, wLcN, wkCl, wkApp, wYes, wgTup, wgCons, wgNil, wLend, lendD, lendS, wipeD, List.map_cons, List.map_nil, List.getElem?_cons_zero, List.getElem?_cons_succ, List.set_cons_zero, List.set_cons_succ, Option.some.injEq, Sl.d.injEq, Sl.o.injEq, PyData.int.injEq, PyData.bool.injEq, exists_eq_left, exists_eq_left', and_assoc, exists_and_left, exists_eq', and_true, true_and, if_true, List.length_cons, List.length_nil, Option.bind_some, List.cons_append, List.nil_append, List.append_nil, f1, f2, f_lenT, feq_int, e1, if_true] at q ⊢
      exact q
    · have hlt : i < rows.length := by omega
      have e1 : ((0 + (i : Nat) : Int) == (rows.length : Int)) = false := by simp; omega
      obtain ⟨s, t, ea, es⟩ := row_at hh hlt
      have ea' : atI rows (0 + (i : Nat) : Int) = some (.tuple (.str s :: t)) := by rw [Int.zero_add]; exact ea
      have hkk : keep rows i = !silS s := by
        unfold keep
        rw [es]
        have : (i == rows.length) = false := by simp; exact he
        rw [this, Bool.false_or]
      cases hs : silS s with
      | true =>
        simp only [forRec, wSeq, wAsg, wName, wBin, wVar, wC, wTest, wIfS, wIf, wNext, wRet, wCons, wNil, wCB, wIxK, wIxO, wPutI, wCallB, wPar, wLst, wTup, wUn, wL, wLstL, wRetL, wOr, wAnd, wNot, wOwn, wExt, wApp, wRev, wTake, wRetO, wFreeze, wCall, wCallL, wCallK, wCallLK, wiRng1, wiList, wiTup, wFor, wLcN, wkCl, wkApp, wYes, wgTup, wgCons, wgNil, wLend, lendD, lendS, wipeD, List.map_cons, List.map_nil, List.getElem?_cons_zero, List.getElem?_cons_succ, List.set_cons_zero, List.set_cons_succ, Option.some.injEq, Sl.d.injEq, Sl.o.injEq, PyData.int.injEq, PyData.bool.injEq, exists_eq_left, exists_eq_left', and_assoc, exists_and_left, exists_eq', and_true, true_and, if_true, List.length_cons, List.length_nil, Option.bind_some, List.cons_append, List.nil_append, List.append_nil, f1, f2, f_lenT, feq_int, e1, Bool.false_eq_true, if_false, fIx, ea', at0, fin_sil, hs, Bool.not_true]
        refine ⟨by decide, st_for hb hb2 hr hh l _ _ _ (fun j hj => hi j (List.mem_cons_of_mem _ hj)) (by omega) fun o3 o4 => ?_⟩
        have q := h o3 o4
        rw [List.filter_cons_of_neg (by rw [hkk, hs]; decide)] at q
        exact q
      | false =>
        have q := ext (by rw [hkk, hs]; rfl)
        simp only [forRec, wSeq, wAsg, wName, wBin, wVar, wC, wTest, wIfS, wIf, wNext, wRet, wCons, wNil, wCB, wIxK, wIxO, wPutI, wCallB, wPar, wLst, wTup, wUn, wL, wLstL, wRetL, wOr, wAnd, wNot, wOwn, wExt, wApp, wRev, wTake, wRetO, wFreeze, wCall, wCallL, wCallK, wCallLK, wiRng1, wiList, wiTup, wFor, wLcN, wkCl, wkApp, wYes, wgTup, wgCons, wgNil, wLend, lendD, lendS, wipeD, List.map_cons, List.map_nil, List.getElem?_cons_zero, List.getElem?_cons_succ, List.set_cons_zero, List.set_cons_succ, Option.some.injEq, Sl.d.injEq, Sl.o.injEq, PyData.int.injEq, PyData.bool.injEq, exists_eq_left, exists_eq_left', and_assoc, exists_and_left, exists_eq', and_true, true_and, if_true, List.length_cons, List.length_nil, Option.bind_some, List.cons_append, List.nil_append, List.append_nil, f1, f2, f_lenT, feq_int, e1, Bool.false_eq_true, if_false, fIx, ea', at0, fin_sil, hs, Bool.not_false, if_true] at q ⊢
        exact ⟨by decide, q⟩
theorem wp__law_stands (xs : List PyData) (P : List PyData → Prop) (h : wf__law_stands xs P) : w__law_stands (endsL P) (startN 5 xs) := by
  obtain ⟨rows, b, rfl, hb, hb2, hr, hh, hP⟩ := h
  show w__law_stands (endsL P) [some (.d (.tuple rows)), some (.d (.int b)), none, none, none]
  unfold w__law_stands
  simp only [wSeq, wAsg, wName, wBin, wVar, wC, wTest, wIfS, wIf, wNext, wRet, wCons, wNil, wCB, wIxK, wIxO, wPutI, wCallB, wPar, wLst, wTup, wUn, wL, wLstL, wRetL, wOr, wAnd, wNot, wOwn, wExt, wApp, wRev, wTake, wRetO, wFreeze, wCall, wCallL, wCallK, wCallLK, wiRng1, wiList, wiTup, wFor, wLcN, wkCl, wkApp, wYes, wgTup, wgCons, wgNil, wLend, lendD, lendS, wipeD, List.map_cons, List.map_nil, List.getElem?_cons_zero, List.getElem?_cons_succ, List.set_cons_zero, List.set_cons_succ, Option.some.injEq, Sl.d.injEq, Sl.o.injEq, PyData.int.injEq, PyData.bool.injEq, exists_eq_left, exists_eq_left', and_assoc, exists_and_left, exists_eq', and_true, true_and, if_true, List.length_cons, List.length_nil, Option.bind_some, List.cons_append, List.nil_append, List.append_nil, f1, f2, f_lenT, f_add]
  refine ⟨by decide, _, rfl, by omega, by omega, ?_⟩
  rw [ini_range]
  refine st_for hb hb2 hr hh _ [] _ _ (fun i hi => by have := List.mem_range.mp hi; omega) (by rw [List.length_range, List.length_nil]; omega) fun o3 o4 => ?_
  refine ⟨_, rfl, ?_⟩
  have e : ((rows.length : Int) + 1).toNat = rows.length + 1 := by omega
  rw [e, List.range_succ, List.filter_append, List.nil_append, List.flatMap_append]
  have e1 : (List.range rows.length).filter (keep rows) = (List.range rows.length).filter fun i => !sil rows i := by
    refine List.filter_congr fun i hi => ?_
    have hi := List.mem_range.mp hi
    unfold keep
    have : (i == rows.length) = false := by simp; omega
    rw [this, Bool.false_or]
  have e2 : [rows.length].filter (keep rows) = [rows.length] := by
    rw [List.filter_cons_of_pos (by unfold keep; simp)]
    rfl
  rw [e1, e2]
  have e3 : stands rows b = (List.filter (fun i => !sil rows i) (List.range rows.length)).flatMap (fun i => stn b (.int (0 + (i : Nat)))) ++ [rows.length].flatMap fun i => stn b (.int (0 + (i : Nat))) := by
    unfold stands idx ini
    rw [List.flatMap_append, List.flatMap_map]
    congr 1
    show [PyData.int rows.length].flatMap (stn b) = [rows.length].flatMap fun i => stn b (.int (0 + (i : Nat)))
    simp
  rw [← e3]
  exact hP
end Pl
namespace Pl
open PySem PySem.Spec PyProof.Rows L2 Dat
/-! ### data that can be shown -/
structure El (k W : Nat) (d : PyData) : Prop where
  c : d.canLay0 = true
  dp : d.depth ≤ k
  w : d.weight ≤ W
  i : d.intsShort 13 = true
  s : d.showable = true
theorem El.mono {k k' W W' : Nat} {d : PyData} (h : El k W d) (hk : k ≤ k') (hw : W ≤ W') : El k' W' d := ⟨h.c, Nat.le_trans h.dp hk, Nat.le_trans h.w hw, h.i, h.s⟩
theorem el_none : El 0 0 .none := ⟨rfl, by decide, by decide, rfl, rfl⟩
theorem el_bool (b : Bool) : El 0 0 (.bool b) := ⟨rfl, Nat.le_refl 0, Nat.le_refl 0, rfl, rfl⟩
theorem el_int {i : Int} (h : i.natAbs < 1000000000000) : El 0 40 (.int i) := by
  have hl : i.natAbs.log2 < 40 := by
    by_cases h0 : i.natAbs = 0
    · rw [h0]; decide
    · exact (Nat.log2_lt h0).mpr (Nat.lt_of_lt_of_le h (by decide))
  refine ⟨rfl, Nat.le_refl 0, ?_, ?_, ?_⟩
  · show (if i == 0 then 0 else i.natAbs.log2 + 1) ≤ 40
    split <;> omega
  · show decide ((Str.ofString (toString i)).length ≤ 13) = true
    refine decide_eq_true ?_
    rw [PySem.ofString_length]
    exact int_text_length_le10 (k := 12) (by decide) h
  · show decide (i.natAbs.log2 < 1920) = true
    exact decide_eq_true (by omega)
theorem el_str {x : Str} (h : PyData.strOk x = true) : El 0 x.cps.size (.str x) := ⟨h, Nat.le_refl 0, Nat.le_refl _, rfl, rfl⟩
theorem el_all {k W : Nat} : ∀ {xs : List PyData}, (∀ x ∈ xs, El k W x) → PyData.canLayAll0 xs = true ∧ PyData.depthAll xs ≤ k ∧ PyData.weightAll xs ≤ (W + 1) * xs.length ∧ PyData.intsShortAll 13 xs = true ∧ PyData.showableAll xs = true
  | [], _ => ⟨rfl, Nat.zero_le _, Nat.zero_le _, rfl, rfl⟩
  | x :: xs, h => by
    obtain ⟨h1, h2, h3, h4, h5⟩ := el_all (xs := xs) fun y hy => h y (List.mem_cons_of_mem _ hy)
    have e := h x List.mem_cons_self
    refine ⟨?_, ?_, ?_, ?_, ?_⟩
    · show (x.canLay0 && PyData.canLayAll0 xs) = true
      rw [e.c, h1]; rfl
    · show max x.depth (PyData.depthAll xs) ≤ k
      exact Nat.max_le.mpr ⟨e.dp, h2⟩
    · show x.weight + 1 + PyData.weightAll xs ≤ (W + 1) * (xs.length + 1)
      rw [Nat.mul_add, Nat.mul_one]
      have := e.w
      omega
    · show (x.intsShort 13 && PyData.intsShortAll 13 xs) = true
      rw [e.i, h4]; rfl
    · show (x.showable && PyData.showableAll xs) = true
      rw [e.s, h5]; rfl
theorem el_tup {k W : Nat} {xs : List PyData} (h : ∀ x ∈ xs, El k W x) : El (k + 1) ((W + 1) * xs.length) (.tuple xs) := by
  obtain ⟨h1, h2, h3, h4, h5⟩ := el_all h
  exact ⟨h1, Nat.succ_le_succ h2, h3, h4, h5⟩
theorem el_lst {k W : Nat} {xs : List PyData} (h : ∀ x ∈ xs, El k W x) : El (k + 1) ((W + 1) * xs.length) (.list xs) := by
  obtain ⟨h1, h2, h3, h4, h5⟩ := el_all h
  exact ⟨h1, Nat.succ_le_succ h2, h3, h4, h5⟩
theorem El.shaped {k W : Nat} {d : PyData} (h : El k W d) (hk : k ≤ 64) : SeqAt.shaped d = true := by
  unfold SeqAt.shaped
  rw [h.c, Bool.true_and]
  exact decide_eq_true (Nat.le_trans h.dp hk)
theorem El.repr {k W : Nat} {d : PyData} (h : El k W d) (hk : k ≤ 64) (hw : W ≤ 1048576) : fRepr d = some (.str d.shown) := by
  have hl : d.layable0 = true := by
    unfold PyData.layable0
    rw [h.c, Bool.true_and, Bool.and_eq_true]
    exact ⟨decide_eq_true (Nat.le_trans h.dp hk), decide_eq_true (Nat.le_trans h.w hw)⟩
  have hs := PyProof.Rows.shown_le13 hl h.i
  unfold fRepr
  rw [h.s, h.shaped hk, decide_eq_true (show d.shown.length ≤ sizeLine by rw [sl16]; omega)]
  rfl
theorem el_stf {b : Int} (hb : 2 ≤ b) (hb2 : b ≤ 4) {i : Int} (hi : i.natAbs < 1000000) : ∀ x ∈ stn b (.int i), El 1 123 x := by
  intro x hx
  unfold stn at hx
  obtain ⟨y, hy, rfl⟩ := List.mem_map.mp hx
  obtain ⟨j, hj⟩ := List.mem_iff_getElem?.mp hy
  obtain ⟨hj1, rfl⟩ := rangeD_get hj
  have hsq := b_sq hb hb2
  have h0 : (0 : Int) ≤ 0 + (j : Nat) := by omega
  have h1 : (0 + (j : Nat) : Int) < 16 := by omega
  refine (el_tup (k := 0) (W := 40) (xs := [.int i, .int ((0 + (j : Nat)) / b), .int ((0 + (j : Nat)) % b)]) fun z hz => ?_).mono (Nat.le_refl _) (by show (40 + 1) * 3 ≤ 123; decide)
  simp only [List.mem_cons, List.not_mem_nil, or_false] at hz
  rcases hz with rfl | rfl | rfl
  · exact el_int (by omega)
  · refine el_int ?_
    have q1 : 0 ≤ (0 + (j : Nat) : Int) / b := Int.ediv_nonneg h0 (by omega)
    have q2 : (0 + (j : Nat) : Int) / b ≤ 0 + (j : Nat) := Int.ediv_le_self _ h0
    omega
  · refine el_int ?_
    have q1 := Int.emod_nonneg (0 + (j : Nat) : Int) (show b ≠ 0 by omega)
    have q2 := Int.emod_lt_of_pos (0 + (j : Nat) : Int) (show 0 < b by omega)
    omega
theorem idx_mem {rows : List PyData} (hr : rows.length ≤ 100) {x : PyData} (h : x ∈ idx rows) : ∃ i : Int, x = .int i ∧ 0 ≤ i ∧ i ≤ rows.length := by
  unfold idx ini at h
  rcases List.mem_append.mp h with h | h
  · obtain ⟨i, hi, rfl⟩ := List.mem_map.mp h
    have := List.mem_range.mp (List.mem_filter.mp hi).1
    exact ⟨_, rfl, by omega, by omega⟩
  · rw [List.mem_singleton] at h
    exact ⟨_, h, by omega, by omega⟩
theorem el_stands {rows : List PyData} {b : Int} (hb : 2 ≤ b) (hb2 : b ≤ 4) (hr : rows.length ≤ 100) : ∀ x ∈ stands rows b, El 1 123 x := by
  intro x hx
  unfold stands at hx
  obtain ⟨i, hi, hx⟩ := List.mem_flatMap.mp hx
  obtain ⟨j, rfl, h0, h1⟩ := idx_mem hr hi
  exact el_stf hb hb2 (by omega) x hx
theorem flat_len {f : PyData → List PyData} {c : Nat} (h : ∀ x, (f x).length ≤ c) : ∀ l : List PyData, (l.flatMap f).length ≤ c * l.length
  | [] => Nat.le_refl _
  | x :: l => by
    rw [List.flatMap_cons, List.length_append, List.length_cons, Nat.mul_add, Nat.mul_one]
    have := h x
    have := flat_len h l
    omega
theorem idx_len (rows : List PyData) : (idx rows).length ≤ rows.length + 1 := by
  unfold idx ini
  rw [List.length_append, List.length_map, List.length_singleton]
  have := List.length_filter_le (fun i => !sil rows i) (List.range rows.length)
  rw [List.length_range] at this
  omega
theorem stands_len {rows : List PyData} {b : Int} (hb : 2 ≤ b) (hb2 : b ≤ 4) (hr : rows.length ≤ 100) : (stands rows b).length ≤ 1616 := by
  have hsq := b_sq hb hb2
  have h := flat_len (f := stn b) (c := 16) (fun x => by rw [stn_len]; omega) (idx rows)
  have := idx_len rows
  unfold stands
  omega
/-! #### as the program lists them -/
def wf_stands_of : WFL := fun xs P => ∃ (rows : List PyData) (b : Int), xs = [.tuple rows, .int b] ∧ 2 ≤ b ∧ b ≤ 4 ∧ rows.length ≤ 100 ∧ (∀ r ∈ rows, Hd r) ∧ P (stands rows b)
def w_stands_of : WS := (wSeq (wAsg (wBin fAdd (wL (wLcN (wiRng1 (wCons (wCB (f1 fLen) (wCons (wVar 0) wNil)) wNil)) (wName 3) (wTest (wBin (fIn true) (wBin fIx (wBin fIx (wVar 0) (wVar 3)) (wC (.int 0))) (wC dt_SILENT))) (wkApp (wVar 3)) [3])) (wLst (wCons (wCB (f1 fLen) (wCons (wVar 0) wNil)) wNil))) (wName 2))
    (wRetL (wLcN (wiList (wVar 2)) (wName 3) wYes (wkCl (wiRng1 (wCons (wVar 1) wNil)) (wName 4) wYes (wkCl (wiRng1 (wCons (wVar 1) wNil)) (wName 5) wYes (wkApp (wTup (wCons (wVar 3) (wCons (wVar 4) (wCons (wVar 5) wNil))))) [5]) [4, 5]) [3, 4, 5])))
theorem wl_stands_of (xs : List PyData) (P : List PyData → Prop) (h : wf_stands_of xs P) : xs.length = 2 := by
  obtain ⟨rows, b, rfl, _⟩ := h
  rfl
theorem so_idx {rows : List PyData} {b : PyData} (hh : ∀ r ∈ rows, Hd r) : ∀ (l : List Nat) (acc : List PyData) (P : List PyData → DE → Prop), (∀ i ∈ l, i < rows.length) → acc.length + l.length ≤ 1000 → P (acc ++ ini (l.filter fun i => !sil rows i)) [some (.d (.tuple rows)), some (.d b), none, none, none, none] →
    clRec (wName 3) (wTest (wBin (fIn true) (wBin fIx (wBin fIx (wVar 0) (wVar 3)) (wC (.int 0))) (wC dt_SILENT))) (wkApp (wVar 3)) [3] (ini l) acc [some (.d (.tuple rows)), some (.d b), none, none, none, none] P
  | [], acc, P, _, _, h => by
    rw [List.filter_nil, show ini [] = [] from rfl, List.append_nil] at h
    exact h
  | i :: l, acc, P, hi, hl, h => by
    rw [List.length_cons] at hl
    show clRec _ _ _ _ (.int (0 + (i : Nat)) :: ini l) acc _ P
    obtain ⟨s, t, ea, es⟩ := row_at hh (hi i List.mem_cons_self)
    have ea' : atI rows (0 + (i : Nat) : Int) = some (.tuple (.str s :: t)) := by rw [Int.zero_add]; exact ea
    have hi' : ∀ j ∈ l, j < rows.length := fun j hj => hi j (List.mem_cons_of_mem _ hj)
    cases hs : silS s with
    | true =>
      simp only [clRec, wSeq, wAsg, wName, wBin, wVar, wC, wTest, wIfS, wIf, wNext, wRet, wCons, wNil, wCB, wIxK, wIxO, wPutI, wCallB, wPar, wLst, wTup, wUn, wL, wLstL, wRetL, wOr, wAnd, wNot, wOwn, wExt, wApp, wRev, wTake, wRetO, wFreeze, wCall, wCallL, wCallK, wCallLK, wiRng1, wiList, wiTup, wFor, wLcN, wkCl, wkApp, wYes, wgTup, wgCons, wgNil, wLend, lendD, lendS, wipeD, List.map_cons, List.map_nil, List.getElem?_cons_zero, List.getElem?_cons_succ, List.set_cons_zero, List.set_cons_succ, Option.some.injEq, Sl.d.injEq, Sl.o.injEq, PyData.int.injEq, PyData.bool.injEq, exists_eq_left, exists_eq_left', and_assoc, exists_and_left, exists_eq', and_true, true_and, if_true, List.length_cons, List.length_nil, Option.bind_some, List.cons_append, List.nil_append, List.append_nil, f1, f2, dt_SILENT, fIx, ea', at0, fin_sil, hs, Bool.not_true, Bool.false_eq_true, if_false]
      refine so_idx hh l acc P hi' (by omega) ?_
      rw [List.filter_cons_of_neg (by rw [es, hs]; decide)] at h
      exact h
    | false =>
      simp only [clRec, wSeq, wAsg, wName, wBin, wVar, wC, wTest, wIfS, wIf, wNext, wRet, wCons, wNil, wCB, wIxK, wIxO, wPutI, wCallB, wPar, wLst, wTup, wUn, wL, wLstL, wRetL, wOr, wAnd, wNot, wOwn, wExt, wApp, wRev, wTake, wRetO, wFreeze, wCall, wCallL, wCallK, wCallLK, wiRng1, wiList, wiTup, wFor, wLcN, wkCl, wkApp, wYes, wgTup, wgCons, wgNil, wLend, lendD, lendS, wipeD, List.map_cons, List.map_nil, List.getElem?_cons_zero, List.getElem?_cons_succ, List.set_cons_zero, List.set_cons_succ, Option.some.injEq, Sl.d.injEq, Sl.o.injEq, PyData.int.injEq, PyData.bool.injEq, exists_eq_left, exists_eq_left', and_assoc, exists_and_left, exists_eq', and_true, true_and, if_true, List.length_cons, List.length_nil, Option.bind_some, List.cons_append, List.nil_append, List.append_nil, f1, f2, dt_SILENT, fIx, ea', at0, fin_sil, hs, Bool.not_false]
      refine ⟨by rw [sl16]; omega, so_idx hh l _ P hi' (by rw [List.length_append, List.length_singleton]; omega) ?_⟩
      rw [List.filter_cons_of_pos (by rw [es, hs]; decide)] at h
      rw [List.append_assoc]
      exact h
theorem so_y {r b w i x : PyData} : ∀ (ys acc : List PyData) (P : List PyData → DE → Prop), acc.length + ys.length ≤ 100000 → P (acc ++ ys.map fun y => .tuple [i, x, y]) [some (.d r), some (.d b), some (.d w), some (.d i), some (.d x), none] →
    clRec (wName 5) wYes (wkApp (wTup (wCons (wVar 3) (wCons (wVar 4) (wCons (wVar 5) wNil))))) [5] ys acc [some (.d r), some (.d b), some (.d w), some (.d i), some (.d x), none] P
  | [], acc, P, _, h => by
    rw [List.map_nil, List.append_nil] at h
    exact h
  | y :: ys, acc, P, hl, h => by
    rw [List.length_cons] at hl
    simp only [clRec, wSeq, wAsg, wName, wBin, wVar, wC, wTest, wIfS, wIf, wNext, wRet, wCons, wNil, wCB, wIxK, wIxO, wPutI, wCallB, wPar, wLst, wTup, wUn, wL, wLstL, wRetL, wOr, wAnd, wNot, wOwn, wExt, wApp, wRev, wTake, wRetO, wFreeze, wCall, wCallL, wCallK, wCallLK, wiRng1, wiList, wiTup, wFor, wLcN, wkCl, wkApp, wYes, wgTup, wgCons, wgNil, wLend, lendD, lendS, wipeD, List.map_cons, List.map_nil, List.getElem?_cons_zero, List.getElem?_cons_succ, List.set_cons_zero, List.set_cons_succ, Option.some.injEq, Sl.d.injEq, Sl.o.injEq, PyData.int.injEq, PyData.bool.injEq, exists_eq_left, exists_eq_left', and_assoc, exists_and_left, exists_eq', and_true, true_and, if_true, List.length_cons, List.length_nil, Option.bind_some, List.cons_append, List.nil_append, List.append_nil, f1, f2]
    refine ⟨by decide, by rw [sl16]; omega, so_y ys _ P (by rw [List.length_append, List.length_singleton]; omega) ?_⟩
    rw [List.append_assoc]
    exact h
theorem so_x {r w i : PyData} {b : Int} (hb : 2 ≤ b) (hb2 : b ≤ 4) : ∀ (xs acc : List PyData) (P : List PyData → DE → Prop), acc.length + 4 * xs.length ≤ 100000 → P (acc ++ xs.flatMap fun x => (rangeD 0 b.toNat).map fun y => .tuple [i, x, y]) [some (.d r), some (.d (.int b)), some (.d w), some (.d i), none, none] →
    clRec (wName 4) wYes (wkCl (wiRng1 (wCons (wVar 1) wNil)) (wName 5) wYes (wkApp (wTup (wCons (wVar 3) (wCons (wVar 4) (wCons (wVar 5) wNil))))) [5]) [4, 5] xs acc [some (.d r), some (.d (.int b)), some (.d w), some (.d i), none, none] P
  | [], acc, P, _, h => by
    rw [List.flatMap_nil, List.append_nil] at h
    exact h
  | x :: xs, acc, P, hl, h => by
    rw [List.length_cons] at hl
    have hy : (rangeD 0 b.toNat).length ≤ 4 := by rw [rangeD_len]; omega
    simp only [clRec, wkCl, wYes, wName, wiRng1, wCons, wNil, wVar, wipeD, List.getElem?_cons_zero, List.getElem?_cons_succ, List.set_cons_zero, List.set_cons_succ, Option.some.injEq, Sl.d.injEq, exists_eq_left', if_true]
    refine ⟨b, rfl, by omega, by omega, so_y _ acc _ (by omega) ?_⟩
    refine so_x hb hb2 xs _ P (by rw [List.length_append, List.length_map]; omega) ?_
    rw [List.append_assoc, ← List.flatMap_cons (f := fun x => (rangeD 0 b.toNat).map fun y => PyData.tuple [i, x, y])]
    exact h
theorem stq {b : Int} (hb : 2 ≤ b) (hb2 : b ≤ 4) (i : PyData) : ((rangeD 0 b.toNat).flatMap fun x => (rangeD 0 b.toNat).map fun y => .tuple [i, x, y]) = stn b i := by
  have h : b = 2 ∨ b = 3 ∨ b = 4 := by omega
  rcases h with rfl | rfl | rfl <;> rfl
theorem so_row {r w : PyData} {b : Int} (hb : 2 ≤ b) (hb2 : b ≤ 4) : ∀ (is acc : List PyData) (P : List PyData → DE → Prop), acc.length + 16 * is.length ≤ 50000 → P (acc ++ is.flatMap (stn b)) [some (.d r), some (.d (.int b)), some (.d w), none, none, none] →
    clRec (wName 3) wYes (wkCl (wiRng1 (wCons (wVar 1) wNil)) (wName 4) wYes (wkCl (wiRng1 (wCons (wVar 1) wNil)) (wName 5) wYes (wkApp (wTup (wCons (wVar 3) (wCons (wVar 4) (wCons (wVar 5) wNil))))) [5]) [4, 5]) [3, 4, 5] is acc [some (.d r), some (.d (.int b)), some (.d w), none, none, none] P
  | [], acc, P, _, h => by
    rw [List.flatMap_nil, List.append_nil] at h
    exact h
  | i :: is, acc, P, hl, h => by
    rw [List.length_cons] at hl
    have hsq := b_sq hb hb2
    have hy : (rangeD 0 b.toNat).length ≤ 4 := by rw [rangeD_len]; omega
    simp only [clRec, wName, wYes, List.set_cons_zero, List.set_cons_succ, if_true]
    rw [wkCl]
    simp only [wiRng1, wCons, wNil, wVar, wipeD, List.getElem?_cons_zero, List.getElem?_cons_succ, List.set_cons_zero, List.set_cons_succ, Option.some.injEq, Sl.d.injEq, exists_eq_left']
    refine ⟨b, rfl, by omega, by omega, so_x hb hb2 _ acc _ (by omega) ?_⟩
    rw [stq hb hb2]
    refine so_row hb hb2 is _ P (by rw [List.length_append, stn_len]; omega) ?_
    rw [List.append_assoc, ← List.flatMap_cons]
    exact h
theorem wp_stands_of (xs : List PyData) (P : List PyData → Prop) (h : wf_stands_of xs P) : w_stands_of (endsL P) (startN 6 xs) := by
  obtain ⟨rows, b, rfl, hb, hb2, hr, hh, hP⟩ := h
  show w_stands_of (endsL P) [some (.d (.tuple rows)), some (.d (.int b)), none, none, none, none]
  unfold w_stands_of
  simp only [wSeq, wAsg, wName, wBin, wVar, wC, wTest, wIfS, wIf, wNext, wRet, wCons, wNil, wCB, wIxK, wIxO, wPutI, wCallB, wPar, wLst, wTup, wUn, wL, wLstL, wRetL, wOr, wAnd, wNot, wOwn, wExt, wApp, wRev, wTake, wRetO, wFreeze, wCall, wCallL, wCallK, wCallLK, wiRng1, wiList, wiTup, wFor, wLcN, wkCl, wkApp, wYes, wgTup, wgCons, wgNil, wLend, lendD, lendS, wipeD, List.map_cons, List.map_nil, List.getElem?_cons_zero, List.getElem?_cons_succ, List.set_cons_zero, List.set_cons_succ, Option.some.injEq, Sl.d.injEq, Sl.o.injEq, PyData.int.injEq, PyData.bool.injEq, exists_eq_left, exists_eq_left', and_assoc, exists_and_left, exists_eq', and_true, true_and, if_true, List.length_cons, List.length_nil, Option.bind_some, List.cons_append, List.nil_append, List.append_nil, f1, f2, f_lenT]
  refine ⟨_, rfl, by omega, by omega, ?_⟩
  rw [Int.toNat_natCast, ini_range]
  refine so_idx hh _ [] _ (fun i hi => List.mem_range.mp hi) (by rw [List.length_range, List.length_nil]; omega) ?_
  have hl := idx_len rows
  refine ⟨_, rfl, _, rfl, by decide, _, f_addL (by
    have hl' : (idx rows).length ≤ sizeLine := by rw [sl16]; omega
    unfold idx at hl'
    rw [List.length_append] at hl'
    exact hl'), ?_⟩
  refine ⟨_, rfl, idx rows, rfl, ?_⟩
  exact so_row hb hb2 _ [] _ (by rw [List.length_nil]; omega) hP
theorem so_use {rows : List PyData} {b : Int} {P : List PyData → Prop} (hb : 2 ≤ b) (hb2 : b ≤ 4) (hr : rows.length ≤ 100) (hh : ∀ r ∈ rows, Hd r) (h : P (stands rows b)) : wf_stands_of [.tuple rows, .int b] P := ⟨rows, b, rfl, hb, hb2, hr, hh, h⟩
theorem st_use {rows : List PyData} {b : Int} {P : List PyData → Prop} (hb : 2 ≤ b) (hb2 : b ≤ 4) (hr : rows.length ≤ 100) (hh : ∀ r ∈ rows, Hd r) (h : P (stands rows b)) : wf__law_stands [.tuple rows, .int b] P := ⟨rows, b, rfl, hb, hb2, hr, hh, h⟩
end Pl
namespace Pl
open PySem PySem.Spec PyProof.Rows L2 Dat
/-! ### kinds -/
theorem isi_of {T : String} {d : PyData} {b : Bool} (h : kitB (tyName d) T = some b) : fIsi T d = some (.bool b) := by
  unfold fIsi
  rw [h]
  rfl
theorem isi_int_int (i : Int) : fIsi "int" (.int i) = some (.bool true) := isi_of (show kitB "int" "int" = some true by decide +kernel)
theorem isi_bool_int (i : Int) : fIsi "bool" (.int i) = some (.bool false) := isi_of (show kitB "int" "bool" = some false by decide +kernel)
theorem isi_tup_int (i : Int) : fIsi "tuple" (.int i) = some (.bool false) := isi_of (show kitB "int" "tuple" = some false by decide +kernel)
theorem isi_str_int (i : Int) : fIsi "str" (.int i) = some (.bool false) := isi_of (show kitB "int" "str" = some false by decide +kernel)
theorem isi_tup_str (i : Str) : fIsi "tuple" (.str i) = some (.bool false) := isi_of (show kitB "str" "tuple" = some false by decide +kernel)
theorem isi_str_str (i : Str) : fIsi "str" (.str i) = some (.bool true) := isi_of (show kitB "str" "str" = some true by decide +kernel)
theorem isi_tup_tup (l : List PyData) : fIsi "tuple" (.tuple l) = some (.bool true) := isi_of (show kitB "tuple" "tuple" = some true by decide +kernel)
theorem isi_str_tup (l : List PyData) : fIsi "str" (.tuple l) = some (.bool false) := isi_of (show kitB "tuple" "str" = some false by decide +kernel)
def wf_is_whole : WF := fun xs P => ∃ i : Int, xs = [.int i] ∧ P (.bool true)
def w_is_whole : WS := (wRet (wAndV (wUn (fIsi "int") (wVar 0)) (wNotV (wUn (fIsi "bool") (wVar 0)))))
theorem wl_is_whole (xs : List PyData) (P : PyData → Prop) (h : wf_is_whole xs P) : xs.length = 1 := by
  obtain ⟨i, rfl, _⟩ := h
  rfl
theorem wp_is_whole (xs : List PyData) (P : PyData → Prop) (h : wf_is_whole xs P) : w_is_whole (endsP P) (startN 1 xs) := by
  obtain ⟨i, rfl, hP⟩ := h
  show w_is_whole (endsP P) [some (.d (.int i))]
  unfold w_is_whole
  simp only [wSeq, wAsg, wName, wBin, wVar, wC, wTest, wIfS, wIf, wNext, wRet, wCons, wNil, wCB, wIxK, wIxO, wPutI, wCallB, wPar, wLst, wTup, wUn, wL, wLstL, wRetL, wOr, wAnd, wNot, wOwn, wExt, wApp, wRev, wTake, wRetO, wFreeze, wCall, wCallL, wCallK, wCallLK, wiRng1, wiList, wiTup, wFor, wLcN, wkCl, wkApp, wYes, wgTup, wgCons, wgNil, wLend, lendD, lendS, wipeD, List.map_cons, List.map_nil, List.getElem?_cons_zero, List.getElem?_cons_succ, List.set_cons_zero, List.set_cons_succ, Option.some.injEq, Sl.d.injEq, Sl.o.injEq, PyData.int.injEq, PyData.bool.injEq, exists_eq_left, exists_eq_left', and_assoc, exists_and_left, exists_eq', and_true, true_and, if_true, List.length_cons, List.length_nil, Option.bind_some, List.cons_append, List.nil_append, List.append_nil, f1, f2, wAndV, wNotV, isi_int_int, isi_bool_int, Bool.not_false]
  exact hP
def wf_is_number : WF := fun xs P => ∃ i b : Int, xs = [.int i, .int b] ∧ 0 ≤ i ∧ i < b ∧ P (.bool true)
def w_is_number : WS := (wRet (wAndV (wCall wf_is_whole [] (wCons (wVar 0) wNil)) (wChain fLe fLt (wC (.int 0)) (wVar 0) (wVar 1))))
theorem wl_is_number (xs : List PyData) (P : PyData → Prop) (h : wf_is_number xs P) : xs.length = 2 := by
  obtain ⟨i, b, rfl, _⟩ := h
  rfl
theorem wp_is_number (xs : List PyData) (P : PyData → Prop) (h : wf_is_number xs P) : w_is_number (endsP P) (startN 2 xs) := by
  obtain ⟨i, b, rfl, h0, h1, hP⟩ := h
  show w_is_number (endsP P) [some (.d (.int i)), some (.d (.int b))]
  unfold w_is_number
  simp only [wSeq, wAsg, wName, wBin, wVar, wC, wTest, wIfS, wIf, wNext, wRet, wCons, wNil, wCB, wIxK, wIxO, wPutI, wCallB, wPar, wLst, wTup, wUn, wL, wLstL, wRetL, wOr, wAnd, wNot, wOwn, wExt, wApp, wRev, wTake, wRetO, wFreeze, wCall, wCallL, wCallK, wCallLK, wiRng1, wiList, wiTup, wFor, wLcN, wkCl, wkApp, wYes, wgTup, wgCons, wgNil, wLend, lendD, lendS, wipeD, List.map_cons, List.map_nil, List.getElem?_cons_zero, List.getElem?_cons_succ, List.set_cons_zero, List.set_cons_succ, Option.some.injEq, Sl.d.injEq, Sl.o.injEq, PyData.int.injEq, PyData.bool.injEq, exists_eq_left, exists_eq_left', and_assoc, exists_and_left, exists_eq', and_true, true_and, if_true, List.length_cons, List.length_nil, Option.bind_some, List.cons_append, List.nil_append, List.append_nil, f1, f2, wAndV, wChain, f_le, f_lt, h0, h1, decide_true]
  exact ⟨i, rfl, _, rfl, hP⟩
/-! ### values of expressions -/
def vl (x y : Int) : PyData → Int
  | .str s => if (s == ("x" : Str)) = true then x else y
  | .int i => i
  | _ => 0
def vx (x y b : Int) : PyData → Int
  | .tuple [.str s, l, r] => if (s == ("+" : Str)) = true then (vl x y l + vl x y r) % b else if (s == ("-" : Str)) = true then (vl x y l - vl x y r) % b else (vl x y l * vl x y r) % b
  | d => vl x y d
theorem feq_str {a b : Str} : fEq (.str a) (.str b) = some (.bool (a == b)) := rfl
theorem fne_str {a b : Str} : fNe (.str a) (.str b) = some (.bool (!(a == b))) := rfl
theorem xx : (("x" : Str) == ("x" : Str)) = true := by decide
theorem yx : (("y" : Str) == ("x" : Str)) = false := by decide
def wf_value_of_v0 : WF := fun xs P => ∃ (d : PyData) (x y b : Int), xs = [d, .int x, .int y, .int b] ∧ Opd b d ∧ P (.int (vl x y d))
def wf__law_value_v0 : WF := wf_value_of_v0
def w_value_of_v0 : WS := (wSeq (wIfS (wTest (wUn (fIsi "tuple") (wVar 0))) wNever wNext)
    (wSeq (wIfS (wTest (wUn (fIsi "str") (wVar 0))) (wRet (wIf (wTest (wBin fEq (wVar 0) (wC (.str "x")))) (wVar 1) (wVar 2))) wNext)
    (wRet (wVar 0))))
def w__law_value_v0 : WS := (wSeq (wIfS (wTest (wUn (fIsi "str") (wVar 0))) (wRet (wIf (wTest (wBin fEq (wVar 0) (wC (.str "x")))) (wVar 1) (wVar 2))) wNext)
    (wSeq (wIfS (wNot (wTest (wUn (fIsi "tuple") (wVar 0)))) (wRet (wVar 0)) wNext)
    wNever))
theorem wl_value_of_v0 (xs : List PyData) (P : PyData → Prop) (h : wf_value_of_v0 xs P) : xs.length = 4 := by
  obtain ⟨d, x, y, b, rfl, _⟩ := h
  rfl
theorem wl__law_value_v0 (xs : List PyData) (P : PyData → Prop) (h : wf__law_value_v0 xs P) : xs.length = 4 := wl_value_of_v0 xs P h
theorem wp_value_of_v0 (xs : List PyData) (P : PyData → Prop) (h : wf_value_of_v0 xs P) : w_value_of_v0 (endsP P) (startN 9 xs) := by
  obtain ⟨d, x, y, b, rfl, ho, hP⟩ := h
  show w_value_of_v0 (endsP P) [some (.d d), some (.d (.int x)), some (.d (.int y)), some (.d (.int b)), none, none, none, none, none]
  unfold w_value_of_v0
  rcases ho with rfl | rfl | ⟨i, rfl, _, _⟩
  · simp only [wSeq, wAsg, wName, wBin, wVar, wC, wTest, wIfS, wIf, wNext, wRet, wCons, wNil, wCB, wIxK, wIxO, wPutI, wCallB, wPar, wLst, wTup, wUn, wL, wLstL, wRetL, wOr, wAnd, wNot, wOwn, wExt, wApp, wRev, wTake, wRetO, wFreeze, wCall, wCallL, wCallK, wCallLK, wiRng1, wiList, wiTup, wFor, wLcN, wkCl, wkApp, wYes, wgTup, wgCons, wgNil, wLend, lendD, lendS, wipeD, List.map_cons, List.map_nil, List.getElem?_cons_zero, List.getElem?_cons_succ, List.set_cons_zero, List.set_cons_succ, Option.some.injEq, Sl.d.injEq, Sl.o.injEq, PyData.int.injEq, PyData.bool.injEq, exists_eq_left, exists_eq_left', and_assoc, exists_and_left, exists_eq', and_true, true_and, if_true, List.length_cons, List.length_nil, Option.bind_some, List.cons_append, List.nil_append, List.append_nil, f1, f2, isi_tup_str, isi_str_str, feq_str, xx, Bool.false_eq_true, if_false]
    exact hP
  · simp only [wSeq, wAsg, wName, wBin, wVar, wC, wTest, wIfS, wIf, wNext, wRet, wCons, wNil, wCB, wIxK, wIxO, wPutI, wCallB, wPar, wLst, wTup, wUn, wL, wLstL, wRetL, wOr, wAnd, wNot, wOwn, wExt, wApp, wRev, wTake, wRetO, wFreeze, wCall, wCallL, wCallK, wCallLK, wiRng1, wiList, wiTup, wFor, wLcN, wkCl, wkApp, wYes, wgTup, wgCons, wgNil, wLend, lendD, lendS, wipeD, List.map_cons, List.map_nil, List.getElem?_cons_zero, List.getElem?_cons_succ, List.set_cons_zero, List.set_cons_succ, Option.some.injEq, Sl.d.injEq, Sl.o.injEq, PyData.int.injEq, PyData.bool.injEq, exists_eq_left, exists_eq_left', and_assoc, exists_and_left, exists_eq', and_true, true_and, if_true, List.length_cons, List.length_nil, Option.bind_some, List.cons_append, List.nil_append, List.append_nil, f1, f2, isi_tup_str, isi_str_str, feq_str, yx, Bool.false_eq_true, if_false]
    exact hP
  · simp only [wSeq, wAsg, wName, wBin, wVar, wC, wTest, wIfS, wIf, wNext, wRet, wCons, wNil, wCB, wIxK, wIxO, wPutI, wCallB, wPar, wLst, wTup, wUn, wL, wLstL, wRetL, wOr, wAnd, wNot, wOwn, wExt, wApp, wRev, wTake, wRetO, wFreeze, wCall, wCallL, wCallK, wCallLK, wiRng1, wiList, wiTup, wFor, wLcN, wkCl, wkApp, wYes, wgTup, wgCons, wgNil, wLend, lendD, lendS, wipeD, List.map_cons, List.map_nil, List.getElem?_cons_zero, List.getElem?_cons_succ, List.set_cons_zero, List.set_cons_succ, Option.some.injEq, Sl.d.injEq, Sl.o.injEq, PyData.int.injEq, PyData.bool.injEq, exists_eq_left, exists_eq_left', and_assoc, exists_and_left, exists_eq', and_true, true_and, if_true, List.length_cons, List.length_nil, Option.bind_some, List.cons_append, List.nil_append, List.append_nil, f1, f2, isi_tup_int, isi_str_int, Bool.false_eq_true, if_false]
    exact hP
theorem wp__law_value_v0 (xs : List PyData) (P : PyData → Prop) (h : wf__law_value_v0 xs P) : w__law_value_v0 (endsP P) (startN 6 xs) := by
  obtain ⟨d, x, y, b, rfl, ho, hP⟩ := h
  show w__law_value_v0 (endsP P) [some (.d d), some (.d (.int x)), some (.d (.int y)), some (.d (.int b)), none, none]
  unfold w__law_value_v0
  rcases ho with rfl | rfl | ⟨i, rfl, _, _⟩
  · simp only [wSeq, wAsg, wName, wBin, wVar, wC, wTest, wIfS, wIf, wNext, wRet, wCons, wNil, wCB, wIxK, wIxO, wPutI, wCallB, wPar, wLst, wTup, wUn, wL, wLstL, wRetL, wOr, wAnd, wNot, wOwn, wExt, wApp, wRev, wTake, wRetO, wFreeze, wCall, wCallL, wCallK, wCallLK, wiRng1, wiList, wiTup, wFor, wLcN, wkCl, wkApp, wYes, wgTup, wgCons, wgNil, wLend, lendD, lendS, wipeD, List.map_cons, List.map_nil, List.getElem?_cons_zero, List.getElem?_cons_succ, List.set_cons_zero, List.set_cons_succ, Option.some.injEq, Sl.d.injEq, Sl.o.injEq, PyData.int.injEq, PyData.bool.injEq, exists_eq_left, exists_eq_left', and_assoc, exists_and_left, exists_eq', and_true, true_and, if_true, List.length_cons, List.length_nil, Option.bind_some, List.cons_append, List.nil_append, List.append_nil, f1, f2, isi_tup_str, isi_str_str, feq_str, xx, Bool.false_eq_true, if_false]
    exact hP
  · simp only [wSeq, wAsg, wName, wBin, wVar, wC, wTest, wIfS, wIf, wNext, wRet, wCons, wNil, wCB, wIxK, wIxO, wPutI, wCallB, wPar, wLst, wTup, wUn, wL, wLstL, wRetL, wOr, wAnd, wNot, wOwn, wExt, wApp, wRev, wTake, wRetO, wFreeze, wCall, wCallL, wCallK, wCallLK, wiRng1, wiList, wiTup, wFor, wLcN, wkCl, wkApp, wYes, wgTup, wgCons, wgNil, wLend, lendD, lendS, wipeD, List.map_cons, List.map_nil, List.getElem?_cons_zero, List.getElem?_cons_succ, List.set_cons_zero, List.set_cons_succ, Option.some.injEq, Sl.d.injEq, Sl.o.injEq, PyData.int.injEq, PyData.bool.injEq, exists_eq_left, exists_eq_left', and_assoc, exists_and_left, exists_eq', and_true, true_and, if_true, List.length_cons, List.length_nil, Option.bind_some, List.cons_append, List.nil_append, List.append_nil, f1, f2, isi_tup_str, isi_str_str, feq_str, yx, Bool.false_eq_true, if_false]
    exact hP
  · simp only [wSeq, wAsg, wName, wBin, wVar, wC, wTest, wIfS, wIf, wNext, wRet, wCons, wNil, wCB, wIxK, wIxO, wPutI, wCallB, wPar, wLst, wTup, wUn, wL, wLstL, wRetL, wOr, wAnd, wNot, wOwn, wExt, wApp, wRev, wTake, wRetO, wFreeze, wCall, wCallL, wCallK, wCallLK, wiRng1, wiList, wiTup, wFor, wLcN, wkCl, wkApp, wYes, wgTup, wgCons, wgNil, wLend, lendD, lendS, wipeD, List.map_cons, List.map_nil, List.getElem?_cons_zero, List.getElem?_cons_succ, List.set_cons_zero, List.set_cons_succ, Option.some.injEq, Sl.d.injEq, Sl.o.injEq, PyData.int.injEq, PyData.bool.injEq, exists_eq_left, exists_eq_left', and_assoc, exists_and_left, exists_eq', and_true, true_and, if_true, List.length_cons, List.length_nil, Option.bind_some, List.cons_append, List.nil_append, List.append_nil, f1, f2, isi_tup_int, isi_str_int, Bool.false_eq_true, if_false, Bool.not_false]
    exact hP
theorem vl_bd {b x y : Int} (hx : 0 ≤ x ∧ x < b) (hy : 0 ≤ y ∧ y < b) {d : PyData} (h : Opd b d) : 0 ≤ vl x y d ∧ vl x y d < b := by
  rcases h with rfl | rfl | ⟨i, rfl, h0, h1⟩
  · exact hx
  · exact hy
  · exact ⟨h0, h1⟩
def wf_value_of : WF := fun xs P => ∃ (d : PyData) (x y b : Int), xs = [d, .int x, .int y, .int b] ∧ Exn b d ∧ (0 ≤ x ∧ x < b) ∧ (0 ≤ y ∧ y < b) ∧ 2 ≤ b ∧ b ≤ 4 ∧ P (.int (vx x y b d))
def wf__law_value : WF := wf_value_of
def w_value_of : WS := (wSeq (wIfS (wTest (wUn (fIsi "tuple") (wVar 0))) (wSeq (wAsg (wVar 0) (wgTup 3 (wgCons (wName 4) (wgCons (wName 5) (wgCons (wName 6) wgNil)))))
    (wSeq (wPar 7 8 (wCons (wCall wf_value_of_v0 [] (wCons (wVar 5) (wCons (wVar 1) (wCons (wVar 2) (wCons (wVar 3) wNil))))) (wCons (wCall wf_value_of_v0 [] (wCons (wVar 6) (wCons (wVar 1) (wCons (wVar 2) (wCons (wVar 3) wNil))))) wNil)))
    (wSeq (wIfS (wTest (wBin fEq (wVar 4) (wC (.str "+")))) (wRet (wBin fMod (wBin fAdd (wVar 7) (wVar 8)) (wVar 3))) wNext)
    (wRet (wIf (wTest (wBin fEq (wVar 4) (wC (.str "-")))) (wBin fMod (wBin fSub (wVar 7) (wVar 8)) (wVar 3)) (wBin fMod (wBin fMul (wVar 7) (wVar 8)) (wVar 3))))))) wNext)
    (wSeq (wIfS (wTest (wUn (fIsi "str") (wVar 0))) (wRet (wIf (wTest (wBin fEq (wVar 0) (wC (.str "x")))) (wVar 1) (wVar 2))) wNext)
    (wRet (wVar 0))))
def w__law_value : WS := (wSeq (wIfS (wTest (wUn (fIsi "str") (wVar 0))) (wRet (wIf (wTest (wBin fEq (wVar 0) (wC (.str "x")))) (wVar 1) (wVar 2))) wNext)
    (wSeq (wIfS (wNot (wTest (wUn (fIsi "tuple") (wVar 0)))) (wRet (wVar 0)) wNext)
    (wSeq (wPar 4 5 (wCons (wCall wf__law_value_v0 [] (wCons (wBin fIx (wVar 0) (wC (.int 1))) (wCons (wVar 1) (wCons (wVar 2) (wCons (wVar 3) wNil))))) (wCons (wCall wf__law_value_v0 [] (wCons (wBin fIx (wVar 0) (wC (.int 2))) (wCons (wVar 1) (wCons (wVar 2) (wCons (wVar 3) wNil))))) wNil)))
    (wRet (wBin fMod (wDisp ["+", "-", "*"] [(wBin fAdd (wVar 4) (wVar 5)), (wBin fSub (wVar 4) (wVar 5)), (wBin fMul (wVar 4) (wVar 5))] (wBin fIx (wVar 0) (wC (.int 0)))) (wVar 3))))))
theorem wl_value_of (xs : List PyData) (P : PyData → Prop) (h : wf_value_of xs P) : xs.length = 4 := by
  obtain ⟨d, x, y, b, rfl, _⟩ := h
  rfl
theorem wl__law_value (xs : List PyData) (P : PyData → Prop) (h : wf__law_value xs P) : xs.length = 4 := wl_value_of xs P h
theorem wp_value_of (xs : List PyData) (P : PyData → Prop) (h : wf_value_of xs P) : w_value_of (endsP P) (startN 9 xs) := by
  obtain ⟨d, x, y, b, rfl, ho, hx, hy, hb, hb2, hP⟩ := h
  show w_value_of (endsP P) [some (.d d), some (.d (.int x)), some (.d (.int y)), some (.d (.int b)), none, none, none, none, none]
  unfold w_value_of
  rcases ho with (rfl | rfl | ⟨i, rfl, _, _⟩) | ⟨s, l, r, rfl, hs, hl, hr⟩
  · simp only [wSeq, wAsg, wName, wBin, wVar, wC, wTest, wIfS, wIf, wNext, wRet, wCons, wNil, wCB, wIxK, wIxO, wPutI, wCallB, wPar, wLst, wTup, wUn, wL, wLstL, wRetL, wOr, wAnd, wNot, wOwn, wExt, wApp, wRev, wTake, wRetO, wFreeze, wCall, wCallL, wCallK, wCallLK, wiRng1, wiList, wiTup, wFor, wLcN, wkCl, wkApp, wYes, wgTup, wgCons, wgNil, wLend, lendD, lendS, wipeD, List.map_cons, List.map_nil, List.getElem?_cons_zero, List.getElem?_cons_succ, List.set_cons_zero, List.set_cons_succ, Option.some.injEq, Sl.d.injEq, Sl.o.injEq, PyData.int.injEq, PyData.bool.injEq, exists_eq_left, exists_eq_left', and_assoc, exists_and_left, exists_eq', and_true, true_and, if_true, List.length_cons, List.length_nil, Option.bind_some, List.cons_append, List.nil_append, List.append_nil, f1, f2, isi_tup_str, isi_str_str, feq_str, xx, Bool.false_eq_true, if_false]
    exact hP
  · simp only [wSeq, wAsg, wName, wBin, wVar, wC, wTest, wIfS, wIf, wNext, wRet, wCons, wNil, wCB, wIxK, wIxO, wPutI, wCallB, wPar, wLst, wTup, wUn, wL, wLstL, wRetL, wOr, wAnd, wNot, wOwn, wExt, wApp, wRev, wTake, wRetO, wFreeze, wCall, wCallL, wCallK, wCallLK, wiRng1, wiList, wiTup, wFor, wLcN, wkCl, wkApp, wYes, wgTup, wgCons, wgNil, wLend, lendD, lendS, wipeD, List.map_cons, List.map_nil, List.getElem?_cons_zero, List.getElem?_cons_succ, List.set_cons_zero, List.set_cons_succ, Option.some.injEq, Sl.d.injEq, Sl.o.injEq, PyData.int.injEq, PyData.bool.injEq, exists_eq_left, exists_eq_left', and_assoc, exists_and_left, exists_eq', and_true, true_and, if_true, List.length_cons, List.length_nil, Option.bind_some, List.cons_append, List.nil_append, List.append_nil, f1, f2, isi_tup_str, isi_str_str, feq_str, yx, Bool.false_eq_true, if_false]
    exact hP
  · simp only [wSeq, wAsg, wName, wBin, wVar, wC, wTest, wIfS, wIf, wNext, wRet, wCons, wNil, wCB, wIxK, wIxO, wPutI, wCallB, wPar, wLst, wTup, wUn, wL, wLstL, wRetL, wOr, wAnd, wNot, wOwn, wExt, wApp, wRev, wTake, wRetO, wFreeze, wCall, wCallL, wCallK, wCallLK, wiRng1, wiList, wiTup, wFor, wLcN, wkCl, wkApp, wYes, wgTup, wgCons, wgNil, wLend, lendD, lendS, wipeD, List.map_cons, List.map_nil, List.getElem?_cons_zero, List.getElem?_cons_succ, List.set_cons_zero, List.set_cons_succ, Option.some.injEq, Sl.d.injEq, Sl.o.injEq, PyData.int.injEq, PyData.bool.injEq, exists_eq_left, exists_eq_left', and_assoc, exists_and_left, exists_eq', and_true, true_and, if_true, List.length_cons, List.length_nil, Option.bind_some, List.cons_append, List.nil_append, List.append_nil, f1, f2, isi_tup_int, isi_str_int, Bool.false_eq_true, if_false]
    exact hP
  · have b1 := vl_bd hx hy hl
    have b2 := vl_bd hx hy hr
    have hm : ∀ i : Int, fMod (.int i) (.int b) = some (.int (i % b)) := fun i => f_mod (by omega)
    have hu : fMul (.int (vl x y l)) (.int (vl x y r)) = some (.int (vl x y l * vl x y r)) := f_mulL (by omega) (by omega)
    simp only [wSeq, wAsg, wName, wBin, wVar, wC, wTest, wIfS, wIf, wNext, wRet, wCons, wNil, wCB, wIxK, wIxO, wPutI, wCallB, wPar, wLst, wTup, wUn, wL, wLstL, wRetL, wOr, wAnd, wNot, wOwn, wExt, wApp, wRev, wTake, wRetO, wFreeze, wCall, wCallL, wCallK, wCallLK, wiRng1, wiList, wiTup, wFor, wLcN, wkCl, wkApp, wYes, wgTup, wgCons, wgNil, wLend, lendD, lendS, wipeD, List.map_cons, List.map_nil, List.getElem?_cons_zero, List.getElem?_cons_succ, List.set_cons_zero, List.set_cons_succ, Option.some.injEq, Sl.d.injEq, Sl.o.injEq, PyData.int.injEq, PyData.bool.injEq, exists_eq_left, exists_eq_left', and_assoc, exists_and_left, exists_eq', and_true, true_and, if_true, List.length_cons, List.length_nil, Option.bind_some, List.cons_append, List.nil_append, List.append_nil, f1, f2, isi_tup_tup]
    refine ⟨[s, l, r], rfl, rfl, s, _, rfl, l, _, rfl, r, _, rfl, rfl, ?_⟩
    refine ⟨l, x, y, b, rfl, hl, r, x, y, b, rfl, hr, _, _, rfl, ?_⟩
    unfold sgns at hs
    simp only [List.mem_cons, List.not_mem_nil, or_false] at hs
    rcases hs with rfl | rfl | rfl
    · refine ⟨_, feq_str, _, rfl, ?_⟩
      rw [if_pos (by decide)]
      exact ⟨_, rfl, _, hm _, hP⟩
    · refine ⟨_, feq_str, _, rfl, ?_⟩
      rw [if_neg (by decide)]
      refine ⟨_, feq_str, _, rfl, ?_⟩
      rw [if_pos (by decide)]
      exact ⟨_, rfl, _, hm _, hP⟩
    · refine ⟨_, feq_str, _, rfl, ?_⟩
      rw [if_neg (by decide)]
      refine ⟨_, feq_str, _, rfl, ?_⟩
      rw [if_neg (by decide)]
      exact ⟨_, hu, _, hm _, hP⟩
theorem at1 {x y : PyData} {t : List PyData} : atI (x :: y :: t) 1 = some y := by
  unfold atI ixN
  rw [if_pos (by decide), if_pos (by rw [List.length_cons, List.length_cons]; omega)]
  rfl
theorem at2 {x y z : PyData} {t : List PyData} : atI (x :: y :: z :: t) 2 = some z := by
  unfold atI ixN
  rw [if_pos (by decide), if_pos (by rw [List.length_cons, List.length_cons, List.length_cons]; omega)]
  rfl
theorem wp__law_value (xs : List PyData) (P : PyData → Prop) (h : wf__law_value xs P) : w__law_value (endsP P) (startN 6 xs) := by
  obtain ⟨d, x, y, b, rfl, ho, hx, hy, hb, hb2, hP⟩ := h
  show w__law_value (endsP P) [some (.d d), some (.d (.int x)), some (.d (.int y)), some (.d (.int b)), none, none]
  unfold w__law_value
  rcases ho with (rfl | rfl | ⟨i, rfl, _, _⟩) | ⟨s, l, r, rfl, hs, hl, hr⟩
  · simp only [wSeq, wAsg, wName, wBin, wVar, wC, wTest, wIfS, wIf, wNext, wRet, wCons, wNil, wCB, wIxK, wIxO, wPutI, wCallB, wPar, wLst, wTup, wUn, wL, wLstL, wRetL, wOr, wAnd, wNot, wOwn, wExt, wApp, wRev, wTake, wRetO, wFreeze, wCall, wCallL, wCallK, wCallLK, wiRng1, wiList, wiTup, wFor, wLcN, wkCl, wkApp, wYes, wgTup, wgCons, wgNil, wLend, lendD, lendS, wipeD, List.map_cons, List.map_nil, List.getElem?_cons_zero, List.getElem?_cons_succ, List.set_cons_zero, List.set_cons_succ, Option.some.injEq, Sl.d.injEq, Sl.o.injEq, PyData.int.injEq, PyData.bool.injEq, exists_eq_left, exists_eq_left', and_assoc, exists_and_left, exists_eq', and_true, true_and, if_true, List.length_cons, List.length_nil, Option.bind_some, List.cons_append, List.nil_append, List.append_nil, f1, f2, isi_tup_str, isi_str_str, feq_str, xx, Bool.false_eq_true, if_false]
    exact hP
  · simp only [wSeq, wAsg, wName, wBin, wVar, wC, wTest, wIfS, wIf, wNext, wRet, wCons, wNil, wCB, wIxK, wIxO, wPutI, wCallB, wPar, wLst, wTup, wUn, wL, wLstL, wRetL, wOr, wAnd, wNot, wOwn, wExt, wApp, wRev, wTake, wRetO, wFreeze, wCall, wCallL, wCallK, wCallLK, wiRng1, wiList, wiTup, wFor, wLcN, wkCl, wkApp, wYes, wgTup, wgCons, wgNil, wLend, lendD, lendS, wipeD, List.map_cons, List.map_nil, List.getElem?_cons_zero, List.getElem?_cons_succ, List.set_cons_zero, List.set_cons_succ, Option.some.injEq, Sl.d.injEq, Sl.o.injEq, PyData.int.injEq, PyData.bool.injEq, exists_eq_left, exists_eq_left', and_assoc, exists_and_left, exists_eq', and_true, true_and, if_true, List.length_cons, List.length_nil, Option.bind_some, List.cons_append, List.nil_append, List.append_nil, f1, f2, isi_tup_str, isi_str_str, feq_str, yx, Bool.false_eq_true, if_false]
    exact hP
  · simp only [wSeq, wAsg, wName, wBin, wVar, wC, wTest, wIfS, wIf, wNext, wRet, wCons, wNil, wCB, wIxK, wIxO, wPutI, wCallB, wPar, wLst, wTup, wUn, wL, wLstL, wRetL, wOr, wAnd, wNot, wOwn, wExt, wApp, wRev, wTake, wRetO, wFreeze, wCall, wCallL, wCallK, wCallLK, wiRng1, wiList, wiTup, wFor, wLcN, wkCl, wkApp, wYes, wgTup, wgCons, wgNil, wLend, lendD, lendS, wipeD, List.map_cons, List.map_nil, List.getElem?_cons_zero, List.getElem?_cons_succ, List.set_cons_zero, List.set_cons_succ, Option.some.injEq, Sl.d.injEq, Sl.o.injEq, PyData.int.injEq, PyData.bool.injEq, exists_eq_left, exists_eq_left', and_assoc, exists_and_left, exists_eq', and_true, true_and, if_true, List.length_cons, List.length_nil, Option.bind_some, List.cons_append, List.nil_append, List.append_nil, f1, f2, isi_tup_int, isi_str_int, Bool.false_eq_true, if_false, Bool.not_false]
    exact hP
  · have b1 := vl_bd hx hy hl
    have b2 := vl_bd hx hy hr
    have hm : ∀ i : Int, fMod (.int i) (.int b) = some (.int (i % b)) := fun i => f_mod (by omega)
    have hu : fMul (.int (vl x y l)) (.int (vl x y r)) = some (.int (vl x y l * vl x y r)) := f_mulL (by omega) (by omega)
    simp only [wSeq, wAsg, wName, wBin, wVar, wC, wTest, wIfS, wIf, wNext, wRet, wCons, wNil, wCB, wIxK, wIxO, wPutI, wCallB, wPar, wLst, wTup, wUn, wL, wLstL, wRetL, wOr, wAnd, wNot, wOwn, wExt, wApp, wRev, wTake, wRetO, wFreeze, wCall, wCallL, wCallK, wCallLK, wiRng1, wiList, wiTup, wFor, wLcN, wkCl, wkApp, wYes, wgTup, wgCons, wgNil, wLend, lendD, lendS, wipeD, List.map_cons, List.map_nil, List.getElem?_cons_zero, List.getElem?_cons_succ, List.set_cons_zero, List.set_cons_succ, Option.some.injEq, Sl.d.injEq, Sl.o.injEq, PyData.int.injEq, PyData.bool.injEq, exists_eq_left, exists_eq_left', and_assoc, exists_and_left, exists_eq', and_true, true_and, if_true, List.length_cons, List.length_nil, Option.bind_some, List.cons_append, List.nil_append, List.append_nil, f1, f2, isi_tup_tup, isi_str_tup, Bool.false_eq_true, if_false, Bool.not_true, fIx, at0, at1, at2]
    refine ⟨l, x, y, b, rfl, hl, r, x, y, b, rfl, hr, _, _, rfl, ?_⟩
    simp only [wDisp, wVals, wSeq, wAsg, wName, wBin, wVar, wC, wTest, wIfS, wIf, wNext, wRet, wCons, wNil, wCB, wIxK, wIxO, wPutI, wCallB, wPar, wLst, wTup, wUn, wL, wLstL, wRetL, wOr, wAnd, wNot, wOwn, wExt, wApp, wRev, wTake, wRetO, wFreeze, wCall, wCallL, wCallK, wCallLK, wiRng1, wiList, wiTup, wFor, wLcN, wkCl, wkApp, wYes, wgTup, wgCons, wgNil, wLend, lendD, lendS, wipeD, List.map_cons, List.map_nil, List.getElem?_cons_zero, List.getElem?_cons_succ, List.set_cons_zero, List.set_cons_succ, Option.some.injEq, Sl.d.injEq, Sl.o.injEq, PyData.int.injEq, PyData.bool.injEq, exists_eq_left, exists_eq_left', and_assoc, exists_and_left, exists_eq', and_true, true_and, if_true, List.length_cons, List.length_nil, Option.bind_some, List.cons_append, List.nil_append, List.append_nil, f1, f2, fIx, at0, f_add, f_sub, hu]
    unfold sgns at hs
    simp only [List.mem_cons, List.not_mem_nil, or_false] at hs
    rcases hs with rfl | rfl | rfl
    · exact ⟨_, rfl, _, rfl, _, hm _, hP⟩
    · exact ⟨_, rfl, _, rfl, _, hm _, hP⟩
    · exact ⟨_, rfl, _, rfl, _, hm _, hP⟩
end Pl
namespace Pl
open PySem PySem.Spec PyProof.Rows L2 Dat
/-! ### stands -/
def dt_MUTE : PyData := (.tuple [(.int (-1)), (.int 0), (.int 0)])
def dt_RECEIVING : PyData := (.tuple [(.str "ask"), (.str "read"), (.str "call")])
def dt_TELLING : PyData := (.tuple [(.str "say"), (.str "write")])
def StOk (rows : List PyData) (b : Int) (d : PyData) : Prop := d = dt_MUTE ∨ ∃ i p q : Int, d = .tuple [.int i, .int p, .int q] ∧ (0 ≤ p ∧ p < b) ∧ (0 ≤ q ∧ q < b) ∧ 0 ≤ i ∧ (i = rows.length ∨ (i < rows.length ∧ sil rows i.toNat = false))
theorem stn_mem {b : Int} (hb : 2 ≤ b) (hb2 : b ≤ 4) {i : Int} {x : PyData} (h : x ∈ stn b (.int i)) : ∃ p q : Int, x = .tuple [.int i, .int p, .int q] ∧ (0 ≤ p ∧ p < b) ∧ (0 ≤ q ∧ q < b) := by
  unfold stn at h
  obtain ⟨y, hy, rfl⟩ := List.mem_map.mp h
  obtain ⟨j, hj⟩ := List.mem_iff_getElem?.mp hy
  obtain ⟨hj1, rfl⟩ := rangeD_get hj
  refine ⟨_, _, rfl, ⟨Int.ediv_nonneg (by omega) (by omega), ?_⟩, Int.emod_nonneg _ (by omega), Int.emod_lt_of_pos _ (by omega)⟩
  have hsq := b_sq hb hb2
  refine Int.ediv_lt_of_lt_mul (by omega) ?_
  omega
theorem stands_mem {rows : List PyData} {b : Int} (hb : 2 ≤ b) (hb2 : b ≤ 4) {x : PyData} (h : x ∈ stands rows b) : StOk rows b x := by
  unfold stands at h
  obtain ⟨i, hi, hx⟩ := List.mem_flatMap.mp h
  unfold idx ini at hi
  rcases List.mem_append.mp hi with hi | hi
  · obtain ⟨j, hj, rfl⟩ := List.mem_map.mp hi
    obtain ⟨h1, h2⟩ := List.mem_filter.mp hj
    have h1 := List.mem_range.mp h1
    obtain ⟨p, q, e, hp, hq⟩ := stn_mem hb hb2 hx
    refine .inr ⟨_, p, q, e, hp, hq, by omega, .inr ⟨by omega, ?_⟩⟩
    have e2 : (0 + (j : Nat) : Int).toNat = j := by omega
    rw [e2]
    simpa using h2
  · rw [List.mem_singleton] at hi
    subst hi
    obtain ⟨p, q, e, hp, hq⟩ := stn_mem hb hb2 hx
    exact .inr ⟨_, p, q, e, hp, hq, by omega, .inl rfl⟩
def Rows (b : Int) (ns rows : List PyData) : Prop := rows.length ≤ 100 ∧ ∀ r ∈ rows, RowOk b rows.length ns r
theorem all3 : fAll (.list [.bool true, .bool true, .bool true]) = some (.bool true) := rfl
def wf_is_stand : WF := fun xs P => ∃ (rows : List PyData) (d : PyData) (b : Int), xs = [.tuple rows, d, .int b] ∧ 2 ≤ b ∧ b ≤ 4 ∧ (∀ r ∈ rows, Hd r) ∧ StOk rows b d ∧ P (.bool true)
def w_is_stand : WS := (wSeq (wIfS (wOr (wNot (wTest (wUn (fIsi "tuple") (wVar 1)))) (wOr (wTest (wBin fNe (wCB (f1 fLen) (wCons (wVar 1) wNil)) (wC (.int 3)))) (wNot (wTest (wCB (f1 fAll) (wCons (wL (wLcN (wiTup (wVar 1)) (wName 6) wYes (wkApp (wCall wf_is_whole [] (wCons (wVar 6) wNil))) [6])) wNil)))))) (wRet (wC (.bool false))) wNext)
    (wSeq (wAsg (wVar 1) (wgTup 3 (wgCons (wName 3) (wgCons (wName 4) (wgCons (wName 5) wgNil)))))
    (wSeq (wIfS (wOr (wTest (wBin fEq (wVar 1) (wC dt_MUTE))) (wTest (wBin fEq (wVar 3) (wCB (f1 fLen) (wCons (wVar 0) wNil))))) (wRet (wOrV (wBin fEq (wVar 1) (wC dt_MUTE)) (wAndV (wCall wf_is_number [] (wCons (wVar 4) (wCons (wVar 2) wNil))) (wCall wf_is_number [] (wCons (wVar 5) (wCons (wVar 2) wNil)))))) wNext)
    (wRet (wAndV (wChain fLe fLt (wC (.int 0)) (wVar 3) (wCB (f1 fLen) (wCons (wVar 0) wNil))) (wAndV (wBin (fIn true) (wBin fIx (wBin fIx (wVar 0) (wVar 3)) (wC (.int 0))) (wC dt_SILENT)) (wAndV (wCall wf_is_number [] (wCons (wVar 4) (wCons (wVar 2) wNil))) (wCall wf_is_number [] (wCons (wVar 5) (wCons (wVar 2) wNil))))))))))
theorem wl_is_stand (xs : List PyData) (P : PyData → Prop) (h : wf_is_stand xs P) : xs.length = 3 := by
  obtain ⟨rows, d, b, rfl, _⟩ := h
  rfl
theorem whole_use {i : Int} {P : PyData → Prop} (h : P (.bool true)) : wf_is_whole [.int i] P := ⟨i, rfl, h⟩
theorem number_use {i b : Int} {P : PyData → Prop} (hi : 0 ≤ i ∧ i < b) (h : P (.bool true)) : wf_is_number [.int i, .int b] P := ⟨i, b, rfl, hi.1, hi.2, h⟩
theorem feq_tup3 {a b c i j k : Int} : fEq (.tuple [.int a, .int b, .int c]) (.tuple [.int i, .int j, .int k]) = some (.bool (a == i && (b == j && (c == k && true)))) := rfl
theorem wp_is_stand (xs : List PyData) (P : PyData → Prop) (h : wf_is_stand xs P) : w_is_stand (endsP P) (startN 7 xs) := by
  obtain ⟨rows, d, b, rfl, hb, hb2, hh, hd, hP⟩ := h
  have hd' : ∃ i p q : Int, d = .tuple [.int i, .int p, .int q] ∧ ((i = -1 ∧ p = 0 ∧ q = 0) ∨ ((0 ≤ p ∧ p < b) ∧ (0 ≤ q ∧ q < b) ∧ 0 ≤ i ∧ (i = rows.length ∨ (i < rows.length ∧ sil rows i.toNat = false)))) := by
    rcases hd with rfl | ⟨i, p, q, e, h1, h2, h3, h4⟩
    · exact ⟨_, _, _, rfl, .inl ⟨rfl, rfl, rfl⟩⟩
    · exact ⟨i, p, q, e, .inr ⟨h1, h2, h3, h4⟩⟩
  obtain ⟨i, p, q, rfl, hd'⟩ := hd'
  show w_is_stand (endsP P) [some (.d (.tuple rows)), some (.d (.tuple [.int i, .int p, .int q])), some (.d (.int b)), none, none, none, none]
  unfold w_is_stand
  have e3 : fNe (.int (0 + 1 + 1 + 1 : Nat)) (.int 3) = some (.bool false) := rfl
  simp only [wSeq, wAsg, wName, wBin, wVar, wC, wTest, wIfS, wIf, wNext, wRet, wCons, wNil, wCB, wIxK, wIxO, wPutI, wCallB, wPar, wLst, wTup, wUn, wL, wLstL, wRetL, wOr, wAnd, wNot, wOwn, wExt, wApp, wRev, wTake, wRetO, wFreeze, wCall, wCallL, wCallK, wCallLK, wiRng1, wiList, wiTup, wFor, wLcN, wkCl, wkApp, wYes, wgTup, wgCons, wgNil, wLend, lendD, lendS, wipeD, List.map_cons, List.map_nil, List.getElem?_cons_zero, List.getElem?_cons_succ, List.set_cons_zero, List.set_cons_succ, Option.some.injEq, Sl.d.injEq, Sl.o.injEq, PyData.int.injEq, PyData.bool.injEq, exists_eq_left, exists_eq_left', and_assoc, exists_and_left, exists_eq', and_true, true_and, if_true, List.length_cons, List.length_nil, Option.bind_some, List.cons_append, List.nil_append, List.append_nil, f1, f2, PyData.tuple.injEq, PyData.list.injEq, PyData.str.injEq, List.cons.injEq, exists_eq_right_right, exists_eq_right, wgStar, wSl, woNone, woSome, wOrV, wAndV, wChain, wDrop, isi_tup_tup, f_lenT, clRec, Bool.not_true, Bool.false_eq_true, if_false]
  refine ⟨_, e3, _, rfl, ?_⟩
  rw [if_neg (by decide)]
  refine whole_use ⟨by decide, whole_use ⟨by decide, whole_use ⟨by decide, _, all3, _, rfl, ?_⟩⟩⟩
  rw [if_neg (by decide)]
  simp only [dt_MUTE, feq_tup3, feq_int, wSeq, wAsg, wName, wBin, wVar, wC, wTest, wIfS, wIf, wNext, wRet, wCons, wNil, wCB, wIxK, wIxO, wPutI, wCallB, wPar, wLst, wTup, wUn, wL, wLstL, wRetL, wOr, wAnd, wNot, wOwn, wExt, wApp, wRev, wTake, wRetO, wFreeze, wCall, wCallL, wCallK, wCallLK, wiRng1, wiList, wiTup, wFor, wLcN, wkCl, wkApp, wYes, wgTup, wgCons, wgNil, wLend, lendD, lendS, wipeD, List.map_cons, List.map_nil, List.getElem?_cons_zero, List.getElem?_cons_succ, List.set_cons_zero, List.set_cons_succ, Option.some.injEq, Sl.d.injEq, Sl.o.injEq, PyData.int.injEq, PyData.bool.injEq, exists_eq_left, exists_eq_left', and_assoc, exists_and_left, exists_eq', and_true, true_and, if_true, List.length_cons, List.length_nil, Option.bind_some, List.cons_append, List.nil_append, List.append_nil, f1, f2, PyData.tuple.injEq, PyData.list.injEq, PyData.str.injEq, List.cons.injEq, exists_eq_right_right, exists_eq_right, wgStar, wSl, woNone, woSome, wOrV, wAndV, wChain, wDrop, f_lenT, f_le, f_lt]
  rcases hd' with ⟨rfl, rfl, rfl⟩ | ⟨hp, hq, h0, hi⟩
  · rw [if_pos (by decide), if_pos (by decide)]
    exact hP
  · have hn : (i == -1 && (p == 0 && (q == 0 && true))) = false := by
      have : (i == -1) = false := by simp; omega
      rw [this]; rfl
    rw [hn, if_neg (by decide)]
    rcases hi with rfl | ⟨hlt, hs⟩
    · have e1 : ((rows.length : Int) == (rows.length : Int)) = true := by simp
      rw [e1, if_pos rfl, if_neg (by decide)]
      exact number_use hp ⟨true, rfl, number_use hq hP⟩
    · have e1 : (i == (rows.length : Int)) = false := by simp; omega
      rw [e1, if_neg (by decide)]
      have ei : ((i.toNat : Nat) : Int) = i := by omega
      obtain ⟨s, t, ea, es⟩ := row_at hh (show i.toNat < rows.length by omega)
      rw [ei] at ea
      rw [es] at hs
      simp only [h0, hlt, decide_true, if_true, dt_SILENT, fIx, ea, Option.some.injEq, exists_eq_left', at0, fin_sil, hs, Bool.not_false, PyData.bool.injEq, if_true]
      exact number_use hp ⟨true, rfl, number_use hq hP⟩
def wf_look_stand : WF := fun xs P => ∃ (rows : List PyData) (d : PyData) (b : Int), xs = [.tuple rows, d, .int b] ∧ 2 ≤ b ∧ b ≤ 4 ∧ (∀ r ∈ rows, Hd r) ∧ StOk rows b d ∧ P .none
def w_look_stand : WS := (wIfS (wNot (wTest (wCall wf_is_stand [] (wCons (wVar 0) (wCons (wVar 1) (wCons (wVar 2) wNil)))))) wNever wNext)
theorem wl_look_stand (xs : List PyData) (P : PyData → Prop) (h : wf_look_stand xs P) : xs.length = 3 := by
  obtain ⟨rows, d, b, rfl, _⟩ := h
  rfl
theorem wp_look_stand (xs : List PyData) (P : PyData → Prop) (h : wf_look_stand xs P) : w_look_stand (endsP P) (startN 3 xs) := by
  obtain ⟨rows, d, b, rfl, hb, hb2, hh, hd, hP⟩ := h
  show w_look_stand (endsP P) [some (.d (.tuple rows)), some (.d d), some (.d (.int b))]
  unfold w_look_stand
  simp only [wSeq, wAsg, wName, wBin, wVar, wC, wTest, wIfS, wIf, wNext, wRet, wCons, wNil, wCB, wIxK, wIxO, wPutI, wCallB, wPar, wLst, wTup, wUn, wL, wLstL, wRetL, wOr, wAnd, wNot, wOwn, wExt, wApp, wRev, wTake, wRetO, wFreeze, wCall, wCallL, wCallK, wCallLK, wiRng1, wiList, wiTup, wFor, wLcN, wkCl, wkApp, wYes, wgTup, wgCons, wgNil, wLend, lendD, lendS, wipeD, List.map_cons, List.map_nil, List.getElem?_cons_zero, List.getElem?_cons_succ, List.set_cons_zero, List.set_cons_succ, Option.some.injEq, Sl.d.injEq, Sl.o.injEq, PyData.int.injEq, PyData.bool.injEq, exists_eq_left, exists_eq_left', and_assoc, exists_and_left, exists_eq', and_true, true_and, if_true, List.length_cons, List.length_nil, Option.bind_some, List.cons_append, List.nil_append, List.append_nil, f1, f2]
  exact ⟨rows, d, b, rfl, hb, hb2, hh, hd, true, rfl, hP⟩
/-! ### deeds -/
def rowDeed (x y b : Int) : PyData → PyData
  | .tuple [.str w, e] => if (w == ("ask" : Str)) = true then .tuple [.str w] else .tuple [.str w, .int (vx x y b e)]
  | .tuple [.str w, c, e] => if (w == ("read" : Str)) = true then .tuple [.str w, c] else .tuple [.str w, c, .int (vx x y b e)]
  | .tuple [.str w, n, e, _] => .tuple [.str w, n, .int (vx x y b e)]
  | d => d
def deedD (rows : List PyData) (b : Int) : PyData → PyData
  | .tuple [.int i, .int p, .int q] => if i = -1 then .tuple [.str "mute"] else if i = rows.length then .tuple [.str "end", .int 0] else match rows[i.toNat]? with
    | some r => rowDeed p q b r
    | none => .none
  | _ => .none
def wf_deed_at : WF := fun xs P => ∃ (rows ns : List PyData) (d : PyData) (b : Int), xs = [.tuple rows, d, .int b] ∧ 2 ≤ b ∧ b ≤ 4 ∧ (∀ r ∈ rows, RowOk b rows.length ns r) ∧ StOk rows b d ∧ P (deedD rows b d)
def wf__law_deed : WF := wf_deed_at
def w_deed_at : WS := (wSeq (wAsg (wVar 1) (wgTup 3 (wgCons (wName 3) (wgCons (wName 4) (wgCons (wName 5) wgNil)))))
    (wSeq (wIfS (wTest (wBin fEq (wVar 1) (wC dt_MUTE))) (wRet (wTup (wCons (wC (.str "mute")) wNil))) wNext)
    (wSeq (wIfS (wTest (wBin fEq (wVar 3) (wCB (f1 fLen) (wCons (wVar 0) wNil)))) (wRet (wTup (wCons (wC (.str "end")) (wCons (wC (.int 0)) wNil)))) wNext)
    (wSeq (wAsg (wBin fIx (wVar 0) (wVar 3)) (wgStar 1 (wgCons (wName 6) (wgCons (wName 7) wgNil))))
    (wSeq (wIfS (wTest (wBin fEq (wVar 6) (wC (.str "ask")))) (wRet (wTup (wCons (wVar 6) wNil))) wNext)
    (wSeq (wIfS (wTest (wBin fEq (wVar 6) (wC (.str "read")))) (wRet (wTup (wCons (wVar 6) (wCons (wBin fIx (wVar 7) (wC (.int 0))) wNil)))) wNext)
    (wSeq (wIfS (wTest (wBin fEq (wVar 6) (wC (.str "write")))) (wRet (wTup (wCons (wVar 6) (wCons (wBin fIx (wVar 7) (wC (.int 0))) (wCons (wCall wf_value_of [] (wCons (wBin fIx (wVar 7) (wC (.int 1))) (wCons (wVar 4) (wCons (wVar 5) (wCons (wVar 2) wNil))))) wNil))))) wNext)
    (wSeq (wIfS (wTest (wBin fEq (wVar 6) (wC (.str "call")))) (wRet (wTup (wCons (wVar 6) (wCons (wBin fIx (wVar 7) (wC (.int 0))) (wCons (wCall wf_value_of [] (wCons (wBin fIx (wVar 7) (wC (.int 1))) (wCons (wVar 4) (wCons (wVar 5) (wCons (wVar 2) wNil))))) wNil))))) wNext)
    (wRet (wTup (wCons (wVar 6) (wCons (wCall wf_value_of [] (wCons (wBin fIx (wVar 7) (wC (.int 0))) (wCons (wVar 4) (wCons (wVar 5) (wCons (wVar 2) wNil))))) wNil))))))))))))
def w__law_deed : WS := (wSeq (wAsg (wVar 1) (wgTup 3 (wgCons (wName 3) (wgCons (wName 4) (wgCons (wName 5) wgNil)))))
    (wSeq (wIfS (wOr (wTest (wBin fEq (wVar 3) (wUn fNeg (wC (.int 1))))) (wTest (wBin fEq (wVar 3) (wCB (f1 fLen) (wCons (wVar 0) wNil))))) (wRet (wIf (wTest (wBin fEq (wVar 3) (wUn fNeg (wC (.int 1))))) (wTup (wCons (wC (.str "mute")) wNil)) (wTup (wCons (wC (.str "end")) (wCons (wC (.int 0)) wNil))))) wNext)
    (wSeq (wAsg (wBin fIx (wVar 0) (wVar 3)) (wName 6))
    (wSeq (wIfS (wTest (wBin (fIn false) (wBin fIx (wVar 6) (wC (.int 0))) (wTup (wCons (wC (.str "ask")) (wCons (wC (.str "read")) wNil))))) (wRet (wSl (wVar 6) woNone (woSome (wUn fNeg (wC (.int 1)))))) wNext)
    (wSeq (wIfS (wTest (wBin (fIn false) (wBin fIx (wVar 6) (wC (.int 0))) (wTup (wCons (wC (.str "write")) (wCons (wC (.str "call")) wNil))))) (wRet (wTup (wCons (wBin fIx (wVar 6) (wC (.int 0))) (wCons (wBin fIx (wVar 6) (wC (.int 1))) (wCons (wCall wf__law_value [] (wCons (wBin fIx (wVar 6) (wC (.int 2))) (wCons (wVar 4) (wCons (wVar 5) (wCons (wVar 2) wNil))))) wNil))))) wNext)
    (wRet (wTup (wCons (wBin fIx (wVar 6) (wC (.int 0))) (wCons (wCall wf__law_value [] (wCons (wBin fIx (wVar 6) (wC (.int 1))) (wCons (wVar 4) (wCons (wVar 5) (wCons (wVar 2) wNil))))) wNil)))))))))
theorem wl_deed_at (xs : List PyData) (P : PyData → Prop) (h : wf_deed_at xs P) : xs.length = 3 := by
  obtain ⟨rows, ns, d, b, rfl, _⟩ := h
  rfl
theorem wl__law_deed (xs : List PyData) (P : PyData → Prop) (h : wf__law_deed xs P) : xs.length = 3 := wl_deed_at xs P h
theorem value_use {d : PyData} {x y b : Int} {P : PyData → Prop} (h : Exn b d) (hx : 0 ≤ x ∧ x < b) (hy : 0 ≤ y ∧ y < b) (hb : 2 ≤ b) (hb2 : b ≤ 4) (hP : P (.int (vx x y b d))) : wf_value_of [d, .int x, .int y, .int b] P := ⟨d, x, y, b, rfl, h, hx, hy, hb, hb2, hP⟩
theorem StOk.cases {rows : List PyData} {b : Int} {d : PyData} (h : StOk rows b d) : ∃ i p q : Int, d = .tuple [.int i, .int p, .int q] ∧ ((i = -1 ∧ p = 0 ∧ q = 0) ∨ ((0 ≤ p ∧ p < b) ∧ (0 ≤ q ∧ q < b) ∧ 0 ≤ i ∧ (i = rows.length ∨ (i < rows.length ∧ sil rows i.toNat = false)))) := by
  rcases h with rfl | ⟨i, p, q, e, h1, h2, h3, h4⟩
  · exact ⟨_, _, _, rfl, .inl ⟨rfl, rfl, rfl⟩⟩
  · exact ⟨i, p, q, e, .inr ⟨h1, h2, h3, h4⟩⟩
theorem at_nat {rows : List PyData} {i : Int} (h0 : 0 ≤ i) (h1 : i < rows.length) : ∃ r, r ∈ rows ∧ atI rows i = some r ∧ rows[i.toNat]? = some r := by
  have hl : i.toNat < rows.length := by omega
  refine ⟨rows[i.toNat], List.getElem_mem hl, ?_, List.getElem?_eq_getElem hl⟩
  unfold atI ixN
  rw [if_pos h0, if_pos h1]
  exact List.getElem?_eq_getElem hl
theorem sil_false {rows : List PyData} {r : PyData} {n : Nat} {s : Str} {t : List PyData} (e : rows[n]? = some r) (er : r = .tuple (.str s :: t)) (h : sil rows n = false) : silS s = false := by
  unfold sil at h
  rw [e, er] at h
  exact h
theorem e_say_ask : (("say" : Str) == ("ask" : Str)) = false := by decide
theorem e_say_read : (("say" : Str) == ("read" : Str)) = false := by decide
theorem e_say_write : (("say" : Str) == ("write" : Str)) = false := by decide
theorem e_say_call : (("say" : Str) == ("call" : Str)) = false := by decide
theorem e_ask_ask : (("ask" : Str) == ("ask" : Str)) = true := by decide
theorem e_ask_read : (("ask" : Str) == ("read" : Str)) = false := by decide
theorem e_ask_write : (("ask" : Str) == ("write" : Str)) = false := by decide
theorem e_ask_call : (("ask" : Str) == ("call" : Str)) = false := by decide
theorem e_read_ask : (("read" : Str) == ("ask" : Str)) = false := by decide
theorem e_read_read : (("read" : Str) == ("read" : Str)) = true := by decide
theorem e_read_write : (("read" : Str) == ("write" : Str)) = false := by decide
theorem e_read_call : (("read" : Str) == ("call" : Str)) = false := by decide
theorem e_write_ask : (("write" : Str) == ("ask" : Str)) = false := by decide
theorem e_write_read : (("write" : Str) == ("read" : Str)) = false := by decide
theorem e_write_write : (("write" : Str) == ("write" : Str)) = true := by decide
theorem e_write_call : (("write" : Str) == ("call" : Str)) = false := by decide
theorem e_call_ask : (("call" : Str) == ("ask" : Str)) = false := by decide
theorem e_call_read : (("call" : Str) == ("read" : Str)) = false := by decide
theorem e_call_write : (("call" : Str) == ("write" : Str)) = false := by decide
theorem e_call_call : (("call" : Str) == ("call" : Str)) = true := by decide
theorem e_end_ask : (("end" : Str) == ("ask" : Str)) = false := by decide
theorem e_end_read : (("end" : Str) == ("read" : Str)) = false := by decide
theorem e_end_write : (("end" : Str) == ("write" : Str)) = false := by decide
theorem e_end_call : (("end" : Str) == ("call" : Str)) = false := by decide
theorem fin_of {s : Str} (l : List Str) : fIn false (.str s) (.tuple (l.map .str)) = some (.bool (l.any fun y => y == s)) := by
  have h1 : (l.map PyData.str).all flatD = true := by
    rw [List.all_eq_true]
    intro x hx
    obtain ⟨y, _, rfl⟩ := List.mem_map.mp hx
    rfl
  show (if (flatD (.str s) && (l.map PyData.str).all flatD) = true then some (PyData.bool (if false = true then !(l.map PyData.str).any (fun y => PyData.eqv y (.str s)) else (l.map PyData.str).any (fun y => PyData.eqv y (.str s)))) else none) = _
  rw [h1, if_pos (by rfl), if_neg (by decide), List.any_map]
  rfl
theorem deedD_eq {rows : List PyData} {b i p q : Int} : deedD rows b (.tuple [.int i, .int p, .int q]) = if i = -1 then .tuple [.str "mute"] else if i = rows.length then .tuple [.str "end", .int 0] else match rows[i.toNat]? with
    | some r => rowDeed p q b r
    | none => .none := rfl
theorem wp_deed_at (xs : List PyData) (P : PyData → Prop) (h : wf_deed_at xs P) : w_deed_at (endsP P) (startN 8 xs) := by
  obtain ⟨rows, ns, d, b, rfl, hb, hb2, hh, hd, hP⟩ := h
  obtain ⟨i, p, q, rfl, hd2⟩ := hd.cases
  clear hd
  show w_deed_at (endsP P) [some (.d (.tuple rows)), some (.d (.tuple [.int i, .int p, .int q])), some (.d (.int b)), none, none, none, none, none]
  unfold w_deed_at
  simp only [wSeq, wAsg, wName, wBin, wVar, wC, wTest, wIfS, wIf, wNext, wRet, wCons, wNil, wCB, wIxK, wIxO, wPutI, wCallB, wPar, wLst, wTup, wUn, wL, wLstL, wRetL, wOr, wAnd, wNot, wOwn, wExt, wApp, wRev, wTake, wRetO, wFreeze, wCall, wCallL, wCallK, wCallLK, wiRng1, wiList, wiTup, wFor, wLcN, wkCl, wkApp, wYes, wgTup, wgCons, wgNil, wLend, lendD, lendS, wipeD, List.map_cons, List.map_nil, List.getElem?_cons_zero, List.getElem?_cons_succ, List.set_cons_zero, List.set_cons_succ, Option.some.injEq, Sl.d.injEq, Sl.o.injEq, PyData.int.injEq, PyData.bool.injEq, exists_eq_left, exists_eq_left', and_assoc, exists_and_left, exists_eq', and_true, true_and, if_true, List.length_cons, List.length_nil, Option.bind_some, List.cons_append, List.nil_append, List.append_nil, f1, f2, PyData.tuple.injEq, PyData.list.injEq, PyData.str.injEq, List.cons.injEq, exists_eq_right_right, exists_eq_right, wgStar, wSl, woNone, woSome, wOrV, wAndV, wChain, wDrop, dt_MUTE, feq_tup3, f_lenT, feq_int]
  rw [deedD_eq] at hP
  rcases hd2 with ⟨rfl, rfl, rfl⟩ | ⟨hp, hq, h0, hi⟩
  · rw [if_pos (by decide)]
    exact ⟨by decide, hP⟩
  · have hn : (i == -1 && (p == 0 && (q == 0 && true))) = false := by
      have : (i == -1) = false := by simp; omega
      rw [this]; rfl
    have hne : i ≠ -1 := by omega
    rw [hn, if_neg (by decide)]
    rw [if_neg hne] at hP
    rcases hi with rfl | ⟨hlt, hs⟩
    · have e1 : ((rows.length : Int) == (rows.length : Int)) = true := by simp
      rw [e1, if_pos rfl]
      rw [if_pos rfl] at hP
      exact ⟨by decide, hP⟩
    · have e1 : (i == (rows.length : Int)) = false := by simp; omega
      rw [e1, if_neg (by decide)]
      rw [if_neg (by omega)] at hP
      obtain ⟨r, hr, ea, eg⟩ := at_nat h0 hlt
      rw [eg] at hP
      have hP : P (rowDeed p q b r) := hP
      have ok := hh r hr
      have bad : ∀ s t, r = .tuple (.str s :: t) → silS s = true → False := fun s t er z => by
        rw [sil_false eg er hs] at z
        cases z
      cases ok with
      | set hv he => exact (bad _ _ rfl (by decide)).elim
      | iff he hf g0 g1 => exact (bad _ _ rfl (by decide)).elim
      | go g0 g1 => exact (bad _ _ rfl (by decide)).elim
      | ask hv =>
        simp only [rowDeed, e_say_ask, e_say_read, e_say_write, e_say_call, e_ask_ask, e_ask_read, e_ask_write, e_ask_call, e_read_ask, e_read_read, e_read_write, e_read_call, e_write_ask, e_write_read, e_write_write, e_write_call, e_call_ask, e_call_read, e_call_write, e_call_call, e_end_ask, e_end_read, e_end_write, e_end_call, if_true, if_false, Bool.false_eq_true] at hP
        simp only [wSeq, wAsg, wName, wBin, wVar, wC, wTest, wIfS, wIf, wNext, wRet, wCons, wNil, wCB, wIxK, wIxO, wPutI, wCallB, wPar, wLst, wTup, wUn, wL, wLstL, wRetL, wOr, wAnd, wNot, wOwn, wExt, wApp, wRev, wTake, wRetO, wFreeze, wCall, wCallL, wCallK, wCallLK, wiRng1, wiList, wiTup, wFor, wLcN, wkCl, wkApp, wYes, wgTup, wgCons, wgNil, wLend, lendD, lendS, wipeD, List.map_cons, List.map_nil, List.getElem?_cons_zero, List.getElem?_cons_succ, List.set_cons_zero, List.set_cons_succ, Option.some.injEq, Sl.d.injEq, Sl.o.injEq, PyData.int.injEq, PyData.bool.injEq, exists_eq_left, exists_eq_left', and_assoc, exists_and_left, exists_eq', and_true, true_and, if_true, List.length_cons, List.length_nil, Option.bind_some, List.cons_append, List.nil_append, List.append_nil, f1, f2, PyData.tuple.injEq, PyData.list.injEq, PyData.str.injEq, List.cons.injEq, exists_eq_right_right, exists_eq_right, wgStar, wSl, woNone, woSome, wOrV, wAndV, wChain, wDrop, fIx, ea]
        refine ⟨by decide, by decide, _, _, rfl, _, _, rfl, rfl, ?_⟩
        simp only [wSeq, wAsg, wName, wBin, wVar, wC, wTest, wIfS, wIf, wNext, wRet, wCons, wNil, wCB, wIxK, wIxO, wPutI, wCallB, wPar, wLst, wTup, wUn, wL, wLstL, wRetL, wOr, wAnd, wNot, wOwn, wExt, wApp, wRev, wTake, wRetO, wFreeze, wCall, wCallL, wCallK, wCallLK, wiRng1, wiList, wiTup, wFor, wLcN, wkCl, wkApp, wYes, wgTup, wgCons, wgNil, wLend, lendD, lendS, wipeD, List.map_cons, List.map_nil, List.getElem?_cons_zero, List.getElem?_cons_succ, List.set_cons_zero, List.set_cons_succ, Option.some.injEq, Sl.d.injEq, Sl.o.injEq, PyData.int.injEq, PyData.bool.injEq, exists_eq_left, exists_eq_left', and_assoc, exists_and_left, exists_eq', and_true, true_and, if_true, List.length_cons, List.length_nil, Option.bind_some, List.cons_append, List.nil_append, List.append_nil, f1, f2, PyData.tuple.injEq, PyData.list.injEq, PyData.str.injEq, List.cons.injEq, exists_eq_right_right, exists_eq_right, wgStar, wSl, woNone, woSome, wOrV, wAndV, wChain, wDrop, List.drop_succ_cons, List.drop_zero, fIx, at0, at1, feq_str, e_say_ask, e_say_read, e_say_write, e_say_call, e_ask_ask, e_ask_read, e_ask_write, e_ask_call, e_read_ask, e_read_read, e_read_write, e_read_call, e_write_ask, e_write_read, e_write_write, e_write_call, e_call_ask, e_call_read, e_call_write, e_call_call, e_end_ask, e_end_read, e_end_write, e_end_call, if_false, Bool.false_eq_true]
        exact ⟨by decide, hP⟩
      | say he =>
        simp only [rowDeed, e_say_ask, e_say_read, e_say_write, e_say_call, e_ask_ask, e_ask_read, e_ask_write, e_ask_call, e_read_ask, e_read_read, e_read_write, e_read_call, e_write_ask, e_write_read, e_write_write, e_write_call, e_call_ask, e_call_read, e_call_write, e_call_call, e_end_ask, e_end_read, e_end_write, e_end_call, if_true, if_false, Bool.false_eq_true] at hP
        simp only [wSeq, wAsg, wName, wBin, wVar, wC, wTest, wIfS, wIf, wNext, wRet, wCons, wNil, wCB, wIxK, wIxO, wPutI, wCallB, wPar, wLst, wTup, wUn, wL, wLstL, wRetL, wOr, wAnd, wNot, wOwn, wExt, wApp, wRev, wTake, wRetO, wFreeze, wCall, wCallL, wCallK, wCallLK, wiRng1, wiList, wiTup, wFor, wLcN, wkCl, wkApp, wYes, wgTup, wgCons, wgNil, wLend, lendD, lendS, wipeD, List.map_cons, List.map_nil, List.getElem?_cons_zero, List.getElem?_cons_succ, List.set_cons_zero, List.set_cons_succ, Option.some.injEq, Sl.d.injEq, Sl.o.injEq, PyData.int.injEq, PyData.bool.injEq, exists_eq_left, exists_eq_left', and_assoc, exists_and_left, exists_eq', and_true, true_and, if_true, List.length_cons, List.length_nil, Option.bind_some, List.cons_append, List.nil_append, List.append_nil, f1, f2, PyData.tuple.injEq, PyData.list.injEq, PyData.str.injEq, List.cons.injEq, exists_eq_right_right, exists_eq_right, wgStar, wSl, woNone, woSome, wOrV, wAndV, wChain, wDrop, fIx, ea]
        refine ⟨by decide, by decide, _, _, rfl, _, _, rfl, rfl, ?_⟩
        simp only [wSeq, wAsg, wName, wBin, wVar, wC, wTest, wIfS, wIf, wNext, wRet, wCons, wNil, wCB, wIxK, wIxO, wPutI, wCallB, wPar, wLst, wTup, wUn, wL, wLstL, wRetL, wOr, wAnd, wNot, wOwn, wExt, wApp, wRev, wTake, wRetO, wFreeze, wCall, wCallL, wCallK, wCallLK, wiRng1, wiList, wiTup, wFor, wLcN, wkCl, wkApp, wYes, wgTup, wgCons, wgNil, wLend, lendD, lendS, wipeD, List.map_cons, List.map_nil, List.getElem?_cons_zero, List.getElem?_cons_succ, List.set_cons_zero, List.set_cons_succ, Option.some.injEq, Sl.d.injEq, Sl.o.injEq, PyData.int.injEq, PyData.bool.injEq, exists_eq_left, exists_eq_left', and_assoc, exists_and_left, exists_eq', and_true, true_and, if_true, List.length_cons, List.length_nil, Option.bind_some, List.cons_append, List.nil_append, List.append_nil, f1, f2, PyData.tuple.injEq, PyData.list.injEq, PyData.str.injEq, List.cons.injEq, exists_eq_right_right, exists_eq_right, wgStar, wSl, woNone, woSome, wOrV, wAndV, wChain, wDrop, List.drop_succ_cons, List.drop_zero, fIx, at0, at1, feq_str, e_say_ask, e_say_read, e_say_write, e_say_call, e_ask_ask, e_ask_read, e_ask_write, e_ask_call, e_read_ask, e_read_read, e_read_write, e_read_call, e_write_ask, e_write_read, e_write_write, e_write_call, e_call_ask, e_call_read, e_call_write, e_call_call, e_end_ask, e_end_read, e_end_write, e_end_call, if_false, Bool.false_eq_true]
        exact value_use he hp hq hb hb2 ⟨by decide, hP⟩
      | read c0 c1 hv =>
        simp only [rowDeed, e_say_ask, e_say_read, e_say_write, e_say_call, e_ask_ask, e_ask_read, e_ask_write, e_ask_call, e_read_ask, e_read_read, e_read_write, e_read_call, e_write_ask, e_write_read, e_write_write, e_write_call, e_call_ask, e_call_read, e_call_write, e_call_call, e_end_ask, e_end_read, e_end_write, e_end_call, if_true, if_false, Bool.false_eq_true] at hP
        simp only [wSeq, wAsg, wName, wBin, wVar, wC, wTest, wIfS, wIf, wNext, wRet, wCons, wNil, wCB, wIxK, wIxO, wPutI, wCallB, wPar, wLst, wTup, wUn, wL, wLstL, wRetL, wOr, wAnd, wNot, wOwn, wExt, wApp, wRev, wTake, wRetO, wFreeze, wCall, wCallL, wCallK, wCallLK, wiRng1, wiList, wiTup, wFor, wLcN, wkCl, wkApp, wYes, wgTup, wgCons, wgNil, wLend, lendD, lendS, wipeD, List.map_cons, List.map_nil, List.getElem?_cons_zero, List.getElem?_cons_succ, List.set_cons_zero, List.set_cons_succ, Option.some.injEq, Sl.d.injEq, Sl.o.injEq, PyData.int.injEq, PyData.bool.injEq, exists_eq_left, exists_eq_left', and_assoc, exists_and_left, exists_eq', and_true, true_and, if_true, List.length_cons, List.length_nil, Option.bind_some, List.cons_append, List.nil_append, List.append_nil, f1, f2, PyData.tuple.injEq, PyData.list.injEq, PyData.str.injEq, List.cons.injEq, exists_eq_right_right, exists_eq_right, wgStar, wSl, woNone, woSome, wOrV, wAndV, wChain, wDrop, fIx, ea]
        refine ⟨by decide, by decide, _, _, rfl, _, _, rfl, rfl, ?_⟩
        simp only [wSeq, wAsg, wName, wBin, wVar, wC, wTest, wIfS, wIf, wNext, wRet, wCons, wNil, wCB, wIxK, wIxO, wPutI, wCallB, wPar, wLst, wTup, wUn, wL, wLstL, wRetL, wOr, wAnd, wNot, wOwn, wExt, wApp, wRev, wTake, wRetO, wFreeze, wCall, wCallL, wCallK, wCallLK, wiRng1, wiList, wiTup, wFor, wLcN, wkCl, wkApp, wYes, wgTup, wgCons, wgNil, wLend, lendD, lendS, wipeD, List.map_cons, List.map_nil, List.getElem?_cons_zero, List.getElem?_cons_succ, List.set_cons_zero, List.set_cons_succ, Option.some.injEq, Sl.d.injEq, Sl.o.injEq, PyData.int.injEq, PyData.bool.injEq, exists_eq_left, exists_eq_left', and_assoc, exists_and_left, exists_eq', and_true, true_and, if_true, List.length_cons, List.length_nil, Option.bind_some, List.cons_append, List.nil_append, List.append_nil, f1, f2, PyData.tuple.injEq, PyData.list.injEq, PyData.str.injEq, List.cons.injEq, exists_eq_right_right, exists_eq_right, wgStar, wSl, woNone, woSome, wOrV, wAndV, wChain, wDrop, List.drop_succ_cons, List.drop_zero, fIx, at0, at1, feq_str, e_say_ask, e_say_read, e_say_write, e_say_call, e_ask_ask, e_ask_read, e_ask_write, e_ask_call, e_read_ask, e_read_read, e_read_write, e_read_call, e_write_ask, e_write_read, e_write_write, e_write_call, e_call_ask, e_call_read, e_call_write, e_call_call, e_end_ask, e_end_read, e_end_write, e_end_call, if_false, Bool.false_eq_true]
        exact ⟨by decide, hP⟩
      | write c0 c1 he =>
        simp only [rowDeed, e_say_ask, e_say_read, e_say_write, e_say_call, e_ask_ask, e_ask_read, e_ask_write, e_ask_call, e_read_ask, e_read_read, e_read_write, e_read_call, e_write_ask, e_write_read, e_write_write, e_write_call, e_call_ask, e_call_read, e_call_write, e_call_call, e_end_ask, e_end_read, e_end_write, e_end_call, if_true, if_false, Bool.false_eq_true] at hP
        simp only [wSeq, wAsg, wName, wBin, wVar, wC, wTest, wIfS, wIf, wNext, wRet, wCons, wNil, wCB, wIxK, wIxO, wPutI, wCallB, wPar, wLst, wTup, wUn, wL, wLstL, wRetL, wOr, wAnd, wNot, wOwn, wExt, wApp, wRev, wTake, wRetO, wFreeze, wCall, wCallL, wCallK, wCallLK, wiRng1, wiList, wiTup, wFor, wLcN, wkCl, wkApp, wYes, wgTup, wgCons, wgNil, wLend, lendD, lendS, wipeD, List.map_cons, List.map_nil, List.getElem?_cons_zero, List.getElem?_cons_succ, List.set_cons_zero, List.set_cons_succ, Option.some.injEq, Sl.d.injEq, Sl.o.injEq, PyData.int.injEq, PyData.bool.injEq, exists_eq_left, exists_eq_left', and_assoc, exists_and_left, exists_eq', and_true, true_and, if_true, List.length_cons, List.length_nil, Option.bind_some, List.cons_append, List.nil_append, List.append_nil, f1, f2, PyData.tuple.injEq, PyData.list.injEq, PyData.str.injEq, List.cons.injEq, exists_eq_right_right, exists_eq_right, wgStar, wSl, woNone, woSome, wOrV, wAndV, wChain, wDrop, fIx, ea]
        refine ⟨by decide, by decide, _, _, rfl, _, _, rfl, rfl, ?_⟩
        simp only [wSeq, wAsg, wName, wBin, wVar, wC, wTest, wIfS, wIf, wNext, wRet, wCons, wNil, wCB, wIxK, wIxO, wPutI, wCallB, wPar, wLst, wTup, wUn, wL, wLstL, wRetL, wOr, wAnd, wNot, wOwn, wExt, wApp, wRev, wTake, wRetO, wFreeze, wCall, wCallL, wCallK, wCallLK, wiRng1, wiList, wiTup, wFor, wLcN, wkCl, wkApp, wYes, wgTup, wgCons, wgNil, wLend, lendD, lendS, wipeD, List.map_cons, List.map_nil, List.getElem?_cons_zero, List.getElem?_cons_succ, List.set_cons_zero, List.set_cons_succ, Option.some.injEq, Sl.d.injEq, Sl.o.injEq, PyData.int.injEq, PyData.bool.injEq, exists_eq_left, exists_eq_left', and_assoc, exists_and_left, exists_eq', and_true, true_and, if_true, List.length_cons, List.length_nil, Option.bind_some, List.cons_append, List.nil_append, List.append_nil, f1, f2, PyData.tuple.injEq, PyData.list.injEq, PyData.str.injEq, List.cons.injEq, exists_eq_right_right, exists_eq_right, wgStar, wSl, woNone, woSome, wOrV, wAndV, wChain, wDrop, List.drop_succ_cons, List.drop_zero, fIx, at0, at1, feq_str, e_say_ask, e_say_read, e_say_write, e_say_call, e_ask_ask, e_ask_read, e_ask_write, e_ask_call, e_read_ask, e_read_read, e_read_write, e_read_call, e_write_ask, e_write_read, e_write_write, e_write_call, e_call_ask, e_call_read, e_call_write, e_call_call, e_end_ask, e_end_read, e_end_write, e_end_call, if_false, Bool.false_eq_true]
        exact value_use he hp hq hb hb2 ⟨by decide, hP⟩
      | call hm he hv =>
        simp only [rowDeed, e_say_ask, e_say_read, e_say_write, e_say_call, e_ask_ask, e_ask_read, e_ask_write, e_ask_call, e_read_ask, e_read_read, e_read_write, e_read_call, e_write_ask, e_write_read, e_write_write, e_write_call, e_call_ask, e_call_read, e_call_write, e_call_call, e_end_ask, e_end_read, e_end_write, e_end_call, if_true, if_false, Bool.false_eq_true] at hP
        simp only [wSeq, wAsg, wName, wBin, wVar, wC, wTest, wIfS, wIf, wNext, wRet, wCons, wNil, wCB, wIxK, wIxO, wPutI, wCallB, wPar, wLst, wTup, wUn, wL, wLstL, wRetL, wOr, wAnd, wNot, wOwn, wExt, wApp, wRev, wTake, wRetO, wFreeze, wCall, wCallL, wCallK, wCallLK, wiRng1, wiList, wiTup, wFor, wLcN, wkCl, wkApp, wYes, wgTup, wgCons, wgNil, wLend, lendD, lendS, wipeD, List.map_cons, List.map_nil, List.getElem?_cons_zero, List.getElem?_cons_succ, List.set_cons_zero, List.set_cons_succ, Option.some.injEq, Sl.d.injEq, Sl.o.injEq, PyData.int.injEq, PyData.bool.injEq, exists_eq_left, exists_eq_left', and_assoc, exists_and_left, exists_eq', and_true, true_and, if_true, List.length_cons, List.length_nil, Option.bind_some, List.cons_append, List.nil_append, List.append_nil, f1, f2, PyData.tuple.injEq, PyData.list.injEq, PyData.str.injEq, List.cons.injEq, exists_eq_right_right, exists_eq_right, wgStar, wSl, woNone, woSome, wOrV, wAndV, wChain, wDrop, fIx, ea]
        refine ⟨by decide, by decide, _, _, rfl, _, _, rfl, rfl, ?_⟩
        simp only [wSeq, wAsg, wName, wBin, wVar, wC, wTest, wIfS, wIf, wNext, wRet, wCons, wNil, wCB, wIxK, wIxO, wPutI, wCallB, wPar, wLst, wTup, wUn, wL, wLstL, wRetL, wOr, wAnd, wNot, wOwn, wExt, wApp, wRev, wTake, wRetO, wFreeze, wCall, wCallL, wCallK, wCallLK, wiRng1, wiList, wiTup, wFor, wLcN, wkCl, wkApp, wYes, wgTup, wgCons, wgNil, wLend, lendD, lendS, wipeD, List.map_cons, List.map_nil, List.getElem?_cons_zero, List.getElem?_cons_succ, List.set_cons_zero, List.set_cons_succ, Option.some.injEq, Sl.d.injEq, Sl.o.injEq, PyData.int.injEq, PyData.bool.injEq, exists_eq_left, exists_eq_left', and_assoc, exists_and_left, exists_eq', and_true, true_and, if_true, List.length_cons, List.length_nil, Option.bind_some, List.cons_append, List.nil_append, List.append_nil, f1, f2, PyData.tuple.injEq, PyData.list.injEq, PyData.str.injEq, List.cons.injEq, exists_eq_right_right, exists_eq_right, wgStar, wSl, woNone, woSome, wOrV, wAndV, wChain, wDrop, List.drop_succ_cons, List.drop_zero, fIx, at0, at1, feq_str, e_say_ask, e_say_read, e_say_write, e_say_call, e_ask_ask, e_ask_read, e_ask_write, e_ask_call, e_read_ask, e_read_read, e_read_write, e_read_call, e_write_ask, e_write_read, e_write_write, e_write_call, e_call_ask, e_call_read, e_call_write, e_call_call, e_end_ask, e_end_read, e_end_write, e_end_call, if_false, Bool.false_eq_true]
        exact value_use he hp hq hb hb2 ⟨by decide, hP⟩
      | end_ he =>
        simp only [rowDeed, e_say_ask, e_say_read, e_say_write, e_say_call, e_ask_ask, e_ask_read, e_ask_write, e_ask_call, e_read_ask, e_read_read, e_read_write, e_read_call, e_write_ask, e_write_read, e_write_write, e_write_call, e_call_ask, e_call_read, e_call_write, e_call_call, e_end_ask, e_end_read, e_end_write, e_end_call, if_true, if_false, Bool.false_eq_true] at hP
        simp only [wSeq, wAsg, wName, wBin, wVar, wC, wTest, wIfS, wIf, wNext, wRet, wCons, wNil, wCB, wIxK, wIxO, wPutI, wCallB, wPar, wLst, wTup, wUn, wL, wLstL, wRetL, wOr, wAnd, wNot, wOwn, wExt, wApp, wRev, wTake, wRetO, wFreeze, wCall, wCallL, wCallK, wCallLK, wiRng1, wiList, wiTup, wFor, wLcN, wkCl, wkApp, wYes, wgTup, wgCons, wgNil, wLend, lendD, lendS, wipeD, List.map_cons, List.map_nil, List.getElem?_cons_zero, List.getElem?_cons_succ, List.set_cons_zero, List.set_cons_succ, Option.some.injEq, Sl.d.injEq, Sl.o.injEq, PyData.int.injEq, PyData.bool.injEq, exists_eq_left, exists_eq_left', and_assoc, exists_and_left, exists_eq', and_true, true_and, if_true, List.length_cons, List.length_nil, Option.bind_some, List.cons_append, List.nil_append, List.append_nil, f1, f2, PyData.tuple.injEq, PyData.list.injEq, PyData.str.injEq, List.cons.injEq, exists_eq_right_right, exists_eq_right, wgStar, wSl, woNone, woSome, wOrV, wAndV, wChain, wDrop, fIx, ea]
        refine ⟨by decide, by decide, _, _, rfl, _, _, rfl, rfl, ?_⟩
        simp only [wSeq, wAsg, wName, wBin, wVar, wC, wTest, wIfS, wIf, wNext, wRet, wCons, wNil, wCB, wIxK, wIxO, wPutI, wCallB, wPar, wLst, wTup, wUn, wL, wLstL, wRetL, wOr, wAnd, wNot, wOwn, wExt, wApp, wRev, wTake, wRetO, wFreeze, wCall, wCallL, wCallK, wCallLK, wiRng1, wiList, wiTup, wFor, wLcN, wkCl, wkApp, wYes, wgTup, wgCons, wgNil, wLend, lendD, lendS, wipeD, List.map_cons, List.map_nil, List.getElem?_cons_zero, List.getElem?_cons_succ, List.set_cons_zero, List.set_cons_succ, Option.some.injEq, Sl.d.injEq, Sl.o.injEq, PyData.int.injEq, PyData.bool.injEq, exists_eq_left, exists_eq_left', and_assoc, exists_and_left, exists_eq', and_true, true_and, if_true, List.length_cons, List.length_nil, Option.bind_some, List.cons_append, List.nil_append, List.append_nil, f1, f2, PyData.tuple.injEq, PyData.list.injEq, PyData.str.injEq, List.cons.injEq, exists_eq_right_right, exists_eq_right, wgStar, wSl, woNone, woSome, wOrV, wAndV, wChain, wDrop, List.drop_succ_cons, List.drop_zero, fIx, at0, at1, feq_str, e_say_ask, e_say_read, e_say_write, e_say_call, e_ask_ask, e_ask_read, e_ask_write, e_ask_call, e_read_ask, e_read_read, e_read_write, e_read_call, e_write_ask, e_write_read, e_write_write, e_write_call, e_call_ask, e_call_read, e_call_write, e_call_call, e_end_ask, e_end_read, e_end_write, e_end_call, if_false, Bool.false_eq_true]
        exact value_use he hp hq hb hb2 ⟨by decide, hP⟩
theorem hu3 {l : List PyData} {i : Int} : HT.sIx l.length 0 none = 0 := rfl
theorem slice_ask (w v : PyData) : fSl none (some (-1)) (.tuple [w, v]) = some (.tuple [w]) := rfl
theorem slice_read (w c v : PyData) : fSl none (some (-1)) (.tuple [w, c, v]) = some (.tuple [w, c]) := rfl
theorem fneg1 : fNeg (.int 1) = some (.int (-1)) := rfl
theorem wp__law_deed (xs : List PyData) (P : PyData → Prop) (h : wf__law_deed xs P) : w__law_deed (endsP P) (startN 7 xs) := by
  obtain ⟨rows, ns, d, b, rfl, hb, hb2, hh, hd, hP⟩ := h
  obtain ⟨i, p, q, rfl, hd2⟩ := hd.cases
  clear hd
  show w__law_deed (endsP P) [some (.d (.tuple rows)), some (.d (.tuple [.int i, .int p, .int q])), some (.d (.int b)), none, none, none, none]
  unfold w__law_deed
  simp only [wSeq, wAsg, wName, wBin, wVar, wC, wTest, wIfS, wIf, wNext, wRet, wCons, wNil, wCB, wIxK, wIxO, wPutI, wCallB, wPar, wLst, wTup, wUn, wL, wLstL, wRetL, wOr, wAnd, wNot, wOwn, wExt, wApp, wRev, wTake, wRetO, wFreeze, wCall, wCallL, wCallK, wCallLK, wiRng1, wiList, wiTup, wFor, wLcN, wkCl, wkApp, wYes, wgTup, wgCons, wgNil, wLend, lendD, lendS, wipeD, List.map_cons, List.map_nil, List.getElem?_cons_zero, List.getElem?_cons_succ, List.set_cons_zero, List.set_cons_succ, Option.some.injEq, Sl.d.injEq, Sl.o.injEq, PyData.int.injEq, PyData.bool.injEq, exists_eq_left, exists_eq_left', and_assoc, exists_and_left, exists_eq', and_true, true_and, if_true, List.length_cons, List.length_nil, Option.bind_some, List.cons_append, List.nil_append, List.append_nil, f1, f2, PyData.tuple.injEq, PyData.list.injEq, PyData.str.injEq, List.cons.injEq, exists_eq_right_right, exists_eq_right, wgStar, wSl, woNone, woSome, wOrV, wAndV, wChain, wDrop, f_lenT, feq_int, fneg1]
  rw [deedD_eq] at hP
  rcases hd2 with ⟨rfl, rfl, rfl⟩ | ⟨hp, hq, h0, hi⟩
  · rw [if_pos (by decide), if_pos (by decide)]
    exact ⟨by decide, hP⟩
  · have hn : (i == -1) = false := by simp; omega
    have hne : i ≠ -1 := by omega
    rw [hn, if_neg (by decide)]
    rw [if_neg hne] at hP
    rcases hi with rfl | ⟨hlt, hs⟩
    · have e1 : ((rows.length : Int) == (rows.length : Int)) = true := by simp
      rw [e1, if_pos rfl, if_neg (by decide)]
      rw [if_pos rfl] at hP
      exact ⟨by decide, hP⟩
    · have e1 : (i == (rows.length : Int)) = false := by simp; omega
      rw [e1, if_neg (by decide)]
      rw [if_neg (by omega)] at hP
      obtain ⟨r, hr, ea, eg⟩ := at_nat h0 hlt
      rw [eg] at hP
      have hP : P (rowDeed p q b r) := hP
      have ok := hh r hr
      have bad : ∀ s t, r = .tuple (.str s :: t) → silS s = true → False := fun s t er z => by
        rw [sil_false eg er hs] at z
        cases z
      have f1 : ∀ s : Str, fIn false (.str s) (.tuple [.str "ask", .str "read"]) = some (.bool (["ask", "read"].any fun y => y == s)) := fun s => fin_of ["ask", "read"]
      have f2 : ∀ s : Str, fIn false (.str s) (.tuple [.str "write", .str "call"]) = some (.bool (["write", "call"].any fun y => y == s)) := fun s => fin_of ["write", "call"]
      cases ok with
      | set hv he => exact (bad _ _ rfl (by decide)).elim
      | iff he hf g0 g1 => exact (bad _ _ rfl (by decide)).elim
      | go g0 g1 => exact (bad _ _ rfl (by decide)).elim
      | ask hv =>
        simp only [rowDeed, e_say_ask, e_say_read, e_say_write, e_say_call, e_ask_ask, e_ask_read, e_ask_write, e_ask_call, e_read_ask, e_read_read, e_read_write, e_read_call, e_write_ask, e_write_read, e_write_write, e_write_call, e_call_ask, e_call_read, e_call_write, e_call_call, e_end_ask, e_end_read, e_end_write, e_end_call, if_true, if_false, Bool.false_eq_true] at hP
        simp only [wSeq, wAsg, wName, wBin, wVar, wC, wTest, wIfS, wIf, wNext, wRet, wCons, wNil, wCB, wIxK, wIxO, wPutI, wCallB, wPar, wLst, wTup, wUn, wL, wLstL, wRetL, wOr, wAnd, wNot, wOwn, wExt, wApp, wRev, wTake, wRetO, wFreeze, wCall, wCallL, wCallK, wCallLK, wiRng1, wiList, wiTup, wFor, wLcN, wkCl, wkApp, wYes, wgTup, wgCons, wgNil, wLend, lendD, lendS, wipeD, List.map_cons, List.map_nil, List.getElem?_cons_zero, List.getElem?_cons_succ, List.set_cons_zero, List.set_cons_succ, Option.some.injEq, Sl.d.injEq, Sl.o.injEq, PyData.int.injEq, PyData.bool.injEq, exists_eq_left, exists_eq_left', and_assoc, exists_and_left, exists_eq', and_true, true_and, if_true, List.length_cons, List.length_nil, Option.bind_some, List.cons_append, List.nil_append, List.append_nil, f1, f2, PyData.tuple.injEq, PyData.list.injEq, PyData.str.injEq, List.cons.injEq, exists_eq_right_right, exists_eq_right, wgStar, wSl, woNone, woSome, wOrV, wAndV, wChain, wDrop, fIx, ea, at0, at1, at2, f1, f2, slice_ask, slice_read]
        refine ⟨by decide, ?_⟩
        rw [if_pos (by decide)]
        exact hP
      | say he =>
        simp only [rowDeed, e_say_ask, e_say_read, e_say_write, e_say_call, e_ask_ask, e_ask_read, e_ask_write, e_ask_call, e_read_ask, e_read_read, e_read_write, e_read_call, e_write_ask, e_write_read, e_write_write, e_write_call, e_call_ask, e_call_read, e_call_write, e_call_call, e_end_ask, e_end_read, e_end_write, e_end_call, if_true, if_false, Bool.false_eq_true] at hP
        simp only [wSeq, wAsg, wName, wBin, wVar, wC, wTest, wIfS, wIf, wNext, wRet, wCons, wNil, wCB, wIxK, wIxO, wPutI, wCallB, wPar, wLst, wTup, wUn, wL, wLstL, wRetL, wOr, wAnd, wNot, wOwn, wExt, wApp, wRev, wTake, wRetO, wFreeze, wCall, wCallL, wCallK, wCallLK, wiRng1, wiList, wiTup, wFor, wLcN, wkCl, wkApp, wYes, wgTup, wgCons, wgNil, wLend, lendD, lendS, wipeD, List.map_cons, List.map_nil, List.getElem?_cons_zero, List.getElem?_cons_succ, List.set_cons_zero, List.set_cons_succ, Option.some.injEq, Sl.d.injEq, Sl.o.injEq, PyData.int.injEq, PyData.bool.injEq, exists_eq_left, exists_eq_left', and_assoc, exists_and_left, exists_eq', and_true, true_and, if_true, List.length_cons, List.length_nil, Option.bind_some, List.cons_append, List.nil_append, List.append_nil, f1, f2, PyData.tuple.injEq, PyData.list.injEq, PyData.str.injEq, List.cons.injEq, exists_eq_right_right, exists_eq_right, wgStar, wSl, woNone, woSome, wOrV, wAndV, wChain, wDrop, fIx, ea, at0, at1, at2, f1, f2, slice_ask, slice_read]
        refine ⟨by decide, ?_⟩
        rw [if_neg (by decide)]
        refine ⟨by decide, ?_⟩
        rw [if_neg (by decide)]
        exact value_use he hp hq hb hb2 ⟨by decide, hP⟩
      | read c0 c1 hv =>
        simp only [rowDeed, e_say_ask, e_say_read, e_say_write, e_say_call, e_ask_ask, e_ask_read, e_ask_write, e_ask_call, e_read_ask, e_read_read, e_read_write, e_read_call, e_write_ask, e_write_read, e_write_write, e_write_call, e_call_ask, e_call_read, e_call_write, e_call_call, e_end_ask, e_end_read, e_end_write, e_end_call, if_true, if_false, Bool.false_eq_true] at hP
        simp only [wSeq, wAsg, wName, wBin, wVar, wC, wTest, wIfS, wIf, wNext, wRet, wCons, wNil, wCB, wIxK, wIxO, wPutI, wCallB, wPar, wLst, wTup, wUn, wL, wLstL, wRetL, wOr, wAnd, wNot, wOwn, wExt, wApp, wRev, wTake, wRetO, wFreeze, wCall, wCallL, wCallK, wCallLK, wiRng1, wiList, wiTup, wFor, wLcN, wkCl, wkApp, wYes, wgTup, wgCons, wgNil, wLend, lendD, lendS, wipeD, List.map_cons, List.map_nil, List.getElem?_cons_zero, List.getElem?_cons_succ, List.set_cons_zero, List.set_cons_succ, Option.some.injEq, Sl.d.injEq, Sl.o.injEq, PyData.int.injEq, PyData.bool.injEq, exists_eq_left, exists_eq_left', and_assoc, exists_and_left, exists_eq', and_true, true_and, if_true, List.length_cons, List.length_nil, Option.bind_some, List.cons_append, List.nil_append, List.append_nil, f1, f2, PyData.tuple.injEq, PyData.list.injEq, PyData.str.injEq, List.cons.injEq, exists_eq_right_right, exists_eq_right, wgStar, wSl, woNone, woSome, wOrV, wAndV, wChain, wDrop, fIx, ea, at0, at1, at2, f1, f2, slice_ask, slice_read]
        refine ⟨by decide, ?_⟩
        rw [if_pos (by decide)]
        exact hP
      | write c0 c1 he =>
        simp only [rowDeed, e_say_ask, e_say_read, e_say_write, e_say_call, e_ask_ask, e_ask_read, e_ask_write, e_ask_call, e_read_ask, e_read_read, e_read_write, e_read_call, e_write_ask, e_write_read, e_write_write, e_write_call, e_call_ask, e_call_read, e_call_write, e_call_call, e_end_ask, e_end_read, e_end_write, e_end_call, if_true, if_false, Bool.false_eq_true] at hP
        simp only [wSeq, wAsg, wName, wBin, wVar, wC, wTest, wIfS, wIf, wNext, wRet, wCons, wNil, wCB, wIxK, wIxO, wPutI, wCallB, wPar, wLst, wTup, wUn, wL, wLstL, wRetL, wOr, wAnd, wNot, wOwn, wExt, wApp, wRev, wTake, wRetO, wFreeze, wCall, wCallL, wCallK, wCallLK, wiRng1, wiList, wiTup, wFor, wLcN, wkCl, wkApp, wYes, wgTup, wgCons, wgNil, wLend, lendD, lendS, wipeD, List.map_cons, List.map_nil, List.getElem?_cons_zero, List.getElem?_cons_succ, List.set_cons_zero, List.set_cons_succ, Option.some.injEq, Sl.d.injEq, Sl.o.injEq, PyData.int.injEq, PyData.bool.injEq, exists_eq_left, exists_eq_left', and_assoc, exists_and_left, exists_eq', and_true, true_and, if_true, List.length_cons, List.length_nil, Option.bind_some, List.cons_append, List.nil_append, List.append_nil, f1, f2, PyData.tuple.injEq, PyData.list.injEq, PyData.str.injEq, List.cons.injEq, exists_eq_right_right, exists_eq_right, wgStar, wSl, woNone, woSome, wOrV, wAndV, wChain, wDrop, fIx, ea, at0, at1, at2, f1, f2, slice_ask, slice_read]
        refine ⟨by decide, ?_⟩
        rw [if_neg (by decide)]
        refine ⟨by decide, ?_⟩
        rw [if_pos (by decide)]
        exact value_use he hp hq hb hb2 ⟨by decide, hP⟩
      | call hm he hv =>
        simp only [rowDeed, e_say_ask, e_say_read, e_say_write, e_say_call, e_ask_ask, e_ask_read, e_ask_write, e_ask_call, e_read_ask, e_read_read, e_read_write, e_read_call, e_write_ask, e_write_read, e_write_write, e_write_call, e_call_ask, e_call_read, e_call_write, e_call_call, e_end_ask, e_end_read, e_end_write, e_end_call, if_true, if_false, Bool.false_eq_true] at hP
        simp only [wSeq, wAsg, wName, wBin, wVar, wC, wTest, wIfS, wIf, wNext, wRet, wCons, wNil, wCB, wIxK, wIxO, wPutI, wCallB, wPar, wLst, wTup, wUn, wL, wLstL, wRetL, wOr, wAnd, wNot, wOwn, wExt, wApp, wRev, wTake, wRetO, wFreeze, wCall, wCallL, wCallK, wCallLK, wiRng1, wiList, wiTup, wFor, wLcN, wkCl, wkApp, wYes, wgTup, wgCons, wgNil, wLend, lendD, lendS, wipeD, List.map_cons, List.map_nil, List.getElem?_cons_zero, List.getElem?_cons_succ, List.set_cons_zero, List.set_cons_succ, Option.some.injEq, Sl.d.injEq, Sl.o.injEq, PyData.int.injEq, PyData.bool.injEq, exists_eq_left, exists_eq_left', and_assoc, exists_and_left, exists_eq', and_true, true_and, if_true, List.length_cons, List.length_nil, Option.bind_some, List.cons_append, List.nil_append, List.append_nil, f1, f2, PyData.tuple.injEq, PyData.list.injEq, PyData.str.injEq, List.cons.injEq, exists_eq_right_right, exists_eq_right, wgStar, wSl, woNone, woSome, wOrV, wAndV, wChain, wDrop, fIx, ea, at0, at1, at2, f1, f2, slice_ask, slice_read]
        refine ⟨by decide, ?_⟩
        rw [if_neg (by decide)]
        refine ⟨by decide, ?_⟩
        rw [if_pos (by decide)]
        exact value_use he hp hq hb hb2 ⟨by decide, hP⟩
      | end_ he =>
        simp only [rowDeed, e_say_ask, e_say_read, e_say_write, e_say_call, e_ask_ask, e_ask_read, e_ask_write, e_ask_call, e_read_ask, e_read_read, e_read_write, e_read_call, e_write_ask, e_write_read, e_write_write, e_write_call, e_call_ask, e_call_read, e_call_write, e_call_call, e_end_ask, e_end_read, e_end_write, e_end_call, if_true, if_false, Bool.false_eq_true] at hP
        simp only [wSeq, wAsg, wName, wBin, wVar, wC, wTest, wIfS, wIf, wNext, wRet, wCons, wNil, wCB, wIxK, wIxO, wPutI, wCallB, wPar, wLst, wTup, wUn, wL, wLstL, wRetL, wOr, wAnd, wNot, wOwn, wExt, wApp, wRev, wTake, wRetO, wFreeze, wCall, wCallL, wCallK, wCallLK, wiRng1, wiList, wiTup, wFor, wLcN, wkCl, wkApp, wYes, wgTup, wgCons, wgNil, wLend, lendD, lendS, wipeD, List.map_cons, List.map_nil, List.getElem?_cons_zero, List.getElem?_cons_succ, List.set_cons_zero, List.set_cons_succ, Option.some.injEq, Sl.d.injEq, Sl.o.injEq, PyData.int.injEq, PyData.bool.injEq, exists_eq_left, exists_eq_left', and_assoc, exists_and_left, exists_eq', and_true, true_and, if_true, List.length_cons, List.length_nil, Option.bind_some, List.cons_append, List.nil_append, List.append_nil, f1, f2, PyData.tuple.injEq, PyData.list.injEq, PyData.str.injEq, List.cons.injEq, exists_eq_right_right, exists_eq_right, wgStar, wSl, woNone, woSome, wOrV, wAndV, wChain, wDrop, fIx, ea, at0, at1, at2, f1, f2, slice_ask, slice_read]
        refine ⟨by decide, ?_⟩
        rw [if_neg (by decide)]
        refine ⟨by decide, ?_⟩
        rw [if_neg (by decide)]
        exact value_use he hp hq hb hb2 ⟨by decide, hP⟩
theorem deed_use {rows ns : List PyData} {d : PyData} {b : Int} {P : PyData → Prop} (hb : 2 ≤ b) (hb2 : b ≤ 4) (hh : ∀ r ∈ rows, RowOk b rows.length ns r) (hd : StOk rows b d) (hP : P (deedD rows b d)) : wf_deed_at [.tuple rows, d, .int b] P := ⟨rows, ns, d, b, rfl, hb, hb2, hh, hd, hP⟩
def wf_deed_of : WF := wf_deed_at
def w_deed_of : WS := (wSeq (wDrop (wCall wf_look_stand [] (wCons (wVar 0) (wCons (wVar 1) (wCons (wVar 2) wNil)))))
    (wRet (wCall wf_deed_at [] (wCons (wVar 0) (wCons (wVar 1) (wCons (wVar 2) wNil))))))
theorem wl_deed_of (xs : List PyData) (P : PyData → Prop) (h : wf_deed_of xs P) : xs.length = 3 := wl_deed_at xs P h
theorem wp_deed_of (xs : List PyData) (P : PyData → Prop) (h : wf_deed_of xs P) : w_deed_of (endsP P) (startN 3 xs) := by
  obtain ⟨rows, ns, d, b, rfl, hb, hb2, hh, hd, hP⟩ := h
  show w_deed_of (endsP P) [some (.d (.tuple rows)), some (.d d), some (.d (.int b))]
  unfold w_deed_of
  simp only [wSeq, wAsg, wName, wBin, wVar, wC, wTest, wIfS, wIf, wNext, wRet, wCons, wNil, wCB, wIxK, wIxO, wPutI, wCallB, wPar, wLst, wTup, wUn, wL, wLstL, wRetL, wOr, wAnd, wNot, wOwn, wExt, wApp, wRev, wTake, wRetO, wFreeze, wCall, wCallL, wCallK, wCallLK, wiRng1, wiList, wiTup, wFor, wLcN, wkCl, wkApp, wYes, wgTup, wgCons, wgNil, wLend, lendD, lendS, wipeD, List.map_cons, List.map_nil, List.getElem?_cons_zero, List.getElem?_cons_succ, List.set_cons_zero, List.set_cons_succ, Option.some.injEq, Sl.d.injEq, Sl.o.injEq, PyData.int.injEq, PyData.bool.injEq, exists_eq_left, exists_eq_left', and_assoc, exists_and_left, exists_eq', and_true, true_and, if_true, List.length_cons, List.length_nil, Option.bind_some, List.cons_append, List.nil_append, List.append_nil, f1, f2, PyData.tuple.injEq, PyData.list.injEq, PyData.str.injEq, List.cons.injEq, exists_eq_right_right, exists_eq_right, wgStar, wSl, woNone, woSome, wOrV, wAndV, wChain, wDrop]
  exact ⟨rows, d, b, rfl, hb, hb2, fun r hr => (hh r hr).hd, hd, deed_use hb hb2 hh hd hP⟩
/-! ### the number of branches -/
def bc (b : Int) (w : Str) : Int := if ((["ask", "read", "call"] : List Str).any fun y => y == w) = true then b else if ((["say", "write"] : List Str).any fun y => y == w) = true then 1 else 0
def wf_branch_count : WF := fun xs P => ∃ (w : Str) (t : List PyData) (b : Int), xs = [.tuple (.str w :: t), .int b] ∧ P (.int (bc b w))
def w_branch_count : WS := (wSeq (wIfS (wTest (wBin (fIn false) (wBin fIx (wVar 0) (wC (.int 0))) (wC dt_RECEIVING))) (wRet (wVar 1)) wNext)
    (wRet (wIf (wTest (wBin (fIn false) (wBin fIx (wVar 0) (wC (.int 0))) (wC dt_TELLING))) (wC (.int 1)) (wC (.int 0)))))
theorem wl_branch_count (xs : List PyData) (P : PyData → Prop) (h : wf_branch_count xs P) : xs.length = 2 := by
  obtain ⟨w, t, b, rfl, _⟩ := h
  rfl
theorem wp_branch_count (xs : List PyData) (P : PyData → Prop) (h : wf_branch_count xs P) : w_branch_count (endsP P) (startN 2 xs) := by
  obtain ⟨w, t, b, rfl, hP⟩ := h
  show w_branch_count (endsP P) [some (.d (.tuple (.str w :: t))), some (.d (.int b))]
  unfold w_branch_count
  have f1 : fIn false (.str w) (.tuple [.str "ask", .str "read", .str "call"]) = some (.bool ((["ask", "read", "call"] : List Str).any fun y => y == w)) := fin_of ["ask", "read", "call"]
  have f2 : fIn false (.str w) (.tuple [.str "say", .str "write"]) = some (.bool ((["say", "write"] : List Str).any fun y => y == w)) := fin_of ["say", "write"]
  simp only [wSeq, wAsg, wName, wBin, wVar, wC, wTest, wIfS, wIf, wNext, wRet, wCons, wNil, wCB, wIxK, wIxO, wPutI, wCallB, wPar, wLst, wTup, wUn, wL, wLstL, wRetL, wOr, wAnd, wNot, wOwn, wExt, wApp, wRev, wTake, wRetO, wFreeze, wCall, wCallL, wCallK, wCallLK, wiRng1, wiList, wiTup, wFor, wLcN, wkCl, wkApp, wYes, wgTup, wgCons, wgNil, wLend, lendD, lendS, wipeD, List.map_cons, List.map_nil, List.getElem?_cons_zero, List.getElem?_cons_succ, List.set_cons_zero, List.set_cons_succ, Option.some.injEq, Sl.d.injEq, Sl.o.injEq, PyData.int.injEq, PyData.bool.injEq, exists_eq_left, exists_eq_left', and_assoc, exists_and_left, exists_eq', and_true, true_and, if_true, List.length_cons, List.length_nil, Option.bind_some, List.cons_append, List.nil_append, List.append_nil, f1, f2, PyData.tuple.injEq, PyData.list.injEq, PyData.str.injEq, List.cons.injEq, exists_eq_right_right, exists_eq_right, wgStar, wSl, woNone, woSome, wOrV, wAndV, wChain, wDrop, dt_RECEIVING, dt_TELLING, fIx, at0, f1, f2]
  unfold bc at hP
  split
  · rename_i h1
    rw [if_pos h1] at hP
    exact hP
  · rename_i h1
    rw [if_neg h1] at hP
    split
    · rename_i h2
      rw [if_pos h2] at hP
      exact hP
    · rename_i h2
      rw [if_neg h2] at hP
      exact hP
def words : List Str := ["mute", "end", "say", "ask", "read", "write", "call"]
theorem deed_word {rows ns : List PyData} {b : Int} {d : PyData} (hh : ∀ r ∈ rows, RowOk b rows.length ns r) (hd : StOk rows b d) : ∃ w t, deedD rows b d = .tuple (.str w :: t) ∧ w ∈ words := by
  obtain ⟨i, p, q, rfl, hd2⟩ := hd.cases
  rw [deedD_eq]
  rcases hd2 with ⟨rfl, rfl, rfl⟩ | ⟨hp, hq, h0, hi⟩
  · exact ⟨_, _, if_pos rfl, by decide⟩
  · rw [if_neg (by omega)]
    rcases hi with rfl | ⟨hlt, hs⟩
    · exact ⟨_, _, if_pos rfl, by decide⟩
    · rw [if_neg (by omega)]
      obtain ⟨r, hr, ea, eg⟩ := at_nat h0 hlt
      rw [eg]
      show ∃ w t, rowDeed p q b r = .tuple (.str w :: t) ∧ w ∈ words
      have bad : ∀ s t, r = .tuple (.str s :: t) → silS s = true → False := fun s t er z => by
        rw [sil_false eg er hs] at z
        cases z
      cases hh r hr with
      | set hv he => exact (bad _ _ rfl (by decide)).elim
      | iff he hf g0 g1 => exact (bad _ _ rfl (by decide)).elim
      | go g0 g1 => exact (bad _ _ rfl (by decide)).elim
      | ask hv => simp only [rowDeed, e_say_ask, e_say_read, e_say_write, e_say_call, e_ask_ask, e_ask_read, e_ask_write, e_ask_call, e_read_ask, e_read_read, e_read_write, e_read_call, e_write_ask, e_write_read, e_write_write, e_write_call, e_call_ask, e_call_read, e_call_write, e_call_call, e_end_ask, e_end_read, e_end_write, e_end_call, if_true]; exact ⟨_, _, rfl, by decide⟩
      | say he => simp only [rowDeed, e_say_ask, e_say_read, e_say_write, e_say_call, e_ask_ask, e_ask_read, e_ask_write, e_ask_call, e_read_ask, e_read_read, e_read_write, e_read_call, e_write_ask, e_write_read, e_write_write, e_write_call, e_call_ask, e_call_read, e_call_write, e_call_call, e_end_ask, e_end_read, e_end_write, e_end_call, if_false, Bool.false_eq_true]; exact ⟨_, _, rfl, by decide⟩
      | read c0 c1 hv => simp only [rowDeed, e_say_ask, e_say_read, e_say_write, e_say_call, e_ask_ask, e_ask_read, e_ask_write, e_ask_call, e_read_ask, e_read_read, e_read_write, e_read_call, e_write_ask, e_write_read, e_write_write, e_write_call, e_call_ask, e_call_read, e_call_write, e_call_call, e_end_ask, e_end_read, e_end_write, e_end_call, if_true]; exact ⟨_, _, rfl, by decide⟩
      | write c0 c1 he => simp only [rowDeed, e_say_ask, e_say_read, e_say_write, e_say_call, e_ask_ask, e_ask_read, e_ask_write, e_ask_call, e_read_ask, e_read_read, e_read_write, e_read_call, e_write_ask, e_write_read, e_write_write, e_write_call, e_call_ask, e_call_read, e_call_write, e_call_call, e_end_ask, e_end_read, e_end_write, e_end_call, if_false, Bool.false_eq_true]; exact ⟨_, _, rfl, by decide⟩
      | call hm he hv => exact ⟨_, _, rfl, by decide⟩
      | end_ he => simp only [rowDeed, e_say_ask, e_say_read, e_say_write, e_say_call, e_ask_ask, e_ask_read, e_ask_write, e_ask_call, e_read_ask, e_read_read, e_read_write, e_read_call, e_write_ask, e_write_read, e_write_write, e_write_call, e_call_ask, e_call_read, e_call_write, e_call_call, e_end_ask, e_end_read, e_end_write, e_end_call, if_false, Bool.false_eq_true]; exact ⟨_, _, rfl, by decide⟩
def wf__law_count : WF := fun xs P => ∃ (rows ns : List PyData) (d : PyData) (b : Int) (w : Str) (t : List PyData), xs = [.tuple rows, d, .int b] ∧ 2 ≤ b ∧ b ≤ 4 ∧ (∀ r ∈ rows, RowOk b rows.length ns r) ∧ StOk rows b d ∧ deedD rows b d = .tuple (.str w :: t) ∧ w ∈ words ∧ P (.int (bc b w))
def w__law_count : WS := (wRet (wDispG ["say", "write", "end", "mute"] [(wC (.int 1)), (wC (.int 1)), (wC (.int 0)), (wC (.int 0))] (wBin fIx (wCall wf__law_deed [] (wCons (wVar 0) (wCons (wVar 1) (wCons (wVar 2) wNil)))) (wC (.int 0))) (wVar 2)))
theorem wl__law_count (xs : List PyData) (P : PyData → Prop) (h : wf__law_count xs P) : xs.length = 3 := by
  obtain ⟨rows, ns, d, b, w, t, rfl, _⟩ := h
  rfl
theorem look_bc {b : Int} {w : Str} (h : w ∈ words) : (lookD ["say", "write", "end", "mute"] [.int 1, .int 1, .int 0, .int 0] w).getD (.int b) = .int (bc b w) := by
  unfold words at h
  simp only [List.mem_cons, List.not_mem_nil, or_false] at h
  rcases h with rfl | rfl | rfl | rfl | rfl | rfl | rfl <;> rfl
theorem wp__law_count (xs : List PyData) (P : PyData → Prop) (h : wf__law_count xs P) : w__law_count (endsP P) (startN 3 xs) := by
  obtain ⟨rows, ns, d, b, w, t, rfl, hb, hb2, hh, hd, he, hw, hP⟩ := h
  show w__law_count (endsP P) [some (.d (.tuple rows)), some (.d d), some (.d (.int b))]
  unfold w__law_count
  simp only [wDispG, wVals, wSeq, wAsg, wName, wBin, wVar, wC, wTest, wIfS, wIf, wNext, wRet, wCons, wNil, wCB, wIxK, wIxO, wPutI, wCallB, wPar, wLst, wTup, wUn, wL, wLstL, wRetL, wOr, wAnd, wNot, wOwn, wExt, wApp, wRev, wTake, wRetO, wFreeze, wCall, wCallL, wCallK, wCallLK, wiRng1, wiList, wiTup, wFor, wLcN, wkCl, wkApp, wYes, wgTup, wgCons, wgNil, wLend, lendD, lendS, wipeD, List.map_cons, List.map_nil, List.getElem?_cons_zero, List.getElem?_cons_succ, List.set_cons_zero, List.set_cons_succ, Option.some.injEq, Sl.d.injEq, Sl.o.injEq, PyData.int.injEq, PyData.bool.injEq, exists_eq_left, exists_eq_left', and_assoc, exists_and_left, exists_eq', and_true, true_and, if_true, List.length_cons, List.length_nil, Option.bind_some, List.cons_append, List.nil_append, List.append_nil, f1, f2, PyData.tuple.injEq, PyData.list.injEq, PyData.str.injEq, List.cons.injEq, exists_eq_right_right, exists_eq_right, wgStar, wSl, woNone, woSome, wOrV, wAndV, wChain, wDrop, fIx]
  refine deed_use hb hb2 hh hd ?_
  rw [he]
  refine ⟨_, at0, w, rfl, ?_⟩
  rw [look_bc hw]
  exact hP
end Pl
namespace Pl
open PySem PySem.Spec PyProof.Rows L2 Dat
/-! ### names -/
def NmOk (s : Str) : Prop := (∀ c ∈ s.cps.toList, 97 ≤ c ∧ c ≤ 122) ∧ 1 ≤ s.cps.size ∧ s.cps.size ≤ 8
def NmsOk (ns : List PyData) : Prop := ∀ d ∈ ns, ∃ s, d = .str s ∧ NmOk s
abbrev abc : Str := "abcdefghijklmnopqrstuvwxyz"
abbrev ch (c : Nat) : Str := ⟨#[c]⟩
theorem abc_at {i : Int} (h0 : 0 ≤ i) (h1 : i < 26) : ∃ c : Nat, fIx (.str abc) (.int i) = some (.str (ch c)) ∧ 97 ≤ c ∧ c ≤ 122 := by
  have hl : abc.cps.toList.length = 26 := by decide
  have hi : i.toNat < abc.cps.toList.length := by rw [hl]; omega
  have all : ∀ c ∈ abc.cps.toList, 97 ≤ c ∧ c ≤ 122 := by decide
  refine ⟨abc.cps.toList[i.toNat], ?_, all _ (List.getElem_mem hi)⟩
  show (if abc.length ≤ sizeLine then (atI abc.cps.toList i).map fun c => PyData.str ⟨#[c]⟩ else none) = _
  rw [if_pos (by decide)]
  have e : atI abc.cps.toList i = some abc.cps.toList[i.toNat] := by
    unfold atI ixN
    rw [if_pos h0, if_pos (by rw [hl]; omega)]
    exact List.getElem?_eq_getElem hi
  rw [e]
  rfl
theorem join_low : ∀ cs : List Nat, (∀ c ∈ cs, 97 ≤ c ∧ c ≤ 122) → (∀ c ∈ (Str.join "" (cs.map ch)).cps.toList, 97 ≤ c ∧ c ≤ 122) ∧ (Str.join "" (cs.map ch)).cps.size = cs.length
  | [], _ => ⟨fun c h => (by cases h), rfl⟩
  | [c], h => ⟨fun d hd => by
      have : d = c := by simpa [Str.join] using hd
      subst this
      exact h d List.mem_cons_self, rfl⟩
  | c :: d :: cs, h => by
    obtain ⟨h1, h2⟩ := join_low (d :: cs) fun e he => h e (List.mem_cons_of_mem _ he)
    have e : (Str.join "" ((c :: d :: cs).map ch)).cps = #[c] ++ (#[] : Array Nat) ++ (Str.join "" ((d :: cs).map ch)).cps := rfl
    rw [e]
    constructor
    · intro x hx
      simp only [Array.append_empty, Array.toList_append, List.mem_append, List.mem_singleton] at hx
      rcases hx with rfl | hx
      · exact h x List.mem_cons_self
      · exact h1 x hx
    · simp only [Array.append_empty, Array.size_append, h2, List.length_cons]
      show 1 + (cs.length + 1) = cs.length + 1 + 1
      omega
theorem strs_ch (cs : List Nat) : strsL (cs.map fun c => PyData.str (ch c)) = some (cs.map ch) := by
  induction cs with
  | nil => rfl
  | cons c cs ih =>
    rw [List.map_cons, List.map_cons]
    simp only [strsL, ih]
    rfl
theorem sum_ch (cs : List Nat) : ((cs.map ch).map (·.length)).sum = cs.length := by
  induction cs with
  | nil => rfl
  | cons c cs ih =>
    rw [List.map_cons, List.map_cons, List.sum_cons, ih, List.length_cons]
    show 1 + _ = _
    omega
theorem join_ch {cs : List Nat} (h : ∀ c ∈ cs, 97 ≤ c ∧ c ≤ 122) (h1 : 1 ≤ cs.length) (h2 : cs.length ≤ 8) : ∃ s, fJoin (.str "") (.list (cs.map fun c => PyData.str (ch c))) = some (.str s) ∧ NmOk s := by
  obtain ⟨a1, a2⟩ := join_low cs h
  refine ⟨Str.join "" (cs.map ch), ?_, a1, by rw [a2]; exact h1, by rw [a2]; exact h2⟩
  show joinD "" _ = _
  unfold joinD
  rw [strs_ch]
  show (if ((cs.map ch).map (·.length)).sum + (cs.map ch).length * (Str.length "") ≤ 16777216 then some (PyData.str (Txt.join "" (cs.map ch))) else none) = _
  have e : Str.length "" = 0 := rfl
  rw [sum_ch, e, if_pos (by omega)]
  rw [TL.join_eq]
def wf__law_names : WFB := fun ds xs P => ∃ n : Nat, n + 100 < 1000000000 ∧ Bag n ds ∧ xs = [] ∧ ∀ ns ds', NmsOk ns → 0 < ns.length → ns.length ≤ 3 → Bag (n + 100) ds' → P (.list ns) ds'
abbrev nm_body : WS := (wSeq (wAsg (wBin fIx (wLst (wCons (wC (.int 1)) (wCons (wC (.int 1)) (wCons (wC (.int 2)) (wCons (wC (.int 4)) (wCons (wC (.int 8)) wNil)))))) (wCallB 0 wf__law_take (wCons (wC (.int 5)) wNil))) (wName 4))
    (wSeq (wAsg (wM1 fJoin (wC (.str "")) (wL (wLcN (wiRng1 (wCons (wVar 4) wNil)) (wName 6) wYes (wkApp (wBin fIx (wVar 1) (wCallB 0 wf__law_take (wCons (wC (.int 26)) wNil)))) [6]))) (wName 5))
    (wIfS (wTest (wLend (wBin (fIn true) (wVar 5) (wVar 2)))) (wApp 2 (wVar 5)) wNext)))
def w__law_names : WS := (wSeq (wParDO 1 2 (wC (.str "abcdefghijklmnopqrstuvwxyz")) (wLstL wNil))
    (wSeq (wFor (wiRng1 (wCons (wBin fAdd (wC (.int 1)) (wCallB 0 wf__law_take (wCons (wC (.int 3)) wNil))) wNil)) (wName 3) nm_body)
    (wRetO 2)))
theorem wl__law_names (ds xs : List PyData) (P : PyData → List PyData → Prop) (h : wf__law_names ds xs P) : xs.length + 1 = 1 := by
  obtain ⟨n, _, _, rfl, _⟩ := h
  rfl
theorem nm_comp {fd : Sl} {o3 o4 o5 : Option Sl} : ∀ (xs acc : List PyData) (n : Nat) (ds : List PyData) (P : List PyData → DE → Prop), Bag n ds → n + xs.length < 1000000000 → acc.length + xs.length ≤ 1000 →
    (∀ (cs : List Nat) ds', cs.length = xs.length → (∀ c ∈ cs, 97 ≤ c ∧ c ≤ 122) → Bag (n + xs.length) ds' → P (acc ++ cs.map fun c => PyData.str (ch c)) [some (.o false ds'), some (.d (.str abc)), some fd, o3, o4, o5, none]) →
    clRec (wName 6) wYes (wkApp (wBin fIx (wVar 1) (wCallB 0 wf__law_take (wCons (wC (.int 26)) wNil)))) [6] xs acc [some (.o false ds), some (.d (.str abc)), some fd, o3, o4, o5, none] P
  | [], acc, n, ds, P, hb, _, _, h => by
    have q := h [] ds rfl (fun _ z => by cases z) hb
    rw [List.map_nil, List.append_nil] at q
    exact q
  | x :: xs, acc, n, ds, P, hb, hn, hl, h => by
    rw [List.length_cons] at hn hl
    simp only [clRec, wSeq, wAsg, wName, wBin, wVar, wC, wTest, wIfS, wIf, wNext, wRet, wCons, wNil, wCB, wIxK, wIxO, wPutI, wCallB, wPar, wLst, wTup, wUn, wL, wLstL, wRetL, wOr, wAnd, wNot, wOwn, wExt, wApp, wRev, wTake, wRetO, wFreeze, wCall, wCallL, wCallK, wCallLK, wiRng1, wiList, wiTup, wFor, wLcN, wkCl, wkApp, wYes, wgTup, wgCons, wgNil, wLend, lendD, lendS, wipeD, List.map_cons, List.map_nil, List.getElem?_cons_zero, List.getElem?_cons_succ, List.set_cons_zero, List.set_cons_succ, Option.some.injEq, Sl.d.injEq, Sl.o.injEq, PyData.int.injEq, PyData.bool.injEq, exists_eq_left, exists_eq_left', and_assoc, exists_and_left, exists_eq', and_true, true_and, if_true, List.length_cons, List.length_nil, Option.bind_some, List.cons_append, List.nil_append, List.append_nil, f1, f2]
    refine take_use n hb (by omega) (by decide) (by decide) fun r ds1 r0 r1 b1 => ?_
    obtain ⟨c, e, c0, c1⟩ := abc_at r0 r1
    refine ⟨_, e, by rw [sl16]; omega, nm_comp xs _ (n + 1) ds1 P b1 (by omega) (by rw [List.length_append, List.length_singleton]; omega) fun cs ds' hc ha b' => ?_⟩
    rw [List.append_assoc]
    refine h (c :: cs) ds' (by rw [List.length_cons, List.length_cons, hc]) (fun d hd => ?_) (b'.mono (by rw [List.length_cons]; omega))
    rcases List.mem_cons.mp hd with rfl | hd
    · exact ⟨c0, c1⟩
    · exact ha d hd
theorem nms_flat {ns : List PyData} (h : NmsOk ns) : ns.all flatD = true := by
  rw [List.all_eq_true]
  intro x hx
  obtain ⟨s, rfl, _⟩ := h x hx
  rfl
theorem nm_for {E : DEnds} : ∀ (xs found : List PyData) (n : Nat) (ds : List PyData) (o3 o4 o5 : Option Sl), NmsOk found → (0 < found.length ∨ 0 < xs.length) → found.length + xs.length ≤ 3 → Bag n ds → n + 9 * xs.length < 1000000000 →
    (∀ ns ds' o3 o4 o5, NmsOk ns → 0 < ns.length → ns.length ≤ 3 → Bag (n + 9 * xs.length) ds' → E.nx [some (.o false ds'), some (.d (.str abc)), some (.o true ns), o3, o4, o5, none]) →
    forRec (wName 3) nm_body E xs [some (.o false ds), some (.d (.str abc)), some (.o true found), o3, o4, o5, none]
  | [], found, n, ds, o3, o4, o5, hf, hx, hl, hb, hn, h => by
    rw [List.length_nil] at hl hx
    exact h found ds o3 o4 o5 hf (by omega) (by omega) hb
  | x :: xs, found, n, ds, o3, o4, o5, hf, hx, hl, hb, hn, h => by
    rw [List.length_cons] at hl hn
    simp only [forRec, wM1, wSeq, wAsg, wName, wBin, wVar, wC, wTest, wIfS, wIf, wNext, wRet, wCons, wNil, wCB, wIxK, wIxO, wPutI, wCallB, wPar, wLst, wTup, wUn, wL, wLstL, wRetL, wOr, wAnd, wNot, wOwn, wExt, wApp, wRev, wTake, wRetO, wFreeze, wCall, wCallL, wCallK, wCallLK, wiRng1, wiList, wiTup, wFor, wLcN, wkCl, wkApp, wYes, wgTup, wgCons, wgNil, wLend, lendD, lendS, wipeD, List.map_cons, List.map_nil, List.getElem?_cons_zero, List.getElem?_cons_succ, List.set_cons_zero, List.set_cons_succ, Option.some.injEq, Sl.d.injEq, Sl.o.injEq, PyData.int.injEq, PyData.bool.injEq, exists_eq_left, exists_eq_left', and_assoc, exists_and_left, exists_eq', and_true, true_and, if_true, List.length_cons, List.length_nil, Option.bind_some, List.cons_append, List.nil_append, List.append_nil, f1, f2, fIx]
    refine ⟨by decide, take_use n hb (by omega) (by decide) (by decide) fun i ds1 i0 i1 b1 => ?_⟩
    obtain ⟨z, hz, e⟩ := ix_pick [.int 1, .int 1, .int 2, .int 4, .int 8] i0 i1
    have hz : ∃ m : Int, z = .int m ∧ 1 ≤ m ∧ m ≤ 8 := by
      simp only [List.mem_cons, List.not_mem_nil, or_false] at hz
      rcases hz with rfl | rfl | rfl | rfl | rfl
      · exact ⟨_, rfl, by decide, by decide⟩
      · exact ⟨_, rfl, by decide, by decide⟩
      · exact ⟨_, rfl, by decide, by decide⟩
      · exact ⟨_, rfl, by decide, by decide⟩
      · exact ⟨_, rfl, by decide, by decide⟩
    obtain ⟨m, rfl, m0, m1⟩ := hz
    refine ⟨_, e, ⟨_, rfl⟩, m, rfl, by omega, by omega, ?_⟩
    refine nm_comp _ [] (n + 1) ds1 _ b1 (by rw [rangeD_len]; omega) (by rw [rangeD_len, List.length_nil]; omega) fun cs ds2 hc ha b2 => ?_
    rw [rangeD_len] at hc b2
    rw [List.nil_append]
    obtain ⟨s, ej, hs⟩ := join_ch ha (by omega) (by omega)
    refine ⟨_, ej, ?_⟩
    have fin : fIn true (.str s) (.list found) = some (.bool (!found.any fun y => PyData.eqv y (.str s))) := by
      show (if (flatD (.str s) && found.all flatD) = true then some (PyData.bool (if true = true then !found.any (fun y => PyData.eqv y (.str s)) else found.any (fun y => PyData.eqv y (.str s)))) else none) = _
      rw [nms_flat hf, if_pos (by rfl), if_pos rfl]
    simp only [wSeq, wAsg, wName, wBin, wVar, wC, wTest, wIfS, wIf, wNext, wRet, wCons, wNil, wCB, wIxK, wIxO, wPutI, wCallB, wPar, wLst, wTup, wUn, wL, wLstL, wRetL, wOr, wAnd, wNot, wOwn, wExt, wApp, wRev, wTake, wRetO, wFreeze, wCall, wCallL, wCallK, wCallLK, wiRng1, wiList, wiTup, wFor, wLcN, wkCl, wkApp, wYes, wgTup, wgCons, wgNil, wLend, lendD, lendS, wipeD, List.map_cons, List.map_nil, List.getElem?_cons_zero, List.getElem?_cons_succ, List.set_cons_zero, List.set_cons_succ, Option.some.injEq, Sl.d.injEq, Sl.o.injEq, PyData.int.injEq, PyData.bool.injEq, exists_eq_left, exists_eq_left', and_assoc, exists_and_left, exists_eq', and_true, true_and, if_true, List.length_cons, List.length_nil, Option.bind_some, List.cons_append, List.nil_append, List.append_nil, f1, f2, fin, flatD]
    have hB : ∀ ds', Bag (n + 1 + m.toNat + 9 * xs.length) ds' → Bag (n + 9 * (x :: xs).length) ds' := fun ds' z => z.mono (by rw [List.length_cons]; omega)
    cases hany : found.any fun y => PyData.eqv y (.str s) with
    | true =>
      rw [if_neg (by decide)]
      have hne : 0 < found.length := by
        cases found with
        | nil => cases hany
        | cons _ _ => rw [List.length_cons]; omega
      exact nm_for xs found (n + 1 + m.toNat) ds2 _ _ _ hf (.inl hne) (by omega) b2 (by omega) fun ns ds' o3 o4 o5 h1 h2 h3 b' => h ns ds' o3 o4 o5 h1 h2 h3 (hB ds' b')
    | false =>
      rw [if_pos (by decide)]
      refine ⟨by rw [sl16]; omega, nm_for xs (found ++ [.str s]) (n + 1 + m.toNat) ds2 _ _ _ (fun d hd => ?_) (.inl (by rw [List.length_append, List.length_singleton]; omega)) (by rw [List.length_append, List.length_singleton]; omega) b2 (by omega) fun ns ds' o3 o4 o5 h1 h2 h3 b' => h ns ds' o3 o4 o5 h1 h2 h3 (hB ds' b')⟩
      rcases List.mem_append.mp hd with hd | hd
      · exact hf d hd
      · rw [List.mem_singleton] at hd
        exact ⟨s, hd, hs⟩
theorem wp__law_names (ds xs : List PyData) (P : PyData → List PyData → Prop) (h : wf__law_names ds xs P) : w__law_names (endsB P) (startBN 7 ds xs) := by
  obtain ⟨n, hn, hb, rfl, hP⟩ := h
  show w__law_names (endsB P) [some (.o false ds), none, none, none, none, none, none]
  unfold w__law_names
  simp only [wParDO, wSeq, wAsg, wName, wBin, wVar, wC, wTest, wIfS, wIf, wNext, wRet, wCons, wNil, wCB, wIxK, wIxO, wPutI, wCallB, wPar, wLst, wTup, wUn, wL, wLstL, wRetL, wOr, wAnd, wNot, wOwn, wExt, wApp, wRev, wTake, wRetO, wFreeze, wCall, wCallL, wCallK, wCallLK, wiRng1, wiList, wiTup, wFor, wLcN, wkCl, wkApp, wYes, wgTup, wgCons, wgNil, wLend, lendD, lendS, wipeD, List.map_cons, List.map_nil, List.getElem?_cons_zero, List.getElem?_cons_succ, List.set_cons_zero, List.set_cons_succ, Option.some.injEq, Sl.d.injEq, Sl.o.injEq, PyData.int.injEq, PyData.bool.injEq, exists_eq_left, exists_eq_left', and_assoc, exists_and_left, exists_eq', and_true, true_and, if_true, List.length_cons, List.length_nil, Option.bind_some, List.cons_append, List.nil_append, List.append_nil, f1, f2]
  refine ⟨by decide, take_use n hb (by omega) (by decide) (by decide) fun r ds1 r0 r1 b1 => ?_⟩
  refine ⟨_, f_add, 1 + r, rfl, by omega, by omega, ?_⟩
  refine nm_for _ [] (n + 1) ds1 _ _ _ (fun d hd => by cases hd) (.inr (by rw [rangeD_len]; omega)) (by rw [rangeD_len, List.length_nil]; omega) b1 (by rw [rangeD_len]; omega) fun ns ds' o3 o4 o5 h1 h2 h3 b' => ?_
  rw [rangeD_len] at b'
  exact ⟨ns, rfl, ds', rfl, hP ns ds' h1 h2 h3 (b'.mono (by omega))⟩
theorem names_use {ds : List PyData} {P : PyData → List PyData → Prop} (n : Nat) (hb : Bag n ds) (hn : n + 100 < 1000000000) (k : ∀ ns ds', NmsOk ns → 0 < ns.length → ns.length ≤ 3 → Bag (n + 100) ds' → P (.list ns) ds') : wf__law_names ds [] P := ⟨n, hn, hb, rfl, k⟩
end Pl
namespace Lw
open PySem PySem.Spec PyProof.Rows L2 Dat Pl
def wf_law : WF := fun xs P => ∃ ns : List Int, xs = [scrD ns] ∧ ns.length ≤ 63 ∧ P (.bool true)
abbrev k06_place : WS := (wSeq (wAsg (wCall wf__law_deed [] (wCons (wVar 5) (wCons (wVar 6) (wCons (wVar 3) wNil)))) (wName 7))
    (wSeq (wAsg (wCallK 2 1 wf_deed_of (wCons (wVar 5) (wCons (wVar 6) wNil)) (wCons (wVar 3) wNil)) (wName 8))
    (wSeq (wIfS (wTest (wBin fNe (wCB (f1 fRepr) (wCons (wVar 8) wNil)) (wCB (f1 fRepr) (wCons (wVar 7) wNil)))) (wRet (wC (.bool false))) wNext)
    (wSeq (wIfS (wTest (wBin fNe (wCB (f1 fRepr) (wCons (wCallK 1 1 wf_branch_count (wCons (wVar 8) wNil) (wCons (wVar 3) wNil)) wNil)) (wCB (f1 fRepr) (wCons (wCall wf__law_count [] (wCons (wVar 5) (wCons (wVar 6) (wCons (wVar 3) wNil)))) wNil)))) (wRet (wC (.bool false))) wNext)
    (wSeq (wIfS (wAnd (wTest (wBin fEq (wVar 3) (wC (.int 3)))) (wTest (wBin fNe (wCall wf_deed_of [(.int 3)] (wCons (wVar 5) (wCons (wVar 6) wNil))) (wVar 7)))) (wRet (wC (.bool false))) wNext)
    (wIfS (wAnd (wTest (wBin fEq (wVar 3) (wC (.int 3)))) (wTest (wBin fNe (wCall wf_branch_count [(.int 3)] (wCons (wVar 7) wNil)) (wCall wf__law_count [] (wCons (wVar 5) (wCons (wVar 6) (wCons (wC (.int 3)) wNil))))))) (wRet (wC (.bool false))) wNext))))))
abbrev k06_body : WS := (wSeq (wTake (wCallL wf__law_bag [] (wCons (wVar 0) (wCons (wVar 1) wNil))) 2)
    (wSeq (wPar 3 4 (wCons (wBin fAdd (wC (.int 2)) (wCallB 2 wf__law_take (wCons (wC (.int 3)) wNil))) (wCons (wCallB 2 wf__law_names wNil) wNil)))
    (wSeq (wAsg (wCallB 2 wf__law_text (wCons (wVar 3) (wCons (wBin fIx (wLst (wCons (wC (.int 3)) (wCons (wC (.int 8)) (wCons (wC (.int 16)) wNil)))) (wCallB 2 wf__law_take (wCons (wC (.int 3)) wNil))) (wCons (wVar 4) wNil)))) (wName 5))
    (wFor (wiList (wBin fAdd (wL (wCallL wf__law_stands [] (wCons (wVar 5) (wCons (wVar 3) wNil)))) (wLst (wCons (wC dt_MUTE) wNil)))) (wName 6) k06_place))))
def w_law : WS := (wSeq (wFor (wiRng1 (wCons (wCB (fMax) (wCons (wC (.int 2)) (wCons (wCB (fMin) (wCons (wC (.int 6)) (wCons (wCB (f1 fLen) (wCons (wVar 0) wNil)) wNil))) wNil))) wNil)) (wName 1) k06_body)
    (wRet (wC (.bool true))))
theorem wl_law (xs : List PyData) (P : PyData → Prop) (h : wf_law xs P) : xs.length = 1 := by
  obtain ⟨ns, rfl, _⟩ := h
  rfl
theorem str_beq (t : Str) : PyData.eqv (.str t) (.str t) = true := by
  show (t == t) = true
  exact beq_self_eq_true t
theorem fne_self (t : Str) : fNe (.str t) (.str t) = some (.bool false) := by
  show some (PyData.bool (!PyData.eqv (.str t) (.str t))) = _
  rw [str_beq]
  rfl
theorem fne_el {k W : Nat} {d : PyData} (h : El k W d) (hk : k ≤ 64) : fNe d d = some (.bool false) := by
  unfold fNe
  rw [h.shaped hk, Bool.and_self, Bool.or_true, if_pos rfl, SeqAt.eqv_refl d h.c]
  rfl
theorem vx_bd {x y b : Int} (hb : 2 ≤ b) (hb2 : b ≤ 4) (hx : 0 ≤ x ∧ x < b) (hy : 0 ≤ y ∧ y < b) {d : PyData} (h : Exn b d) : (vx x y b d).natAbs < 1000000000000 := by
  rcases h with h | ⟨s, l, r, rfl, hs, hl, hr⟩
  · have q : vx x y b d = vl x y d := by rcases h with rfl | rfl | ⟨i, rfl, _, _⟩ <;> rfl
    have := vl_bd hx hy h
    omega
  · unfold sgns at hs
    simp only [List.mem_cons, List.not_mem_nil, or_false] at hs
    have m1 : ∀ z : Int, (z % b).natAbs < 1000000000000 := fun z => by
      have q1 := Int.emod_nonneg z (show b ≠ 0 by omega)
      have q2 := Int.emod_lt_of_pos z (show 0 < b by omega)
      omega
    rcases hs with rfl | rfl | rfl <;> (unfold vx; (repeat' split) <;> exact m1 _)
theorem nm_el {ns : List PyData} (h : NmsOk ns) {d : PyData} (hd : d ∈ ns) : El 0 40 d := by
  obtain ⟨s, rfl, h1, h2, h3⟩ := h d hd
  refine (el_str ?_).mono (Nat.le_refl 0) (by omega)
  show s.cps.all (· < 0x110000) = true
  rw [Array.all_eq_true_iff_forall_mem]
  intro c hc
  have := h1 c (Array.mem_toList_iff.mpr hc)
  exact decide_eq_true (by omega)
theorem el_w (s : Str) (h : PyData.strOk s = true) (h2 : s.cps.size ≤ 40) : El 0 40 (.str s) := (el_str h).mono (Nat.le_refl 0) h2
theorem el_tuple {xs : List PyData} (h : ∀ x ∈ xs, El 0 40 x) (hl : xs.length ≤ 4) : El 1 200 (.tuple xs) := (el_tup h).mono (Nat.le_refl 1) (by have := Nat.mul_le_mul_left (40 + 1) hl; omega)
theorem deed_el {rows ns : List PyData} {b : Int} (hb : 2 ≤ b) (hb2 : b ≤ 4) (hn : NmsOk ns) (hh : ∀ r ∈ rows, RowOk b rows.length ns r) {d : PyData} (hd : StOk rows b d) : El 1 200 (deedD rows b d) := by
  obtain ⟨i, p, q, rfl, hd2⟩ := hd.cases
  rw [deedD_eq]
  rcases hd2 with ⟨rfl, rfl, rfl⟩ | ⟨hp, hq, h0, hi⟩
  · rw [if_pos rfl]
    exact el_tuple (by intro x hx; rw [List.mem_singleton] at hx; subst hx; exact el_w _ (by decide +kernel) (by decide +kernel)) (by decide)
  · rw [if_neg (by omega)]
    rcases hi with rfl | ⟨hlt, hs⟩
    · rw [if_pos rfl]
      refine el_tuple (fun x hx => ?_) (by decide)
      simp only [List.mem_cons, List.not_mem_nil, or_false] at hx
      rcases hx with rfl | rfl
      · exact el_w _ (by decide +kernel) (by decide +kernel)
      · exact el_int (by decide)
    · rw [if_neg (by omega)]
      obtain ⟨r, hr, ea, eg⟩ := at_nat h0 hlt
      rw [eg]
      show El 1 200 (rowDeed p q b r)
      have bad : ∀ s t, r = .tuple (.str s :: t) → silS s = true → False := fun s t er z => by
        rw [sil_false eg er hs] at z
        cases z
      have one : ∀ s : Str, PyData.strOk s = true → s.cps.size ≤ 40 → El 1 200 (.tuple [.str s]) := fun s h1 h2 => el_tuple (by intro x hx; rw [List.mem_singleton] at hx; subst hx; exact el_w _ h1 h2) (by show 1 ≤ 4; decide)
      have two : ∀ (s : Str) (z : PyData), PyData.strOk s = true → s.cps.size ≤ 40 → El 0 40 z → El 1 200 (.tuple [.str s, z]) := fun s z h1 h2 h3 => el_tuple (by
        intro x hx
        simp only [List.mem_cons, List.not_mem_nil, or_false] at hx
        rcases hx with rfl | rfl
        · exact el_w _ h1 h2
        · exact h3) (by show 2 ≤ 4; decide)
      have three : ∀ (s : Str) (z y : PyData), PyData.strOk s = true → s.cps.size ≤ 40 → El 0 40 z → El 0 40 y → El 1 200 (.tuple [.str s, z, y]) := fun s z y h1 h2 h3 h4 => el_tuple (by
        intro x hx
        simp only [List.mem_cons, List.not_mem_nil, or_false] at hx
        rcases hx with rfl | rfl | rfl
        · exact el_w _ h1 h2
        · exact h3
        · exact h4) (by show 3 ≤ 4; decide)
      have ev : ∀ {e : PyData}, Exn b e → El 0 40 (.int (vx p q b e)) := fun he => el_int (vx_bd hb hb2 hp hq he)
      cases hh r hr with
      | set hv he => exact (bad _ _ rfl (by decide)).elim
      | iff he hf g0 g1 => exact (bad _ _ rfl (by decide)).elim
      | go g0 g1 => exact (bad _ _ rfl (by decide)).elim
      | ask hv => simp only [rowDeed, e_say_ask, e_say_read, e_say_write, e_say_call, e_ask_ask, e_ask_read, e_ask_write, e_ask_call, e_read_ask, e_read_read, e_read_write, e_read_call, e_write_ask, e_write_read, e_write_write, e_write_call, e_call_ask, e_call_read, e_call_write, e_call_call, e_end_ask, e_end_read, e_end_write, e_end_call, if_true]; exact one _ (by decide +kernel) (by decide +kernel)
      | say he => simp only [rowDeed, e_say_ask, e_say_read, e_say_write, e_say_call, e_ask_ask, e_ask_read, e_ask_write, e_ask_call, e_read_ask, e_read_read, e_read_write, e_read_call, e_write_ask, e_write_read, e_write_write, e_write_call, e_call_ask, e_call_read, e_call_write, e_call_call, e_end_ask, e_end_read, e_end_write, e_end_call, if_false, Bool.false_eq_true]; exact two _ _ (by decide +kernel) (by decide +kernel) (ev he)
      | read c0 c1 hv => simp only [rowDeed, e_say_ask, e_say_read, e_say_write, e_say_call, e_ask_ask, e_ask_read, e_ask_write, e_ask_call, e_read_ask, e_read_read, e_read_write, e_read_call, e_write_ask, e_write_read, e_write_write, e_write_call, e_call_ask, e_call_read, e_call_write, e_call_call, e_end_ask, e_end_read, e_end_write, e_end_call, if_true]; exact two _ _ (by decide +kernel) (by decide +kernel) (el_int (by omega))
      | write c0 c1 he => simp only [rowDeed, e_say_ask, e_say_read, e_say_write, e_say_call, e_ask_ask, e_ask_read, e_ask_write, e_ask_call, e_read_ask, e_read_read, e_read_write, e_read_call, e_write_ask, e_write_read, e_write_write, e_write_call, e_call_ask, e_call_read, e_call_write, e_call_call, e_end_ask, e_end_read, e_end_write, e_end_call, if_false, Bool.false_eq_true]; exact three _ _ _ (by decide +kernel) (by decide +kernel) (el_int (by omega)) (ev he)
      | call hm he hv => exact three _ _ _ (by decide +kernel) (by decide +kernel) (nm_el hn hm) (ev he)
      | end_ he => simp only [rowDeed, e_say_ask, e_say_read, e_say_write, e_say_call, e_ask_ask, e_ask_read, e_ask_write, e_ask_call, e_read_ask, e_read_read, e_read_write, e_read_call, e_write_ask, e_write_read, e_write_write, e_write_call, e_call_ask, e_call_read, e_call_write, e_call_call, e_end_ask, e_end_read, e_end_write, e_end_call, if_false, Bool.false_eq_true]; exact two _ _ (by decide +kernel) (by decide +kernel) (ev he)
theorem bc_el {b : Int} (hb : 2 ≤ b) (hb2 : b ≤ 4) (w : Str) : El 0 40 (.int (bc b w)) := by
  refine el_int ?_
  unfold bc
  split
  · omega
  · split <;> decide
theorem place_for {rows ns : List PyData} {b : Int} {E : DEnds} {scr a : PyData} {o2 o4 : Option Sl} (hb : 2 ≤ b) (hb2 : b ≤ 4) (hn : NmsOk ns) (hh : ∀ r ∈ rows, RowOk b rows.length ns r) : ∀ (xs : List PyData) (o6 o7 o8 : Option Sl), (∀ x ∈ xs, StOk rows b x) →
    (∀ o6 o7 o8, E.nx [some (.d scr), some (.d a), o2, some (.d (.int b)), o4, some (.d (.tuple rows)), o6, o7, o8]) →
    forRec (wName 6) k06_place E xs [some (.d scr), some (.d a), o2, some (.d (.int b)), o4, some (.d (.tuple rows)), o6, o7, o8]
  | [], o6, o7, o8, _, h => h o6 o7 o8
  | x :: xs, o6, o7, o8, hx, h => by
    have sx := hx x List.mem_cons_self
    have e1 := deed_el hb hb2 hn hh sx
    have r1 := e1.repr (by decide) (by decide)
    obtain ⟨w, t, ew, hw⟩ := deed_word hh sx
    have e2 := (bc_el hb hb2 w).repr (by decide) (by decide)
    have ih := fun o6 o7 o8 => place_for (E := E) (scr := scr) (a := a) (o2 := o2) (o4 := o4) hb hb2 hn hh xs o6 o7 o8 (fun y hy => hx y (List.mem_cons_of_mem _ hy)) h
    have cnt : ∀ {P : PyData → Prop}, P (.int (bc b w)) → wf__law_count [.tuple rows, x, .int b] P := fun hP => ⟨rows, ns, x, b, w, t, rfl, hb, hb2, hh, sx, ew, hw, hP⟩
    have bcu : ∀ {P : PyData → Prop}, P (.int (bc b w)) → wf_branch_count [deedD rows b x, .int b] P := fun hP => ⟨w, t, b, by rw [ew], hP⟩
    have fne_i : fNe (.int (bc b w)) (.int (bc b w)) = some (.bool false) := fne_el (bc_el hb hb2 w) (by decide)
    simp only [forRec, wSeq, wAsg, wName, wBin, wVar, wC, wTest, wIfS, wIf, wNext, wRet, wCons, wNil, wCB, wIxK, wIxO, wPutI, wCallB, wPar, wLst, wTup, wUn, wL, wLstL, wRetL, wOr, wAnd, wNot, wOwn, wExt, wApp, wRev, wTake, wRetO, wFreeze, wCall, wCallL, wCallK, wCallLK, wiRng1, wiList, wiTup, wFor, wLcN, wkCl, wkApp, wYes, wgTup, wgCons, wgNil, wLend, lendD, lendS, wipeD, List.map_cons, List.map_nil, List.getElem?_cons_zero, List.getElem?_cons_succ, List.set_cons_zero, List.set_cons_succ, Option.some.injEq, Sl.d.injEq, Sl.o.injEq, PyData.int.injEq, PyData.bool.injEq, exists_eq_left, exists_eq_left', and_assoc, exists_and_left, exists_eq', and_true, true_and, if_true, List.length_cons, List.length_nil, Option.bind_some, List.cons_append, List.nil_append, List.append_nil, f1, f2, PyData.tuple.injEq, PyData.list.injEq, PyData.str.injEq, List.cons.injEq, exists_eq_right_right, exists_eq_right, wgStar, wSl, woNone, woSome, wOrV, wAndV, wChain, wDrop]
    refine deed_use hb hb2 hh sx (deed_use hb hb2 hh sx ?_)
    refine ⟨_, r1, _, r1, _, fne_self _, _, rfl, ?_⟩
    rw [if_neg (by decide)]
    refine bcu ⟨_, e2, cnt ⟨_, e2, _, fne_self _, _, rfl, ?_⟩⟩
    rw [if_neg (by decide)]
    refine ⟨_, feq_int, _, rfl, ?_⟩
    by_cases h3 : b = 3
    · subst h3
      rw [if_pos (by decide)]
      refine deed_use (by decide) (by decide) hh sx ⟨_, fne_el e1 (by decide), _, rfl, ?_⟩
      rw [if_neg (by decide)]
      refine ⟨_, feq_int, _, rfl, ?_⟩
      rw [if_pos (by decide)]
      refine bcu (cnt ⟨_, fne_i, _, rfl, ?_⟩)
      rw [if_neg (by decide)]
      exact ih _ _ _
    · have hb3 : (b == 3) = false := by simpa using h3
      rw [hb3]
      simp only [Bool.false_eq_true, if_false, feq_int, hb3, Option.some.injEq, exists_eq_left', PyData.bool.injEq]
      exact ih _ _ _
theorem body_for {ns : List Int} {E : DEnds} : ∀ (xs : List PyData) (o1 o2 o3 o4 o5 o6 o7 o8 : Option Sl), (∀ x ∈ xs, ∃ i : Int, x = .int i ∧ 0 ≤ i ∧ i < 1000) →
    (∀ o1 o2 o3 o4 o5 o6 o7 o8, E.nx [some (.d (scrD ns)), o1, o2, o3, o4, o5, o6, o7, o8]) →
    forRec (wName 1) k06_body E xs [some (.d (scrD ns)), o1, o2, o3, o4, o5, o6, o7, o8]
  | [], o1, o2, o3, o4, o5, o6, o7, o8, _, h => h o1 o2 o3 o4 o5 o6 o7 o8
  | x :: xs, o1, o2, o3, o4, o5, o6, o7, o8, hx, h => by
    obtain ⟨i, rfl, i0, i1⟩ := hx x List.mem_cons_self
    simp only [forRec, wSeq, wAsg, wName, wBin, wVar, wC, wTest, wIfS, wIf, wNext, wRet, wCons, wNil, wCB, wIxK, wIxO, wPutI, wCallB, wPar, wLst, wTup, wUn, wL, wLstL, wRetL, wOr, wAnd, wNot, wOwn, wExt, wApp, wRev, wTake, wRetO, wFreeze, wCall, wCallL, wCallK, wCallLK, wiRng1, wiList, wiTup, wFor, wLcN, wkCl, wkApp, wYes, wgTup, wgCons, wgNil, wLend, lendD, lendS, wipeD, List.map_cons, List.map_nil, List.getElem?_cons_zero, List.getElem?_cons_succ, List.set_cons_zero, List.set_cons_succ, Option.some.injEq, Sl.d.injEq, Sl.o.injEq, PyData.int.injEq, PyData.bool.injEq, exists_eq_left, exists_eq_left', and_assoc, exists_and_left, exists_eq', and_true, true_and, if_true, List.length_cons, List.length_nil, Option.bind_some, List.cons_append, List.nil_append, List.append_nil, f1, f2, fIx]
    refine ⟨ns, i, rfl, i0, i1, fun ds b0 => ?_⟩
    refine take_use 0 b0 (by decide) (by decide) (by decide) fun r ds1 r0 r1 b1 => ?_
    refine ⟨_, f_add, names_use 1 b1 (by decide) fun nms ds2 hn n0 n1 b2 => ⟨_, _, rfl, by decide, take_use 101 b2 (by decide) (by decide) (by decide) fun j ds3 j0 j1 b3 => ?_⟩⟩
    obtain ⟨z, hz, e⟩ := ix_pick [.int 3, .int 8, .int 16] j0 j1
    have hz : ∃ q : Int, z = .int q ∧ 0 ≤ q ∧ q ≤ 16 := by
      simp only [List.mem_cons, List.not_mem_nil, or_false] at hz
      rcases hz with rfl | rfl | rfl
      · exact ⟨_, rfl, by decide, by decide⟩
      · exact ⟨_, rfl, by decide, by decide⟩
      · exact ⟨_, rfl, by decide, by decide⟩
    obtain ⟨q, rfl, q0, q1⟩ := hz
    refine ⟨_, e, text_use 102 b3 (by decide) (by omega) (by omega) q0 (by omega) n0 (by omega) fun rows ds4 hr hok b4 => ?_⟩
    refine st_use (by omega) (by omega) (by omega) (fun r hm => (hok r hm).hd) ?_
    have hl := stands_len (rows := rows) (b := 2 + r) (by omega) (by omega) (by omega)
    refine ⟨by decide, _, f_addL (by rw [sl16]; show _ + 1 ≤ _; omega), _, rfl, ?_⟩
    refine place_for (ns := nms) (by omega) (by omega) hn hok _ _ _ _ (fun y hy => ?_) fun o6 o7 o8 => ?_
    · rcases List.mem_append.mp hy with hy | hy
      · exact stands_mem (by omega) (by omega) hy
      · rw [List.mem_singleton] at hy
        exact .inl hy
    · exact body_for xs _ _ _ _ _ _ _ _ (fun y hy => hx y (List.mem_cons_of_mem _ hy)) h
theorem wp_law (xs : List PyData) (P : PyData → Prop) (h : wf_law xs P) : w_law (endsP P) (startN 9 xs) := by
  obtain ⟨ns, rfl, hn, hP⟩ := h
  show w_law (endsP P) [some (.d (scrD ns)), none, none, none, none, none, none, none, none]
  unfold w_law
  simp only [wSeq, wAsg, wName, wBin, wVar, wC, wTest, wIfS, wIf, wNext, wRet, wCons, wNil, wCB, wIxK, wIxO, wPutI, wCallB, wPar, wLst, wTup, wUn, wL, wLstL, wRetL, wOr, wAnd, wNot, wOwn, wExt, wApp, wRev, wTake, wRetO, wFreeze, wCall, wCallL, wCallK, wCallLK, wiRng1, wiList, wiTup, wFor, wLcN, wkCl, wkApp, wYes, wgTup, wgCons, wgNil, wLend, lendD, lendS, wipeD, List.map_cons, List.map_nil, List.getElem?_cons_zero, List.getElem?_cons_succ, List.set_cons_zero, List.set_cons_succ, Option.some.injEq, Sl.d.injEq, Sl.o.injEq, PyData.int.injEq, PyData.bool.injEq, exists_eq_left, exists_eq_left', and_assoc, exists_and_left, exists_eq', and_true, true_and, if_true, List.length_cons, List.length_nil, Option.bind_some, List.cons_append, List.nil_append, List.append_nil, f1, f2, flen_scr, intF]
  refine ⟨_, rfl, ?_, ?_, ?_⟩
  · split <;> split <;> omega
  · split <;> split <;> omega
  · refine body_for _ _ _ _ _ _ _ _ _ (fun x hx => ?_) fun o1 o2 o3 o4 o5 o6 o7 o8 => hP
    obtain ⟨j, hj⟩ := List.mem_iff_getElem?.mp hx
    obtain ⟨hj1, rfl⟩ := rangeD_get hj
    refine ⟨_, rfl, by omega, ?_⟩
    split at hj1 <;> split at hj1 <;> omega
theorem wf_law_at (ns : List Int) (hl : ns.length ≤ 63) : wf_law [scrD ns] fun z => z = .bool true := ⟨ns, rfl, hl, rfl⟩
end Lw
namespace Lw
open PySem PySem.Spec PyProof.Rows L2 Dat Pl
def top (i : Nat) : Stmt := PySem.Challenge.pw_callsover_k06_deeds_and_branches.main.body.getD i (.Pass ⟨0, 0, 0, 0⟩)
structure Txt (K : PySem.W.Frag) (mg : Str → Option Value) : Prop where
  m_is_whole : mg "is_whole" = some (.ref (He.fAd K ("is_whole", none)))
  f_is_whole : ∃ fd, FunD K "is_whole" "is_whole" (defArgs (top 3)) (defBody (top 3)) (defScope (top 3)) [] [] (He.fAd K ("is_whole", none)) fd
  m_is_number : mg "is_number" = some (.ref (He.fAd K ("is_number", none)))
  f_is_number : ∃ fd, FunD K "is_number" "is_number" (defArgs (top 4)) (defBody (top 4)) (defScope (top 4)) [] [] (He.fAd K ("is_number", none)) fd
  m_value_of : mg "value_of" = some (.ref (He.fAd K ("value_of", none)))
  f_value_of : ∃ fd, FunD K "value_of" "value_of" (defArgs (top 10)) (defBody (top 10)) (defScope (top 10)) [] [] (He.fAd K ("value_of", none)) fd
  m_is_stand : mg "is_stand" = some (.ref (He.fAd K ("is_stand", none)))
  f_is_stand : ∃ fd, FunD K "is_stand" "is_stand" (defArgs (top 11)) (defBody (top 11)) (defScope (top 11)) [] [] (He.fAd K ("is_stand", none)) fd
  m_look_stand : mg "look_stand" = some (.ref (He.fAd K ("look_stand", none)))
  f_look_stand : ∃ fd, FunD K "look_stand" "look_stand" (defArgs (top 12)) (defBody (top 12)) (defScope (top 12)) [] [] (He.fAd K ("look_stand", none)) fd
  m_deed_at : mg "deed_at" = some (.ref (He.fAd K ("deed_at", none)))
  f_deed_at : ∃ fd, FunD K "deed_at" "deed_at" (defArgs (top 13)) (defBody (top 13)) (defScope (top 13)) [] [] (He.fAd K ("deed_at", none)) fd
  m_deed_of : mg "deed_of" = some (.ref (He.fAd K ("deed_of", none)))
  f_deed_of : ∃ fd, FunD K "deed_of" "deed_of" (defArgs (top 14)) (defBody (top 14)) (defScope (top 14)) [] [("base", V.int 3)] (He.fAd K ("deed_of", none)) fd
  m_branch_count : mg "branch_count" = some (.ref (He.fAd K ("branch_count", none)))
  f_branch_count : ∃ fd, FunD K "branch_count" "branch_count" (defArgs (top 15)) (defBody (top 15)) (defScope (top 15)) [] [("base", V.int 3)] (He.fAd K ("branch_count", none)) fd
  m__law_bag : mg "_law_bag" = some (.ref (He.fAd K ("_law_bag", none)))
  f__law_bag : ∃ fd, FunD K "_law_bag" "_law_bag" (defArgs (top 17)) (defBody (top 17)) (defScope (top 17)) [] [] (He.fAd K ("_law_bag", none)) fd
  m__law_take : mg "_law_take" = some (.ref (He.fAd K ("_law_take", none)))
  f__law_take : ∃ fd, FunD K "_law_take" "_law_take" (defArgs (top 18)) (defBody (top 18)) (defScope (top 18)) [] [] (He.fAd K ("_law_take", none)) fd
  m__law_names : mg "_law_names" = some (.ref (He.fAd K ("_law_names", none)))
  f__law_names : ∃ fd, FunD K "_law_names" "_law_names" (defArgs (top 19)) (defBody (top 19)) (defScope (top 19)) [] [] (He.fAd K ("_law_names", none)) fd
  m__law_operand : mg "_law_operand" = some (.ref (He.fAd K ("_law_operand", none)))
  f__law_operand : ∃ fd, FunD K "_law_operand" "_law_operand" (defArgs (top 20)) (defBody (top 20)) (defScope (top 20)) [] [] (He.fAd K ("_law_operand", none)) fd
  m__law_expression : mg "_law_expression" = some (.ref (He.fAd K ("_law_expression", none)))
  f__law_expression : ∃ fd, FunD K "_law_expression" "_law_expression" (defArgs (top 21)) (defBody (top 21)) (defScope (top 21)) [] [] (He.fAd K ("_law_expression", none)) fd
  m__law_row : mg "_law_row" = some (.ref (He.fAd K ("_law_row", none)))
  f__law_row : ∃ fd, FunD K "_law_row" "_law_row" (defArgs (top 22)) (defBody (top 22)) (defScope (top 22)) [] [] (He.fAd K ("_law_row", none)) fd
  m__law_text : mg "_law_text" = some (.ref (He.fAd K ("_law_text", none)))
  f__law_text : ∃ fd, FunD K "_law_text" "_law_text" (defArgs (top 23)) (defBody (top 23)) (defScope (top 23)) [] [] (He.fAd K ("_law_text", none)) fd
  m__law_value : mg "_law_value" = some (.ref (He.fAd K ("_law_value", none)))
  f__law_value : ∃ fd, FunD K "_law_value" "_law_value" (defArgs (top 24)) (defBody (top 24)) (defScope (top 24)) [] [] (He.fAd K ("_law_value", none)) fd
  m__law_deed : mg "_law_deed" = some (.ref (He.fAd K ("_law_deed", none)))
  f__law_deed : ∃ fd, FunD K "_law_deed" "_law_deed" (defArgs (top 25)) (defBody (top 25)) (defScope (top 25)) [] [] (He.fAd K ("_law_deed", none)) fd
  m__law_count : mg "_law_count" = some (.ref (He.fAd K ("_law_count", none)))
  f__law_count : ∃ fd, FunD K "_law_count" "_law_count" (defArgs (top 26)) (defBody (top 26)) (defScope (top 26)) [] [] (He.fAd K ("_law_count", none)) fd
  m__law_stands : mg "_law_stands" = some (.ref (He.fAd K ("_law_stands", none)))
  f__law_stands : ∃ fd, FunD K "_law_stands" "_law_stands" (defArgs (top 27)) (defBody (top 27)) (defScope (top 27)) [] [] (He.fAd K ("_law_stands", none)) fd
  m_law : mg "law" = some (.ref (He.fAd K ("law", none)))
  f_law : ∃ fd, FunD K "law" "law" (defArgs (top 28)) (defBody (top 28)) (defScope (top 28)) [] [] (He.fAd K ("law", none)) fd
  b_abs : mg "abs" = none
  b_all : mg "all" = none
  b_bool : mg "bool" = none
  b_int : mg "int" = none
  b_isinstance : mg "isinstance" = none
  b_len : mg "len" = none
  b_max : mg "max" = none
  b_min : mg "min" = none
  b_range : mg "range" = none
  b_repr : mg "repr" = none
  b_str : mg "str" = none
  b_tuple : mg "tuple" = none
  g_MUTE : mg "MUTE" = some (.ref (He.ga K "MUTE"))
  r_MUTE : ∀ M H, Rp K M H (.ref (He.ga K "MUTE")) dt_MUTE
  g_RECEIVING : mg "RECEIVING" = some (.ref (He.ga K "RECEIVING"))
  r_RECEIVING : ∀ M H, Rp K M H (.ref (He.ga K "RECEIVING")) dt_RECEIVING
  g_SILENT : mg "SILENT" = some (.ref (He.ga K "SILENT"))
  r_SILENT : ∀ M H, Rp K M H (.ref (He.ga K "SILENT")) dt_SILENT
  g_TELLING : mg "TELLING" = some (.ref (He.ga K "TELLING"))
  r_TELLING : ∀ M H, Rp K M H (.ref (He.ga K "TELLING")) dt_TELLING
theorem sc_is_whole : FnScope ["thing"] ["thing"] (defScope (top 3)) := ⟨rfl, rfl, rfl, by decide +kernel, rfl, by decide +kernel, by decide +kernel⟩
theorem ok_is_whole {P : Program} {w : World} {K : PySem.W.Frag} {mg : Str → Option Value} {base : Heap} (T : Txt K mg) : ∃ f fd, Cal P w K mg base "is_whole" 1 ["thing"] (spP K wf_is_whole) f fd := by
  obtain ⟨fd, F⟩ := T.f_is_whole
  exact ⟨_, fd, pureOk (k := 0) F sc_is_whole wl_is_whole (fun cdv A outer s H hg hr => ⟨_, w_is_whole,
    (b_one (s_ret (d_and (d_isi T.b_isinstance T.b_int (by decide +kernel) (dv 0)) (d_one (d_not (d_isi T.b_isinstance T.b_bool (by decide +kernel) (dv 0))))))), wp_is_whole⟩), T.m_is_whole, F.kp, F.bindsN fun _ _ _ _ _ _ us hl => match us, hl with | [_], _ => rfl⟩
theorem sc_is_number : FnScope ["thing", "base"] ["thing", "base"] (defScope (top 4)) := ⟨rfl, rfl, rfl, by decide +kernel, rfl, by decide +kernel, by decide +kernel⟩
theorem ok_is_number {P : Program} {w : World} {K : PySem.W.Frag} {mg : Str → Option Value} {base : Heap} (T : Txt K mg) : ∃ f fd, Cal P w K mg base "is_number" 2 ["thing", "base"] (spP K wf_is_number) f fd := by
  obtain ⟨f_is_whole, fd_is_whole, C_is_whole⟩ := ok_is_whole (P := P) (w := w) (base := base) T
  obtain ⟨fd, F⟩ := T.f_is_number
  exact ⟨_, fd, pureOk (k := 1) F sc_is_number wl_is_number (fun cdv A outer s H hg hr => ⟨_, w_is_number,
    (b_one (s_ret (d_and (C_is_whole.p hg hr (a_cons (dv 0) a_nil)) (d_one (d_chain op_le op_lt l_le l_lt d_int (dv 0) (dv 1)))))), wp_is_number⟩), T.m_is_number, F.kp, F.bindsN fun _ _ _ _ _ _ us hl => match us, hl with | [_, _], _ => rfl⟩
theorem sc_value_of_v0 : FnScope ["expression", "x", "y", "base", "sign", "left", "right", "one", "other"] ["expression", "x", "y", "base"] (defScope (top 10)) := ⟨rfl, rfl, rfl, by decide +kernel, rfl, by decide +kernel, by decide +kernel⟩
theorem ok_value_of_v0 {P : Program} {w : World} {K : PySem.W.Frag} {mg : Str → Option Value} {base : Heap} (T : Txt K mg) : ∃ f fd, Cal P w K mg base "value_of" 1 ["expression", "x", "y", "base"] (spP K wf_value_of_v0) f fd := by
  obtain ⟨fd, F⟩ := T.f_value_of
  exact ⟨_, fd, pureOk (k := 0) F sc_value_of_v0 wl_value_of_v0 (fun cdv A outer s H hg hr => ⟨_, w_value_of_v0,
    (b_cons (s_if (c_val (d_isi T.b_isinstance T.b_tuple (by decide +kernel) (dv 0))) b_never b_nil)
      (b_cons (s_if (c_val (d_isi T.b_isinstance T.b_str (by decide +kernel) (dv 0))) (b_one (s_ret (d_if (c_cmp (op_eqA hr.units) l_eq (dv 0) d_str (nomark _)) (dv 1) (dv 2)))) b_nil)
      (b_one (s_ret (dv 0))))), wp_value_of_v0⟩), T.m_value_of, F.kp, F.bindsN fun _ _ _ _ _ _ us hl => match us, hl with | [_, _, _, _], _ => rfl⟩
theorem sc_value_of : FnScope ["expression", "x", "y", "base", "sign", "left", "right", "one", "other"] ["expression", "x", "y", "base"] (defScope (top 10)) := ⟨rfl, rfl, rfl, by decide +kernel, rfl, by decide +kernel, by decide +kernel⟩
theorem ok_value_of {P : Program} {w : World} {K : PySem.W.Frag} {mg : Str → Option Value} {base : Heap} (T : Txt K mg) : ∃ f fd, Cal P w K mg base "value_of" 2 ["expression", "x", "y", "base"] (spP K wf_value_of) f fd := by
  obtain ⟨f_value_of_v0, fd_value_of_v0, C_value_of_v0⟩ := ok_value_of_v0 (P := P) (w := w) (base := base) T
  obtain ⟨fd, F⟩ := T.f_value_of
  exact ⟨_, fd, pureOk (k := 1) F sc_value_of wl_value_of (fun cdv A outer s H hg hr => ⟨_, w_value_of,
    (b_cons (s_if (c_val (d_isi T.b_isinstance T.b_tuple (by decide +kernel) (dv 0))) (b_cons (s_asg (dv 0) (g_tup rfl (gs_cons (g_name (i := 4) sc_value_of.nd rfl (by first | exact Or.inl rfl | exact Or.inr rfl)) (gs_cons (g_name (i := 5) sc_value_of.nd rfl (by first | exact Or.inl rfl | exact Or.inr rfl)) (gs_cons (g_name (i := 6) sc_value_of.nd rfl (by first | exact Or.inl rfl | exact Or.inr rfl)) gs_nil)))))
      (b_cons (s_par (i := 7) (j := 8) sc_value_of.nd (a_cons (C_value_of_v0.p hg hr (a_cons (dv 5) (a_cons (dv 1) (a_cons (dv 2) (a_cons (dv 3) a_nil))))) (a_cons (C_value_of_v0.p hg hr (a_cons (dv 6) (a_cons (dv 1) (a_cons (dv 2) (a_cons (dv 3) a_nil))))) a_nil)))
      (b_cons (s_if (c_cmp (op_eqA hr.units) l_eq (dv 4) d_str (nomark _)) (b_one (s_ret (d_op op_mod l_mod (d_op op_addA l_add (dv 7) (dv 8)) (dv 3)))) b_nil)
      (b_one (s_ret (d_if (c_cmp (op_eqA hr.units) l_eq (dv 4) d_str (nomark _)) (d_op op_mod l_mod (d_op op_sub l_sub (dv 7) (dv 8)) (dv 3)) (d_op op_mod l_mod (d_op op_mul l_mul (dv 7) (dv 8)) (dv 3)))))))) b_nil)
      (b_cons (s_if (c_val (d_isi T.b_isinstance T.b_str (by decide +kernel) (dv 0))) (b_one (s_ret (d_if (c_cmp (op_eqA hr.units) l_eq (dv 0) d_str (nomark _)) (dv 1) (dv 2)))) b_nil)
      (b_one (s_ret (dv 0))))), wp_value_of⟩), T.m_value_of, F.kp, F.bindsN fun _ _ _ _ _ _ us hl => match us, hl with | [_, _, _, _], _ => rfl⟩
theorem sc_is_stand : FnScope ["text", "thing", "base", "row", "x", "y", "item"] ["text", "thing", "base"] (defScope (top 11)) := ⟨rfl, rfl, rfl, by decide +kernel, rfl, by decide +kernel, by decide +kernel⟩
theorem ok_is_stand {P : Program} {w : World} {K : PySem.W.Frag} {mg : Str → Option Value} {base : Heap} (T : Txt K mg) : ∃ f fd, Cal P w K mg base "is_stand" 3 ["text", "thing", "base"] (spP K wf_is_stand) f fd := by
  obtain ⟨f_is_whole, fd_is_whole, C_is_whole⟩ := ok_is_whole (P := P) (w := w) (base := base) T
  obtain ⟨f_is_number, fd_is_number, C_is_number⟩ := ok_is_number (P := P) (w := w) (base := base) T
  obtain ⟨fd, F⟩ := T.f_is_stand
  exact ⟨_, fd, pureOk (k := 2) F sc_is_stand wl_is_stand (fun cdv A outer s H hg hr => ⟨_, w_is_stand,
    (b_cons (s_if (c_w (c_or (c_not (c_val (d_isi T.b_isinstance T.b_tuple (by decide +kernel) (dv 1)))) (c_or (c_cmp (op_neA hr.units) l_ne (d_cb call_len l_len (by rfl) T.b_len (by decide +kernel) (a_cons (dv 1) a_nil)) d_int (nomark _)) (c_or1 (c_not (c_val (d_cb (cr_all rfl) l_all (by rfl) T.b_all (by decide +kernel) (a_cons (PLd.ee (d_comp [("item", 6)] sc_is_stand.nd (blkOk_by (N := ["text", "thing", "base", "row", "x", "y", "item"]) (sc := defScope (top 11)) (by decide +kernel)) turns1 (i_tup (dv 1)) (fun _ _ _ _ _ => (q_name (i := 6) sc_is_stand.nd)) (fun _ _ _ _ _ => ts_nil) (fun _ _ _ _ _ => (kt_last (C_is_whole.p hg (hr.mono (by decide : 1 ≤ 2)) (a_cons (dv 6) a_nil)))))) a_nil)))))))) (b_one (s_ret d_bl)) b_nil)
      (b_cons (s_asg (dv 1) (g_tup rfl (gs_cons (g_name (i := 3) sc_is_stand.nd rfl (by first | exact Or.inl rfl | exact Or.inr rfl)) (gs_cons (g_name (i := 4) sc_is_stand.nd rfl (by first | exact Or.inl rfl | exact Or.inr rfl)) (gs_cons (g_name (i := 5) sc_is_stand.nd rfl (by first | exact Or.inl rfl | exact Or.inr rfl)) gs_nil)))))
      (b_cons (s_if (c_w (c_or (c_cmp (op_eqA hr.units) l_eq (dv 1) (d_glob (v := .ref (He.ga K "MUTE")) (by rfl) T.g_MUTE (by rfl) T.r_MUTE) (nomark _)) (c_or1 (c_cmp (op_eqA hr.units) l_eq (dv 3) (d_cb call_len l_len (by rfl) T.b_len (by decide +kernel) (a_cons (dv 0) a_nil)) (nomark _))))) (b_one (s_ret (d_or (d_cmp (op_eqA hr.units) l_eq (dv 1) (d_glob (v := .ref (He.ga K "MUTE")) (by rfl) T.g_MUTE (by rfl) T.r_MUTE) (nomark _)) (d_one (d_and (C_is_number.p hg hr (a_cons (dv 4) (a_cons (dv 2) a_nil))) (d_one (C_is_number.p hg hr (a_cons (dv 5) (a_cons (dv 2) a_nil))))))))) b_nil)
      (b_one (s_ret (d_and (d_chain op_le op_lt l_le l_lt d_int (dv 3) (d_cb call_len l_len (by rfl) T.b_len (by decide +kernel) (a_cons (dv 0) a_nil))) (d_and (d_cmp op_notIn_seq (l_in true) (d_ix (d_ix (dv 0) (dv 3)) d_int) (d_glob (v := .ref (He.ga K "SILENT")) (by rfl) T.g_SILENT (by rfl) T.r_SILENT) (by rfl)) (d_and (C_is_number.p hg hr (a_cons (dv 4) (a_cons (dv 2) a_nil))) (d_one (C_is_number.p hg hr (a_cons (dv 5) (a_cons (dv 2) a_nil)))))))))))), wp_is_stand⟩), T.m_is_stand, F.kp, F.bindsN fun _ _ _ _ _ _ us hl => match us, hl with | [_, _, _], _ => rfl⟩
theorem sc_look_stand : FnScope ["text", "thing", "base"] ["text", "thing", "base"] (defScope (top 12)) := ⟨rfl, rfl, rfl, by decide +kernel, rfl, by decide +kernel, by decide +kernel⟩
theorem ok_look_stand {P : Program} {w : World} {K : PySem.W.Frag} {mg : Str → Option Value} {base : Heap} (T : Txt K mg) : ∃ f fd, Cal P w K mg base "look_stand" 4 ["text", "thing", "base"] (spP K wf_look_stand) f fd := by
  obtain ⟨f_is_stand, fd_is_stand, C_is_stand⟩ := ok_is_stand (P := P) (w := w) (base := base) T
  obtain ⟨fd, F⟩ := T.f_look_stand
  exact ⟨_, fd, pureOk (k := 3) F sc_look_stand wl_look_stand (fun cdv A outer s H hg hr => ⟨_, w_look_stand,
    (b_one (s_if (c_not (c_val (C_is_stand.p hg hr (a_cons (dv 0) (a_cons (dv 1) (a_cons (dv 2) a_nil)))))) (b_one s_never) b_nil)), wp_look_stand⟩), T.m_look_stand, F.kp, F.bindsN fun _ _ _ _ _ _ us hl => match us, hl with | [_, _, _], _ => rfl⟩
theorem sc_deed_at : FnScope ["text", "stand", "base", "row", "x", "y", "word", "items"] ["text", "stand", "base"] (defScope (top 13)) := ⟨rfl, rfl, rfl, by decide +kernel, rfl, by decide +kernel, by decide +kernel⟩
theorem ok_deed_at {P : Program} {w : World} {K : PySem.W.Frag} {mg : Str → Option Value} {base : Heap} (T : Txt K mg) : ∃ f fd, Cal P w K mg base "deed_at" 3 ["text", "stand", "base"] (spP K wf_deed_at) f fd := by
  obtain ⟨f_value_of, fd_value_of, C_value_of⟩ := ok_value_of (P := P) (w := w) (base := base) T
  obtain ⟨fd, F⟩ := T.f_deed_at
  exact ⟨_, fd, pureOk (k := 2) F sc_deed_at wl_deed_at (fun cdv A outer s H hg hr => ⟨_, w_deed_at,
    (b_cons (s_asg (dv 1) (g_tup rfl (gs_cons (g_name (i := 3) sc_deed_at.nd rfl (by first | exact Or.inl rfl | exact Or.inr rfl)) (gs_cons (g_name (i := 4) sc_deed_at.nd rfl (by first | exact Or.inl rfl | exact Or.inr rfl)) (gs_cons (g_name (i := 5) sc_deed_at.nd rfl (by first | exact Or.inl rfl | exact Or.inr rfl)) gs_nil)))))
      (b_cons (s_if (c_cmp (op_eqA hr.units) l_eq (dv 1) (d_glob (v := .ref (He.ga K "MUTE")) (by rfl) T.g_MUTE (by rfl) T.r_MUTE) (nomark _)) (b_one (s_ret (d_tup (a_cons d_str a_nil)))) b_nil)
      (b_cons (s_if (c_cmp (op_eqA hr.units) l_eq (dv 3) (d_cb call_len l_len (by rfl) T.b_len (by decide +kernel) (a_cons (dv 0) a_nil)) (nomark _)) (b_one (s_ret (d_tup (a_cons d_str (a_cons d_int a_nil))))) b_nil)
      (b_cons (s_asg (d_ix (dv 0) (dv 3)) (g_star (gs_cons (g_name (i := 6) sc_deed_at.nd rfl (by first | exact Or.inl rfl | exact Or.inr rfl)) (gs_star (g_name (i := 7) sc_deed_at.nd rfl (by first | exact Or.inl rfl | exact Or.inr rfl)) gs_nil))))
      (b_cons (s_if (c_cmp (op_eqA hr.units) l_eq (dv 6) d_str (nomark _)) (b_one (s_ret (d_tup (a_cons (dv 6) a_nil)))) b_nil)
      (b_cons (s_if (c_cmp (op_eqA hr.units) l_eq (dv 6) d_str (nomark _)) (b_one (s_ret (d_tup (a_cons (dv 6) (a_cons (d_ix (dv 7) d_int) a_nil))))) b_nil)
      (b_cons (s_if (c_cmp (op_eqA hr.units) l_eq (dv 6) d_str (nomark _)) (b_one (s_ret (d_tup (a_cons (dv 6) (a_cons (d_ix (dv 7) d_int) (a_cons (C_value_of.p hg hr (a_cons (d_ix (dv 7) d_int) (a_cons (dv 4) (a_cons (dv 5) (a_cons (dv 2) a_nil))))) a_nil)))))) b_nil)
      (b_cons (s_if (c_cmp (op_eqA hr.units) l_eq (dv 6) d_str (nomark _)) (b_one (s_ret (d_tup (a_cons (dv 6) (a_cons (d_ix (dv 7) d_int) (a_cons (C_value_of.p hg hr (a_cons (d_ix (dv 7) d_int) (a_cons (dv 4) (a_cons (dv 5) (a_cons (dv 2) a_nil))))) a_nil)))))) b_nil)
      (b_one (s_ret (d_tup (a_cons (dv 6) (a_cons (C_value_of.p hg hr (a_cons (d_ix (dv 7) d_int) (a_cons (dv 4) (a_cons (dv 5) (a_cons (dv 2) a_nil))))) a_nil))))))))))))), wp_deed_at⟩), T.m_deed_at, F.kp, F.bindsN fun _ _ _ _ _ _ us hl => match us, hl with | [_, _, _], _ => rfl⟩
theorem sc_deed_of : FnScope ["text", "stand", "base"] ["text", "stand", "base"] (defScope (top 14)) := ⟨rfl, rfl, rfl, by decide +kernel, rfl, by decide +kernel, by decide +kernel⟩
theorem ok_deed_of {P : Program} {w : World} {K : PySem.W.Frag} {mg : Str → Option Value} {base : Heap} (T : Txt K mg) : ∃ f fd, CalK P w K mg base "deed_of" 5 2 ["text", "stand", "base"] ["base"] [(.int 3)] (spP K wf_deed_of) f fd := by
  obtain ⟨f_look_stand, fd_look_stand, C_look_stand⟩ := ok_look_stand (P := P) (w := w) (base := base) T
  obtain ⟨f_deed_at, fd_deed_at, C_deed_at⟩ := ok_deed_at (P := P) (w := w) (base := base) T
  obtain ⟨fd, F⟩ := T.f_deed_of
  exact ⟨_, fd, pureOk (k := 4) F sc_deed_of wl_deed_of (fun cdv A outer s H hg hr => ⟨_, w_deed_of,
    (b_cons (s_expr (C_look_stand.p hg hr (a_cons (dv 0) (a_cons (dv 1) (a_cons (dv 2) a_nil)))))
      (b_one (s_ret (C_deed_at.p hg (hr.mono (by decide : 3 ≤ 4)) (a_cons (dv 0) (a_cons (dv 1) (a_cons (dv 2) a_nil))))))), wp_deed_of⟩), T.m_deed_of, F.kp, kbn_of F fun _ _ _ _ _ _ us ws hl hw => match us, hl, ws, hw with | [_, _], _, [_], _ => rfl, F.binds0 (ps := ["text", "stand", "base"]) 2 (by decide) rfl fun D doc pm an cdv ct us ks hl hk => match us, hl, ks, hk with | [_, _], _, [_], _ => ⟨_, _, _, _, _, _, rfl, rfl, rfl⟩⟩
theorem sc_branch_count : FnScope ["deed", "base"] ["deed", "base"] (defScope (top 15)) := ⟨rfl, rfl, rfl, by decide +kernel, rfl, by decide +kernel, by decide +kernel⟩
theorem ok_branch_count {P : Program} {w : World} {K : PySem.W.Frag} {mg : Str → Option Value} {base : Heap} (T : Txt K mg) : ∃ f fd, CalK P w K mg base "branch_count" 1 1 ["deed", "base"] ["base"] [(.int 3)] (spP K wf_branch_count) f fd := by
  obtain ⟨fd, F⟩ := T.f_branch_count
  exact ⟨_, fd, pureOk (k := 0) F sc_branch_count wl_branch_count (fun cdv A outer s H hg hr => ⟨_, w_branch_count,
    (b_cons (s_if (c_cmp op_in_seq (l_in false) (d_ix (dv 0) d_int) (d_glob (v := .ref (He.ga K "RECEIVING")) (by rfl) T.g_RECEIVING (by rfl) T.r_RECEIVING) (by rfl)) (b_one (s_ret (dv 1))) b_nil)
      (b_one (s_ret (d_if (c_cmp op_in_seq (l_in false) (d_ix (dv 0) d_int) (d_glob (v := .ref (He.ga K "TELLING")) (by rfl) T.g_TELLING (by rfl) T.r_TELLING) (by rfl)) d_int d_int)))), wp_branch_count⟩), T.m_branch_count, F.kp, kbn_of F fun _ _ _ _ _ _ us ws hl hw => match us, hl, ws, hw with | [_], _, [_], _ => rfl, F.binds0 (ps := ["deed", "base"]) 1 (by decide) rfl fun D doc pm an cdv ct us ks hl hk => match us, hl, ks, hk with | [_], _, [_], _ => ⟨_, _, _, _, _, _, rfl, rfl, rfl⟩⟩
theorem sc__law_bag : FnScope ["_law_script", "_law_at", "_law_cell", "_law_digits"] ["_law_script", "_law_at"] (defScope (top 17)) := ⟨rfl, rfl, rfl, by decide +kernel, rfl, by decide +kernel, by decide +kernel⟩
theorem ok__law_bag {P : Program} {w : World} {K : PySem.W.Frag} {mg : Str → Option Value} {base : Heap} (T : Txt K mg) : ∃ f fd, Cal P w K mg base "_law_bag" 1 ["_law_script", "_law_at"] (spL K wf__law_bag) f fd := by
  obtain ⟨fd, F⟩ := T.f__law_bag
  exact ⟨_, fd, freshOk (k := 0) F sc__law_bag wl__law_bag (fun cdv A outer s H hg hr => ⟨_, w__law_bag,
    (b_cons (s_set (i := 2) sc__law_bag.nd (d_if (c_cmp op_lt l_lt (dv 1) (d_cb call_len l_len (by rfl) T.b_len (by decide +kernel) (a_cons (dv 0) a_nil)) (nomark _)) (d_ix (dv 0) (dv 1)) d_int))
      (b_cons (s_set (i := 3) sc__law_bag.nd (d_if (c_cmp op_ge l_ge (d_cb call_abs l_abs (by rfl) T.b_abs (by decide +kernel) (a_cons (dv 2) a_nil)) (d_op op_pow l_pow d_int d_int) (nomark _)) (d_cb call_abs l_abs (by rfl) T.b_abs (by decide +kernel) (a_cons (dv 2) a_nil)) d_int))
      (b_one (s_retL (l_lst (a_cons (dv 3) (a_cons (d_op op_mod l_mod (d_op op_mul l_mul (d_op op_addA l_add (d_op op_addA l_add (d_op op_mod l_mod (dv 2) d_int) (d_op op_mul l_mul d_int (dv 1))) d_int) d_int) d_int) (a_cons d_int a_nil)))))))), wp__law_bag⟩), T.m__law_bag, F.kp, F.bindsN fun _ _ _ _ _ _ us hl => match us, hl with | [_, _], _ => rfl⟩
theorem sc__law_take : FnScope ["_law_bag_here", "_law_many", "_law_mixed", "_law_digit"] ["_law_bag_here", "_law_many"] (defScope (top 18)) := ⟨rfl, rfl, rfl, by decide +kernel, rfl, by decide +kernel, by decide +kernel⟩
theorem ok__law_take {P : Program} {w : World} {K : PySem.W.Frag} {mg : Str → Option Value} {base : Heap} (T : Txt K mg) : ∃ f fd, Cal P w K mg base "_law_take" 1 ["_law_bag_here", "_law_many"] (spB K wf__law_take) f fd := by
  obtain ⟨fd, F⟩ := T.f__law_take
  exact ⟨_, fd, bagOk (k := 0) F sc__law_take wl__law_take (fun cdv A outer s H hg hr => ⟨_, w__law_take,
    (b_cons (s_if (c_cmp op_gt l_gt (d_ixO 0 d_int) d_int (nomark _)) (b_cons (s_set (i := 3) sc__law_take.nd (d_op op_mod l_mod (d_ixO 0 d_int) (dv 1)))
      (b_cons (s_putI 0 (d_op op_fdiv l_div (d_ixO 0 d_int) (dv 1)))
      (b_one (s_ret (dv 3))))) b_nil)
      (b_cons (s_putI 0 (d_op op_addA l_add (d_ixO 0 d_int) d_int))
      (b_cons (s_set (i := 2) sc__law_take.nd (d_op op_mod l_mod (d_op op_pow l_pow (d_op op_addA l_add (d_ixO 0 d_int) (d_op op_mul l_mul d_int (d_ixO 0 d_int))) d_int) d_int))
      (b_cons (s_set (i := 2) sc__law_take.nd (d_op op_mod l_mod (d_op op_pow l_pow (d_op op_addA l_add (dv 2) (d_op op_mul l_mul d_int (d_ixO 0 d_int))) d_int) d_int))
      (b_one (s_ret (d_op op_mod l_mod (d_op op_fdiv l_div (dv 2) d_int) (dv 1)))))))), wp__law_take⟩), T.m__law_take, F.kp, F.bindsN fun _ _ _ _ _ _ us hl => match us, hl with | [_, _], _ => rfl⟩
theorem sc__law_names : FnScope ["_law_bag_here", "_law_letters", "_law_found", "_law_k", "_law_many", "_law_name", "_law_j"] ["_law_bag_here"] (defScope (top 19)) := ⟨rfl, rfl, rfl, by decide +kernel, rfl, by decide +kernel, by decide +kernel⟩
theorem ok__law_names {P : Program} {w : World} {K : PySem.W.Frag} {mg : Str → Option Value} {base : Heap} (T : Txt K mg) : ∃ f fd, Cal P w K mg base "_law_names" 2 ["_law_bag_here"] (spB K wf__law_names) f fd := by
  obtain ⟨f__law_take, fd__law_take, C__law_take⟩ := ok__law_take (P := P) (w := w) (base := base) T
  obtain ⟨fd, F⟩ := T.f__law_names
  exact ⟨_, fd, bagOk (k := 1) F sc__law_names wl__law_names (fun cdv A outer s H hg hr => ⟨_, w__law_names,
    (b_cons (s_tupDO (i := 1) (j := 2) sc__law_names.nd d_str (l_lst a_nil))
      (b_cons (s_for PassesOwn.never (i_rng1 T.b_range (a_cons (d_op op_addA l_add d_int (C__law_take.b 0 hg hr (a_cons d_int a_nil))) a_nil)) (g_name (i := 3) sc__law_names.nd rfl (by first | exact Or.inl rfl | exact Or.inr rfl)) (b_cons (s_set (i := 4) sc__law_names.nd (d_ix (d_lst (a_cons d_int (a_cons d_int (a_cons d_int (a_cons d_int (a_cons d_int a_nil)))))) (C__law_take.b 0 hg hr (a_cons d_int a_nil))))
      (b_cons (s_set (i := 5) sc__law_names.nd (d_join d_str (PLd.ee (d_comp [("_law_j", 6)] sc__law_names.nd (blkOk_by (N := ["_law_bag_here", "_law_letters", "_law_found", "_law_k", "_law_many", "_law_name", "_law_j"]) (sc := defScope (top 19)) (by decide +kernel)) turns1 (i_rng1 T.b_range (a_cons (dv 4) a_nil)) (fun _ _ _ _ _ => (q_name (i := 6) sc__law_names.nd)) (fun _ _ _ _ _ => ts_nil) (fun _ _ _ _ _ => (kt_last (d_ix (dv 1) (C__law_take.b 0 hg hr (a_cons d_int a_nil)))))))))
      (b_one (s_if (c_cmpL op_notIn_seq (l_in true) (dv 5) (dv 2) (by rfl)) (b_one (s_app 2 (dv 5))) b_nil)))))
      (b_one (s_retO 2)))), wp__law_names⟩), T.m__law_names, F.kp, F.bindsN fun _ _ _ _ _ _ us hl => match us, hl with | [_], _ => rfl⟩
theorem sc__law_operand : FnScope ["_law_bag_here", "_law_radix", "_law_number"] ["_law_bag_here", "_law_radix"] (defScope (top 20)) := ⟨rfl, rfl, rfl, by decide +kernel, rfl, by decide +kernel, by decide +kernel⟩
theorem ok__law_operand {P : Program} {w : World} {K : PySem.W.Frag} {mg : Str → Option Value} {base : Heap} (T : Txt K mg) : ∃ f fd, Cal P w K mg base "_law_operand" 2 ["_law_bag_here", "_law_radix"] (spB K wf__law_operand) f fd := by
  obtain ⟨f__law_take, fd__law_take, C__law_take⟩ := ok__law_take (P := P) (w := w) (base := base) T
  obtain ⟨fd, F⟩ := T.f__law_operand
  exact ⟨_, fd, bagOk (k := 1) F sc__law_operand wl__law_operand (fun cdv A outer s H hg hr => ⟨_, w__law_operand,
    (b_cons (s_set (i := 2) sc__law_operand.nd (C__law_take.b 0 hg hr (a_cons (dv 1) a_nil)))
      (b_one (s_ret (d_ix (d_lst (a_cons d_str (a_cons d_str (a_cons (dv 2) a_nil)))) (C__law_take.b 0 hg hr (a_cons d_int a_nil)))))), wp__law_operand⟩), T.m__law_operand, F.kp, F.bindsN fun _ _ _ _ _ _ us hl => match us, hl with | [_, _], _ => rfl⟩
theorem sc__law_expression : FnScope ["_law_bag_here", "_law_radix", "_law_left", "_law_right", "_law_sign"] ["_law_bag_here", "_law_radix"] (defScope (top 21)) := ⟨rfl, rfl, rfl, by decide +kernel, rfl, by decide +kernel, by decide +kernel⟩
theorem ok__law_expression {P : Program} {w : World} {K : PySem.W.Frag} {mg : Str → Option Value} {base : Heap} (T : Txt K mg) : ∃ f fd, Cal P w K mg base "_law_expression" 3 ["_law_bag_here", "_law_radix"] (spB K wf__law_expression) f fd := by
  obtain ⟨f__law_operand, fd__law_operand, C__law_operand⟩ := ok__law_operand (P := P) (w := w) (base := base) T
  obtain ⟨f__law_take, fd__law_take, C__law_take⟩ := ok__law_take (P := P) (w := w) (base := base) T
  obtain ⟨fd, F⟩ := T.f__law_expression
  exact ⟨_, fd, bagOk (k := 2) F sc__law_expression wl__law_expression (fun cdv A outer s H hg hr => ⟨_, w__law_expression,
    (b_cons (s_par (i := 2) (j := 3) sc__law_expression.nd (a_cons (C__law_operand.b 0 hg hr (a_cons (dv 1) a_nil)) (a_cons (C__law_operand.b 0 hg hr (a_cons (dv 1) a_nil)) a_nil)))
      (b_cons (s_set (i := 4) sc__law_expression.nd (d_ix (d_lst (a_cons d_str (a_cons d_str (a_cons d_str a_nil)))) (C__law_take.b 0 hg (hr.mono (by decide : 1 ≤ 2)) (a_cons d_int a_nil))))
      (b_one (s_ret (d_ix (d_lst (a_cons (dv 2) (a_cons (dv 2) (a_cons (d_tup (a_cons (dv 4) (a_cons (dv 2) (a_cons (dv 3) a_nil)))) a_nil)))) (C__law_take.b 0 hg (hr.mono (by decide : 1 ≤ 2)) (a_cons d_int a_nil))))))), wp__law_expression⟩), T.m__law_expression, F.kp, F.bindsN fun _ _ _ _ _ _ us hl => match us, hl with | [_, _], _ => rfl⟩
theorem sc__law_row : FnScope ["_law_bag_here", "_law_radix", "_law_many", "_law_names_here", "_law_one", "_law_other", "_law_variable", "_law_name", "_law_goal", "_law_cell", "_law_some"] ["_law_bag_here", "_law_radix", "_law_many", "_law_names_here"] (defScope (top 22)) := ⟨rfl, rfl, rfl, by decide +kernel, rfl, by decide +kernel, by decide +kernel⟩
theorem ok__law_row {P : Program} {w : World} {K : PySem.W.Frag} {mg : Str → Option Value} {base : Heap} (T : Txt K mg) : ∃ f fd, Cal P w K mg base "_law_row" 4 ["_law_bag_here", "_law_radix", "_law_many", "_law_names_here"] (spB K wf__law_row) f fd := by
  obtain ⟨f__law_expression, fd__law_expression, C__law_expression⟩ := ok__law_expression (P := P) (w := w) (base := base) T
  obtain ⟨f__law_take, fd__law_take, C__law_take⟩ := ok__law_take (P := P) (w := w) (base := base) T
  obtain ⟨fd, F⟩ := T.f__law_row
  exact ⟨_, fd, bagOk (k := 3) F sc__law_row wl__law_row (fun cdv A outer s H hg hr => ⟨_, w__law_row,
    (b_cons (s_par (i := 4) (j := 5) sc__law_row.nd (a_cons (C__law_expression.b 0 hg hr (a_cons (dv 1) a_nil)) (a_cons (C__law_expression.b 0 hg hr (a_cons (dv 1) a_nil)) a_nil)))
      (b_cons (s_par (i := 6) (j := 7) sc__law_row.nd (a_cons (d_ix (d_lst (a_cons d_str (a_cons d_str a_nil))) (C__law_take.b 0 hg (hr.mono (by decide : 1 ≤ 3)) (a_cons d_int a_nil))) (a_cons (d_ix (dv 3) (C__law_take.b 0 hg (hr.mono (by decide : 1 ≤ 3)) (a_cons (d_cb call_len l_len (by rfl) T.b_len (by decide +kernel) (a_cons (dv 3) a_nil)) a_nil))) a_nil)))
      (b_cons (s_par (i := 8) (j := 9) sc__law_row.nd (a_cons (C__law_take.b 0 hg (hr.mono (by decide : 1 ≤ 3)) (a_cons (d_op op_addA l_add (dv 2) d_int) a_nil)) (a_cons (C__law_take.b 0 hg (hr.mono (by decide : 1 ≤ 3)) (a_cons d_int a_nil)) a_nil)))
      (b_cons (s_set (i := 10) sc__law_row.nd (d_lst (a_cons (d_tup (a_cons d_str (a_cons (dv 4) a_nil))) (a_cons (d_tup (a_cons d_str (a_cons (dv 6) a_nil))) (a_cons (d_tup (a_cons d_str (a_cons (dv 4) a_nil))) (a_cons (d_tup (a_cons d_str (a_cons (dv 6) a_nil))) (a_cons (d_tup (a_cons d_str (a_cons (dv 6) (a_cons (dv 4) a_nil)))) a_nil)))))))
      (b_cons (s_set (i := 10) sc__law_row.nd (d_op op_addA l_add (dv 10) (d_lst (a_cons (d_tup (a_cons d_str (a_cons (dv 4) (a_cons (dv 5) (a_cons (dv 8) a_nil))))) (a_cons (d_tup (a_cons d_str (a_cons (dv 9) (a_cons (dv 6) a_nil)))) (a_cons (d_tup (a_cons d_str (a_cons (dv 9) (a_cons (dv 4) a_nil)))) (a_cons (d_tup (a_cons d_str (a_cons (dv 8) a_nil))) a_nil)))))))
      (b_one (s_ret (d_ix (d_op op_addA l_add (dv 10) (d_lst (a_cons (d_tup (a_cons d_str (a_cons (dv 7) (a_cons (dv 4) (a_cons (dv 6) a_nil))))) (a_cons (d_tup (a_cons d_str (a_cons (dv 4) a_nil))) (a_cons (d_tup (a_cons d_str (a_cons (dv 4) (a_cons (dv 5) (a_cons (dv 8) a_nil))))) a_nil))))) (C__law_take.b 0 hg (hr.mono (by decide : 1 ≤ 3)) (a_cons d_int a_nil)))))))))), wp__law_row⟩), T.m__law_row, F.kp, F.bindsN fun _ _ _ _ _ _ us hl => match us, hl with | [_, _, _, _], _ => rfl⟩
theorem sc__law_text : FnScope ["_law_bag_here", "_law_radix", "_law_most", "_law_names_here", "_law_many", "_law_k"] ["_law_bag_here", "_law_radix", "_law_most", "_law_names_here"] (defScope (top 23)) := ⟨rfl, rfl, rfl, by decide +kernel, rfl, by decide +kernel, by decide +kernel⟩
theorem ok__law_text {P : Program} {w : World} {K : PySem.W.Frag} {mg : Str → Option Value} {base : Heap} (T : Txt K mg) : ∃ f fd, Cal P w K mg base "_law_text" 5 ["_law_bag_here", "_law_radix", "_law_most", "_law_names_here"] (spB K wf__law_text) f fd := by
  obtain ⟨f__law_take, fd__law_take, C__law_take⟩ := ok__law_take (P := P) (w := w) (base := base) T
  obtain ⟨f__law_row, fd__law_row, C__law_row⟩ := ok__law_row (P := P) (w := w) (base := base) T
  obtain ⟨fd, F⟩ := T.f__law_text
  exact ⟨_, fd, bagOk (k := 4) F sc__law_text wl__law_text (fun cdv A outer s H hg hr => ⟨_, w__law_text,
    (b_cons (s_set (i := 4) sc__law_text.nd (C__law_take.b 0 hg (hr.mono (by decide : 1 ≤ 4)) (a_cons (d_op op_addA l_add (dv 2) d_int) a_nil)))
      (b_one (s_ret (d_cty call_tuple_of l_tuple (by rfl) T.b_tuple (by decide +kernel) (a_cons (PLd.ee (d_comp [("_law_k", 5)] sc__law_text.nd (blkOk_by (N := ["_law_bag_here", "_law_radix", "_law_most", "_law_names_here", "_law_many", "_law_k"]) (sc := defScope (top 23)) (by decide +kernel)) turns1 (i_rng1 T.b_range (a_cons (dv 4) a_nil)) (fun _ _ _ _ _ => (q_name (i := 5) sc__law_text.nd)) (fun _ _ _ _ _ => ts_nil) (fun _ _ _ _ _ => (kt_last (C__law_row.b 0 hg hr (a_cons (dv 1) (a_cons (dv 4) (a_cons (dv 3) a_nil)))))))) a_nil))))), wp__law_text⟩), T.m__law_text, F.kp, F.bindsN fun _ _ _ _ _ _ us hl => match us, hl with | [_, _, _, _], _ => rfl⟩
theorem sc__law_value_v0 : FnScope ["_law_one", "_law_x", "_law_y", "_law_radix", "_law_left", "_law_right"] ["_law_one", "_law_x", "_law_y", "_law_radix"] (defScope (top 24)) := ⟨rfl, rfl, rfl, by decide +kernel, rfl, by decide +kernel, by decide +kernel⟩
theorem ok__law_value_v0 {P : Program} {w : World} {K : PySem.W.Frag} {mg : Str → Option Value} {base : Heap} (T : Txt K mg) : ∃ f fd, Cal P w K mg base "_law_value" 1 ["_law_one", "_law_x", "_law_y", "_law_radix"] (spP K wf__law_value_v0) f fd := by
  obtain ⟨fd, F⟩ := T.f__law_value
  exact ⟨_, fd, pureOk (k := 0) F sc__law_value_v0 wl__law_value_v0 (fun cdv A outer s H hg hr => ⟨_, w__law_value_v0,
    (b_cons (s_if (c_val (d_isi T.b_isinstance T.b_str (by decide +kernel) (dv 0))) (b_one (s_ret (d_if (c_cmp (op_eqA hr.units) l_eq (dv 0) d_str (nomark _)) (dv 1) (dv 2)))) b_nil)
      (b_cons (s_if (c_not (c_val (d_isi T.b_isinstance T.b_tuple (by decide +kernel) (dv 0)))) (b_one (s_ret (dv 0))) b_nil)
      b_never)), wp__law_value_v0⟩), T.m__law_value, F.kp, F.bindsN fun _ _ _ _ _ _ us hl => match us, hl with | [_, _, _, _], _ => rfl⟩
theorem sc__law_value : FnScope ["_law_one", "_law_x", "_law_y", "_law_radix", "_law_left", "_law_right"] ["_law_one", "_law_x", "_law_y", "_law_radix"] (defScope (top 24)) := ⟨rfl, rfl, rfl, by decide +kernel, rfl, by decide +kernel, by decide +kernel⟩
theorem ok__law_value {P : Program} {w : World} {K : PySem.W.Frag} {mg : Str → Option Value} {base : Heap} (T : Txt K mg) : ∃ f fd, Cal P w K mg base "_law_value" 2 ["_law_one", "_law_x", "_law_y", "_law_radix"] (spP K wf__law_value) f fd := by
  obtain ⟨f__law_value_v0, fd__law_value_v0, C__law_value_v0⟩ := ok__law_value_v0 (P := P) (w := w) (base := base) T
  obtain ⟨fd, F⟩ := T.f__law_value
  exact ⟨_, fd, pureOk (k := 1) F sc__law_value wl__law_value (fun cdv A outer s H hg hr => ⟨_, w__law_value,
    (b_cons (s_if (c_val (d_isi T.b_isinstance T.b_str (by decide +kernel) (dv 0))) (b_one (s_ret (d_if (c_cmp (op_eqA hr.units) l_eq (dv 0) d_str (nomark _)) (dv 1) (dv 2)))) b_nil)
      (b_cons (s_if (c_not (c_val (d_isi T.b_isinstance T.b_tuple (by decide +kernel) (dv 0)))) (b_one (s_ret (dv 0))) b_nil)
      (b_cons (s_par (i := 4) (j := 5) sc__law_value.nd (a_cons (C__law_value_v0.p hg hr (a_cons (d_ix (dv 0) d_int) (a_cons (dv 1) (a_cons (dv 2) (a_cons (dv 3) a_nil))))) (a_cons (C__law_value_v0.p hg hr (a_cons (d_ix (dv 0) d_int) (a_cons (dv 1) (a_cons (dv 2) (a_cons (dv 3) a_nil))))) a_nil)))
      (b_one (s_ret (d_op op_mod l_mod (d_dispIx (hu_of hr) (.cons (d_op op_addA l_add (dv 4) (dv 5)) (.cons (d_op op_sub l_sub (dv 4) (dv 5)) (.cons (d_op op_mul l_mul (dv 4) (dv 5)) .nil))) (d_ix (dv 0) d_int)) (dv 3))))))), wp__law_value⟩), T.m__law_value, F.kp, F.bindsN fun _ _ _ _ _ _ us hl => match us, hl with | [_, _, _, _], _ => rfl⟩
theorem sc__law_deed : FnScope ["_law_rows", "_law_stand", "_law_radix", "_law_at", "_law_x", "_law_y", "_law_row_here"] ["_law_rows", "_law_stand", "_law_radix"] (defScope (top 25)) := ⟨rfl, rfl, rfl, by decide +kernel, rfl, by decide +kernel, by decide +kernel⟩
theorem ok__law_deed {P : Program} {w : World} {K : PySem.W.Frag} {mg : Str → Option Value} {base : Heap} (T : Txt K mg) : ∃ f fd, Cal P w K mg base "_law_deed" 3 ["_law_rows", "_law_stand", "_law_radix"] (spP K wf__law_deed) f fd := by
  obtain ⟨f__law_value, fd__law_value, C__law_value⟩ := ok__law_value (P := P) (w := w) (base := base) T
  obtain ⟨fd, F⟩ := T.f__law_deed
  exact ⟨_, fd, pureOk (k := 2) F sc__law_deed wl__law_deed (fun cdv A outer s H hg hr => ⟨_, w__law_deed,
    (b_cons (s_asg (dv 1) (g_tup rfl (gs_cons (g_name (i := 3) sc__law_deed.nd rfl (by first | exact Or.inl rfl | exact Or.inr rfl)) (gs_cons (g_name (i := 4) sc__law_deed.nd rfl (by first | exact Or.inl rfl | exact Or.inr rfl)) (gs_cons (g_name (i := 5) sc__law_deed.nd rfl (by first | exact Or.inl rfl | exact Or.inr rfl)) gs_nil)))))
      (b_cons (s_if (c_w (c_or (c_cmp (op_eqA hr.units) l_eq (dv 3) (d_neg d_int) (nomark _)) (c_or1 (c_cmp (op_eqA hr.units) l_eq (dv 3) (d_cb call_len l_len (by rfl) T.b_len (by decide +kernel) (a_cons (dv 0) a_nil)) (nomark _))))) (b_one (s_ret (d_if (c_cmp (op_eqA hr.units) l_eq (dv 3) (d_neg d_int) (nomark _)) (d_tup (a_cons d_str a_nil)) (d_tup (a_cons d_str (a_cons d_int a_nil)))))) b_nil)
      (b_cons (s_set (i := 6) sc__law_deed.nd (d_ix (dv 0) (dv 3)))
      (b_cons (s_if (c_cmp op_in_seq (l_in false) (d_ix (dv 6) d_int) (d_tup (a_cons d_str (a_cons d_str a_nil))) (by rfl)) (b_one (s_ret (d_slice (dv 6) o_none (o_some (d_neg d_int))))) b_nil)
      (b_cons (s_if (c_cmp op_in_seq (l_in false) (d_ix (dv 6) d_int) (d_tup (a_cons d_str (a_cons d_str a_nil))) (by rfl)) (b_one (s_ret (d_tup (a_cons (d_ix (dv 6) d_int) (a_cons (d_ix (dv 6) d_int) (a_cons (C__law_value.p hg hr (a_cons (d_ix (dv 6) d_int) (a_cons (dv 4) (a_cons (dv 5) (a_cons (dv 2) a_nil))))) a_nil)))))) b_nil)
      (b_one (s_ret (d_tup (a_cons (d_ix (dv 6) d_int) (a_cons (C__law_value.p hg hr (a_cons (d_ix (dv 6) d_int) (a_cons (dv 4) (a_cons (dv 5) (a_cons (dv 2) a_nil))))) a_nil)))))))))), wp__law_deed⟩), T.m__law_deed, F.kp, F.bindsN fun _ _ _ _ _ _ us hl => match us, hl with | [_, _, _], _ => rfl⟩
theorem sc__law_count : FnScope ["_law_rows", "_law_stand", "_law_radix"] ["_law_rows", "_law_stand", "_law_radix"] (defScope (top 26)) := ⟨rfl, rfl, rfl, by decide +kernel, rfl, by decide +kernel, by decide +kernel⟩
theorem ok__law_count {P : Program} {w : World} {K : PySem.W.Frag} {mg : Str → Option Value} {base : Heap} (T : Txt K mg) : ∃ f fd, Cal P w K mg base "_law_count" 4 ["_law_rows", "_law_stand", "_law_radix"] (spP K wf__law_count) f fd := by
  obtain ⟨f__law_deed, fd__law_deed, C__law_deed⟩ := ok__law_deed (P := P) (w := w) (base := base) T
  obtain ⟨fd, F⟩ := T.f__law_count
  exact ⟨_, fd, pureOk (k := 3) F sc__law_count wl__law_count (fun cdv A outer s H hg hr => ⟨_, w__law_count,
    (b_one (s_ret (d_dispGet (hu_of hr) (.cons d_int (.cons d_int (.cons d_int (.cons d_int .nil)))) (d_ix (C__law_deed.p hg hr (a_cons (dv 0) (a_cons (dv 1) (a_cons (dv 2) a_nil)))) d_int) (dv 2)))), wp__law_count⟩), T.m__law_count, F.kp, F.bindsN fun _ _ _ _ _ _ us hl => match us, hl with | [_, _, _], _ => rfl⟩
theorem sc__law_stands : FnScope ["_law_rows", "_law_radix", "_law_found", "_law_at", "_law_k"] ["_law_rows", "_law_radix"] (defScope (top 27)) := ⟨rfl, rfl, rfl, by decide +kernel, rfl, by decide +kernel, by decide +kernel⟩
theorem ok__law_stands {P : Program} {w : World} {K : PySem.W.Frag} {mg : Str → Option Value} {base : Heap} (T : Txt K mg) : ∃ f fd, Cal P w K mg base "_law_stands" 1 ["_law_rows", "_law_radix"] (spL K wf__law_stands) f fd := by
  obtain ⟨fd, F⟩ := T.f__law_stands
  exact ⟨_, fd, freshOk (k := 0) F sc__law_stands wl__law_stands (fun cdv A outer s H hg hr => ⟨_, w__law_stands,
    (b_cons (s_own (k := 2) sc__law_stands.nd a_nil)
      (b_cons (s_for PassesOwn.never (i_rng1 T.b_range (a_cons (d_op op_addA l_add (d_cb call_len l_len (by rfl) T.b_len (by decide +kernel) (a_cons (dv 0) a_nil)) d_int) a_nil)) (g_name (i := 3) sc__law_stands.nd rfl (by first | exact Or.inl rfl | exact Or.inr rfl)) (b_one (s_if (c_w (c_or (c_cmp (op_eqA hr.units) l_eq (dv 3) (d_cb call_len l_len (by rfl) T.b_len (by decide +kernel) (a_cons (dv 0) a_nil)) (nomark _)) (c_or1 (c_cmp op_notIn_seq (l_in true) (d_ix (d_ix (dv 0) (dv 3)) d_int) (d_tup (a_cons d_str (a_cons d_str (a_cons d_str a_nil)))) (by rfl))))) (b_one (s_ext 2 (PLd.ee (d_comp [("_law_k", 4)] sc__law_stands.nd (blkOk_by (N := ["_law_rows", "_law_radix", "_law_found", "_law_at", "_law_k"]) (sc := defScope (top 27)) (by decide +kernel)) turns1 (i_rng1 T.b_range (a_cons (d_op op_mul l_mul (dv 1) (dv 1)) a_nil)) (fun _ _ _ _ _ => (q_name (i := 4) sc__law_stands.nd)) (fun _ _ _ _ _ => ts_nil) (fun _ _ _ _ _ => (kt_last (d_tup (a_cons (dv 3) (a_cons (d_op op_fdiv l_div (dv 4) (dv 1)) (a_cons (d_op op_mod l_mod (dv 4) (dv 1)) a_nil)))))))))) b_nil)))
      (b_one (s_retO 2)))), wp__law_stands⟩), T.m__law_stands, F.kp, F.bindsN fun _ _ _ _ _ _ us hl => match us, hl with | [_, _], _ => rfl⟩
theorem sc_law : FnScope ["_law_script", "_law_at", "_law_bag_here", "_law_radix", "_law_names_here", "_law_rows", "_law_place", "_law_due", "_law_found"] ["_law_script"] (defScope (top 28)) := ⟨rfl, rfl, rfl, by decide +kernel, rfl, by decide +kernel, by decide +kernel⟩
theorem ok_law {P : Program} {w : World} {K : PySem.W.Frag} {mg : Str → Option Value} {base : Heap} {fd : FuncData} (T : Txt K mg) (F : FunD K "law" "law" (defArgs (top 28)) (defBody (top 28)) (defScope (top 28)) [] [] (He.fAd K ("law", none)) fd) : FnG P w K mg base 6 (He.fAd K ("law", none)) fd ["_law_script"] (spP K wf_law) := by
  obtain ⟨f__law_bag, fd__law_bag, C__law_bag⟩ := ok__law_bag (P := P) (w := w) (base := base) T
  obtain ⟨f__law_text, fd__law_text, C__law_text⟩ := ok__law_text (P := P) (w := w) (base := base) T
  obtain ⟨f__law_names, fd__law_names, C__law_names⟩ := ok__law_names (P := P) (w := w) (base := base) T
  obtain ⟨f__law_stands, fd__law_stands, C__law_stands⟩ := ok__law_stands (P := P) (w := w) (base := base) T
  obtain ⟨f__law_deed, fd__law_deed, C__law_deed⟩ := ok__law_deed (P := P) (w := w) (base := base) T
  obtain ⟨f_deed_of, fd_deed_of, C_deed_of⟩ := ok_deed_of (P := P) (w := w) (base := base) T
  obtain ⟨f__law_take, fd__law_take, C__law_take⟩ := ok__law_take (P := P) (w := w) (base := base) T
  obtain ⟨f_branch_count, fd_branch_count, C_branch_count⟩ := ok_branch_count (P := P) (w := w) (base := base) T
  obtain ⟨f__law_count, fd__law_count, C__law_count⟩ := ok__law_count (P := P) (w := w) (base := base) T
  exact pureOk (k := 5) F sc_law wl_law (fun cdv A outer s H hg hr => ⟨_, w_law,
    (b_cons (s_for PassesOwn.never (i_rng1 T.b_range (a_cons (d_cb (call_max2 rfl) l_max (by rfl) T.b_max (by decide +kernel) (a_cons d_int (a_cons (d_cb (call_min2 rfl) l_min (by rfl) T.b_min (by decide +kernel) (a_cons d_int (a_cons (d_cb call_len l_len (by rfl) T.b_len (by decide +kernel) (a_cons (dv 0) a_nil)) a_nil))) a_nil))) a_nil)) (g_name (i := 1) sc_law.nd rfl (by first | exact Or.inl rfl | exact Or.inr rfl)) (b_cons (s_take (k := 2) sc_law.nd (C__law_bag.l hg (hr.mono (by decide : 1 ≤ 5)) (a_cons (dv 0) (a_cons (dv 1) a_nil))))
      (b_cons (s_par (i := 3) (j := 4) sc_law.nd (a_cons (d_op op_addA l_add d_int (C__law_take.b 2 hg (hr.mono (by decide : 1 ≤ 5)) (a_cons d_int a_nil))) (a_cons (C__law_names.b 2 hg (hr.mono (by decide : 2 ≤ 5)) a_nil) a_nil)))
      (b_cons (s_set (i := 5) sc_law.nd (C__law_text.b 2 hg hr (a_cons (dv 3) (a_cons (d_ix (d_lst (a_cons d_int (a_cons d_int (a_cons d_int a_nil)))) (C__law_take.b 2 hg (hr.mono (by decide : 1 ≤ 5)) (a_cons d_int a_nil))) (a_cons (dv 4) a_nil)))))
      (b_one (s_for PassesOwn.never (i_list (d_op op_addA l_add (PLd.ee (C__law_stands.l hg (hr.mono (by decide : 1 ≤ 5)) (a_cons (dv 5) (a_cons (dv 3) a_nil)))) (d_lst (a_cons (d_glob (v := .ref (He.ga K "MUTE")) (by rfl) T.g_MUTE (by rfl) T.r_MUTE) a_nil)))) (g_name (i := 6) sc_law.nd rfl (by first | exact Or.inl rfl | exact Or.inr rfl)) (b_cons (s_set (i := 7) sc_law.nd (C__law_deed.p hg (hr.mono (by decide : 3 ≤ 5)) (a_cons (dv 5) (a_cons (dv 6) (a_cons (dv 3) a_nil)))))
      (b_cons (s_set (i := 8) sc_law.nd (C_deed_of.pk hg hr (a_cons (dv 5) (a_cons (dv 6) a_nil)) (k_cons (dv 3) k_nil)))
      (b_cons (s_if (c_cmp (op_neA hr.units) l_ne (d_cb (call_reprD hg (r80 hr)) l_repr (by rfl) T.b_repr (by decide +kernel) (a_cons (dv 8) a_nil)) (d_cb (call_reprD hg (r80 hr)) l_repr (by rfl) T.b_repr (by decide +kernel) (a_cons (dv 7) a_nil)) (nomark _)) (b_one (s_ret d_bl)) b_nil)
      (b_cons (s_if (c_cmp (op_neA hr.units) l_ne (d_cb (call_reprD hg (r80 hr)) l_repr (by rfl) T.b_repr (by decide +kernel) (a_cons (C_branch_count.pk hg (hr.mono (by decide : 1 ≤ 5)) (a_cons (dv 8) a_nil) (k_cons (dv 3) k_nil)) a_nil)) (d_cb (call_reprD hg (r80 hr)) l_repr (by rfl) T.b_repr (by decide +kernel) (a_cons (C__law_count.p hg (hr.mono (by decide : 4 ≤ 5)) (a_cons (dv 5) (a_cons (dv 6) (a_cons (dv 3) a_nil)))) a_nil)) (nomark _)) (b_one (s_ret d_bl)) b_nil)
      (b_cons (s_if (c_w (c_and (c_cmp (op_eqA hr.units) l_eq (dv 3) d_int (nomark _)) (c_and1 (c_cmp (op_neA hr.units) l_ne (C_deed_of.pd (fun _ _ => (.cons (.int 3) .nil)) hg hr (a_cons (dv 5) (a_cons (dv 6) a_nil))) (dv 7) (nomark _))))) (b_one (s_ret d_bl)) b_nil)
      (b_one (s_if (c_w (c_and (c_cmp (op_eqA hr.units) l_eq (dv 3) d_int (nomark _)) (c_and1 (c_cmp (op_neA hr.units) l_ne (C_branch_count.pd (fun _ _ => (.cons (.int 3) .nil)) hg (hr.mono (by decide : 1 ≤ 5)) (a_cons (dv 7) a_nil)) (C__law_count.p hg (hr.mono (by decide : 4 ≤ 5)) (a_cons (dv 5) (a_cons (dv 6) (a_cons d_int a_nil)))) (nomark _))))) (b_one (s_ret d_bl)) b_nil)))))))))))))
      (b_one (s_ret d_bl))), wp_law⟩)
abbrev dd (x : Str) (i : Nat) (kwd : List (Str × He.Dv)) : He.DefD := ⟨(x, none), x, x, defArgs (top i), defBody (top i), defScope (top i), [], kwd⟩
def fn : List He.DefD := [dd "is_whole" 3 [], dd "is_number" 4 [], dd "value_of" 10 [], dd "is_stand" 11 [], dd "look_stand" 12 [], dd "deed_at" 13 [], dd "deed_of" 14 [("base", .int 3)], dd "branch_count" 15 [("base", .int 3)], dd "_law_bag" 17 [], dd "_law_take" 18 [], dd "_law_names" 19 [], dd "_law_operand" 20 [], dd "_law_expression" 21 [], dd "_law_row" 22 [], dd "_law_text" 23 [], dd "_law_value" 24 [], dd "_law_deed" 25 [], dd "_law_count" 26 [], dd "_law_stands" 27 [], dd "law" 28 []]
def fa : List He.Fa := [.glo "MUTE", .glo "RECEIVING", .glo "SILENT", .glo "TELLING", .glo "is_whole", .glo "is_number", .glo "value_of", .glo "is_stand", .glo "look_stand", .glo "deed_at", .glo "deed_of", .glo "branch_count", .glo "_law_bag", .glo "_law_take", .glo "_law_names", .glo "_law_operand", .glo "_law_expression", .glo "_law_row", .glo "_law_text", .glo "_law_value", .glo "_law_deed", .glo "_law_count", .glo "_law_stands", .glo "law", .free "abs", .free "all", .free "bool", .free "int", .free "isinstance", .free "len", .free "max", .free "min", .free "range", .free "repr", .free "str", .free "tuple"]
def ex (K : PySem.W.Frag) : Bool := He.tupB K "MUTE" [.int (-1), .int 0, .int 0] && (He.tupB K "RECEIVING" [.str "ask", .str "read", .str "call"] && (He.tupB K "SILENT" [.str "set", .str "if", .str "go"] && (He.tupB K "TELLING" [.str "say", .str "write"])))
abbrev R : PySem.W.OpenRow := PySem.W.OpenLaw.row PySem.Challenge.rw_callsover_k06_deeds_and_branches
abbrev hk : PySem.W.Hook := He.hookX 4 fa fn [] [] ex
def ob (s : PySem.W.SharedT) : He.AlX := He.obsX 4 fa fn [] [] ex (HandSHeadRun.getT s)
theorem ob_eq (s : PySem.W.SharedT) : ob s = hk.obs s.abs := He.obsX_eq (HandSHeadRun.getT_eq s)
def names : List Str := ["NoStand", "is_whole", "is_number", "MUTE", "SILENT", "RECEIVING", "TELLING", "value_of", "is_stand", "look_stand", "deed_at", "deed_of", "branch_count", "_law_bag", "_law_take", "_law_names", "_law_operand", "_law_expression", "_law_row", "_law_text", "_law_value", "_law_deed", "_law_count", "_law_stands"]
theorem run (w : World) : HandSHeadRun.RunEq R (PySem.W.view R.prog [28]) hk ob 3000 names w := by
  intro os
  kernel_rfl
theorem facts {w : World} {K : PySem.W.Frag} {h h0 : Heap} {mg : Str → Option Value} (X : K.In h) (G : h.Ns mainGlobals mg) (c : He.SaysX fa fn [] [] ex w h0 K) : Txt K mg where
  m_is_whole := He.glo_ok X G (c.t.d.fact 4 (f := .glo "is_whole") rfl)
  f_is_whole := c.t.d.def_ 0 (d := dd "is_whole" 3 []) rfl
  m_is_number := He.glo_ok X G (c.t.d.fact 5 (f := .glo "is_number") rfl)
  f_is_number := c.t.d.def_ 1 (d := dd "is_number" 4 []) rfl
  m_value_of := He.glo_ok X G (c.t.d.fact 6 (f := .glo "value_of") rfl)
  f_value_of := c.t.d.def_ 2 (d := dd "value_of" 10 []) rfl
  m_is_stand := He.glo_ok X G (c.t.d.fact 7 (f := .glo "is_stand") rfl)
  f_is_stand := c.t.d.def_ 3 (d := dd "is_stand" 11 []) rfl
  m_look_stand := He.glo_ok X G (c.t.d.fact 8 (f := .glo "look_stand") rfl)
  f_look_stand := c.t.d.def_ 4 (d := dd "look_stand" 12 []) rfl
  m_deed_at := He.glo_ok X G (c.t.d.fact 9 (f := .glo "deed_at") rfl)
  f_deed_at := c.t.d.def_ 5 (d := dd "deed_at" 13 []) rfl
  m_deed_of := He.glo_ok X G (c.t.d.fact 10 (f := .glo "deed_of") rfl)
  f_deed_of := c.t.d.def_ 6 (d := dd "deed_of" 14 [("base", .int 3)]) rfl
  m_branch_count := He.glo_ok X G (c.t.d.fact 11 (f := .glo "branch_count") rfl)
  f_branch_count := c.t.d.def_ 7 (d := dd "branch_count" 15 [("base", .int 3)]) rfl
  m__law_bag := He.glo_ok X G (c.t.d.fact 12 (f := .glo "_law_bag") rfl)
  f__law_bag := c.t.d.def_ 8 (d := dd "_law_bag" 17 []) rfl
  m__law_take := He.glo_ok X G (c.t.d.fact 13 (f := .glo "_law_take") rfl)
  f__law_take := c.t.d.def_ 9 (d := dd "_law_take" 18 []) rfl
  m__law_names := He.glo_ok X G (c.t.d.fact 14 (f := .glo "_law_names") rfl)
  f__law_names := c.t.d.def_ 10 (d := dd "_law_names" 19 []) rfl
  m__law_operand := He.glo_ok X G (c.t.d.fact 15 (f := .glo "_law_operand") rfl)
  f__law_operand := c.t.d.def_ 11 (d := dd "_law_operand" 20 []) rfl
  m__law_expression := He.glo_ok X G (c.t.d.fact 16 (f := .glo "_law_expression") rfl)
  f__law_expression := c.t.d.def_ 12 (d := dd "_law_expression" 21 []) rfl
  m__law_row := He.glo_ok X G (c.t.d.fact 17 (f := .glo "_law_row") rfl)
  f__law_row := c.t.d.def_ 13 (d := dd "_law_row" 22 []) rfl
  m__law_text := He.glo_ok X G (c.t.d.fact 18 (f := .glo "_law_text") rfl)
  f__law_text := c.t.d.def_ 14 (d := dd "_law_text" 23 []) rfl
  m__law_value := He.glo_ok X G (c.t.d.fact 19 (f := .glo "_law_value") rfl)
  f__law_value := c.t.d.def_ 15 (d := dd "_law_value" 24 []) rfl
  m__law_deed := He.glo_ok X G (c.t.d.fact 20 (f := .glo "_law_deed") rfl)
  f__law_deed := c.t.d.def_ 16 (d := dd "_law_deed" 25 []) rfl
  m__law_count := He.glo_ok X G (c.t.d.fact 21 (f := .glo "_law_count") rfl)
  f__law_count := c.t.d.def_ 17 (d := dd "_law_count" 26 []) rfl
  m__law_stands := He.glo_ok X G (c.t.d.fact 22 (f := .glo "_law_stands") rfl)
  f__law_stands := c.t.d.def_ 18 (d := dd "_law_stands" 27 []) rfl
  m_law := He.glo_ok X G (c.t.d.fact 23 (f := .glo "law") rfl)
  f_law := c.t.d.def_ 19 (d := dd "law" 28 []) rfl
  b_abs := He.free_ok X G (c.t.d.fact 24 (f := .free "abs") rfl)
  b_all := He.free_ok X G (c.t.d.fact 25 (f := .free "all") rfl)
  b_bool := He.free_ok X G (c.t.d.fact 26 (f := .free "bool") rfl)
  b_int := He.free_ok X G (c.t.d.fact 27 (f := .free "int") rfl)
  b_isinstance := He.free_ok X G (c.t.d.fact 28 (f := .free "isinstance") rfl)
  b_len := He.free_ok X G (c.t.d.fact 29 (f := .free "len") rfl)
  b_max := He.free_ok X G (c.t.d.fact 30 (f := .free "max") rfl)
  b_min := He.free_ok X G (c.t.d.fact 31 (f := .free "min") rfl)
  b_range := He.free_ok X G (c.t.d.fact 32 (f := .free "range") rfl)
  b_repr := He.free_ok X G (c.t.d.fact 33 (f := .free "repr") rfl)
  b_str := He.free_ok X G (c.t.d.fact 34 (f := .free "str") rfl)
  b_tuple := He.free_ok X G (c.t.d.fact 35 (f := .free "tuple") rfl)
  g_MUTE := He.glo_ok X G (c.t.d.fact 0 (f := .glo "MUTE") rfl)
  r_MUTE := fun M H => .tup (He.tupB_ok ((Bool.and_eq_true_iff.mp c.more).1) H) (.cons (.int (-1)) (.cons (.int (0)) (.cons (.int (0)) .nil)))
  g_RECEIVING := He.glo_ok X G (c.t.d.fact 1 (f := .glo "RECEIVING") rfl)
  r_RECEIVING := fun M H => .tup (He.tupB_ok ((Bool.and_eq_true_iff.mp (Bool.and_eq_true_iff.mp c.more).2).1) H) (.cons (.str "ask") (.cons (.str "read") (.cons (.str "call") .nil)))
  g_SILENT := He.glo_ok X G (c.t.d.fact 2 (f := .glo "SILENT") rfl)
  r_SILENT := fun M H => .tup (He.tupB_ok ((Bool.and_eq_true_iff.mp (Bool.and_eq_true_iff.mp (Bool.and_eq_true_iff.mp c.more).2).2).1) H) (.cons (.str "set") (.cons (.str "if") (.cons (.str "go") .nil)))
  g_TELLING := He.glo_ok X G (c.t.d.fact 3 (f := .glo "TELLING") rfl)
  r_TELLING := fun M H => .tup (He.tupB_ok ((Bool.and_eq_true_iff.mp (Bool.and_eq_true_iff.mp (Bool.and_eq_true_iff.mp c.more).2).2).2) H) (.cons (.str "say") (.cons (.str "write") .nil))
theorem fin {P : Program} {w : World} {K : PySem.W.Frag} {h h0 : Heap} {mg : Str → Option Value} {fa : Addr} (X : K.In h) (G : h.Ns mainGlobals mg) (hmg : mg ("law" : Str) = some (.ref fa)) (c : He.SaysX Lw.fa fn [] [] ex w h0 K) :
    ∃ (K : PySem.W.Frag) (fd : FuncData), K.In h ∧ (∀ (s : Shared) (u : Value), BindsTo s fd ⟨[u], []⟩ [("_law_script", u)]) ∧ ∀ base : Heap, K.In base → base.Ns mainGlobals mg → FnG P w K mg base 6 fa fd ["_law_script"] (spP K wf_law) := by
  have T := facts X G c
  obtain ⟨fd, F⟩ := T.f_law
  have e := hmg.symm.trans T.m_law
  cases e
  have b := FunD.bindsA (ps := ["_law_script"]) F fun _ _ _ _ _ _ us hl => match us, hl with | [_], _ => rfl
  exact ⟨K, fd, X, fun s v => b s [v] rfl, fun base _ _ => ok_law T F⟩
end Lw
open PySem PySem.W PySem.Calls PyProof.Rows
theorem PySem.Challenge.cw_callsover_k06_deeds_and_branches_holds : PySem.Challenge.rw_callsover_k06_deeds_and_branches.Holds := by
  w_on; o_law
  refine HandSHeadRun.head_any (r := OpenLaw.row PySem.Challenge.rw_callsover_k06_deeds_and_branches) (q := view (OpenLaw.row PySem.Challenge.rw_callsover_k06_deeds_and_branches).prog [28]) (H := Lw.hk) (ob := Lw.ob) (M := 3000) (loose := ["NoStand", "is_whole", "is_number", "MUTE", "SILENT", "RECEIVING", "TELLING", "value_of", "is_stand", "look_stand", "deed_at", "deed_of", "branch_count", "_law_bag", "_law_take", "_law_names", "_law_operand", "_law_expression", "_law_row", "_law_text", "_law_value", "_law_deed", "_law_count", "_law_stands"]) (d := HandSHeadRun.topDef (OpenLaw.row PySem.Challenge.rw_callsover_k06_deeds_and_branches).prog 28) (kwd := []) Lw.ob_eq
    (by kernel_rfl) (fun s => by kernel_rfl) Lw.run (by kernel_rfl) (by kernel_rfl) (by kernel_rfl) (by rfl) (by first | assumption | decide +kernel) (by decide +kernel) ⟨rfl, rfl, rfl, rfl, rfl, by decide +kernel⟩ ?hw ?hc
  case hw => w_witness2
  case hc =>
    refine Dat.walkGE (l := PySem.Challenge.rw_callsover_k06_deeds_and_branches) (n := 63) (k := 6) (x := "_law_script") (wf := Lw.wf_law) rfl (by decide) (by kernel_rfl) ⟨rfl, by decide, by decide⟩ ?F (fun ns hl => Lw.wf_law_at ns hl)
    intro w mg fa h Y G hmg0
    obtain ⟨K, KX, c⟩ := Y
    have hmg : mg ("law" : PySem.Str) = some (.ref fa) := by
      have e : (HandSHeadRun.topDef (OpenLaw.row PySem.Challenge.rw_callsover_k06_deeds_and_branches).prog 28).name = ("law" : PySem.Str) := by kernel_rfl
      rw [← e]
      exact hmg0
    exact Lw.fin KX G hmg c
