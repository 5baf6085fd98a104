import PyProof.Rows.All
import Wide.All
import OpenK.AllK
import Wide.FinOn
import HandS.ForMost
import KE.DataMinMax
import KE.DataAny
import KE.DataIsa
import KE.DataFind
import KE.SortData
import KE.DatumOrd
import KE.DatumMoreOrd
import KE.KDictKeyed
import HandS.TupAny
import HandS.Conv
import HandS.More
import HandS.IsInst
import HandS.Flow
import HandS.Small
import PySem.Challenge.RW_fuseslit_k47_whole_delays_that_are_missi
set_option Elab.async false
set_option linter.all false
set_option maxRecDepth 100000
namespace PyD
open PySem PySem.Spec L2
open PyProof.Rows hiding St
abbrev D := PyData

def nf : HO → Bool
  | .frz _ _ => false
  | _ => true
theorem rd_up {H H' : Hp} {a : Addr} {u : HO} (h : Rd H a u) (k : ∀ o, H a = some o → H' a = some o) : Rd H' a u := by
  rcases h with h | ⟨o, h⟩
  · exact .inl (k _ h)
  · exact .inr ⟨o, k _ h⟩
/-- the heap with the locks undone -/
def unl (L : List (Addr × Obj × HO)) (H : Hp) : Hp := fun b => match L.lookup b with
  | some u => some u.2
  | none => H b
theorem unl_none {L : List (Addr × Obj × HO)} {H : Hp} {b : Addr} (h : L.lookup b = none) : unl L H b = H b := by unfold unl; rw [h]
theorem unl_some {L : List (Addr × Obj × HO)} {H : Hp} {b : Addr} {u : Obj × HO} (h : L.lookup b = some u) : unl L H b = some u.2 := by unfold unl; rw [h]
theorem unl_nil {H : Hp} : unl [] H = H := rfl
/-- the locks stand -/
def Lkd (L : List (Addr × Obj × HO)) (H : Hp) : Prop := ∀ b u, L.lookup b = some u → Mut (some u.2) ∧ H b = some (.frz u.1 u.2)
theorem Lkd.rd {L : List (Addr × Obj × HO)} {H : Hp} (l : Lkd L H) {b : Addr} {u : HO} (h : Rd (unl L H) b u) : Rd H b u := by
  cases e : L.lookup b with
  | none =>
    rcases h with h | ⟨o, h⟩
    · rw [unl_none e] at h; exact .inl h
    · rw [unl_none e] at h; exact .inr ⟨o, h⟩
  | some w =>
    obtain ⟨mu, ho⟩ := l b w e
    rcases h with h | ⟨o', h⟩
    · rw [unl_some e] at h; cases h; exact .inr ⟨_, ho⟩
    · rw [unl_some e] at h; rw [Option.some.inj h] at mu; exact False.elim mu
theorem Lkd.dr {L : List (Addr × Obj × HO)} {H : Hp} (l : Lkd L H) {b : Addr} {u : HO} (hu : nf u = true) (h : Rd H b u) : Rd (unl L H) b u := by
  cases e : L.lookup b with
  | none =>
    rcases h with h | ⟨o, h⟩
    · exact .inl ((unl_none e).trans h)
    · exact .inr ⟨o, (unl_none e).trans h⟩
  | some w =>
    obtain ⟨mu, ho⟩ := l b w e
    rcases h with h | ⟨o', h⟩
    · rw [ho] at h; cases h; exact absurd hu (by simp [nf])
    · rw [ho] at h; cases h; first | exact .inl (unl_some e) | exact .inl (by rw [unl_some e])
theorem Lkd.free {L : List (Addr × Obj × HO)} {H : Hp} (l : Lkd L H) {p : Addr} (h : H p = none) : L.lookup p = none := by
  cases e : L.lookup p with
  | none => rfl
  | some w => obtain ⟨_, ho⟩ := l p w e; rw [h] at ho; cases ho
theorem unl_upd {L : List (Addr × Obj × HO)} {H : Hp} {p : Addr} {o : HO} (h : L.lookup p = none) : unl L (upd H p o) = upd (unl L H) p o := by
  funext b
  by_cases e : b = p
  · subst e; rw [unl_none h, upd_same, upd_same]
  · rw [upd_ne e]
    cases q : L.lookup b with
    | none => rw [unl_none q, unl_none q, upd_ne e]
    | some w => rw [unl_some q, unl_some q]

def keyD : Key → D
  | .inl i => .int i
  | .inr x => .str x
/-- a dict as data: the first pair tells the kind of its keys -/
abbrev dK (es : List (D × D)) : D := .dict ((.none, .none) :: es)
abbrev dT (es : List (D × D)) : D := .dict ((.none, .bool true) :: es)
/-- a tuple of the written part -/
def WrT (K : PySem.W.Frag) (a : Addr) (xs : List V) : Prop :=
  ∃ (o : Obj) (its : Array Value) (n : Nat), K.lookup a = some o ∧ o.cls = .type "tuple" ∧ o.data = .seq its n ∧ its.size ≤ sizeLine ∧ Vals xs its.toList
mutual
inductive Rep (K : PySem.W.Frag) (av : Addr → Prop) (H : Hp) : V → D → Prop
  | non : Rep K av H .non .none
  | bl (b : Bool) : Rep K av H (.bl b) (.bool b)
  | int (i : Int) : Rep K av H (.int i) (.int i)
  | str (x : Str) : Rep K av H (.str x) (.str x)
  | lst {a : Addr} {xs : List V} {ds : List D} : ¬ av a → Rd H a (.lst xs) → xs.length ≤ sizeLine → RepA K av H xs ds → Rep K av H (.ref a) (.list ds)
  | tup {a : Addr} {xs : List V} {ds : List D} : ¬ av a → H a = some (.tup xs) → xs.length ≤ sizeLine → RepA K av H xs ds → Rep K av H (.ref a) (.tuple ds)
  | dcK {a : Addr} {kvs : List (Key × V)} {es : List (D × D)} : ¬ av a → Rd H a (.dK kvs) → RepK K av H kvs es → Rep K av H (.ref a) (dK es)
  | dcT {a : Addr} {kvs : List (List Key × V)} {es : List (D × D)} : ¬ av a → Rd H a (.dT kvs) → RepT K av H kvs es → Rep K av H (.ref a) (dT es)
inductive RepA (K : PySem.W.Frag) (av : Addr → Prop) (H : Hp) : List V → List D → Prop
  | nil : RepA K av H [] []
  | cons {v : V} {vs : List V} {d : D} {ds : List D} : Rep K av H v d → RepA K av H vs ds → RepA K av H (v :: vs) (d :: ds)
inductive RepK (K : PySem.W.Frag) (av : Addr → Prop) (H : Hp) : List (Key × V) → List (D × D) → Prop
  | nil : RepK K av H [] []
  | cons {k : Key} {v : V} {vs : List (Key × V)} {d : D} {ds : List (D × D)} : Rep K av H v d → RepK K av H vs ds → RepK K av H ((k, v) :: vs) ((keyD k, d) :: ds)
inductive RepT (K : PySem.W.Frag) (av : Addr → Prop) (H : Hp) : List (List Key × V) → List (D × D) → Prop
  | nil : RepT K av H [] []
  | cons {k : List Key} {v : V} {vs : List (List Key × V)} {d : D} {ds : List (D × D)} : Rep K av H v d → RepT K av H vs ds → RepT K av H ((k, v) :: vs) ((.tuple (k.map keyD), d) :: ds)
end

section
variable {K : PySem.W.Frag} {av av' : Addr → Prop} {H H' : Hp}
/-- what is not kept back stays as it is, and is not kept back -/
structure Cm (av av' : Addr → Prop) (H H' : Hp) : Prop where
  na : ∀ b o, ¬ av b → H b = some o → ¬ av' b
  rd : ∀ b u, nf u = true → ¬ av b → Rd H b u → Rd H' b u
  tp : ∀ b xs, ¬ av b → H b = some (.tup xs) → H' b = some (.tup xs)
theorem Cm.nr (k : Cm av av' H H') {b : Addr} {u : HO} (n : ¬ av b) (r : Rd H b u) : ¬ av' b := by
  rcases r with r | ⟨o, r⟩
  · exact k.na b _ n r
  · exact k.na b _ n r
mutual
theorem Rep.mono (k : Cm av av' H H') : ∀ {v : V} {d : D}, Rep K av H v d → Rep K av' H' v d
  | _, _, .non => .non
  | _, _, .bl b => .bl b
  | _, _, .int i => .int i
  | _, _, .str x => .str x
  | _, _, .lst h r z a => .lst (k.nr h r) (k.rd _ _ rfl h r) z (RepA.mono k a)
  | _, _, .tup h r z a => .tup (k.na _ _ h r) (k.tp _ _ h r) z (RepA.mono k a)
  | _, _, .dcK h r a => .dcK (k.nr h r) (k.rd _ _ rfl h r) (RepK.mono k a)
  | _, _, .dcT h r a => .dcT (k.nr h r) (k.rd _ _ rfl h r) (RepT.mono k a)
theorem RepA.mono (k : Cm av av' H H') : ∀ {vs : List V} {ds : List D}, RepA K av H vs ds → RepA K av' H' vs ds
  | _, _, .nil => .nil
  | _, _, .cons h t => .cons (Rep.mono k h) (RepA.mono k t)
theorem RepK.mono (k : Cm av av' H H') : ∀ {vs : List (Key × V)} {ds : List (D × D)}, RepK K av H vs ds → RepK K av' H' vs ds
  | _, _, .nil => .nil
  | _, _, .cons h t => .cons (Rep.mono k h) (RepK.mono k t)
theorem RepT.mono (k : Cm av av' H H') : ∀ {vs : List (List Key × V)} {ds : List (D × D)}, RepT K av H vs ds → RepT K av' H' vs ds
  | _, _, .nil => .nil
  | _, _, .cons h t => .cons (Rep.mono k h) (RepT.mono k t)
end
theorem RepA.len : ∀ {vs : List V} {ds : List D}, RepA K av H vs ds → vs.length = ds.length
  | _, _, .nil => rfl
  | _, _, .cons _ t => by rw [List.length_cons, List.length_cons, RepA.len t]
theorem RepK.len : ∀ {vs : List (Key × V)} {ds : List (D × D)}, RepK K av H vs ds → vs.length = ds.length
  | _, _, .nil => rfl
  | _, _, .cons _ t => by rw [List.length_cons, List.length_cons, RepK.len t]
theorem RepT.len : ∀ {vs : List (List Key × V)} {ds : List (D × D)}, RepT K av H vs ds → vs.length = ds.length
  | _, _, .nil => rfl
  | _, _, .cons _ t => by rw [List.length_cons, List.length_cons, RepT.len t]
theorem RepA.get : ∀ {vs : List V} {ds : List D} (_ : RepA K av H vs ds) {i : Nat} {d : D}, ds[i]? = some d → ∃ v, vs[i]? = some v ∧ Rep K av H v d
  | _, _, .nil, _, _, e => by simp at e
  | _, _, .cons h _, 0, _, e => by simp at e; subst e; exact ⟨_, rfl, h⟩
  | _, _, .cons _ t, i + 1, _, e => by
    obtain ⟨v, e1, r⟩ := RepA.get t (i := i) (by simpa using e)
    exact ⟨v, by simpa using e1, r⟩
theorem RepA.got : ∀ {vs : List V} {ds : List D} (_ : RepA K av H vs ds) {i : Nat} {v : V}, vs[i]? = some v → ∃ d, ds[i]? = some d ∧ Rep K av H v d
  | _, _, .nil, _, _, e => by simp at e
  | _, _, .cons h _, 0, _, e => by simp at e; subst e; exact ⟨_, rfl, h⟩
  | _, _, .cons _ t, i + 1, _, e => by
    obtain ⟨v, e1, r⟩ := RepA.got t (i := i) (by simpa using e)
    exact ⟨v, by simpa using e1, r⟩
theorem RepA.app : ∀ {vs ws : List V} {ds es : List D}, RepA K av H vs ds → RepA K av H ws es → RepA K av H (vs ++ ws) (ds ++ es)
  | _, _, _, _, .nil, b => b
  | _, _, _, _, .cons h t, b => .cons h (RepA.app t b)
theorem RepA.take : ∀ {vs : List V} {ds : List D} (n : Nat), RepA K av H vs ds → RepA K av H (vs.take n) (ds.take n)
  | _, _, 0, _ => .nil
  | _, _, _ + 1, .nil => .nil
  | _, _, n + 1, .cons h t => .cons h (RepA.take n t)
theorem RepA.drop : ∀ {vs : List V} {ds : List D} (n : Nat), RepA K av H vs ds → RepA K av H (vs.drop n) (ds.drop n)
  | _, _, 0, h => h
  | _, _, _ + 1, .nil => .nil
  | _, _, n + 1, .cons _ t => RepA.drop n t
theorem RepA.rev : ∀ {vs : List V} {ds : List D}, RepA K av H vs ds → RepA K av H vs.reverse ds.reverse
  | _, _, .nil => .nil
  | _, _, .cons h t => by rw [List.reverse_cons, List.reverse_cons]; exact RepA.app (RepA.rev t) (.cons h .nil)
theorem RepA.set {x : V} {d : D} (h : Rep K av H x d) : ∀ {vs : List V} {ds : List D} (i : Nat), RepA K av H vs ds → RepA K av H (vs.set i x) (ds.set i d)
  | _, _, _, .nil => .nil
  | _, _, 0, .cons _ t => .cons h t
  | _, _, i + 1, .cons r t => .cons r (RepA.set h i t)
/-- what may be looked at: what may be kept, or an own list or dict -/
inductive Top (K : PySem.W.Frag) (bx av : Addr → Prop) (H : Hp) : V → D → Prop
  | rep {v : V} {d : D} : Rep K av H v d → Top K bx av H v d
  | wrt {a : Addr} {xs : List V} {ds : List D} : WrT K a xs → xs.length ≤ sizeLine → RepA K av H xs ds → Top K bx av H (.ref a) (.tuple ds)
  | lst {a : Addr} {xs : List V} {ds : List D} : ¬ bx a → Rd H a (.lst xs) → xs.length ≤ sizeLine → RepA K av H xs ds → Top K bx av H (.ref a) (.list ds)
  | dcK {a : Addr} {kvs : List (Key × V)} {es : List (D × D)} : ¬ bx a → Rd H a (.dK kvs) → RepK K av H kvs es → Top K bx av H (.ref a) (dK es)
  | dcT {a : Addr} {kvs : List (List Key × V)} {es : List (D × D)} : ¬ bx a → Rd H a (.dT kvs) → RepT K av H kvs es → Top K bx av H (.ref a) (dT es)
theorem Top.mono {bx : Addr → Prop} (k : ∀ b u, nf u = true → ¬ bx b → Rd H b u → Rd H' b u) (ka : Cm av av' H H') {v : V} {d : D} (h : Top K bx av H v d) : Top K bx av' H' v d := by
  cases h with
  | rep r => exact .rep (r.mono ka)
  | wrt w z a => exact .wrt w z (a.mono ka)
  | lst n r z a => exact .lst n (k _ _ rfl n r) z (a.mono ka)
  | dcK n r a => exact .dcK n (k _ _ rfl n r) (a.mono ka)
  | dcT n r a => exact .dcT n (k _ _ rfl n r) (a.mono ka)
/-- what an own name holds: a list or dict that may be written -/
inductive Own (K : PySem.W.Frag) (av : Addr → Prop) (H : Hp) (a : Addr) : D → Prop
  | lst {xs : List V} {ds : List D} : H a = some (.lst xs) → xs.length ≤ sizeLine → RepA K av H xs ds → Own K av H a (.list ds)
  | dcK {kvs : List (Key × V)} {es : List (D × D)} : H a = some (.dK kvs) → RepK K av H kvs es → Own K av H a (dK es)
  | dcT {kvs : List (List Key × V)} {es : List (D × D)} : H a = some (.dT kvs) → RepT K av H kvs es → Own K av H a (dT es)
theorem Own.top {bx : Addr → Prop} {a : Addr} {d : D} (h : Own K av H a d) (n : ¬ bx a) : Top K bx av H (.ref a) d := by
  cases h with
  | lst r z a => exact .lst n (.inl r) z a
  | dcK r a => exact .dcK n (.inl r) a
  | dcT r a => exact .dcT n (.inl r) a
theorem Own.mono (k : Cm av av' H H') {a : Addr} (ka : H' a = H a) {d : D} (h : Own K av H a d) : Own K av' H' a d := by
  cases h with
  | lst r z a => exact .lst (ka.trans r) z (a.mono k)
  | dcK r a => exact .dcK (ka.trans r) (a.mono k)
  | dcT r a => exact .dcT (ka.trans r) (a.mono k)
theorem Own.some {a : Addr} {d : D} (h : Own K av H a d) : ∃ o, H a = some o ∧ Mut (some o) := by
  cases h with
  | lst r _ _ => exact ⟨_, r, trivial⟩
  | dcK r _ => exact ⟨_, r, trivial⟩
  | dcT r _ => exact ⟨_, r, trivial⟩
/-- it may be handed on -/
theorem Own.rep {a : Addr} {d : D} (h : Own K av H a d) (ha : ¬ av a) : Rep K av H (.ref a) d := by
  cases h with
  | lst r z a => exact .lst ha (.inl r) z a
  | dcK r a => exact .dcK ha (.inl r) a
  | dcT r a => exact .dcT ha (.inl r) a
end
end PyD
namespace PyD
open PySem PySem.Spec L2
open PyProof.Rows hiding St
abbrev En := List (Option D)
abbrev ME := En → (D → Prop) → Prop
abbrev MT := En → (Bool → Prop) → Prop
abbrev MA := En → (List D → Prop) → Prop

/-- what is known of a def's names: those that own a list or dict, those of these that are walked, the box's slot, what holds of the box -/
structure SI where
  own : List Nat := []
  lk : List Nat := []
  bs : Option Nat := none
  bk : Hp → Addr → Addr → Prop := fun _ _ _ => True
def ntup : HO → Bool
  | .tup _ => false
  | _ => true
/-- the heap at the def's entry, what is not to be handed on, the box, the locks -/
structure DW where
  H0 : Hp
  av : Addr → Prop
  box : Option (Addr × Addr)
  L : List (Addr × Obj × HO)
def DW.bx (W : DW) (b : Addr) : Prop := ∃ p, W.box = some p ∧ (b = p.1 ∨ b = p.2)
def avA (W : DW) (own : List Nat) (σ : St) (ρ : En) (b : Addr) : Prop := W.av b ∨ ∃ i, i ∈ own ∧ (∃ d, ρ[i]? = some (some d)) ∧ σ[i]? = some (some (.ref b))
structure WOk (I : SI) (W : DW) : Prop where
  bxav : ∀ b, W.bx b → W.av b
  lbx : ∀ b, W.bx b → W.L.lookup b = none
  bkst : ∀ H H' a c, H a = H' a → H c = H' c → I.bk H a c → I.bk H' a c
structure SR (I : SI) (W : DW) (K : PySem.W.Frag) (σ : St) (H : Hp) (ρ : En) : Prop where
  len : ρ.length = σ.length
  lkd : Lkd W.L H
  val : ∀ i d, ρ[i]? = some (some d) → i ∉ I.own → ∃ v, σ[i]? = some (some v) ∧ Rep K (avA W I.own σ ρ) (unl W.L H) v d
  own : ∀ i d, ρ[i]? = some (some d) → i ∈ I.own → ∃ a, σ[i]? = some (some (.ref a)) ∧ Own K (avA W I.own σ ρ) (unl W.L H) a d ∧ ¬ W.av a ∧ W.H0 a = none ∧ (i ∉ I.lk → W.L.lookup a = none)
  inj : ∀ i j a, i ∈ I.own → j ∈ I.own → (∃ d, ρ[i]? = some (some d)) → (∃ d, ρ[j]? = some (some d)) → σ[i]? = some (some (.ref a)) → σ[j]? = some (some (.ref a)) → i = j
  fr : ∀ b o, W.H0 b = some o → ¬ W.bx b → unl W.L H b = some o
  avt : ∀ b, W.av b → ∃ o, unl W.L H b = some o ∧ ntup o = true
  box : ∀ p, W.box = some p → I.bk (unl W.L H) p.1 p.2
  bsl : ∀ i, I.bs = some i → ∃ p, W.box = some p ∧ σ[i]? = some (some (.ref p.1))
/-- behind an expression -/
def Ex (W : DW) (H H' : Hp) : Prop := ∀ b o, unl W.L H b = some o → ¬ W.bx b → unl W.L H' b = some o
theorem Ex.refl (W : DW) (H : Hp) : Ex W H H := fun _ _ h _ => h
theorem Ex.trans {W : DW} {H H1 H2 : Hp} (a : Ex W H H1) (b : Ex W H1 H2) : Ex W H H2 := fun c o h n => b c o (a c o h n) n
section
variable {I : SI} {W : DW} {K : PySem.W.Frag} {σ : St} {H H' : Hp} {ρ : En}
theorem Ex.rd (e : Ex W H H') {b : Addr} {u : HO} (h : Rd (unl W.L H) b u) (n : ¬ W.bx b) : Rd (unl W.L H') b u := rd_up h fun o q => e b o q n
theorem Ex.keep (ok : WOk I W) (e : Ex W H H') : Cm (avA W I.own σ ρ) (avA W I.own σ ρ) (unl W.L H) (unl W.L H') :=
  ⟨fun _ _ n _ => n, fun b u _ n r => e.rd r fun z => n (.inl (ok.bxav b z)), fun b xs n r => e b _ r fun z => n (.inl (ok.bxav b z))⟩
theorem Ex.rep (ok : WOk I W) (e : Ex W H H') {v : V} {d : D} (r : Rep K (avA W I.own σ ρ) (unl W.L H) v d) : Rep K (avA W I.own σ ρ) (unl W.L H') v d := r.mono (e.keep ok)
theorem Ex.repA (ok : WOk I W) (e : Ex W H H') {v : List V} {d : List D} (r : RepA K (avA W I.own σ ρ) (unl W.L H) v d) : RepA K (avA W I.own σ ρ) (unl W.L H') v d := r.mono (e.keep ok)
theorem SR.ownbx (ok : WOk I W) (S : SR I W K σ H ρ) {i : Nat} {d : D} (e : ρ[i]? = some (some d)) (hi : i ∈ I.own) {a : Addr} (ha : σ[i]? = some (some (.ref a))) : ¬ W.bx a := fun z => by
  obtain ⟨a', e', _, n, _⟩ := S.own i d e hi
  rw [ha] at e'; cases e'
  exact n (ok.bxav a z)
theorem SR.step (ok : WOk I W) (S : SR I W K σ H ρ) (e : Ex W H H') (lk : Lkd W.L H') (bx : ∀ p, W.box = some p → I.bk (unl W.L H') p.1 p.2) (bt : ∀ b, W.bx b → ∃ o, unl W.L H' b = some o ∧ ntup o = true) : SR I W K σ H' ρ where
  len := S.len
  lkd := lk
  val := fun i d h n => let ⟨v, a, r⟩ := S.val i d h n; ⟨v, a, e.rep ok r⟩
  own := fun i d h n => by
    obtain ⟨a, h1, o, h2, h3, h4⟩ := S.own i d h n
    refine ⟨a, h1, o.mono (e.keep ok) ?_, h2, h3, h4⟩
    obtain ⟨u, hu, _⟩ := o.some
    rw [hu]; exact e a u hu (S.ownbx ok h n h1)
  inj := S.inj
  fr := fun b o h n => e b o (S.fr b o h n) n
  avt := fun b h => by
    by_cases hb : W.bx b
    · exact bt b hb
    · obtain ⟨o, q, m⟩ := S.avt b h; exact ⟨o, e b o q hb, m⟩
  box := bx
  bsl := S.bsl
/-- a new object -/
theorem Ex.new {p : Addr} {o : HO} (lk : Lkd W.L H) (h : H p = none) : Ex W H (upd H p o) := fun b u e _ => by
  have hl := lk.free h
  rw [unl_upd hl, upd_ne, e]
  rintro rfl
  rw [unl_none hl, h] at e; cases e
theorem lkd_new {L : List (Addr × Obj × HO)} {p : Addr} {o : HO} (lk : Lkd L H) (h : H p = none) : Lkd L (upd H p o) := fun b u e => by
  obtain ⟨m, q⟩ := lk b u e
  refine ⟨m, ?_⟩
  rw [upd_ne, q]
  rintro rfl
  rw [h] at q; cases q
theorem SR.new (ok : WOk I W) (S : SR I W K σ H ρ) {p : Addr} {o : HO} (h : H p = none) : SR I W K σ (upd H p o) ρ := by
  have e : Ex W H (upd H p o) := Ex.new S.lkd h
  have hl := S.lkd.free h
  have hp : ∀ b, W.av b → b ≠ p := fun b hb z => by
    obtain ⟨u, q, _⟩ := S.avt b hb
    rw [z, unl_none hl, h] at q; cases q
  refine S.step ok e (lkd_new S.lkd h) (fun q hq => ?_) fun b hb => ?_
  · refine ok.bkst _ _ _ _ ?_ ?_ (S.box q hq)
    · rw [unl_upd hl, upd_ne (hp _ (ok.bxav _ ⟨q, hq, .inl rfl⟩))]
    · rw [unl_upd hl, upd_ne (hp _ (ok.bxav _ ⟨q, hq, .inr rfl⟩))]
  · obtain ⟨u, q, m⟩ := S.avt b (ok.bxav b hb)
    exact ⟨u, by rw [unl_upd hl, upd_ne (hp b (ok.bxav b hb))]; exact q, m⟩
/-- a new address is not among those that are kept back -/
theorem SR.fresh (S : SR I W K σ H ρ) {p : Addr} (h : H p = none) : ¬ avA W I.own σ ρ p := by
  have hl := S.lkd.free h
  rintro (z | ⟨i, hi, ⟨d, hd⟩, hs⟩)
  · obtain ⟨u, q, _⟩ := S.avt p z
    rw [unl_none hl, h] at q; cases q
  · obtain ⟨a, h1, o, _⟩ := S.own i d hd hi
    rw [hs] at h1; cases h1
    obtain ⟨u, q, _⟩ := o.some
    rw [unl_none hl, h] at q; cases q
/-- a tuple is not among those that are kept back -/
theorem SR.tupAv (S : SR I W K σ H ρ) {p : Addr} {xs : List V} (h : unl W.L H p = some (.tup xs)) : ¬ avA W I.own σ ρ p := by
  rintro (z | ⟨i, hi, ⟨d, hd⟩, hs⟩)
  · obtain ⟨u, q, m⟩ := S.avt p z
    rw [h] at q; cases q; exact absurd m (by simp [ntup])
  · obtain ⟨a, h1, o, _⟩ := S.own i d hd hi
    rw [hs] at h1; cases h1
    obtain ⟨u, q, m⟩ := o.some
    rw [h] at q; cases q; exact m
theorem SR.freshU (S : SR I W K σ H ρ) {p : Addr} (h : H p = none) : unl W.L H p = none := by rw [unl_none (S.lkd.free h), h]
end

/-- what is wanted behind an expression -/
def FinE (I : SI) (W : DW) (K : PySem.W.Frag) (σ : St) (ρ : En) (H : Hp) (Qd : D → Prop) (Q : VK) : Prop :=
  ∀ v H' d, Qd d → Ex W H H' → SR I W K σ H' ρ → Rep K (avA W I.own σ ρ) (unl W.L H') v d → Q v H'
def FinB (I : SI) (W : DW) (K : PySem.W.Frag) (σ : St) (ρ : En) (H : Hp) (Qd : D → Prop) (Q : VK) : Prop :=
  ∀ v H' d, Qd d → Ex W H H' → SR I W K σ H' ρ → Top K W.bx (avA W I.own σ ρ) (unl W.L H') v d → Q v H'
def FinT (I : SI) (W : DW) (K : PySem.W.Frag) (σ : St) (ρ : En) (H : Hp) (Qb : Bool → Prop) (Q : Bool → Hp → Prop) : Prop :=
  ∀ b H', Qb b → Ex W H H' → SR I W K σ H' ρ → Q b H'
/-- p is kept back too -/
def DW.add (W : DW) (p : Addr) : DW := { W with av := fun b => W.av b ∨ b = p }
/-- what is wanted behind an expression that makes a new list or dict -/
def FinF (I : SI) (W : DW) (K : PySem.W.Frag) (σ : St) (ρ : En) (H : Hp) (Qd : D → Prop) (Q : VK) : Prop :=
  ∀ p H' d, Qd d → Ex W H H' → SR I (W.add p) K σ H' ρ → Own K (avA (W.add p) I.own σ ρ) (unl W.L H') p d → ¬ W.av p → W.H0 p = none → W.L.lookup p = none → unl W.L H p = none → Q (.ref p) H'
inductive TopA (K : PySem.W.Frag) (bx av : Addr → Prop) (H : Hp) : List V → List D → Prop
  | nil : TopA K bx av H [] []
  | cons {v : V} {vs : List V} {d : D} {ds : List D} : Top K bx av H v d → TopA K bx av H vs ds → TopA K bx av H (v :: vs) (d :: ds)
theorem TopA.mono {K : PySem.W.Frag} {bx av av' : Addr → Prop} {H H' : Hp} (k : ∀ b u, nf u = true → ¬ bx b → Rd H b u → Rd H' b u) (ka : Cm av av' H H') : ∀ {vs : List V} {ds : List D}, TopA K bx av H vs ds → TopA K bx av' H' vs ds
  | _, _, .nil => .nil
  | _, _, .cons h t => .cons (h.mono k ka) (t.mono k ka)
def tD (I : SI) (K : PySem.W.Frag) (m : ME) : TE := fun σ H Q => ∃ W ρ Qd, WOk I W ∧ SR I W K σ H ρ ∧ m ρ Qd ∧ FinE I W K σ ρ H Qd Q
def tB (I : SI) (K : PySem.W.Frag) (m : ME) : TE := fun σ H Q => ∃ W ρ Qd, WOk I W ∧ SR I W K σ H ρ ∧ m ρ Qd ∧ FinB I W K σ ρ H Qd Q
def tT (I : SI) (K : PySem.W.Frag) (m : MT) : TT := fun σ H Q => ∃ W ρ Qb, WOk I W ∧ SR I W K σ H ρ ∧ m ρ Qb ∧ FinT I W K σ ρ H Qb Q
def tAE (I : SI) (K : PySem.W.Frag) (m : MA) : TA := fun σ H Q => ∃ W ρ Qd, WOk I W ∧ SR I W K σ H ρ ∧ m ρ Qd ∧ ∀ vs H' ds, Qd ds → Ex W H H' → SR I W K σ H' ρ → RepA K (avA W I.own σ ρ) (unl W.L H') vs ds → Q vs H'
def tAB (I : SI) (K : PySem.W.Frag) (m : MA) : TA := fun σ H Q => ∃ W ρ Qd, WOk I W ∧ SR I W K σ H ρ ∧ m ρ Qd ∧ ∀ vs H' ds, Qd ds → Ex W H H' → SR I W K σ H' ρ → TopA K W.bx (avA W I.own σ ρ) (unl W.L H') vs ds → Q vs H'
/-- an expression whose value may be kept; one that is looked at -/
def DE (I : SI) (X : Cx) (e : Expr) (m : ME) : Prop := PE X e (tD I X.K m)
def DB (I : SI) (X : Cx) (e : Expr) (m : ME) : Prop := PE X e (tB I X.K m)
def DT (I : SI) (X : Cx) (e : Expr) (m : MT) : Prop := PT X e (tT I X.K m)
def DAE (I : SI) (X : Cx) (es : List Expr) (m : MA) : Prop := PA X es (tAE I X.K m)
def DAB (I : SI) (X : Cx) (es : List Expr) (m : MA) : Prop := PA X es (tAB I X.K m)
theorem pe_imp {X : Cx} {e : Expr} {t t' : TE} (h : PE X e t) (k : ∀ σ H Q, t' σ H Q → t σ H Q) : PE X e t' := ⟨fun pins s σ H Q I q => h.run pins s σ H Q I (k _ _ _ q)⟩
theorem pa_imp {X : Cx} {e : List Expr} {t t' : TA} (h : PA X e t) (k : ∀ σ H Q, t' σ H Q → t σ H Q) : PA X e t' := ⟨fun pos pins s σ H Q I q => h.run pos pins s σ H Q I (k _ _ _ q)⟩
theorem pt_imp {X : Cx} {e : Expr} {t t' : TT} (h : PT X e t) (k : ∀ σ H Q, t' σ H Q → t σ H Q) : PT X e t' := ⟨fun pins s σ H Q I q => h.run pins s σ H Q I (k _ _ _ q)⟩
section
variable {I : SI} {W : DW} {K : PySem.W.Frag} {σ : St} {H H' H1 : Hp} {ρ : En} {Qd : D → Prop} {Q : VK}
theorem FinE.ex (f : FinE I W K σ ρ H Qd Q) (e : Ex W H H1) : FinE I W K σ ρ H1 Qd Q := fun v H' d q e1 => f v H' d q (e.trans e1)
theorem FinB.ex (f : FinB I W K σ ρ H Qd Q) (e : Ex W H H1) : FinB I W K σ ρ H1 Qd Q := fun v H' d q e1 => f v H' d q (e.trans e1)
theorem FinT.ex {Qb : Bool → Prop} {Q : Bool → Hp → Prop} (f : FinT I W K σ ρ H Qb Q) (e : Ex W H H1) : FinT I W K σ ρ H1 Qb Q := fun v H' q e1 => f v H' q (e.trans e1)
theorem FinE.here (f : FinE I W K σ ρ H Qd Q) (S : SR I W K σ H ρ) {v : V} {d : D} (r : Rep K (avA W I.own σ ρ) (unl W.L H) v d) (q : Qd d) : Q v H := f v H d q (Ex.refl W H) S r
theorem FinT.here {Qb : Bool → Prop} {Q : Bool → Hp → Prop} (f : FinT I W K σ ρ H Qb Q) (S : SR I W K σ H ρ) {b : Bool} (q : Qb b) : Q b H := f b H q (Ex.refl W H) S
theorem FinB.toE (f : FinB I W K σ ρ H Qd Q) : FinE I W K σ ρ H Qd Q := fun v H' d q e s r => f v H' d q e s (.rep r)
/-- a value that is new: a tuple -/
theorem FinE.newT (ok : WOk I W) (f : FinE I W K σ ρ H Qd Q) (S : SR I W K σ H ρ) {p : Addr} (hp : H p = none) {xs : List V} {ds : List D} (z : xs.length ≤ sizeLine) (r : RepA K (avA W I.own σ ρ) (unl W.L H) xs ds) (q : Qd (.tuple ds)) :
    Q (.ref p) (upd H p (.tup xs)) :=
  f _ _ _ q (Ex.new S.lkd hp) (S.new ok hp) (.tup (S.fresh hp) (by rw [unl_upd (S.lkd.free hp), upd_same]) z ((Ex.new S.lkd hp).repA ok r))
theorem FinE.newL (ok : WOk I W) (f : FinE I W K σ ρ H Qd Q) (S : SR I W K σ H ρ) {p : Addr} (hp : H p = none) {xs : List V} {ds : List D} (z : xs.length ≤ sizeLine) (r : RepA K (avA W I.own σ ρ) (unl W.L H) xs ds) (q : Qd (.list ds)) :
    Q (.ref p) (upd H p (.lst xs)) :=
  f _ _ _ q (Ex.new S.lkd hp) (S.new ok hp) (.lst (S.fresh hp) (.inl (by rw [unl_upd (S.lkd.free hp), upd_same])) z ((Ex.new S.lkd hp).repA ok r))
theorem avA_add {own : List Nat} {p b : Addr} (n : ¬ avA (W.add p) own σ ρ b) : ¬ avA W own σ ρ b := fun z => n (z.elim (fun h => .inl (.inl h)) .inr)
theorem Cm.add {own : List Nat} {p : Addr} : Cm (avA (W.add p) own σ ρ) (avA W own σ ρ) H H := ⟨fun _ _ n _ => avA_add n, fun _ _ _ _ r => r, fun _ _ _ r => r⟩
theorem SR.un {p : Addr} (S : SR I (W.add p) K σ H ρ) : SR I W K σ H ρ where
  len := S.len
  lkd := S.lkd
  val := fun i d h n => let ⟨v, a, r⟩ := S.val i d h n; ⟨v, a, r.mono Cm.add⟩
  own := fun i d h n => let ⟨a, h1, o, h2, h3, h4⟩ := S.own i d h n; ⟨a, h1, o.mono Cm.add rfl, fun z => h2 (.inl z), h3, h4⟩
  inj := S.inj
  fr := S.fr
  avt := fun b h => S.avt b (.inl h)
  box := S.box
  bsl := S.bsl
theorem FinE.toF (f : FinE I W K σ ρ H Qd Q) : FinF I W K σ ρ H Qd Q := fun p H' d q e S o n _ _ _ =>
  f _ H' d q e S.un ((o.mono Cm.add rfl).rep fun z => by
    rcases z with z | ⟨i, hi, ⟨d', hd⟩, hs⟩
    · exact n z
    · obtain ⟨a, h1, _, h2, _⟩ := S.own i d' hd hi
      rw [hs] at h1; cases h1
      exact h2 (.inr rfl))
theorem FinF.ex (ok : WOk I W) (f : FinF I W K σ ρ H Qd Q) (e : Ex W H H1) : FinF I W K σ ρ H1 Qd Q := fun v H' d q e1 S o n n0 nl nf => f v H' d q (e.trans e1) S o n n0 nl (by
  cases h : unl W.L H v with
  | none => rfl
  | some u =>
    have := e v u h fun z => n (ok.bxav v z)
    rw [nf] at this; cases this)
/-- a new object, kept back -/
theorem SR.newAdd (ok : WOk I W) (S : SR I W K σ H ρ) {p : Addr} {o : HO} (h : H p = none) (ho : ntup o = true) : SR I (W.add p) K σ (upd H p o) ρ := by
  have S1 : SR I W K σ (upd H p o) ρ := S.new ok h
  have hl := S.lkd.free h
  have hU : unl W.L H p = none := S.freshU h
  have c : Cm (avA W I.own σ ρ) (avA (W.add p) I.own σ ρ) (unl W.L H) (unl W.L (upd H p o)) := by
    have e : Ex W H (upd H p o) := Ex.new S.lkd h
    refine ⟨fun b u n r z => ?_, (e.keep ok).rd, (e.keep ok).tp⟩
    rcases z with (z | z) | z
    · exact n (.inl z)
    · rw [z, hU] at r; cases r
    · exact n (.inr z)
  exact {
    len := S.len
    lkd := S1.lkd
    val := fun i d h n => let ⟨v, a, r⟩ := S.val i d h n; ⟨v, a, r.mono c⟩
    own := fun i d hd n => by
      obtain ⟨a, h1, ow, h2, h3, h4⟩ := S.own i d hd n
      have hap : a ≠ p := by
        rintro rfl
        obtain ⟨u, hu, _⟩ := ow.some
        rw [hU] at hu; cases hu
      refine ⟨a, h1, ow.mono c (by rw [unl_upd hl, upd_ne hap]), fun z => ?_, h3, h4⟩
      rcases z with z | z
      · exact h2 z
      · exact hap z
    inj := S.inj
    fr := S1.fr
    avt := fun b hb => by
      rcases hb with hb | hb
      · exact S1.avt b hb
      · refine ⟨o, ?_, ho⟩
        subst hb
        show unl W.L _ _ = _
        rw [unl_upd hl, upd_same]
    box := S1.box
    bsl := S1.bsl }
theorem FinF.new (ok : WOk I W) (f : FinF I W K σ ρ H Qd Q) (S : SR I W K σ H ρ) {p : Addr} (hp : H p = none) {o : HO} (ho : ntup o = true) {d : D} (ow : Own K (avA (W.add p) I.own σ ρ) (unl W.L (upd H p o)) p d) (q : Qd d) : Q (.ref p) (upd H p o) := by
  refine f p _ d q (Ex.new S.lkd hp) (S.newAdd ok hp ho) ow (fun z => S.fresh hp (.inl z)) ?_ (S.lkd.free hp) (S.freshU hp)
  cases e : W.H0 p with
  | none => rfl
  | some u =>
    by_cases hb : W.bx p
    · exact absurd (.inl (ok.bxav p hb)) (S.fresh hp)
    · have := S.fr p u e hb
      rw [S.freshU hp] at this; cases this
theorem newC (ok : WOk I W) (S : SR I W K σ H ρ) {p : Addr} {o : HO} (h : H p = none) : Cm (avA W I.own σ ρ) (avA (W.add p) I.own σ ρ) (unl W.L H) (unl W.L (upd H p o)) := by
  have e : Ex W H (upd H p o) := Ex.new S.lkd h
  refine ⟨fun b u n r z => ?_, (e.keep ok).rd, (e.keep ok).tp⟩
  rcases z with (z | z) | z
  · exact n (.inl z)
  · rw [z, S.freshU h] at r; cases r
  · exact n (.inr z)
theorem FinF.newL (ok : WOk I W) (f : FinF I W K σ ρ H Qd Q) (S : SR I W K σ H ρ) {p : Addr} (hp : H p = none) {xs : List V} {ds : List D} (z : xs.length ≤ sizeLine) (r : RepA K (avA W I.own σ ρ) (unl W.L H) xs ds) (q : Qd (.list ds)) : Q (.ref p) (upd H p (.lst xs)) :=
  f.new ok S hp rfl (.lst (by rw [unl_upd (S.lkd.free hp), upd_same]) z (r.mono (newC ok S hp))) q
theorem FinF.newK (ok : WOk I W) (f : FinF I W K σ ρ H Qd Q) (S : SR I W K σ H ρ) {p : Addr} (hp : H p = none) {xs : List (Key × V)} {ds : List (D × D)} (r : RepK K (avA W I.own σ ρ) (unl W.L H) xs ds) (q : Qd (dK ds)) : Q (.ref p) (upd H p (.dK xs)) :=
  f.new ok S hp rfl (.dcK (by rw [unl_upd (S.lkd.free hp), upd_same]) (r.mono (newC ok S hp))) q
theorem FinF.newTd (ok : WOk I W) (f : FinF I W K σ ρ H Qd Q) (S : SR I W K σ H ρ) {p : Addr} (hp : H p = none) {xs : List (List Key × V)} {ds : List (D × D)} (r : RepT K (avA W I.own σ ρ) (unl W.L H) xs ds) (q : Qd (dT ds)) : Q (.ref p) (upd H p (.dT xs)) :=
  f.new ok S hp rfl (.dcT (by rw [unl_upd (S.lkd.free hp), upd_same]) (r.mono (newC ok S hp))) q
theorem Ex.top (ok : WOk I W) (e : Ex W H H') {v : V} {d : D} (r : Top K W.bx (avA W I.own σ ρ) (unl W.L H) v d) : Top K W.bx (avA W I.own σ ρ) (unl W.L H') v d :=
  r.mono (fun b u _ n q => e.rd q n) (e.keep ok)
theorem Ex.topA (ok : WOk I W) (e : Ex W H H') {v : List V} {d : List D} (r : TopA K W.bx (avA W I.own σ ρ) (unl W.L H) v d) : TopA K W.bx (avA W I.own σ ρ) (unl W.L H') v d :=
  r.mono (fun b u _ n q => e.rd q n) (e.keep ok)
end
end PyD
namespace PyD
open PySem PySem.Spec L2
open PyProof.Rows hiding St

theorem Lkd.tp {L : List (Addr × Obj × HO)} {H : Hp} (l : Lkd L H) {b : Addr} {xs : List V} (h : unl L H b = some (.tup xs)) : H b = some (.tup xs) := by
  cases e : L.lookup b with
  | none => rw [unl_none e] at h; exact h
  | some w =>
    obtain ⟨mu, ho⟩ := l b w e
    rw [unl_some e] at h; rw [Option.some.inj h] at mu; exact False.elim mu
section
variable {K : PySem.W.Frag} {bx av : Addr → Prop} {H : Hp} {v : V}
theorem Top.int {i : Int} (h : Top K bx av H v (.int i)) : v = .int i := by cases h with | rep r => cases r; rfl
theorem Top.bool {i : Bool} (h : Top K bx av H v (.bool i)) : v = .bl i := by cases h with | rep r => cases r; rfl
theorem Top.str {i : Str} (h : Top K bx av H v (.str i)) : v = .str i := by cases h with | rep r => cases r; rfl
theorem Top.none (h : Top K bx av H v .none) : v = .non := by cases h with | rep r => cases r; rfl
theorem Rep.key {k : Key} (h : Rep K av H v (keyD k)) : v = kV k := by
  cases k with
  | inl i => cases h; rfl
  | inr x => cases h; rfl
theorem RepA.keys : ∀ {vs : List V} {ks : List Key}, RepA K av H vs (ks.map keyD) → vs = ks.map kV
  | _, [], h => by cases h; rfl
  | _, k :: ks, h => by
    have h' : RepA K av H _ (keyD k :: ks.map keyD) := h
    cases h' with
    | cons a t => rw [a.key, RepA.keys t]; rfl
theorem Top.list {ds : List D} (h : Top K bx av H v (.list ds)) : ∃ a xs, v = .ref a ∧ Rd H a (.lst xs) ∧ xs.length ≤ sizeLine ∧ RepA K av H xs ds := by
  cases h with
  | rep r => cases r with | lst n r z a => exact ⟨_, _, rfl, r, z, a⟩
  | lst n r z a => exact ⟨_, _, rfl, r, z, a⟩
theorem Top.tuple {ds : List D} (h : Top K bx av H v (.tuple ds)) : ∃ a xs, v = .ref a ∧ (H a = some (.tup xs) ∨ WrT K a xs) ∧ xs.length ≤ sizeLine ∧ RepA K av H xs ds := by
  cases h with
  | rep r => cases r with | tup n r z a => exact ⟨_, _, rfl, .inl r, z, a⟩
  | wrt w z a => exact ⟨_, _, rfl, .inr w, z, a⟩
theorem Top.dictK {es : List (D × D)} (h : Top K bx av H v (dK es)) : ∃ a kvs, v = .ref a ∧ Rd H a (.dK kvs) ∧ RepK K av H kvs es := by
  cases h with
  | rep r => cases r with | dcK n r a => exact ⟨_, _, rfl, r, a⟩
  | dcK n r a => exact ⟨_, _, rfl, r, a⟩
theorem Top.dictT {es : List (D × D)} (h : Top K bx av H v (dT es)) : ∃ a kvs, v = .ref a ∧ Rd H a (.dT kvs) ∧ RepT K av H kvs es := by
  cases h with
  | rep r => cases r with | dcT n r a => exact ⟨_, _, rfl, r, a⟩
  | dcT n r a => exact ⟨_, _, rfl, r, a⟩
end
section
variable {K : PySem.W.Frag} {av : Addr → Prop} {H : Hp} {L : List (Addr × Obj × HO)}
mutual
/-- data without dicts as the hand layer reads them -/
theorem Rep.dp (l : Lkd L H) : ∀ {v : V} (d : D), d.plain = true → Rep K av (unl L H) v d → Dp K H v d
  | _, .none, _, h => by cases h; exact .non
  | _, .bool b, _, h => by cases h; exact .bl b
  | _, .int b, _, h => by cases h; exact .int b
  | _, .str b, _, h => by cases h; exact .str b
  | _, .list ds, p, h => by cases h with | lst n r z a => exact .lst (.inl (l.rd r)) (RepA.dp l ds (by rw [PyData.plain] at p; exact p) a)
  | _, .tuple ds, p, h => by
    cases h with
    | tup n r z a => exact .tup (.inl (.inl (l.tp r))) (RepA.dp l ds (by rw [PyData.plain] at p; exact p) a)
  | _, .dict es, p, h => by simp [PyData.plain] at p
theorem RepA.dp (l : Lkd L H) : ∀ {vs : List V} (ds : List D), PyData.plainAll ds = true → RepA K av (unl L H) vs ds → DpAll K H vs ds
  | _, [], _, h => by cases h; exact .nil
  | _, d :: ds, p, h => by
    rw [PyData.plainAll, Bool.and_eq_true] at p
    cases h with | cons a t => exact .cons (Rep.dp l d p.1 a) (RepA.dp l ds p.2 t)
end
theorem Top.dp {bx : Addr → Prop} (l : Lkd L H) {v : V} {d : D} (p : d.plain = true) (h : Top K bx av (unl L H) v d) : Dp K H v d := by
  cases h with
  | rep r => exact r.dp l d p
  | wrt w z a => exact .tup (.inr w) (RepA.dp l _ (by rw [PyData.plain] at p; exact p) a)
  | lst n r z a => exact .lst (.inl (l.rd r)) (RepA.dp l _ (by rw [PyData.plain] at p; exact p) a)
  | dcK => simp [PyData.plain] at p
  | dcT => simp [PyData.plain] at p
end
section
variable {X : Cx} {I : SI} {W : DW} {pins : List (Addr × Obj)} {s : Shared} {σ : St} {H : Hp} {ρ : En}
theorem SR.reads (Iv : Inv X pins σ H s) (S : SR I W X.K σ H ρ) {v : V} {u : Value} {d : D} (p : d.plain = true) (h : Top X.K W.bx (avA W I.own σ ρ) (unl W.L H) v d) (r : RelV v u) : ∃ as, Reads s.heap u d as :=
  Dp.reads Iv d v u (h.dp S.lkd p) r
/-- the places of a list, a tuple -/
theorem SR.sqL (S : SR I W X.K σ H ρ) {a : Addr} {xs : List V} (h : Rd (unl W.L H) a (.lst xs)) : SqL X.K H a xs := .inl (S.lkd.rd h)
theorem SR.sqT (S : SR I W X.K σ H ρ) {a : Addr} {xs : List V} (h : unl W.L H a = some (.tup xs) ∨ WrT X.K a xs) : SqT X.K H a xs := by
  rcases h with h | h
  · exact .inl (.inl (S.lkd.tp h))
  · exact .inr h
end

/-- an operation of two values on data -/
def R2D (X : Cx) (f : Value → Value → Sem Value) (p : D → D → (D → Prop) → Prop) : Prop :=
  ∀ {I : SI} {W : DW} {pins : List (Addr × Obj)} {s : Shared} {σ : St} {H : Hp} {ρ : En} {x y : V} {v u : Value} {d e : D} {Qd : D → Prop} {Q : VK},
    Inv X pins σ H s → WOk I W → SR I W X.K σ H ρ → RelV x v → RelV y u → Top X.K W.bx (avA W I.own σ ρ) (unl W.L H) x d → Top X.K W.bx (avA W I.own σ ρ) (unl W.L H) y e →
    p d e Qd → FinE I W X.K σ ρ H Qd Q → wpAny (model X.prog X.w) X.A (f v u) (EP X pins σ Q) X.xe s
/-- .. of two values that may be kept -/
def R2E (X : Cx) (f : Value → Value → Sem Value) (p : D → D → (D → Prop) → Prop) : Prop :=
  ∀ {I : SI} {W : DW} {pins : List (Addr × Obj)} {s : Shared} {σ : St} {H : Hp} {ρ : En} {x y : V} {v u : Value} {d e : D} {Qd : D → Prop} {Q : VK},
    Inv X pins σ H s → WOk I W → SR I W X.K σ H ρ → RelV x v → RelV y u → Rep X.K (avA W I.own σ ρ) (unl W.L H) x d → Rep X.K (avA W I.own σ ρ) (unl W.L H) y e →
    p d e Qd → FinE I W X.K σ ρ H Qd Q → wpAny (model X.prog X.w) X.A (f v u) (EP X pins σ Q) X.xe s
/-- .. of one value -/
def R1D (X : Cx) (f : Value → Sem Value) (p : D → (D → Prop) → Prop) : Prop :=
  ∀ {I : SI} {W : DW} {pins : List (Addr × Obj)} {s : Shared} {σ : St} {H : Hp} {ρ : En} {x : V} {v : Value} {d : D} {Qd : D → Prop} {Q : VK},
    Inv X pins σ H s → WOk I W → SR I W X.K σ H ρ → RelV x v → Top X.K W.bx (avA W I.own σ ρ) (unl W.L H) x d →
    p d Qd → FinE I W X.K σ ρ H Qd Q → wpAny (model X.prog X.w) X.A (f v) (EP X pins σ Q) X.xe s
/-- .. of a list of values: a call of a builtin -/
def RnD (X : Cx) (f : Value) (p : List D → (D → Prop) → Prop) : Prop :=
  ∀ {I : SI} {W : DW} {pins : List (Addr × Obj)} {s : Shared} {σ : St} {H : Hp} {ρ : En} {xs : List V} {us : List Value} {ds : List D} {Qd : D → Prop} {Q : VK},
    Inv X pins σ H s → WOk I W → SR I W X.K σ H ρ → Vals xs us → TopA X.K W.bx (avA W I.own σ ρ) (unl W.L H) xs ds →
    p ds Qd → FinE I W X.K σ ρ H Qd Q → wpAny (model X.prog X.w) X.A (call f us) (EP X pins σ Q) X.xe s
/-- .. that makes a new list or dict -/
def RnF (X : Cx) (f : Value) (p : List D → (D → Prop) → Prop) : Prop :=
  ∀ {I : SI} {W : DW} {pins : List (Addr × Obj)} {s : Shared} {σ : St} {H : Hp} {ρ : En} {xs : List V} {us : List Value} {ds : List D} {Qd : D → Prop} {Q : VK},
    Inv X pins σ H s → WOk I W → SR I W X.K σ H ρ → Vals xs us → TopA X.K W.bx (avA W I.own σ ρ) (unl W.L H) xs ds →
    p ds Qd → FinF I W X.K σ ρ H Qd Q → wpAny (model X.prog X.w) X.A (call f us) (EP X pins σ Q) X.xe s
theorem RnF.d {X : Cx} {f : Value} {p : List D → (D → Prop) → Prop} (h : RnF X f p) : RnD X f p := fun Iv ok S rv t hp fin => h Iv ok S rv t hp fin.toF
theorem R2D.of {X : Cx} {f : Value → Value → Sem Value} {r : R2} {p : D → D → (D → Prop) → Prop} (ho : OpR X f r)
    (h : ∀ {I : SI} {W : DW} {σ : St} {H : Hp} {ρ : En} {x y : V} {d e : D} {Qd : D → Prop} {Q : VK}, WOk I W → SR I W X.K σ H ρ → Top X.K W.bx (avA W I.own σ ρ) (unl W.L H) x d → Top X.K W.bx (avA W I.own σ ρ) (unl W.L H) y e →
      p d e Qd → FinE I W X.K σ ρ H Qd Q → r x y H Q) : R2D X f p :=
  fun Iv ok S rx ry tx ty hp fin => ho _ _ _ _ _ _ _ _ _ Iv rx ry (h ok S tx ty hp fin)

section
variable {X : Cx}
def pAdd : D → D → (D → Prop) → Prop
  | .int i, .int j, Q => Q (.int (i + j))
  | .str a, .str b, Q => a.length + b.length ≤ sizeLine ∧ Q (.str (a ++ b))
  | .list a, .list b, Q => a.length + b.length ≤ sizeLine ∧ Q (.list (a ++ b))
  | _, _, _ => False
theorem r_add : R2D X (binaryOp .Add) pAdd := by
  intro I W pins s σ H ρ x y v u d e Qd Q Iv ok S rx ry tx ty hp fin
  cases d <;> cases e <;> try (simp only [pAdd] at hp)
  case int.int i j =>
    cases tx.int; cases ty.int
    exact op_add _ _ _ _ _ _ _ _ _ Iv rx ry ⟨i, j, rfl, rfl, fin.here S (.int _) hp⟩
  case str.str i j =>
    cases tx.str; cases ty.str
    exact op_add_str _ _ _ _ _ _ _ _ _ Iv rx ry ⟨i, j, rfl, rfl, hp.1, fin.here S (.str _) hp.2⟩
  case list.list ds es =>
    obtain ⟨a, xs, rfl, ra, za, ha⟩ := tx.list
    obtain ⟨b, ys, rfl, rb, zb, hb⟩ := ty.list
    cases rx; cases ry
    obtain ⟨its, r1, ⟨⟨c1, d1, t1, l1⟩, n1, e1, rfl, _, rfl⟩, _⟩ := Iv.list (S.sqL ra)
    obtain ⟨its2, r2, ⟨⟨c2, d2, t2, l2⟩, n2, e2, rfl, _, rfl⟩, _⟩ := Iv.list (S.sqL rb)
    have hz : (xs ++ ys).length ≤ sizeLine := by rw [List.length_append, ha.len, hb.len]; exact hp.1
    have hz2 : its.toArray.size + its2.toArray.size ≤ sizeLine := by
      rw [List.size_toArray, List.size_toArray, ← r1.length, ← r2.length, ← List.length_append]; exact hz
    refine concat_meets ⟨_, e1, rfl⟩ ⟨_, e2, rfl⟩ noFill_list_add seq_list_add PySem.F.slot_list_add PySem.F.entry_list_add (PySem.F.args_list_add_2 _ _)
      (list_addW a b its.toArray its2.toArray n1 n2 d1 d2 l1 l2 hz2) ⟨e1, e2, ?_⟩
    have hf : H s.heap.objs.size = none := Iv.hok.fresh (Nat.le_refl _)
    have ea : its.toArray ++ its2.toArray = (its ++ its2).toArray := by simp
    rw [ea]
    exact ⟨.ref s.heap.objs.size, upd H s.heap.objs.size (.lst (xs ++ ys)), Iv.laid (t' := s.toks) (fun b u e => Heap.get?_push_of_some _ e) (Nat.le_refl _) ⟨hz, _, 0, r1.append r2, Heap.get?_push_size _ rfl⟩, rfl,
      fin.newL ok S hf hz (ha.app hb) hp.2⟩
/-- .. of values that may be kept: tuples too -/
def pAddE : D → D → (D → Prop) → Prop
  | .tuple a, .tuple b, Q => a.length + b.length ≤ sizeLine ∧ Q (.tuple (a ++ b))
  | a, b, Q => pAdd a b Q
theorem r_addE : R2E X (binaryOp .Add) pAddE := by
  intro I W pins s σ H ρ x y v u d e Qd Q Iv ok S rx ry tx ty hp fin
  by_cases hd : (∃ ds, d = .tuple ds) ∧ ∃ es, e = .tuple es
  · obtain ⟨⟨ds, rfl⟩, es, rfl⟩ := hd
    obtain ⟨hz0, hq⟩ := hp
    obtain ⟨a, xs, rfl, ra, za, ha⟩ := (Top.rep (bx := W.bx) tx).tuple
    obtain ⟨b, ys, rfl, rb, zb, hb⟩ := (Top.rep (bx := W.bx) ty).tuple
    have hz : (xs ++ ys).length ≤ sizeLine := by rw [List.length_append, ha.len, hb.len]; exact hz0
    refine op_catA _ _ _ _ _ _ _ _ _ Iv rx ry ⟨a, b, xs, ys, rfl, rfl, S.sqT ra, S.sqT rb, by rw [← List.length_append]; exact hz, fun z => ?_, fun z1 z2 => ?_, fun z1 z2 p hn => ?_⟩
    · subst z
      cases ha
      exact fin.here S ty hq
    · subst z2
      cases hb
      rw [List.append_nil] at hq
      exact fin.here S tx hq
    · exact fin.newT ok S hn hz (ha.app hb) hq
  · refine r_add Iv ok S rx ry (.rep tx) (.rep ty) ?_ fin
    unfold pAddE at hp
    split at hp
    · rename_i a b; exact absurd ⟨⟨a, rfl⟩, b, rfl⟩ hd
    · exact hp
def pSub : D → D → (D → Prop) → Prop
  | .int i, .int j, Q => Q (.int (i - j))
  | _, _, _ => False
theorem r_sub : R2D X (binaryOp .Sub) pSub := by
  intro I W pins s σ H ρ x y v u d e Qd Q Iv ok S rx ry tx ty hp fin
  cases d <;> cases e <;> try (simp only [pSub] at hp)
  case int.int i j =>
    cases tx.int; cases ty.int
    exact op_sub _ _ _ _ _ _ _ _ _ Iv rx ry ⟨i, j, rfl, rfl, fin.here S (.int _) hp⟩
def smallI (i : Int) : Prop := -18446744073709551616 < i ∧ i < 18446744073709551616
def pMul : D → D → (D → Prop) → Prop
  | .int i, .int j, Q => (smallI i ∨ smallI j) ∧ Q (.int (i * j))
  | .list a, .int j, Q => (-9223372036854775808 ≤ j ∧ j < 9223372036854775808 ∧ a.length * j.toNat ≤ sizeLine) ∧ Q (.list (List.replicate j.toNat a).flatten)
  | _, _, _ => False
def pFdiv : D → D → (D → Prop) → Prop
  | .int i, .int j, Q => (0 < j ∧ j < 1073741824) ∧ Q (.int (i / j))
  | _, _, _ => False
theorem r_fdiv : R2D X (binaryOp .FloorDiv) pFdiv := by
  intro I W pins s σ H ρ x y v u d e Qd Q Iv ok S rx ry tx ty hp fin
  cases d <;> cases e <;> try (simp only [pFdiv] at hp)
  case int.int i j =>
    cases tx.int; cases ty.int
    exact op_fdiv _ _ _ _ _ _ _ _ _ Iv rx ry ⟨i, j, rfl, rfl, hp.1, fin.here S (.int _) hp.2⟩
def pMod : D → D → (D → Prop) → Prop
  | .int i, .int j, Q => 0 < j ∧ Q (.int (i % j))
  | _, _, _ => False
theorem r_mod : R2D X (binaryOp .Mod) pMod := by
  intro I W pins s σ H ρ x y v u d e Qd Q Iv ok S rx ry tx ty hp fin
  cases d <;> cases e <;> try (simp only [pMod] at hp)
  case int.int i j =>
    cases tx.int; cases ty.int
    exact op_mod _ _ _ _ _ _ _ _ _ Iv rx ry ⟨i, j, rfl, rfl, hp.1, fin.here S (.int _) hp.2⟩
theorem r_mulI : R2D X (binaryOp .Mult) fun d e Q => match d, e with
  | .int i, .int j => (smallI i ∨ smallI j) ∧ Q (.int (i * j))
  | _, _ => False := by
  intro I W pins s σ H ρ x y v u d e Qd Q Iv ok S rx ry tx ty hp fin
  cases d <;> cases e <;> try (exact False.elim hp)
  case int.int i j =>
    cases tx.int; cases ty.int
    exact op_mul _ _ _ _ _ _ _ _ _ Iv rx ry ⟨i, j, rfl, rfl, hp.1, fin.here S (.int _) hp.2⟩
def pPow : D → D → (D → Prop) → Prop
  | .int i, .int j, Q => (0 ≤ j ∧ j ≤ 1000000 ∧ i.natAbs < 2 ^ 64) ∧ Q (.int (i ^ j.toNat))
  | _, _, _ => False
theorem r_pow : R2D X (binaryOp .Pow) pPow := by
  intro I W pins s σ H ρ x y v u d e Qd Q Iv ok S rx ry tx ty hp fin
  cases d <;> cases e <;> try (simp only [pPow] at hp)
  case int.int i j =>
    cases tx.int; cases ty.int
    exact op_pow _ _ _ _ _ _ _ _ _ Iv rx ry ⟨i, j, rfl, rfl, hp.1, fin.here S (.int _) hp.2⟩
end
end PyD
namespace PyD
open PySem PySem.Spec L2
open PyProof.Rows hiding St
def dget (es : List (D × D)) (k : D) : Option D := (es.find? fun p => PyData.eqv p.1 k).map (·.2)
def dput (es : List (D × D)) (k v : D) : List (D × D) := if (es.any fun p => PyData.eqv p.1 k) = true then es.map (fun p => if PyData.eqv p.1 k = true then (p.1, v) else p) else es ++ [(k, v)]
def ddrop (es : List (D × D)) (k : D) : List (D × D) := es.filter fun p => !PyData.eqv p.1 k
def isKeyK : D → Bool
  | .int _ => true
  | .str _ => true
  | _ => false
def isKeyT : D → Bool
  | .tuple xs => xs.all isKeyK
  | _ => false
theorem isKeyK_of : ∀ {d : D}, isKeyK d = true → ∃ k, d = keyD k
  | .int i, _ => ⟨.inl i, rfl⟩
  | .str x, _ => ⟨.inr x, rfl⟩
  | .none, h => nomatch h
  | .bool _, h => nomatch h
  | .list _, h => nomatch h
  | .tuple _, h => nomatch h
  | .dict _, h => nomatch h
theorem keysK_of : ∀ {ds : List D}, ds.all isKeyK = true → ∃ ks : List Key, ds = ks.map keyD
  | [], _ => ⟨[], rfl⟩
  | d :: ds, h => by
    rw [List.all_cons, Bool.and_eq_true] at h
    obtain ⟨k, rfl⟩ := isKeyK_of h.1
    obtain ⟨ks, rfl⟩ := keysK_of h.2
    exact ⟨k :: ks, rfl⟩
theorem isKeyT_of : ∀ {d : D}, isKeyT d = true → ∃ ks : List Key, d = .tuple (ks.map keyD)
  | .tuple xs, h => by
    obtain ⟨ks, rfl⟩ := keysK_of (show xs.all isKeyK = true from h)
    exact ⟨ks, rfl⟩
  | .int i, h => nomatch h
  | .str x, h => nomatch h
  | .none, h => nomatch h
  | .bool _, h => nomatch h
  | .list _, h => nomatch h
  | .dict _, h => nomatch h
theorem eqv_key (a b : Key) : PyData.eqv (keyD a) (keyD b) = decide (a = b) := by
  cases a with
  | inl i => cases b with
    | inl j =>
      show PyData.eqv (.int i) (.int j) = _
      rw [PyData.eqv, key_ll]
    | inr y =>
      show PyData.eqv (.int i) (.str y) = _
      rw [PyData.eqv]; rfl
  | inr x => cases b with
    | inl j =>
      show PyData.eqv (.str x) (.int j) = _
      rw [PyData.eqv]; rfl
    | inr y =>
      show PyData.eqv (.str x) (.str y) = _
      rw [PyData.eqv, key_rr]
      by_cases e : x = y
      · subst e; simp
      · rw [decide_eq_false e]; exact beq_eq_false_iff_ne.mpr e
theorem eqvAll_keys : ∀ a b : List Key, PyData.eqvAll (a.map keyD) (b.map keyD) = decide (a = b)
  | [], [] => by simp [PyData.eqvAll]
  | [], _ :: _ => by simp [PyData.eqvAll]
  | _ :: _, [] => by simp [PyData.eqvAll]
  | x :: a, y :: b => by
    rw [List.map_cons, List.map_cons, PyData.eqvAll, eqv_key, eqvAll_keys a b]
    by_cases e : x = y
    · subst e; by_cases e2 : a = b <;> simp [e2]
    · simp [e]
theorem eqv_keyT (a b : List Key) : PyData.eqv (.tuple (a.map keyD)) (.tuple (b.map keyD)) = decide (a = b) := by
  rw [PyData.eqv, eqvAll_keys]
section
variable {K : PySem.W.Frag} {av : Addr → Prop} {H : Hp}
def RelG (K : PySem.W.Frag) (av : Addr → Prop) (H : Hp) : Option V → Option D → Prop
  | some v, some d => Rep K av H v d
  | none, none => True
  | _, _ => False
theorem RelG.isSome {o : Option V} {p : Option D} (h : RelG K av H o p) : o.isSome = p.isSome := by
  cases o <;> cases p <;> first | rfl | exact h.elim
theorem RelG.some {o : Option V} {d : D} (h : RelG K av H o (some d)) : ∃ v, o = some v ∧ Rep K av H v d := by
  cases o with
  | none => exact h.elim
  | some v => exact ⟨v, rfl, h⟩
theorem RepK.val (k : Key) : ∀ {kvs : List (Key × V)} {es : List (D × D)}, RepK K av H kvs es → RelG K av H (valV kvs k) (dget es (keyD k))
  | _, _, .nil => trivial
  | _, _, .cons (k := j) (v := v) (vs := vs) (d := d) (ds := ds) h t => by
    by_cases e : j = k
    · rw [valV_pos (p := (j, v)) e]
      unfold dget
      rw [List.find?_cons_of_pos (by rw [eqv_key]; exact decide_eq_true e)]
      exact h
    · rw [valV_neg (p := (j, v)) e]
      unfold dget
      rw [List.find?_cons_of_neg (by rw [eqv_key, decide_eq_false e]; exact Bool.false_ne_true)]
      exact RepK.val k t
theorem RepT.val (k : List Key) : ∀ {kvs : List (List Key × V)} {es : List (D × D)}, RepT K av H kvs es → RelG K av H (valV kvs k) (dget es (.tuple (k.map keyD)))
  | _, _, .nil => trivial
  | _, _, .cons (k := j) (v := v) (vs := vs) (d := d) (ds := ds) h t => by
    by_cases e : j = k
    · rw [valV_pos (p := (j, v)) e]
      unfold dget
      rw [List.find?_cons_of_pos (by rw [eqv_keyT]; exact decide_eq_true e)]
      exact h
    · rw [valV_neg (p := (j, v)) e]
      unfold dget
      rw [List.find?_cons_of_neg (by rw [eqv_keyT, decide_eq_false e]; exact Bool.false_ne_true)]
      exact RepT.val k t
theorem RepK.any (k : Key) : ∀ {kvs : List (Key × V)} {es : List (D × D)}, RepK K av H kvs es → (kvs.any fun kv => decide (kv.1 = k)) = es.any fun p => PyData.eqv p.1 (keyD k)
  | _, _, .nil => rfl
  | _, _, .cons h t => by rw [List.any_cons, List.any_cons, RepK.any k t, eqv_key]
theorem RepT.any (k : List Key) : ∀ {kvs : List (List Key × V)} {es : List (D × D)}, RepT K av H kvs es → (kvs.any fun kv => decide (kv.1 = k)) = es.any fun p => PyData.eqv p.1 (.tuple (k.map keyD))
  | _, _, .nil => rfl
  | _, _, .cons h t => by rw [List.any_cons, List.any_cons, RepT.any k t, eqv_keyT]
theorem RepK.app : ∀ {a b : List (Key × V)} {c d : List (D × D)}, RepK K av H a c → RepK K av H b d → RepK K av H (a ++ b) (c ++ d)
  | _, _, _, _, .nil, h => h
  | _, _, _, _, .cons h t, b => .cons h (RepK.app t b)
theorem RepT.app : ∀ {a b : List (List Key × V)} {c d : List (D × D)}, RepT K av H a c → RepT K av H b d → RepT K av H (a ++ b) (c ++ d)
  | _, _, _, _, .nil, h => h
  | _, _, _, _, .cons h t, b => .cons h (RepT.app t b)
theorem RepK.upd (k : Key) {v : V} {d : D} (r : Rep K av H v d) : ∀ {kvs : List (Key × V)} {es : List (D × D)}, RepK K av H kvs es →
    RepK K av H (kvs.map fun kv => if kv.1 = k then (kv.1, v) else kv) (es.map fun p => if PyData.eqv p.1 (keyD k) = true then (p.1, d) else p)
  | _, _, .nil => .nil
  | _, _, .cons (k := j) h t => by
    rw [List.map_cons, List.map_cons]
    by_cases e : j = k
    · rw [if_pos e, if_pos (by rw [eqv_key]; exact decide_eq_true e)]
      exact .cons r (RepK.upd k r t)
    · rw [if_neg e, if_neg (by rw [eqv_key, decide_eq_false e]; exact Bool.false_ne_true)]
      exact .cons h (RepK.upd k r t)
theorem RepT.upd (k : List Key) {v : V} {d : D} (r : Rep K av H v d) : ∀ {kvs : List (List Key × V)} {es : List (D × D)}, RepT K av H kvs es →
    RepT K av H (kvs.map fun kv => if kv.1 = k then (kv.1, v) else kv) (es.map fun p => if PyData.eqv p.1 (.tuple (k.map keyD)) = true then (p.1, d) else p)
  | _, _, .nil => .nil
  | _, _, .cons (k := j) h t => by
    rw [List.map_cons, List.map_cons]
    by_cases e : j = k
    · rw [if_pos e, if_pos (by rw [eqv_keyT]; exact decide_eq_true e)]
      exact .cons r (RepT.upd k r t)
    · rw [if_neg e, if_neg (by rw [eqv_keyT, decide_eq_false e]; exact Bool.false_ne_true)]
      exact .cons h (RepT.upd k r t)
theorem RepK.put {k : Key} {v : V} {d : D} (r : Rep K av H v d) {kvs : List (Key × V)} {es : List (D × D)} (h : RepK K av H kvs es) : RepK K av H (putK kvs k v) (dput es (keyD k) d) := by
  unfold putK dput
  rw [h.any k]
  split
  · exact h.upd k r
  · exact h.app (.cons r .nil)
theorem RepT.put {k : List Key} {v : V} {d : D} (r : Rep K av H v d) {kvs : List (List Key × V)} {es : List (D × D)} (h : RepT K av H kvs es) : RepT K av H (putK kvs k v) (dput es (.tuple (k.map keyD)) d) := by
  unfold putK dput
  rw [h.any k]
  split
  · exact h.upd k r
  · exact h.app (.cons r .nil)
end
section
variable {X : Cx} {I : SI} {W : DW} {pins : List (Addr × Obj)} {s : Shared} {σ : St} {H : Hp} {ρ : En}
/-- the key's own tuple -/
theorem Top.keyT {bx av : Addr → Prop} {v : V} {ks : List Key} (l : Lkd W.L H) (h : Top X.K bx av (unl W.L H) v (.tuple (ks.map keyD))) (nw : ∀ a xs, v = .ref a → ¬ WrT X.K a xs) : ∃ b, v = .ref b ∧ H b = some (.tup (ks.map kV)) := by
  obtain ⟨a, xs, rfl, r, _, q⟩ := h.tuple
  rcases r with r | r
  · rw [q.keys] at r; exact ⟨a, rfl, l.tp r⟩
  · exact absurd r (nw a xs rfl)
end

section
variable {X : Cx}
def EqOk (d e : D) : Prop := d.plain = true ∧ e.plain = true ∧ min d.depth e.depth ≤ 150
def pEq (d e : D) (Q : D → Prop) : Prop := EqOk d e ∧ Q (.bool (PyData.eqv d e))
def pNe (d e : D) (Q : D → Prop) : Prop := EqOk d e ∧ Q (.bool (!PyData.eqv d e))
theorem r_eq (hu : X.A.units + 200 < cLine) : R2D X (compareOp .Eq) pEq := by
  intro I W pins s σ H ρ x y v u d e Qd Q Iv ok S rx ry tx ty hp fin
  obtain ⟨⟨h1, h2, h3⟩, hq⟩ := hp
  obtain ⟨as, r1⟩ := S.reads Iv h1 tx rx
  obtain ⟨bs, r2⟩ := S.reads Iv h2 ty ry
  exact SeqAt.eq_plain r1 r2 h1 h2 (by omega) ⟨.bl _, H, Iv, rfl, fin.here S (.bl _) hq⟩
theorem r_ne (hu : X.A.units + 200 < cLine) : R2D X (compareOp .NotEq) pNe := by
  intro I W pins s σ H ρ x y v u d e Qd Q Iv ok S rx ry tx ty hp fin
  obtain ⟨⟨h1, h2, h3⟩, hq⟩ := hp
  obtain ⟨as, r1⟩ := S.reads Iv h1 tx rx
  obtain ⟨bs, r2⟩ := S.reads Iv h2 ty ry
  exact SeqAt.ne_plain r1 r2 h1 h2 (by omega) ⟨.bl _, H, Iv, rfl, fin.here S (.bl _) hq⟩
open PySem.W in
def LtOk (d e : D) : Prop := EqOk d e ∧ alike d e = true ∧ d ≠ .none
open PySem.W in
def pLt (d e : D) (Q : D → Prop) : Prop := LtOk d e ∧ Q (.bool (dataLt d e))
open PySem.W in
def pGt (d e : D) (Q : D → Prop) : Prop := LtOk d e ∧ Q (.bool (dataLt e d))
open PySem.W in
def pLe (d e : D) (Q : D → Prop) : Prop := LtOk d e ∧ Q (.bool (!dataLt e d))
open PySem.W in
def pGe (d e : D) (Q : D → Prop) : Prop := LtOk d e ∧ Q (.bool (!dataLt d e))
theorem r_lt (hu : X.A.units + 200 < cLine) : R2D X (compareOp .Lt) pLt := by
  intro I W pins s σ H ρ x y v u d e Qd Q Iv ok S rx ry tx ty hp fin
  obtain ⟨⟨⟨h1, h2, h3⟩, h4, h5⟩, hq⟩ := hp
  obtain ⟨as, r1⟩ := S.reads Iv h1 tx rx
  obtain ⟨bs, r2⟩ := S.reads Iv h2 ty ry
  exact PySem.W.lt_data r1 r2 h4 h5 (by omega) ⟨.bl _, H, Iv, rfl, fin.here S (.bl _) hq⟩
theorem r_gt (hu : X.A.units + 200 < cLine) : R2D X (compareOp .Gt) pGt := by
  intro I W pins s σ H ρ x y v u d e Qd Q Iv ok S rx ry tx ty hp fin
  obtain ⟨⟨⟨h1, h2, h3⟩, h4, h5⟩, hq⟩ := hp
  obtain ⟨as, r1⟩ := S.reads Iv h1 tx rx
  obtain ⟨bs, r2⟩ := S.reads Iv h2 ty ry
  exact PySem.W.gt_data r1 r2 h4 h5 (by omega) ⟨.bl _, H, Iv, rfl, fin.here S (.bl _) hq⟩
theorem r_le (hu : X.A.units + 200 < cLine) : R2D X (compareOp .LtE) pLe := by
  intro I W pins s σ H ρ x y v u d e Qd Q Iv ok S rx ry tx ty hp fin
  obtain ⟨⟨⟨h1, h2, h3⟩, h4, h5⟩, hq⟩ := hp
  obtain ⟨as, r1⟩ := S.reads Iv h1 tx rx
  obtain ⟨bs, r2⟩ := S.reads Iv h2 ty ry
  exact PySem.W.le_data r1 r2 h4 h5 (by omega) ⟨.bl _, H, Iv, rfl, fin.here S (.bl _) hq⟩
theorem r_ge (hu : X.A.units + 200 < cLine) : R2D X (compareOp .GtE) pGe := by
  intro I W pins s σ H ρ x y v u d e Qd Q Iv ok S rx ry tx ty hp fin
  obtain ⟨⟨⟨h1, h2, h3⟩, h4, h5⟩, hq⟩ := hp
  obtain ⟨as, r1⟩ := S.reads Iv h1 tx rx
  obtain ⟨bs, r2⟩ := S.reads Iv h2 ty ry
  exact PySem.W.ge_data r1 r2 h4 h5 (by omega) ⟨.bl _, H, Iv, rfl, fin.here S (.bl _) hq⟩
def isD : D → D → Bool
  | .none, .none => true
  | .bool a, .bool b => a == b
  | _, _ => false
def pIs (d : D) : D → (D → Prop) → Prop
  | .none, Q => Q (.bool (isD d .none))
  | .bool b, Q => Q (.bool (isD d (.bool b)))
  | _, _ => False
def pIsNot (d : D) : D → (D → Prop) → Prop
  | .none, Q => Q (.bool (!isD d .none))
  | .bool b, Q => Q (.bool (!isD d (.bool b)))
  | _, _ => False
theorem is_case {K : PySem.W.Frag} {bx av : Addr → Prop} {H : Hp} {x y : V} {v u : Value} {d e : D} (rx : RelV x v) (ry : RelV y u) (tx : Top K bx av H x d) (ty : Top K bx av H y e) (he : e = .none ∨ ∃ b, e = .bool b) : plainIs v u = true ∧ (v == u) = isD d e := by
  rcases he with rfl | ⟨b, rfl⟩
  · cases ty.none
    cases ry
    cases d <;> first
      | (cases tx.none; cases rx; exact ⟨rfl, rfl⟩)
      | (cases tx.bool; cases rx; exact ⟨rfl, rfl⟩)
      | (cases tx.int; obtain ⟨t, rfl⟩ := rx; exact ⟨rfl, rfl⟩)
      | (cases tx.str; obtain ⟨t, rfl⟩ := rx; exact ⟨rfl, rfl⟩)
      | (obtain ⟨a, xs, rfl, _⟩ := tx.list; cases rx; exact ⟨rfl, rfl⟩)
      | (obtain ⟨a, xs, rfl, _⟩ := tx.tuple; cases rx; exact ⟨rfl, rfl⟩)
      | (cases tx with
         | rep r => cases r <;> (cases rx; exact ⟨rfl, rfl⟩)
         | dcK => cases rx; exact ⟨rfl, rfl⟩
         | dcT => cases rx; exact ⟨rfl, rfl⟩)
  · cases ty.bool
    cases ry
    cases d <;> first
      | (cases tx.none; cases rx; exact ⟨rfl, rfl⟩)
      | (cases tx.int; obtain ⟨t, rfl⟩ := rx; exact ⟨rfl, rfl⟩)
      | (cases tx.str; obtain ⟨t, rfl⟩ := rx; exact ⟨rfl, rfl⟩)
      | (obtain ⟨a, xs, rfl, _⟩ := tx.list; cases rx; exact ⟨rfl, rfl⟩)
      | (obtain ⟨a, xs, rfl, _⟩ := tx.tuple; cases rx; exact ⟨rfl, rfl⟩)
      | (rename_i c; cases tx.bool; cases rx; cases b <;> cases c <;> exact ⟨rfl, rfl⟩)
      | (cases tx with
         | rep r => cases r <;> (cases rx; exact ⟨rfl, rfl⟩)
         | dcK => cases rx; exact ⟨rfl, rfl⟩
         | dcT => cases rx; exact ⟨rfl, rfl⟩)
theorem r_is : R2D X (compareOp .Is) pIs := by
  intro I W pins s σ H ρ x y v u d e Qd Q Iv ok S rx ry tx ty hp fin
  cases e <;> try (exact False.elim hp)
  all_goals
    obtain ⟨h1, h2⟩ := is_case rx ry tx ty (by first | exact .inl rfl | exact .inr ⟨_, rfl⟩)
    exact wpAny_is_plain h1 (by rw [h2]; exact ⟨.bl _, H, Iv, rfl, fin.here S (.bl _) hp⟩)
theorem r_isNot : R2D X (compareOp .IsNot) pIsNot := by
  intro I W pins s σ H ρ x y v u d e Qd Q Iv ok S rx ry tx ty hp fin
  cases e <;> try (exact False.elim hp)
  all_goals
    obtain ⟨h1, h2⟩ := is_case rx ry tx ty (by first | exact .inl rfl | exact .inr ⟨_, rfl⟩)
    exact wpAny_isNot_plain h1 (by rw [h2]; exact ⟨.bl _, H, Iv, rfl, fin.here S (.bl _) hp⟩)
def InOk (d : D) (xs : List D) : Prop := PyData.plainAll xs = true ∧ d.plain = true ∧ min (PyData.depthAll xs) d.depth ≤ 150
def inD (d : D) (xs : List D) : Bool := xs.any fun y => PyData.eqv y d
def inS (x y : Str) : Bool := !(Builtin.Str.occurrences y x 0 y.length 1).isEmpty
def pIn (d : D) : D → (D → Prop) → Prop
  | .list xs, Q => InOk d xs ∧ Q (.bool (inD d xs))
  | .tuple xs, Q => InOk d xs ∧ Q (.bool (inD d xs))
  | .str y, Q => match d with
    | .str x => Q (.bool (inS x y))
    | _ => False
  | .dict ((.none, .none) :: es), Q => isKeyK d = true ∧ Q (.bool (dget es d).isSome)
  | .dict ((.none, .bool true) :: es), Q => isKeyT d = true ∧ Q (.bool (dget es d).isSome)
  | _, _ => False
def pNotIn (d : D) : D → (D → Prop) → Prop
  | .list xs, Q => InOk d xs ∧ Q (.bool (!inD d xs))
  | .tuple xs, Q => InOk d xs ∧ Q (.bool (!inD d xs))
  | .str y, Q => match d with
    | .str x => Q (.bool (!inS x y))
    | _ => False
  | .dict ((.none, .none) :: es), Q => isKeyK d = true ∧ Q (.bool (!(dget es d).isSome))
  | .dict ((.none, .bool true) :: es), Q => isKeyT d = true ∧ Q (.bool (!(dget es d).isSome))
  | _, _ => False
/-- what a dict holds at a key -/
theorem SR.dgetK {I : SI} {W : DW} {K : PySem.W.Frag} {σ : St} {H : Hp} {ρ : En} {x y : V} {k : D} {es : List (D × D)} (S : SR I W K σ H ρ) (hk : isKeyK k = true) (tk : Top K W.bx (avA W I.own σ ρ) (unl W.L H) y k) (td : Top K W.bx (avA W I.own σ ρ) (unl W.L H) x (dK es)) :
    ∃ a o, x = .ref a ∧ DGet H a y o ∧ RelG K (avA W I.own σ ρ) (unl W.L H) o (dget es k) := by
  obtain ⟨j, rfl⟩ := isKeyK_of hk
  obtain ⟨a, kvs, rfl, r, q⟩ := td.dictK
  have hy : y = kV j := by
    cases j with
    | inl i => exact tk.int
    | inr z => exact tk.str
  exact ⟨a, valV kvs j, rfl, .inl ⟨kvs, j, S.lkd.rd r, hy, rfl⟩, q.val j⟩
end
end PyD
namespace PyD
open PySem PySem.Spec L2
open PyProof.Rows hiding St
/-- the left one may be kept, the right one is looked at -/
def R2M (X : Cx) (f : Value → Value → Sem Value) (p : D → D → (D → Prop) → Prop) : Prop :=
  ∀ {I : SI} {W : DW} {pins : List (Addr × Obj)} {s : Shared} {σ : St} {H : Hp} {ρ : En} {x y : V} {v u : Value} {d e : D} {Qd : D → Prop} {Q : VK},
    Inv X pins σ H s → WOk I W → SR I W X.K σ H ρ → RelV x v → RelV y u → Rep X.K (avA W I.own σ ρ) (unl W.L H) x d → Top X.K W.bx (avA W I.own σ ρ) (unl W.L H) y e →
    p d e Qd → FinE I W X.K σ ρ H Qd Q → wpAny (model X.prog X.w) X.A (f v u) (EP X pins σ Q) X.xe s
section
variable {K : PySem.W.Frag} {I : SI} {W : DW} {σ : St} {H : Hp} {ρ : En}
theorem SR.dgetT {x y : V} {k : D} {es : List (D × D)} (S : SR I W K σ H ρ) (hk : isKeyT k = true) (tk : Rep K (avA W I.own σ ρ) (unl W.L H) y k) (td : Top K W.bx (avA W I.own σ ρ) (unl W.L H) x (dT es)) :
    ∃ a o, x = .ref a ∧ DGet H a y o ∧ RelG K (avA W I.own σ ρ) (unl W.L H) o (dget es k) := by
  obtain ⟨j, rfl⟩ := isKeyT_of hk
  obtain ⟨a, kvs, rfl, r, q⟩ := td.dictT
  cases tk with
  | tup n rt z ra =>
    rw [ra.keys] at rt
    exact ⟨a, valV kvs j, rfl, .inr ⟨kvs, j, _, S.lkd.rd r, rfl, S.lkd.tp rt, rfl⟩, q.val j⟩
end
section
variable {X : Cx}
theorem r_in (hu : X.A.units + 200 < cLine) : R2M X (compareOp .In) pIn := by
  intro I W pins s σ H ρ x y v u d e Qd Q Iv ok S rx ry tx ty hp fin
  unfold pIn at hp
  split at hp
  · obtain ⟨⟨h1, h2, h3⟩, hq⟩ := hp
    obtain ⟨as, r1⟩ := S.reads Iv h2 (.rep tx) rx
    obtain ⟨bs, r2⟩ := S.reads Iv (by rw [PyData.plain]; exact h1) ty ry
    exact SeqAt.in_list_data r2 r1 h1 h2 (by omega) ⟨.bl _, H, Iv, rfl, fin.here S (.bl _) hq⟩
  · obtain ⟨⟨h1, h2, h3⟩, hq⟩ := hp
    obtain ⟨as, r1⟩ := S.reads Iv h2 (.rep tx) rx
    obtain ⟨bs, r2⟩ := S.reads Iv (by rw [PyData.plain]; exact h1) ty ry
    exact SeqAt.in_tuple_data r2 r1 h1 h2 (by omega) ⟨.bl _, H, Iv, rfl, fin.here S (.bl _) hq⟩
  · split at hp
    · cases tx; cases ty.str
      exact op_in_str _ _ _ _ _ _ _ _ _ Iv rx ry ⟨_, _, rfl, rfl, fin.here S (.bl _) hp⟩
    · exact hp.elim
  · obtain ⟨hk, hq⟩ := hp
    obtain ⟨a, o, rfl, g, rel⟩ := S.dgetK hk (.rep tx) ty
    cases ry
    refine d_in (by omega) Iv g rx fun s' Iv' => ⟨.bl _, H, Iv', rfl, fin.here S (.bl _) ?_⟩
    rw [rel.isSome]; exact hq
  · obtain ⟨hk, hq⟩ := hp
    obtain ⟨a, o, rfl, g, rel⟩ := S.dgetT hk tx ty
    cases ry
    refine d_in (by omega) Iv g rx fun s' Iv' => ⟨.bl _, H, Iv', rfl, fin.here S (.bl _) ?_⟩
    rw [rel.isSome]; exact hq
  · exact hp.elim
theorem r_notIn (hu : X.A.units + 200 < cLine) : R2M X (compareOp .NotIn) pNotIn := by
  intro I W pins s σ H ρ x y v u d e Qd Q Iv ok S rx ry tx ty hp fin
  unfold pNotIn at hp
  split at hp
  · obtain ⟨⟨h1, h2, h3⟩, hq⟩ := hp
    obtain ⟨as, r1⟩ := S.reads Iv h2 (.rep tx) rx
    obtain ⟨bs, r2⟩ := S.reads Iv (by rw [PyData.plain]; exact h1) ty ry
    exact SeqAt.notIn_list_data r2 r1 h1 h2 (by omega) ⟨.bl _, H, Iv, rfl, fin.here S (.bl _) hq⟩
  · obtain ⟨⟨h1, h2, h3⟩, hq⟩ := hp
    obtain ⟨as, r1⟩ := S.reads Iv h2 (.rep tx) rx
    obtain ⟨bs, r2⟩ := S.reads Iv (by rw [PyData.plain]; exact h1) ty ry
    exact SeqAt.notIn_tuple_data r2 r1 h1 h2 (by omega) ⟨.bl _, H, Iv, rfl, fin.here S (.bl _) hq⟩
  · split at hp
    · cases tx; cases ty.str
      refine L2.op_notIn_str _ _ _ _ _ _ _ _ _ Iv rx ry ⟨_, _, rfl, rfl, fin.here S (.bl _) ?_⟩
      exact hp
    · exact hp.elim
  · obtain ⟨hk, hq⟩ := hp
    obtain ⟨a, o, rfl, g, rel⟩ := S.dgetK hk (.rep tx) ty
    cases ry
    refine d_notIn (by omega) Iv g rx fun s' Iv' => ⟨.bl _, H, Iv', rfl, fin.here S (.bl _) ?_⟩
    rw [rel.isSome]; exact hq
  · obtain ⟨hk, hq⟩ := hp
    obtain ⟨a, o, rfl, g, rel⟩ := S.dgetT hk tx ty
    cases ry
    refine d_notIn (by omega) Iv g rx fun s' Iv' => ⟨.bl _, H, Iv', rfl, fin.here S (.bl _) ?_⟩
    rw [rel.isSome]; exact hq
  · exact hp.elim
/-- the item at a place, from the end too -/
def atD {α : Type} (xs : List α) (i : Int) : Option α := if 0 ≤ i then xs[i.toNat]? else if 0 ≤ i + xs.length then xs[(i + xs.length).toNat]? else none
def pIx : D → D → (D → Prop) → Prop
  | .list xs, .int i, Q => ∃ d, atD xs i = some d ∧ Q d
  | .tuple xs, .int i, Q => ∃ d, atD xs i = some d ∧ Q d
  | .str z, .int i, Q => ∃ c, z.length ≤ sizeLine ∧ atD z.cps.toList i = some c ∧ Q (.str ⟨#[c]⟩)
  | .dict ((.none, .none) :: es), k, Q => isKeyK k = true ∧ ∃ d, dget es k = some d ∧ Q d
  | .dict ((.none, .bool true) :: es), k, Q => isKeyT k = true ∧ ∃ d, dget es k = some d ∧ Q d
  | _, _, _ => False
theorem atI_of {α : Type} {xs : List α} {i : Int} {d : α} (h : atD xs i = some d) : atI xs i = some d := by
  unfold atD at h
  unfold atI ixN
  split at h
  · rename_i h0
    obtain ⟨hl, he⟩ := List.getElem?_eq_some_iff.mp h
    rw [if_pos h0, if_pos (by omega)]
    exact h
  · split at h
    · rename_i h0 h1
      rw [if_neg h0, if_pos (by omega)]
      exact h
    · cases h
theorem atI_rep {K : PySem.W.Frag} {av : Addr → Prop} {H : Hp} {xs : List V} {ds : List D} (r : RepA K av H xs ds) {i : Int} {d : D} (h : atD ds i = some d) : ∃ v, atI xs i = some v ∧ Rep K av H v d := by
  unfold atD at h
  have hl := r.len
  split at h
  · rename_i h0
    obtain ⟨v, hv, rv⟩ := r.get h
    exact ⟨v, atI_of (by unfold atD; rw [if_pos h0]; exact hv), rv⟩
  · split at h
    · rename_i h0 h1
      obtain ⟨v, hv, rv⟩ := r.get h
      exact ⟨v, atI_of (by unfold atD; rw [if_neg h0, hl, if_pos h1]; exact hv), rv⟩
    · cases h
/-- a subscript -/
theorem r_ix (hu : X.A.units + 200 < cLine) (value slice : Expr) {I : SI} {W : DW} {pins : List (Addr × Obj)} {s : Shared} {σ : St} {H : Hp} {ρ : En} {x y : V} {v u : Value} {d e : D} {Qd : D → Prop} {Q : VK}
    (Iv : Inv X pins σ H s) (ok : WOk I W) (S : SR I W X.K σ H ρ) (rx : RelV x v) (ry : RelV y u) (tx : Top X.K W.bx (avA W I.own σ ρ) (unl W.L H) x d) (ty : Rep X.K (avA W I.own σ ρ) (unl W.L H) y e)
    (hp : pIx d e Qd) (fin : FinE I W X.K σ ρ H Qd Q) (hs : subscripted slice false v u = operate [v, u] (getItem v u)) : wpAny (model X.prog X.w) X.A (subscriptTail value slice v u) (EP X pins σ Q) X.xe s := by
  unfold pIx at hp
  split at hp
  · obtain ⟨d, hd, hq⟩ := hp
    obtain ⟨a, xs, rfl, r, z, ra⟩ := tx.list
    cases ty
    obtain ⟨w, hw, rw'⟩ := atI_rep ra hd
    exact ix_list value slice pins s σ H _ _ _ _ Q Iv rx ry ⟨a, xs, _, w, rfl, rfl, S.sqL r, hw, fin.here S rw' hq⟩ hs
  · obtain ⟨d, hd, hq⟩ := hp
    obtain ⟨a, xs, rfl, r, z, ra⟩ := tx.tuple
    cases ty
    obtain ⟨w, hw, rw'⟩ := atI_rep ra hd
    exact ix_tup value slice pins s σ H _ _ _ _ Q Iv rx ry ⟨a, xs, _, w, rfl, rfl, S.sqT r, hw, fin.here S rw' hq⟩ hs
  · obtain ⟨c, hz, hd, hq⟩ := hp
    cases tx.str
    cases ty
    exact ix_str value slice pins s σ H _ _ _ _ Q Iv rx ry ⟨_, _, c, rfl, rfl, hz, atI_of hd, fin.here S (.str _) hq⟩ hs
  · obtain ⟨hk, d, hd, hq⟩ := hp
    obtain ⟨a, o, rfl, g, rel⟩ := S.dgetK hk (.rep ty) tx
    rw [hd] at rel
    obtain ⟨w, rfl, rw'⟩ := rel.some
    cases rx
    exact tail_any (dict_typeIs Iv g) PySem.F.slot_dict_getitem.lookup (d_getItem (by omega) Iv g ry fun w' s' Iv' rr => ⟨_, H, Iv', rr, fin.here S rw' hq⟩) hs
  · obtain ⟨hk, d, hd, hq⟩ := hp
    obtain ⟨a, o, rfl, g, rel⟩ := S.dgetT hk ty tx
    rw [hd] at rel
    obtain ⟨w, rfl, rw'⟩ := rel.some
    cases rx
    exact tail_any (dict_typeIs Iv g) PySem.F.slot_dict_getitem.lookup (d_getItem (by omega) Iv g ry fun w' s' Iv' rr => ⟨_, H, Iv', rr, fin.here S rw' hq⟩) hs
  · exact hp.elim
theorem TopA.one {K : PySem.W.Frag} {bx av : Addr → Prop} {H : Hp} {xs : List V} {d : D} (h : TopA K bx av H xs [d]) : ∃ x, xs = [x] ∧ Top K bx av H x d := by
  cases h with | cons a t => cases t; exact ⟨_, rfl, a⟩
theorem TopA.two {K : PySem.W.Frag} {bx av : Addr → Prop} {H : Hp} {xs : List V} {d e : D} (h : TopA K bx av H xs [d, e]) : ∃ x y, xs = [x, y] ∧ Top K bx av H x d ∧ Top K bx av H y e := by
  cases h with | cons a t => cases t with | cons b t => cases t; exact ⟨_, _, rfl, a, b⟩
end
end PyD
namespace PyD
open PySem PySem.Spec L2
open PyProof.Rows hiding St
section
variable {X : Cx}
theorem dt_len {pins : List (Addr × Obj)} {σ : St} {H : Hp} {s : Shared} {a : Addr} {kvs : List (List Key × V)} {Q : Value → Shared → Prop} (I : Inv X pins σ H s) (e : Rd H a (.dT kvs)) (h : ∀ t s', Inv X pins σ H s' → Q (.int kvs.length t) s') :
    wpAny (model X.prog X.w) X.A (call (.builtin "len") [.ref a]) Q X.xe s := by
  obtain ⟨z, hd, xs, rel, dd⟩ := dt_rd I.hok e
  have hm : s.heap.DictKeyed (tupleKind (mixKind X.prog X.w)) a (pairsH xs) := ⟨xs, dd, rfl⟩
  have hl : (pairsH xs).length = kvs.length := by rw [pairsH_length]; exact (Paired.length rel).symm
  refine call_len_slot (n := kvs.length) hm.typeIs PySem.F.slot_dict_len (fun Q' hq => len_keyed hd hm (by rw [hl]; exact hq)) (by omega) (by rw [sizeLine_eq] at z; omega) ?_
  exact h _ _ ((I.tok _).tok _)
def pLen : List D → (D → Prop) → Prop
  | [.list xs], Q => Q (.int xs.length)
  | [.tuple xs], Q => Q (.int xs.length)
  | [.str z], Q => z.length ≤ sizeLine ∧ Q (.int z.length)
  | [.dict ((.none, .none) :: es)], Q => Q (.int es.length)
  | [.dict ((.none, .bool true) :: es)], Q => Q (.int es.length)
  | _, _ => False
theorem r_len : RnD X (.builtin "len") pLen := by
  intro I W pins s σ H ρ xs us ds Qd Q Iv ok S rv tv hp fin
  unfold pLen at hp
  split at hp
  · obtain ⟨x, rfl, t⟩ := tv.one
    obtain ⟨a, xs, rfl, r, z, ra⟩ := t.list
    exact call_len_seq _ _ _ _ _ _ _ Iv rv ⟨a, xs, rfl, .inl (S.sqL r), fin.here S (.int _) (by rw [ra.len]; exact hp)⟩
  · obtain ⟨x, rfl, t⟩ := tv.one
    obtain ⟨a, xs, rfl, r, z, ra⟩ := t.tuple
    exact call_len_seq _ _ _ _ _ _ _ Iv rv ⟨a, xs, rfl, .inr (S.sqT r), fin.here S (.int _) (by rw [ra.len]; exact hp)⟩
  · obtain ⟨x, rfl, t⟩ := tv.one
    cases t.str
    exact call_len_str _ _ _ _ _ _ _ Iv rv ⟨_, rfl, hp.1, fin.here S (.int _) hp.2⟩
  · obtain ⟨x, rfl, t⟩ := tv.one
    obtain ⟨a, kvs, rfl, r, q⟩ := t.dictK
    obtain ⟨u, rfl, ru⟩ := vals1 rv
    cases ru
    exact d_len Iv (S.lkd.rd r) fun t s' I' => ⟨.int kvs.length, H, I', ⟨t, rfl⟩, fin.here S (.int _) (by rw [q.len]; exact hp)⟩
  · obtain ⟨x, rfl, t⟩ := tv.one
    obtain ⟨a, kvs, rfl, r, q⟩ := t.dictT
    obtain ⟨u, rfl, ru⟩ := vals1 rv
    cases ru
    exact dt_len Iv (S.lkd.rd r) fun t s' I' => ⟨.int kvs.length, H, I', ⟨t, rfl⟩, fin.here S (.int _) (by rw [q.len]; exact hp)⟩
  · exact hp.elim
def pInt1 : List D → (D → Prop) → Prop
  | [.int i], Q => Q (.int i)
  | _, _ => False
theorem r_int1 : RnD X (.type "int") pInt1 := by
  intro I W pins s σ H ρ xs us ds Qd Q Iv ok S rv tv hp fin
  unfold pInt1 at hp
  split at hp
  · obtain ⟨x, rfl, t⟩ := tv.one
    cases t.int
    exact call_int1 _ _ _ _ _ _ _ Iv rv (.inl ⟨_, rfl, fin.here S (.int _) hp⟩)
  · exact hp.elim
def pAbs : List D → (D → Prop) → Prop
  | [.int i], Q => Q (.int (if i < 0 then -i else i))
  | _, _ => False
theorem r_abs : RnD X (.builtin "abs") pAbs := by
  intro I W pins s σ H ρ xs us ds Qd Q Iv ok S rv tv hp fin
  unfold pAbs at hp
  split at hp
  · obtain ⟨x, rfl, t⟩ := tv.one
    cases t.int
    exact call_abs _ _ _ _ _ _ _ Iv rv ⟨_, rfl, fin.here S (.int _) hp⟩
  · exact hp.elim
def pStr1 : List D → (D → Prop) → Prop
  | [.int i], Q => i.natAbs.log2 < 1920 ∧ Q (.str (toString i))
  | _, _ => False
theorem r_str1 : RnD X (.type "str") pStr1 := by
  intro I W pins s σ H ρ xs us ds Qd Q Iv ok S rv tv hp fin
  unfold pStr1 at hp
  split at hp
  · obtain ⟨x, rfl, t⟩ := tv.one
    cases t.int
    exact call_str_int _ _ _ _ _ _ _ Iv rv ⟨_, rfl, hp.1, fin.here S (.str _) hp.2⟩
  · exact hp.elim
open PySem.W in
def MinOk (x : D) (xs : List D) : Prop := AlikeAll (x :: xs) ∧ PyData.plainAll (x :: xs) = true ∧ PyData.depthAll (x :: xs) ≤ 150
theorem plain_at {h : Heap} : ∀ {vs : List Value} {ds : List D} {as : List Addr}, ReadsAll h vs ds as → ∀ {i : Nat} {v : Value} {d : D}, vs[i]? = some v → ds[i]? = some d → ∃ bs, Reads h v d bs
  | _, _, _, .nil, _, _, _, hv, _ => by simp at hv
  | _, _, _, .cons a t, 0, _, _, hv, hd => by simp at hv hd; subst hv hd; exact ⟨_, a⟩
  | _, _, _, .cons a t, i + 1, _, _, hv, hd => plain_at t (i := i) (by simpa using hv) (by simpa using hd)
/-- the item that min, max hands back -/
theorem pick_rep {K : PySem.W.Frag} {av : Addr → Prop} {Hl : Hp} {s : Shared} {its : List Value} {xs : List V} {ds : List D} {as : List Addr} (rv : Vals xs its) (ra : RepA K av Hl xs ds) (hr : ReadsAll s.heap its ds as) (hp : PyData.plainAll ds = true)
    {i : Nat} {v : Value} {h' : Heap} {m : D} {bs : List Addr} (hv : its[i]? = some v) (hm : Reads h' v m bs) (hk : ∀ b o, s.heap.get? b = some o → h'.get? b = some o) : ∃ x, RelV x v ∧ Rep K av Hl x m := by
  have hi : i < its.length := (List.getElem?_eq_some_iff.mp hv).1
  have hl := rv.length
  obtain ⟨x, hx⟩ : ∃ x, xs[i]? = some x := ⟨xs[i], List.getElem?_eq_getElem (by omega)⟩
  obtain ⟨d, hd, rd⟩ := ra.got hx
  obtain ⟨u, hu, ru⟩ := rv.get hx
  rw [hv] at hu; cases hu
  obtain ⟨cs, r2⟩ := plain_at hr hv hd
  have hpd : d.plain = true := PySem.W.plain_mem hp (List.mem_of_getElem? hd)
  have e : d = m := SeqAt.plain_unique _ _ _ _ _ hpd (Reads.keeps hk r2) hm
  subst e
  exact ⟨x, ru, rd⟩
theorem seq_reads {I : SI} {W : DW} {pins : List (Addr × Obj)} {s : Shared} {σ : St} {H : Hp} {ρ : En} {its : List Value} {xs : List V} {ds : List D} (Iv : Inv X pins σ H s) (S : SR I W X.K σ H ρ) (rv : Vals xs its) (ra : RepA X.K (avA W I.own σ ρ) (unl W.L H) xs ds) (hp : PyData.plainAll ds = true) : ∃ as, ReadsAll s.heap its ds as :=
  Dp.readsAll Iv ds xs its (ra.dp S.lkd ds hp) rv
open PySem.W in
def pMin : List D → (D → Prop) → Prop
  | [.list (x :: xs)], Q => MinOk x xs ∧ Q (minD x xs)
  | [.tuple (x :: xs)], Q => MinOk x xs ∧ Q (minD x xs)
  | [.int i, .int j], Q => Q (.int (if j < i then j else i))
  | _, _ => False
open PySem.W in
def pMax : List D → (D → Prop) → Prop
  | [.list (x :: xs)], Q => MinOk x xs ∧ Q (maxD x xs)
  | [.tuple (x :: xs)], Q => MinOk x xs ∧ Q (maxD x xs)
  | [.int i, .int j], Q => Q (.int (if i < j then j else i))
  | _, _ => False
theorem r_min (hc : X.calm = true) (hu : X.A.units + 200 < cLine) : RnD X (.builtin "min") pMin := by
  intro I W pins s σ H ρ xs us ds Qd Q Iv ok S rv tv hp fin
  unfold pMin at hp
  split at hp
  · obtain ⟨⟨h1, h2, h3⟩, hq⟩ := hp
    obtain ⟨x, rfl, t⟩ := tv.one
    obtain ⟨a, xs, rfl, r, z, ra⟩ := t.list
    obtain ⟨u, rfl, ru⟩ := vals1 rv
    cases ru
    obtain ⟨its, r1, pl, _⟩ := Iv.list (S.sqL r)
    obtain ⟨as, hr⟩ := seq_reads Iv S r1 ra h2
    refine PySem.W.min_list_data (Iv.ok.hd hc) pl.isList (by simpa using hr) h1 (by omega) fun i v h' tk bs hv hm hk => ?_
    obtain ⟨y, ry, rep⟩ := pick_rep (s := s) r1 ra hr h2 (by simpa using hv) hm hk
    exact ⟨y, H, Iv.kept hk, ry, fin.here S rep hq⟩
  · obtain ⟨⟨h1, h2, h3⟩, hq⟩ := hp
    obtain ⟨x, rfl, t⟩ := tv.one
    obtain ⟨a, xs, rfl, r, z, ra⟩ := t.tuple
    obtain ⟨u, rfl, ru⟩ := vals1 rv
    cases ru
    obtain ⟨its, r1, ⟨o, ho, hcl, n, hdt⟩, _⟩ := Iv.tuple (S.sqT r)
    obtain ⟨as, hr⟩ := seq_reads Iv S r1 ra h2
    refine PySem.W.min_tuple_data (Iv.ok.hd hc) ⟨o, ho, hcl, n, hdt⟩ (by simpa using hr) h1 (by omega) fun i v h' tk bs hv hm hk => ?_
    obtain ⟨y, ry, rep⟩ := pick_rep (s := s) r1 ra hr h2 (by simpa using hv) hm hk
    exact ⟨y, H, Iv.kept hk, ry, fin.here S rep hq⟩
  · obtain ⟨x, y, rfl, t1, t2⟩ := tv.two
    cases t1.int; cases t2.int
    exact call_min2 hc _ _ _ _ _ _ _ Iv rv ⟨_, _, rfl, fin.here S (.int _) hp⟩
  · exact hp.elim
theorem r_max (hc : X.calm = true) (hu : X.A.units + 200 < cLine) : RnD X (.builtin "max") pMax := by
  intro I W pins s σ H ρ xs us ds Qd Q Iv ok S rv tv hp fin
  unfold pMax at hp
  split at hp
  · obtain ⟨⟨h1, h2, h3⟩, hq⟩ := hp
    obtain ⟨x, rfl, t⟩ := tv.one
    obtain ⟨a, xs, rfl, r, z, ra⟩ := t.list
    obtain ⟨u, rfl, ru⟩ := vals1 rv
    cases ru
    obtain ⟨its, r1, pl, _⟩ := Iv.list (S.sqL r)
    obtain ⟨as, hr⟩ := seq_reads Iv S r1 ra h2
    refine PySem.W.max_list_data (Iv.ok.hd hc) pl.isList (by simpa using hr) h1 (by omega) fun i v h' tk bs hv hm hk => ?_
    obtain ⟨y, ry, rep⟩ := pick_rep (s := s) r1 ra hr h2 (by simpa using hv) hm hk
    exact ⟨y, H, Iv.kept hk, ry, fin.here S rep hq⟩
  · obtain ⟨⟨h1, h2, h3⟩, hq⟩ := hp
    obtain ⟨x, rfl, t⟩ := tv.one
    obtain ⟨a, xs, rfl, r, z, ra⟩ := t.tuple
    obtain ⟨u, rfl, ru⟩ := vals1 rv
    cases ru
    obtain ⟨its, r1, ⟨o, ho, hcl, n, hdt⟩, _⟩ := Iv.tuple (S.sqT r)
    obtain ⟨as, hr⟩ := seq_reads Iv S r1 ra h2
    refine PySem.W.max_tuple_data (Iv.ok.hd hc) ⟨o, ho, hcl, n, hdt⟩ (by simpa using hr) h1 (by omega) fun i v h' tk bs hv hm hk => ?_
    obtain ⟨y, ry, rep⟩ := pick_rep (s := s) r1 ra hr h2 (by simpa using hv) hm hk
    exact ⟨y, H, Iv.kept hk, ry, fin.here S rep hq⟩
  · obtain ⟨x, y, rfl, t1, t2⟩ := tv.two
    cases t1.int; cases t2.int
    exact call_max2 hc _ _ _ _ _ _ _ Iv rv ⟨_, _, rfl, fin.here S (.int _) hp⟩
  · exact hp.elim
def allB : List D → Option (List Bool)
  | [] => some []
  | .bool b :: r => (allB r).map (b :: ·)
  | _ :: _ => none
theorem allB_map : ∀ {ds : List D} {bs : List Bool}, allB ds = some bs → ds = bs.map .bool
  | [], bs, h => by cases h; rfl
  | .bool b :: r, bs, h => by
    rw [allB] at h
    obtain ⟨cs, h1, rfl⟩ := Option.map_eq_some_iff.mp h
    rw [allB_map h1]; rfl
  | .none :: _, _, h => nomatch h
  | .int _ :: _, _, h => nomatch h
  | .str _ :: _, _, h => nomatch h
  | .list _ :: _, _, h => nomatch h
  | .tuple _ :: _, _, h => nomatch h
  | .dict _ :: _, _, h => nomatch h
theorem RepA.bools {K : PySem.W.Frag} {av : Addr → Prop} {H : Hp} : ∀ {xs : List V} (bs : List Bool), RepA K av H xs (bs.map .bool) → xs = bs.map V.bl
  | _, [], h => by cases h; rfl
  | _, b :: bs, h => by
    have h' : RepA K av H _ (.bool b :: bs.map .bool) := h
    cases h' with | cons a t => cases a; rw [RepA.bools bs t]; rfl
theorem RepA.ints {K : PySem.W.Frag} {av : Addr → Prop} {H : Hp} : ∀ {xs : List V} (bs : List Int), RepA K av H xs (bs.map .int) → xs = bs.map V.int
  | _, [], h => by cases h; rfl
  | _, b :: bs, h => by
    have h' : RepA K av H _ (.int b :: bs.map .int) := h
    cases h' with | cons a t => cases a; rw [RepA.ints bs t]; rfl
def pAny : List D → (D → Prop) → Prop
  | [.list ds], Q => ∃ bs : List Bool, ds = bs.map .bool ∧ Q (.bool (bs.any id))
  | _, _ => False
def pAll : List D → (D → Prop) → Prop
  | [.list ds], Q => ∃ bs : List Bool, ds = bs.map .bool ∧ Q (.bool (bs.all id))
  | _, _ => False
theorem r_any (hc : X.calm = true) : RnD X (.builtin "any") pAny := by
  intro I W pins s σ H ρ xs us ds Qd Q Iv ok S rv tv hp fin
  unfold pAny at hp
  split at hp
  · obtain ⟨bs, rfl, hq⟩ := hp
    obtain ⟨x, rfl, t⟩ := tv.one
    obtain ⟨a, xs, rfl, r, z, ra⟩ := t.list
    rw [ra.bools bs] at r
    exact cr_any hc _ _ _ _ _ _ _ Iv rv ⟨a, bs, rfl, S.sqL r, fin.here S (.bl _) hq⟩
  · exact hp.elim
theorem r_all (hc : X.calm = true) : RnD X (.builtin "all") pAll := by
  intro I W pins s σ H ρ xs us ds Qd Q Iv ok S rv tv hp fin
  unfold pAll at hp
  split at hp
  · obtain ⟨bs, rfl, hq⟩ := hp
    obtain ⟨x, rfl, t⟩ := tv.one
    obtain ⟨a, xs, rfl, r, z, ra⟩ := t.list
    rw [ra.bools bs] at r
    exact cr_all hc _ _ _ _ _ _ _ Iv rv ⟨a, bs, rfl, S.sqL r, fin.here S (.bl _) hq⟩
  · exact hp.elim
def pSum : List D → (D → Prop) → Prop
  | [.list ds], Q => ∃ ns : List Int, ds = ns.map .int ∧ Q (.int ns.sum)
  | _, _ => False
theorem r_sum (hc : X.calm = true) : RnD X (.builtin "sum") pSum := by
  intro I W pins s σ H ρ xs us ds Qd Q Iv ok S rv tv hp fin
  unfold pSum at hp
  split at hp
  · obtain ⟨bs, rfl, hq⟩ := hp
    obtain ⟨x, rfl, t⟩ := tv.one
    obtain ⟨a, xs, rfl, r, z, ra⟩ := t.list
    rw [ra.ints bs] at r
    exact cr_sum hc _ _ _ _ _ _ _ Iv rv ⟨a, bs, rfl, S.sqL r, fin.here S (.int _) hq⟩
  · exact hp.elim
def pListOf : List D → (D → Prop) → Prop
  | [.list ds], Q => Q (.list ds)
  | [.tuple ds], Q => Q (.list ds)
  | [.dict ((.none, .none) :: es)], Q => Q (.list (es.map (·.1)))
  | [.dict ((.none, .bool true) :: es)], Q => Q (.list (es.map (·.1)))
  | _, _ => False
theorem RepK.keys {K : PySem.W.Frag} {av : Addr → Prop} {H : Hp} : ∀ {kvs : List (Key × V)} {es : List (D × D)}, RepK K av H kvs es → RepA K av H (kvs.map fun kv => kV kv.1) (es.map (·.1))
  | _, _, .nil => .nil
  | _, _, .cons (k := k) h t => by
    refine .cons ?_ (RepK.keys t)
    cases k with
    | inl i => exact .int i
    | inr x => exact .str x
theorem Dk.len {K : PySem.W.Frag} {av : Addr → Prop} {H : Hp} {P : Program} {w : World} {h : Heap} {a : Addr} {kvs : List (Key × V)} (ok : HOk P w H h) (e : Rd H a (.dK kvs)) : kvs.length ≤ sizeLine := (dk_rd ok e).1
theorem Lkd.unt {L : List (Addr × Obj × HO)} {H : Hp} (l : Lkd L H) {b : Addr} {xs : List V} (h : H b = some (.tup xs)) : unl L H b = some (.tup xs) := by
  cases e : L.lookup b with
  | none => exact (unl_none e).trans h
  | some w =>
    obtain ⟨mu, ho⟩ := l b w e
    rw [h] at ho; cases ho
theorem keyRep {K : PySem.W.Frag} {av : Addr → Prop} {H : Hp} (k : Key) : Rep K av H (kV k) (keyD k) := by
  cases k with
  | inl i => exact .int i
  | inr x => exact .str x
theorem keysRep {K : PySem.W.Frag} {av : Addr → Prop} {H : Hp} : ∀ ks : List Key, RepA K av H (ks.map kV) (ks.map keyD)
  | [] => .nil
  | k :: ks => .cons (keyRep k) (keysRep ks)
/-- a key's tuple -/
theorem SR.keyTup {I : SI} {W : DW} {K : PySem.W.Frag} {σ : St} {H : Hp} {ρ : En} (S : SR I W K σ H ρ) {P : Program} {w : World} {h : Heap} (ok : HOk P w H h) {b : Addr} {k : List Key} (e : H b = some (.tup (k.map kV))) :
    Rep K (avA W I.own σ ρ) (unl W.L H) (.ref b) (.tuple (k.map keyD)) :=
  .tup (S.tupAv (S.lkd.unt e)) (S.lkd.unt e) (ok b _ e).1 (keysRep k)
theorem repT_keys {I : SI} {W : DW} {K : PySem.W.Frag} {σ : St} {H : Hp} {ρ : En} (S : SR I W K σ H ρ) {P : Program} {w : World} {h : Heap} (ok : HOk P w H h) : ∀ {kvs : List (List Key × V)} {es : List (D × D)} {bs : List Addr}, RepT K (avA W I.own σ ρ) (unl W.L H) kvs es → IsKeys H kvs bs →
    RepA K (avA W I.own σ ρ) (unl W.L H) (bs.map V.ref) (es.map (·.1))
  | _, _, _, .nil, .nil => .nil
  | _, _, _, .cons h t, .cons a r => .cons (S.keyTup ok a) (repT_keys S ok t r)
theorem r_listOf (hc : X.calm = true) : RnF X (.type "list") pListOf := by
  intro I W pins s σ H ρ xs us ds Qd Q Iv ok S rv tv hp fin
  unfold pListOf at hp
  split at hp
  · obtain ⟨x, rfl, t⟩ := tv.one
    obtain ⟨a, xs, rfl, r, z, ra⟩ := t.list
    exact call_list_of _ _ _ _ _ _ _ Iv rv ⟨a, xs, rfl, .inl (S.sqL r), fun l hl => fin.newL ok S hl z ra hp⟩
  · obtain ⟨x, rfl, t⟩ := tv.one
    obtain ⟨a, xs, rfl, r, z, ra⟩ := t.tuple
    exact call_list_of _ _ _ _ _ _ _ Iv rv ⟨a, xs, rfl, .inr (S.sqT r), fun l hl => fin.newL ok S hl z ra hp⟩
  · obtain ⟨x, rfl, t⟩ := tv.one
    obtain ⟨a, kvs, rfl, r, q⟩ := t.dictK
    exact call_listD hc _ _ _ _ _ _ _ Iv rv ⟨a, kvs, rfl, S.lkd.rd r, fun l hl => fin.newL ok S hl (by rw [List.length_map]; exact (dk_rd Iv.hok (S.lkd.rd r)).1) q.keys hp⟩
  · obtain ⟨x, rfl, t⟩ := tv.one
    obtain ⟨a, kvs, rfl, r, q⟩ := t.dictT
    exact call_list_dT hc _ _ _ _ _ _ _ Iv rv ⟨a, kvs, rfl, S.lkd.rd r, fun l bs hl hk => fin.newL ok S hl (by rw [List.length_map, ← Paired.length hk]; exact (dt_rd Iv.hok (S.lkd.rd r)).1) (repT_keys S Iv.hok q hk) hp⟩
  · exact hp.elim
/-- tuple(x) of what may be kept -/
def pTupOf : List D → (D → Prop) → Prop
  | [.list ds], Q => Q (.tuple ds)
  | _, _ => False
theorem r_tupOf : RnD X (.type "tuple") pTupOf := by
  intro I W pins s σ H ρ xs us ds Qd Q Iv ok S rv tv hp fin
  unfold pTupOf at hp
  split at hp
  · obtain ⟨x, rfl, t⟩ := tv.one
    obtain ⟨a, xs, rfl, r, z, ra⟩ := t.list
    exact call_tuple_of _ _ _ _ _ _ _ Iv rv ⟨a, xs, rfl, .inl ⟨S.sqL r, fun l hl => fin.newT ok S hl z ra hp⟩⟩
  · exact hp.elim
end
end PyD
namespace PyD
open PySem PySem.Spec L2
open PyProof.Rows hiding St
section
variable {prog : Program} {w : World} {A : Around} {E : Value → Shared → Prop} {s : Shared}
theorem collect_tuple {l : Addr} {vs : List Value} {Q : List Value → Shared → Prop} (hl : s.heap.IsTuple l vs.toArray)
    (h : Q vs { s with heap := (s.heap.push (seqObj "list" #[] 0)).update s.heap.objs.size (Obj.mapSeq (· ++ vs.toArray)) }) (hsz : vs.length ≤ sizeLine) :
    wpAny (model prog w) A (collect (.ref l)) Q E s := by
  obtain ⟨o, ho, hc, n, hd⟩ := id hl
  unfold collect
  refine wpAny_bind (wpAny_runValue (codeAny_builtin entry_proto_collect' ?_))
  show wpAny _ _ (do again (.builtin "list.__iadd__" ⟨[← newList [], .ref l], []⟩)) _ _ s
  refine wpAny_bind (wpAny_newList (wpAny_pure ⟨Code.quiet_builtin _ (by decide +kernel), codeAny_builtin entry_list_iadd' ?_⟩))
  show wpAny _ _ (Builtin.List.listExtendWith (.ref s.heap.objs.size) (.ref l) (.ref s.heap.objs.size)) _ _ { s with heap := s.heap.push (seqObj "list" #[] 0) }
  unfold Builtin.List.listExtendWith
  have ho' : (s.heap.push (seqObj "list" #[] 0)).get? l = some o := Heap.get?_push_of_some _ ho
  refine wpAny_bind (wpAny_typeOf (T := "tuple") ⟨o, ho', hc⟩ ?_)
  rw [if_pos (by rw [show (Value.type "tuple" == Value.type "tuple") = true from rfl]; simp)]
  refine wpAny_bind (listItems_at ho' hd ?_)
  refine wpAny_bind (listItems_at (xs := #[]) (n := 0) (Heap.get?_push_size _ rfl) rfl ?_)
  rw [if_neg (by simp)]
  refine wpAny_bind (listUpdate_at (xs := #[]) (n := 0) (Heap.get?_push_size _ rfl) rfl ?_ (Nat.zero_le _) (by show (#[] ++ vs.toArray).size ≤ sizeLine + 1; simp only [Array.size_append, List.size_toArray, List.length_nil]; omega))
  refine wpAny_pure ?_
  show wpAny (model prog w) A (do
      let o ← load s.heap.objs.size
      match o.data with
      | .seq xs _ => pure xs.toList
      | _ => unsupported "internal:collect") Q E { s with heap := (s.heap.push (seqObj "list" #[] 0)).update s.heap.objs.size (Obj.mapSeq (· ++ vs.toArray)) }
  refine wpAny_bind (wpAny_load (get?_update_seq (Heap.get?_push_size _ rfl) _) ?_)
  show wpAny _ _ (pure ((#[] : Array Value) ++ vs.toArray).toList) Q E _
  rw [show ((#[] : Array Value) ++ vs.toArray).toList = vs by simp]
  exact wpAny_pure h
end
/-- what is walked when one asks x for its items -/
def itemsD : D → Option (List D)
  | .list ds => some ds
  | .tuple ds => some ds
  | .dict ((.none, .none) :: es) => some (es.map (·.1))
  | .dict ((.none, .bool true) :: es) => some (es.map (·.1))
  | _ => none
theorem push_upd_keep {h : Heap} {f : Obj → Obj} {o : Obj} : ∀ b ob, h.get? b = some ob → ((h.push o).update h.objs.size f).get? b = some ob := fun b ob e => by
  rw [Heap.get?_update_ne _ _ _ _ (Nat.ne_of_lt (Heap.lt_size e)), Heap.get?_push_ne _ _ _ (Nat.ne_of_lt (Heap.lt_size e))]
  exact e
section
variable {X : Cx} {I : SI} {W : DW} {pins : List (Addr × Obj)} {s : Shared} {σ : St} {H : Hp} {ρ : En}
theorem collectD (hc : X.calm = true) {A : Around} (hA : A.handled = none) (Iv : Inv X pins σ H s) (S : SR I W X.K σ H ρ) {x : V} {u : Value} {d : D} {ds : List D} (rx : RelV x u) (tx : Top X.K W.bx (avA W I.own σ ρ) (unl W.L H) x d) (hd : itemsD d = some ds)
    {R : List Value → Shared → Prop} {E : Value → Shared → Prop} (h : ∀ xs its h' tk, Vals xs its → RepA X.K (avA W I.own σ ρ) (unl W.L H) xs ds → xs.length ≤ sizeLine → (∀ b o, s.heap.get? b = some o → h'.get? b = some o) → R its { s with heap := h', toks := tk }) :
    wpAny (model X.prog X.w) A (collect u) R E s := by
  unfold itemsD at hd
  split at hd
  · cases hd
    obtain ⟨a, xs, rfl, r, z, ra⟩ := tx.list
    cases rx
    obtain ⟨its, r1, pl, _⟩ := Iv.list (S.sqL r)
    exact collect_list pl.isList (h xs its _ s.toks r1 ra z push_upd_keep) (by rw [← r1.length]; exact z)
  · cases hd
    obtain ⟨a, xs, rfl, r, z, ra⟩ := tx.tuple
    cases rx
    obtain ⟨its, r1, ⟨o, ho, hcl, n, hdt⟩, _⟩ := Iv.tuple (S.sqT r)
    exact collect_tuple ⟨o, ho, hcl, n, hdt⟩ (h xs its _ s.toks r1 ra z push_upd_keep) (by rw [← r1.length]; exact z)
  · cases hd
    obtain ⟨a, kvs, rfl, r, q⟩ := tx.dictK
    cases rx
    obtain ⟨z, lo, vs, rel, dd⟩ := dk_rd Iv.hok (S.lkd.rd r)
    obtain ⟨ep, hat⟩ := dd.dictAt
    have ek : (kvs.map fun kv => kV kv.1) = vs.map fun p => kV p.1 := by
      have e := congrArg (List.map kV) rel.keys
      rw [List.map_map, List.map_map] at e
      exact e
    refine PySem.W.kdu_collect (PySem.W.kdl_dict (knd := mixKind X.prog X.w) (kvs := vs) (ep := ep) lo) hA hat (by rw [← rel.length]; exact z) fun h' tk acc hk hacc => ?_
    have hv : Vals (vs.map fun p => kV p.1) acc.toList := keys_at (by rw [Array.length_toList]; exact hacc.1) fun j v e => hacc.2 j v (by rw [← Array.getElem?_toList]; exact e)
    rw [← ek] at hv
    exact h _ _ h' tk hv q.keys (by rw [List.length_map]; exact z) hk
  · cases hd
    obtain ⟨a, kvs, rfl, r, q⟩ := tx.dictT
    cases rx
    obtain ⟨z, hs, ks, pr, o, es, ep, ho, hx, hdt, he, hn⟩ := (show ObjOk X.prog X.w H s.heap a (.dT kvs) from (S.lkd.rd r).ok Iv.hok)
    have l1 : es.size = ks.length := size_of_entries he
    have l2 : kvs.length = ks.length := Paired.length pr
    refine PySem.W.kdu_collect (kdl_raw hs hx hdt) hA ho (by omega) fun h' tk acc' kp it => ?_
    have ea : acc'.toList = ks.map fun x => Value.ref x.2.1 := by
      have hl : acc'.toList.length = ks.length := by rw [Array.length_toList, it.1]; exact l1
      apply List.ext_getElem?
      intro j
      rw [List.getElem?_map]
      cases hj : acc'.toList[j]? with
      | none =>
        have h1 := List.getElem?_eq_none_iff.mp hj
        rw [List.getElem?_eq_none (by omega)]
        all_goals rfl
      | some v =>
        obtain ⟨en, hen, hv⟩ := it.2 j v (by rw [← Array.getElem?_toList]; exact hj)
        have qe := entry_at he j
        rw [hen] at qe
        cases hb : ks[j]? with
        | none =>
          rw [hb] at qe
          cases qe
        | some y =>
          rw [hb] at qe
          have e2 := Option.some.inj qe
          rw [hv, e2]
          rfl
    rw [ea]
    have hk := isKeys_of pr
    have hm : (ks.map fun x => Value.ref x.2.1) = (ks.map fun x => x.2.1).map Value.ref := by rw [List.map_map]; rfl
    rw [hm]
    exact h _ _ h' tk (vals_refs _) (repT_keys S Iv.hok q hk) (by rw [List.length_map, List.length_map]; omega) kp
  · cases hd
end
open PySem.W in
def SortOk (ds : List D) : Prop := AllAlike ds ∧ Sortable ds ∧ PyData.plainAll ds = true ∧ PyData.depthAll ds ≤ 150
open PySem.W in
def sortD (ds : List D) : List D := ds.mergeSort (dataLe false fun d => d)
def pSorted : List D → (D → Prop) → Prop
  | [d], Q => ∃ ds, itemsD d = some ds ∧ SortOk ds ∧ Q (.list (sortD ds))
  | _, _ => False
theorem each_of {h : Heap} : ∀ {vs : List Value} {ds : List D} {as : List Addr}, ReadsAll h vs ds as → PySem.W.EachIs (fun v d => ∃ as, Reads h v d as) vs ds
  | _, _, _, .nil => .nil
  | _, _, _, .cons a t => .cons ⟨_, a⟩ (each_of t)
theorem each_rep {K : PySem.W.Frag} {av : Addr → Prop} {H : Hp} : ∀ {vs : List Value} {xs : List V} {ds : List D}, Vals xs vs → RepA K av H xs ds → PySem.W.EachIs (fun v d => ∃ x, RelV x v ∧ Rep K av H x d) vs ds
  | _, _, _, .nil, .nil => .nil
  | _, _, _, .cons r t, .cons a q => .cons ⟨_, r, a⟩ (each_rep t q)
theorem rep_each {K : PySem.W.Frag} {av : Addr → Prop} {H : Hp} : ∀ {vs : List Value} {ds : List D}, PySem.W.EachIs (fun v d => ∃ x, RelV x v ∧ Rep K av H x d) vs ds → ∃ xs, Vals xs vs ∧ RepA K av H xs ds
  | _, _, .nil => ⟨[], .nil, .nil⟩
  | _, _, .cons ⟨x, r, a⟩ t => by
    obtain ⟨xs, h1, h2⟩ := rep_each t
    exact ⟨x :: xs, .cons r h1, .cons a h2⟩
theorem depth_mem : ∀ {ds : List D} {d : D}, d ∈ ds → d.depth ≤ PyData.depthAll ds
  | e :: ds, d, h => by
    rw [PyData.depthAll]
    rcases List.mem_cons.mp h with rfl | h
    · exact Nat.le_max_left _ _
    · exact Nat.le_trans (depth_mem h) (Nat.le_max_right _ _)
theorem r_sorted {X : Cx} (hc : X.calm = true) (hu : X.A.units + 200 < cLine) : RnF X (.builtin "sorted") pSorted := by
  intro I W pins s σ H ρ xs us ds Qd Q Iv ok S rv tv hp fin
  unfold pSorted at hp
  split at hp
  · rename_i d
    obtain ⟨es, hi, ⟨hal, hso, hpl, hdp⟩, hq⟩ := hp
    obtain ⟨x, rfl, t⟩ := tv.one
    obtain ⟨u, rfl, ru⟩ := vals1 rv
    refine Calls.call_function_entry PyProof.Rows.kind_sorted PyProof.Rows.plain_sorted PyProof.Rows.entry_sorted (PyProof.Rows.args_sorted1 _) ?_
    unfold Builtin.«sorted»
    refine wpAny_bind (m := checkCount "sorted" 1 1 _) (wpAny_pure ?_)
    refine wpAny_bind (collectD (A := X.A.in1) hc (Iv.ok.hd hc) Iv S ru t hi fun ys its h' tk r1 ra z hk => ?_)
    have I1 : Inv X pins σ H { s with heap := h', toks := tk } := Iv.kept hk
    obtain ⟨as, hr⟩ := seq_reads I1 S r1 ra hpl
    have hL : its.length ≤ sizeLine := by rw [← r1.length]; exact z
    refine wpAny_bind (wpAny_newList ?_ hL)
    have hat : (h'.push { cls := .type "list", data := .seq its.toArray }).get? h'.objs.size = some (seqObj "list" its.toArray 0) := Heap.get?_push_size _ rfl
    have hr2 : PySem.W.EachIs (fun v d => ∃ as, Reads (PySem.W.sortingHeap (h'.push { cls := .type "list", data := .seq its.toArray }) h'.objs.size its) v d as) its es :=
      (each_of hr).mono fun v d ⟨as, q⟩ => ⟨as, Reads.keeps (fun b o e => PySem.W.sortingHeap_old (Nat.ne_of_lt (Heap.lt_size e)) (Heap.get?_push_of_some _ e)) q⟩
    have hS := PySem.W.SortsAt.data (prog := X.prog) (w := X.w) (A := X.A.in1.in1) (s := { s with heap := PySem.W.sortingHeap (h'.push { cls := .type "list", data := .seq its.toArray }) h'.objs.size its, toks := tk }) hr2 hal hso
      (fun d hd => by have := depth_mem hd; show X.A.units + 1 + 1 + _ < _; omega)
    refine wpAny_bind (wpAny_holding (wpAny_call_entry PyProof.Rows.slot_list_sort ⟨_, hat, rfl⟩ PyProof.Rows.entry_list_sort ?body (PyProof.Rows.args_list_sort _)))
    case body =>
      refine PySem.W.list_sort_vals (s := { s with heap := h'.push { cls := .type "list", data := .seq its.toArray }, toks := tk }) hat hS hL ?_
      refine ⟨_, rfl, wpAny_pure ⟨_, rfl, ?_⟩⟩
      have out := PySem.W.sortVals_data (β := D) (enc := fun d => d) false (each_rep r1 ra) hr2 (by simpa using hal)
      simp only [List.map_id'] at out
      obtain ⟨zs, v1, v2⟩ := rep_each out
      have hn : H h'.objs.size = none := I1.hok.fresh (Nat.le_refl _)
      have hzl : zs.length ≤ sizeLine := by
        rw [v2.len, List.length_mergeSort, ← ra.len]; exact z
      obtain ⟨c, hc2⟩ := sortedHeap_at (vs := its) (out := (PySem.W.sortVals (PySem.W.dataKind (PySem.W.sortingHeap (h'.push { cls := .type "list", data := .seq its.toArray }) h'.objs.size its) es) false its its).toArray) hat
      refine ⟨.ref h'.objs.size, upd H h'.objs.size (.lst zs), I1.laid (t' := tk) (fun b o e => ?_) (Nat.le_refl _) ⟨hzl, _, c, v1, hc2⟩, rfl, fin.newL ok S hn hzl v2 hq⟩
      rw [sortedHeap_old (Nat.ne_of_lt (Heap.lt_size e)) (by rw [size_push']; exact Nat.lt_succ_of_lt (Heap.lt_size e))]
      exact Heap.get?_push_of_some _ e
  · exact hp.elim
end PyD
namespace PyD
open PySem PySem.Spec L2
open PyProof.Rows hiding St
section
variable {I : SI} {X : Cx} {e : Expr} {m : ME} {W : DW} {pins : List (Addr × Obj)} {s : Shared} {σ : St} {H : Hp} {ρ : En} {Qd : D → Prop}
theorem DE.run (h : DE I X e m) (Iv : Inv X pins σ H s) (ok : WOk I W) (S : SR I W X.K σ H ρ) (hm : m ρ Qd) {Q : Value → Shared → Prop}
    (k : ∀ u s' v H' d, Inv X pins σ H' s' → RelV v u → Qd d → Ex W H H' → SR I W X.K σ H' ρ → Rep X.K (avA W I.own σ ρ) (unl W.L H') v d → Q u s') : wpAny (model X.prog X.w) X.A (eval e X.env) Q X.xe s :=
  thn (PE.run h pins s σ H (fun v H' => ∃ d, Qd d ∧ Ex W H H' ∧ SR I W X.K σ H' ρ ∧ Rep X.K (avA W I.own σ ρ) (unl W.L H') v d) Iv ⟨W, ρ, Qd, ok, S, hm, fun v H' d q e1 s1 r => ⟨d, q, e1, s1, r⟩⟩)
    fun u s' ⟨v, H', I', r, d, q, e1, s1, rp⟩ => k u s' v H' d I' r q e1 s1 rp
theorem DB.run (h : DB I X e m) (Iv : Inv X pins σ H s) (ok : WOk I W) (S : SR I W X.K σ H ρ) (hm : m ρ Qd) {Q : Value → Shared → Prop}
    (k : ∀ u s' v H' d, Inv X pins σ H' s' → RelV v u → Qd d → Ex W H H' → SR I W X.K σ H' ρ → Top X.K W.bx (avA W I.own σ ρ) (unl W.L H') v d → Q u s') : wpAny (model X.prog X.w) X.A (eval e X.env) Q X.xe s :=
  thn (PE.run h pins s σ H (fun v H' => ∃ d, Qd d ∧ Ex W H H' ∧ SR I W X.K σ H' ρ ∧ Top X.K W.bx (avA W I.own σ ρ) (unl W.L H') v d) Iv ⟨W, ρ, Qd, ok, S, hm, fun v H' d q e1 s1 r => ⟨d, q, e1, s1, r⟩⟩)
    fun u s' ⟨v, H', I', r, d, q, e1, s1, rp⟩ => k u s' v H' d I' r q e1 s1 rp
theorem db (h : DE I X e m) : DB I X e m := pe_imp h fun σ H Q ⟨W, ρ, Qd, ok, S, hm, f⟩ => ⟨W, ρ, Qd, ok, S, hm, f.toE⟩
def mV (i : Nat) : ME := fun ρ Q => match ρ[i]? with
  | some (some d) => Q d
  | _ => False
theorem mV_of {i : Nat} {ρ : En} {Q : D → Prop} (h : mV i ρ Q) : ∃ d, ρ[i]? = some (some d) ∧ Q d := by
  unfold mV at h
  split at h
  · exact ⟨_, by assumption, h⟩
  · exact h.elim
def mC (d : D) : ME := fun _ Q => Q d
theorem de_var (i : Nat) {x : Str} {pos : Pos} (ho : i ∉ I.own) (hN : X.N[i]? = some x) (hv : Vis X.env.scope x) (hd : (x == ("__debug__" : Str)) = false := by decide) (hcd : (x == ("__classdict__" : Str)) = false := by decide) : DE I X (.Name x pos) (mV i) :=
  pe_imp (pe_var hN hv hd hcd) fun σ H Q ⟨W, ρ, Qd, ok, S, hm, f⟩ => by
    obtain ⟨d, hd, hq⟩ := mV_of hm
    obtain ⟨v, hv, r⟩ := S.val i d hd ho
    exact ⟨v, hv, f.here S r hq⟩
theorem db_var (i : Nat) {x : Str} {pos : Pos} (hN : X.N[i]? = some x) (hv : Vis X.env.scope x) (hd : (x == ("__debug__" : Str)) = false := by decide) (hcd : (x == ("__classdict__" : Str)) = false := by decide) : DB I X (.Name x pos) (mV i) :=
  pe_imp (pe_var hN hv hd hcd) fun σ H Q ⟨W, ρ, Qd, ok, S, hm, f⟩ => by
    obtain ⟨d, hd, hq⟩ := mV_of hm
    by_cases ho : i ∈ I.own
    · obtain ⟨a, hv, o, _⟩ := S.own i d hd ho
      exact ⟨.ref a, hv, f _ _ _ hq (Ex.refl W H) S (o.top (S.ownbx ok hd ho hv))⟩
    · obtain ⟨v, hv, r⟩ := S.val i d hd ho
      exact ⟨v, hv, f _ _ _ hq (Ex.refl W H) S (.rep r)⟩
theorem de_int {i : Int} {j pos} : DE I X (.Constant (.int i) j pos) (mC (.int i)) := pe_imp pe_int fun σ H Q ⟨W, ρ, Qd, ok, S, hm, f⟩ => f.here S (.int i) hm
theorem de_bl {b : Bool} {j pos} : DE I X (.Constant (.bool b) j pos) (mC (.bool b)) := pe_imp pe_bl fun σ H Q ⟨W, ρ, Qd, ok, S, hm, f⟩ => f.here S (.bl b) hm
theorem de_non {j pos} : DE I X (.Constant .none j pos) (mC .none) := pe_imp pe_non fun σ H Q ⟨W, ρ, Qd, ok, S, hm, f⟩ => f.here S .non hm
theorem de_str {x : Str} {j pos} : DE I X (.Constant (.str x) j pos) (mC (.str x)) := pe_imp pe_str fun σ H Q ⟨W, ρ, Qd, ok, S, hm, f⟩ => f.here S (.str x) hm
theorem de_gI {x : Str} {i : Int} {u : Value} {pos : Pos} (hg : Gl X x) (hm : X.mg x = some u) (r : RelV (.int i) u) (hd : (x == ("__debug__" : Str)) = false := by decide) : DE I X (.Name x pos) (mC (.int i)) :=
  pe_imp (pe_glob hg hm r hd) fun σ H Q ⟨W, ρ, Qd, ok, S, hq, f⟩ => f.here S (.int i) hq
theorem de_gS {x : Str} {z : Str} {u : Value} {pos : Pos} (hg : Gl X x) (hm : X.mg x = some u) (r : RelV (.str z) u) (hd : (x == ("__debug__" : Str)) = false := by decide) : DE I X (.Name x pos) (mC (.str z)) :=
  pe_imp (pe_glob hg hm r hd) fun σ H Q ⟨W, ρ, Qd, ok, S, hq, f⟩ => f.here S (.str z) hq
def m1 (p : D → (D → Prop) → Prop) (a : ME) : ME := fun ρ Q => a ρ fun d => p d Q
def m2 (p : D → D → (D → Prop) → Prop) (a b : ME) : ME := fun ρ Q => a ρ fun d => b ρ fun e => p d e Q
def mN (p : List D → (D → Prop) → Prop) (a : MA) : ME := fun ρ Q => a ρ fun ds => p ds Q
variable {a b : Expr} {ma mb : ME} {pos : Pos}
theorem twoB (ha : DB I X a ma) (hb : DB I X b mb) (Iv : Inv X pins σ H s) (ok : WOk I W) (S : SR I W X.K σ H ρ) {R : D → D → Prop} (hm : ma ρ fun d => mb ρ fun e => R d e) {α : Type} {Q : α → Shared → Prop} {f : Value → Value → Sem α}
    (k : ∀ v u s2 x y H2 d e, Inv X pins σ H2 s2 → RelV x v → RelV y u → R d e → Ex W H H2 → SR I W X.K σ H2 ρ → Top X.K W.bx (avA W I.own σ ρ) (unl W.L H2) x d → Top X.K W.bx (avA W I.own σ ρ) (unl W.L H2) y e → wpAny (model X.prog X.w) X.A (f v u) Q X.xe s2) :
    wpAny (model X.prog X.w) X.A (eval a X.env) (fun v s1 => wpAny (model X.prog X.w) X.A (eval b X.env) (fun u s2 => wpAny (model X.prog X.w) X.A (f v u) Q X.xe s2) X.xe s1) X.xe s :=
  ha.run Iv ok S hm fun v s1 x H1 d I1 rx q e1 S1 t1 => hb.run I1 ok S1 q fun u s2 y H2 e I2 ry q2 e2 S2 t2 => k v u s2 x y H2 d e I2 rx ry q2 (e1.trans e2) S2 (e2.top ok t1) t2
theorem twoE (ha : DE I X a ma) (hb : DE I X b mb) (Iv : Inv X pins σ H s) (ok : WOk I W) (S : SR I W X.K σ H ρ) {R : D → D → Prop} (hm : ma ρ fun d => mb ρ fun e => R d e) {α : Type} {Q : α → Shared → Prop} {f : Value → Value → Sem α}
    (k : ∀ v u s2 x y H2 d e, Inv X pins σ H2 s2 → RelV x v → RelV y u → R d e → Ex W H H2 → SR I W X.K σ H2 ρ → Rep X.K (avA W I.own σ ρ) (unl W.L H2) x d → Rep X.K (avA W I.own σ ρ) (unl W.L H2) y e → wpAny (model X.prog X.w) X.A (f v u) Q X.xe s2) :
    wpAny (model X.prog X.w) X.A (eval a X.env) (fun v s1 => wpAny (model X.prog X.w) X.A (eval b X.env) (fun u s2 => wpAny (model X.prog X.w) X.A (f v u) Q X.xe s2) X.xe s1) X.xe s :=
  ha.run Iv ok S hm fun v s1 x H1 d I1 rx q e1 S1 t1 => hb.run I1 ok S1 q fun u s2 y H2 e I2 ry q2 e2 S2 t2 => k v u s2 x y H2 d e I2 rx ry q2 (e1.trans e2) S2 (e2.rep ok t1) t2
theorem twoM (ha : DE I X a ma) (hb : DB I X b mb) (Iv : Inv X pins σ H s) (ok : WOk I W) (S : SR I W X.K σ H ρ) {R : D → D → Prop} (hm : ma ρ fun d => mb ρ fun e => R d e) {α : Type} {Q : α → Shared → Prop} {f : Value → Value → Sem α}
    (k : ∀ v u s2 x y H2 d e, Inv X pins σ H2 s2 → RelV x v → RelV y u → R d e → Ex W H H2 → SR I W X.K σ H2 ρ → Rep X.K (avA W I.own σ ρ) (unl W.L H2) x d → Top X.K W.bx (avA W I.own σ ρ) (unl W.L H2) y e → wpAny (model X.prog X.w) X.A (f v u) Q X.xe s2) :
    wpAny (model X.prog X.w) X.A (eval a X.env) (fun v s1 => wpAny (model X.prog X.w) X.A (eval b X.env) (fun u s2 => wpAny (model X.prog X.w) X.A (f v u) Q X.xe s2) X.xe s1) X.xe s :=
  ha.run Iv ok S hm fun v s1 x H1 d I1 rx q e1 S1 t1 => hb.run I1 ok S1 q fun u s2 y H2 e I2 ry q2 e2 S2 t2 => k v u s2 x y H2 d e I2 rx ry q2 (e1.trans e2) S2 (e2.rep ok t1) t2
theorem twoI (ha : DB I X a ma) (hb : DE I X b mb) (Iv : Inv X pins σ H s) (ok : WOk I W) (S : SR I W X.K σ H ρ) {R : D → D → Prop} (hm : ma ρ fun d => mb ρ fun e => R d e) {α : Type} {Q : α → Shared → Prop} {f : Value → Value → Sem α}
    (k : ∀ v u s2 x y H2 d e, Inv X pins σ H2 s2 → RelV x v → RelV y u → R d e → Ex W H H2 → SR I W X.K σ H2 ρ → Top X.K W.bx (avA W I.own σ ρ) (unl W.L H2) x d → Rep X.K (avA W I.own σ ρ) (unl W.L H2) y e → wpAny (model X.prog X.w) X.A (f v u) Q X.xe s2) :
    wpAny (model X.prog X.w) X.A (eval a X.env) (fun v s1 => wpAny (model X.prog X.w) X.A (eval b X.env) (fun u s2 => wpAny (model X.prog X.w) X.A (f v u) Q X.xe s2) X.xe s1) X.xe s :=
  ha.run Iv ok S hm fun v s1 x H1 d I1 rx q e1 S1 t1 => hb.run I1 ok S1 q fun u s2 y H2 e I2 ry q2 e2 S2 t2 => k v u s2 x y H2 d e I2 rx ry q2 (e1.trans e2) S2 (e2.top ok t1) t2
theorem de_bin {op : Operator} {p : D → D → (D → Prop) → Prop} (r : R2D X (binaryOp op) p) (ha : DB I X a ma) (hb : DB I X b mb) : DE I X (.BinOp a op b pos) (m2 p ma mb) := by
  refine ⟨fun pins s σ H Q Iv ⟨W, ρ, Qd, ok, S, hm, f⟩ => ?_⟩
  exact wpAny_BinOp (twoB ha hb Iv ok S hm fun v u s2 x y H2 d e I2 rx ry q e2 S2 t1 t2 => r I2 ok S2 rx ry t1 t2 q (f.ex e2))
theorem de_binE {op : Operator} {p : D → D → (D → Prop) → Prop} (r : R2E X (binaryOp op) p) (ha : DE I X a ma) (hb : DE I X b mb) : DE I X (.BinOp a op b pos) (m2 p ma mb) := by
  refine ⟨fun pins s σ H Q Iv ⟨W, ρ, Qd, ok, S, hm, f⟩ => ?_⟩
  exact wpAny_BinOp (twoE ha hb Iv ok S hm fun v u s2 x y H2 d e I2 rx ry q e2 S2 t1 t2 => r I2 ok S2 rx ry t1 t2 q (f.ex e2))
theorem de_cmp {op : CmpOp} {p : D → D → (D → Prop) → Prop} (r : R2D X (compareOp op) p) (ha : DB I X a ma) (hb : DB I X b mb) (h1 : behindInMarks op b = false := by first | exact nobehind _ (by decide) (by decide) | rfl) : DE I X (.Compare a [op] [b] pos) (m2 p ma mb) := by
  refine ⟨fun pins s σ H Q Iv ⟨W, ρ, Qd, ok, S, hm, f⟩ => ?_⟩
  exact wpAny_Compare1 (twoB ha hb Iv ok S hm fun v u s2 x y H2 d e I2 rx ry q e2 S2 t1 t2 => r I2 ok S2 rx ry t1 t2 q (f.ex e2)) h1
theorem de_cmpM {op : CmpOp} {p : D → D → (D → Prop) → Prop} (r : R2M X (compareOp op) p) (ha : DE I X a ma) (hb : DB I X b mb) (h1 : behindInMarks op b = false := by first | exact nobehind _ (by decide) (by decide) | rfl) : DE I X (.Compare a [op] [b] pos) (m2 p ma mb) := by
  refine ⟨fun pins s σ H Q Iv ⟨W, ρ, Qd, ok, S, hm, f⟩ => ?_⟩
  exact wpAny_Compare1 (twoM ha hb Iv ok S hm fun v u s2 x y H2 d e I2 rx ry q e2 S2 t1 t2 => r I2 ok S2 rx ry t1 t2 q (f.ex e2)) h1
def pNeg : D → (D → Prop) → Prop
  | .int i, Q => Q (.int (-i))
  | _, _ => False
theorem de_neg (ha : DB I X a ma) : DE I X (.UnaryOp .USub a pos) (m1 pNeg ma) := by
  refine ⟨fun pins s σ H Q Iv ⟨W, ρ, Qd, ok, S, hm, f⟩ => ?_⟩
  refine UnaryOp_ (ha.run Iv ok S hm fun u s1 x H1 d I1 rx q e1 S1 t => ?_)
  cases d <;> try (exact False.elim q)
  cases t.int
  exact un_neg _ _ _ _ _ _ _ I1 rx ⟨_, rfl, (f.ex e1).here S1 (.int _) q⟩
theorem de_ix (hu : X.A.units + 200 < cLine) (ha : DB I X a ma) (hb : DE I X b mb) (hs : PlainIx b := by intro _ _; rfl) : DE I X (.Subscript a b pos) (m2 pIx ma mb) := by
  refine ⟨fun pins s σ H Q Iv ⟨W, ρ, Qd, ok, S, hm, f⟩ => ?_⟩
  exact Subscript_ (twoI ha hb Iv ok S hm fun v u s2 x y H2 d e I2 rx ry q e2 S2 t1 t2 => r_ix hu a b I2 ok S2 rx ry t1 t2 q (f.ex e2) (hs _ _))
def aNil : MA := fun _ Q => Q []
def aCons (a : ME) (r : MA) : MA := fun ρ Q => a ρ fun d => r ρ fun ds => Q (d :: ds)
variable {es : List Expr} {mr : MA}
theorem DAE.run (h : DAE I X es mr) (pos : Pos) (Iv : Inv X pins σ H s) (ok : WOk I W) (S : SR I W X.K σ H ρ) {Qs : List D → Prop} (hm : mr ρ Qs) {Q : List Value → Shared → Prop}
    (k : ∀ us s' vs H' ds, Inv X pins σ H' s' → Vals vs us → Qs ds → Ex W H H' → SR I W X.K σ H' ρ → RepA X.K (avA W I.own σ ρ) (unl W.L H') vs ds → Q us s') : wpAny (model X.prog X.w) X.A (spliced (backTo pos (starEach es X.env))) Q X.xe s :=
  thn (PA.run h pos pins s σ H (fun vs H' => ∃ ds, Qs ds ∧ Ex W H H' ∧ SR I W X.K σ H' ρ ∧ RepA X.K (avA W I.own σ ρ) (unl W.L H') vs ds) Iv ⟨W, ρ, Qs, ok, S, hm, fun v H' d q e1 s1 r => ⟨d, q, e1, s1, r⟩⟩)
    fun u s' ⟨v, H', I', r, d, q, e1, s1, rp⟩ => k u s' v H' d I' r q e1 s1 rp
theorem DAB.run (h : DAB I X es mr) (pos : Pos) (Iv : Inv X pins σ H s) (ok : WOk I W) (S : SR I W X.K σ H ρ) {Qs : List D → Prop} (hm : mr ρ Qs) {Q : List Value → Shared → Prop}
    (k : ∀ us s' vs H' ds, Inv X pins σ H' s' → Vals vs us → Qs ds → Ex W H H' → SR I W X.K σ H' ρ → TopA X.K W.bx (avA W I.own σ ρ) (unl W.L H') vs ds → Q us s') : wpAny (model X.prog X.w) X.A (spliced (backTo pos (starEach es X.env))) Q X.xe s :=
  thn (PA.run h pos pins s σ H (fun vs H' => ∃ ds, Qs ds ∧ Ex W H H' ∧ SR I W X.K σ H' ρ ∧ TopA X.K W.bx (avA W I.own σ ρ) (unl W.L H') vs ds) Iv ⟨W, ρ, Qs, ok, S, hm, fun v H' d q e1 s1 r => ⟨d, q, e1, s1, r⟩⟩)
    fun u s' ⟨v, H', I', r, d, q, e1, s1, rp⟩ => k u s' v H' d I' r q e1 s1 rp
theorem dae_nil : DAE I X [] aNil := pa_imp pa_nil fun σ H Q ⟨W, ρ, Qd, ok, S, hm, f⟩ => f [] H [] hm (Ex.refl W H) S .nil
theorem dab_nil : DAB I X [] aNil := pa_imp pa_nil fun σ H Q ⟨W, ρ, Qd, ok, S, hm, f⟩ => f [] H [] hm (Ex.refl W H) S .nil
theorem dae_cons (ha : DE I X a ma) (hr : DAE I X es mr) (hs : starEach (a :: es) X.env = (false, eval a X.env) :: starEach es X.env := by rfl) : DAE I X (a :: es) (aCons ma mr) := by
  refine ⟨fun pos pins s σ H Q Iv ⟨W, ρ, Qd, ok, S, hm, f⟩ => ?_⟩
  rw [hs]
  show wpAny _ _ (spliced ((false, eval a X.env) :: backTo pos (starEach es X.env))) _ _ s
  refine Calls.spliced_cons (ha.run Iv ok S hm fun u s1 x H1 d I1 rx q e1 S1 t1 => ?_)
  refine hr.run pos I1 ok S1 q fun us s2 xs H2 ds I2 rxs q2 e2 S2 t2 => ?_
  exact ⟨x :: xs, H2, I2, .cons rx rxs, f _ _ _ q2 (e1.trans e2) S2 (.cons (e2.rep ok t1) t2)⟩
theorem dab_cons (ha : DB I X a ma) (hr : DAB I X es mr) (hs : starEach (a :: es) X.env = (false, eval a X.env) :: starEach es X.env := by rfl) : DAB I X (a :: es) (aCons ma mr) := by
  refine ⟨fun pos pins s σ H Q Iv ⟨W, ρ, Qd, ok, S, hm, f⟩ => ?_⟩
  rw [hs]
  show wpAny _ _ (spliced ((false, eval a X.env) :: backTo pos (starEach es X.env))) _ _ s
  refine Calls.spliced_cons (ha.run Iv ok S hm fun u s1 x H1 d I1 rx q e1 S1 t1 => ?_)
  refine hr.run pos I1 ok S1 q fun us s2 xs H2 ds I2 rxs q2 e2 S2 t2 => ?_
  exact ⟨x :: xs, H2, I2, .cons rx rxs, f _ _ _ q2 (e1.trans e2) S2 (.cons (e2.top ok t1) t2)⟩
def mTup (a : MA) : ME := fun ρ Q => a ρ fun ds => ds.length ≤ sizeLine ∧ Q (.tuple ds)
def mLst (a : MA) : ME := fun ρ Q => a ρ fun ds => ds.length ≤ sizeLine ∧ Q (.list ds)
theorem de_tup {x1} (h : DAE I X es mr) : DE I X (.Tuple es x1 pos) (mTup mr) :=
  pe_imp (pe_tup h) fun σ H Q ⟨W, ρ, Qd, ok, S, hm, f⟩ => ⟨W, ρ, _, ok, S, hm, fun vs H' ds q e1 S1 t => ⟨by rw [t.len]; exact q.1, fun p hp => (f.ex e1).newT ok S1 hp (by rw [t.len]; exact q.1) t q.2⟩⟩
theorem de_lst (h : DAE I X es mr) : DE I X (.List es pos) (mLst mr) :=
  pe_imp (pe_lst h) fun σ H Q ⟨W, ρ, Qd, ok, S, hm, f⟩ => ⟨W, ρ, _, ok, S, hm, fun vs H' ds q e1 S1 t => ⟨by rw [t.len]; exact q.1, fun p hp => (f.ex e1).newL ok S1 hp (by rw [t.len]; exact q.1) t q.2⟩⟩
variable {x : Str} {p : Pos} {id T : String} {pp : List D → (D → Prop) → Prop}
theorem de_bi (r : RnD X (.builtin id) pp) (hg : Gl X x) (hm : X.mg x = none) (hv : bootBuiltins x = some (.builtin id)) (ha : DAB I X (e :: es) mr) (hn : x ≠ "__name__" := by decide) (hdb : (x == ("__debug__" : Str)) = false := by decide)
    (he : starEach (e :: es) X.env = (false, eval e X.env) :: starEach es X.env := by rfl) (hpl : (backTo pos (starEach es X.env)).any (·.1) = false := by rfl) : DE I X (.Call (.Name x p) (e :: es) [] pos) (mN pp mr) := by
  refine ⟨fun pins s σ H Q Iv ⟨W, ρ, Qd, ok, S, hq, f⟩ => ?_⟩
  refine wpAny_Call_Name_kw (ld_blt Iv hg hm hv ?_ hn hdb)
  exact PyProof.Rows.callWith_builtin1 (ha.run pos Iv ok S hq fun us s1 vs H1 ds I1 rv q e1 S1 t => r I1 ok S1 rv t q (f.ex e1)) he hpl
theorem de_bty (r : RnD X (.type T) pp) (hg : Gl X x) (hm : X.mg x = none) (hv : bootBuiltins x = some (.type T)) (ha : DAB I X (e :: es) mr) (hn : x ≠ "__name__" := by decide) (hdb : (x == ("__debug__" : Str)) = false := by decide)
    (he : starEach (e :: es) X.env = (false, eval e X.env) :: starEach es X.env := by rfl) (hpl : (backTo pos (starEach es X.env)).any (·.1) = false := by rfl) : DE I X (.Call (.Name x p) (e :: es) [] pos) (mN pp mr) := by
  refine ⟨fun pins s σ H Q Iv ⟨W, ρ, Qd, ok, S, hq, f⟩ => ?_⟩
  refine wpAny_Call_Name_kw (ld_blt Iv hg hm hv ?_ hn hdb)
  exact PyProof.Rows.callWith_type1 (ha.run pos Iv ok S hq fun us s1 vs H1 ds I1 rv q e1 S1 t => r I1 ok S1 rv t q (f.ex e1)) he hpl
def tBool (m : ME) : MT := fun ρ Q => m ρ fun d => match d with
  | .bool b => Q b
  | _ => False
variable {t u : MT} {rest : List Expr}
theorem DT.run (h : DT I X e t) (Iv : Inv X pins σ H s) (ok : WOk I W) (S : SR I W X.K σ H ρ) {Qb : Bool → Prop} (hm : t ρ Qb) {Q : Bool → Shared → Prop}
    (k : ∀ b s' H', Inv X pins σ H' s' → Qb b → Ex W H H' → SR I W X.K σ H' ρ → Q b s') : wpAny (model X.prog X.w) X.A (isTrue e X.env (eval e X.env)) Q X.xe s :=
  thn (PT.run h pins s σ H (fun b H' => Qb b ∧ Ex W H H' ∧ SR I W X.K σ H' ρ) Iv ⟨W, ρ, Qb, ok, S, hm, fun b H' q e1 s1 => ⟨q, e1, s1⟩⟩)
    fun b s' ⟨H', I', q, e1, s1⟩ => k b s' H' I' q e1 s1
/-- an expression whose value is a bool -/
theorem dt_val (h : DB I X e m) (he : ∀ whole, isTrue e X.env whole = (do let v ← whole; standAt e.pos; holding [v] (truthy v)) := by intro _; rfl) : DT I X e (tBool m) :=
  pt_imp (pt_val h he) fun σ H Q ⟨W, ρ, Qb, ok, S, hm, f⟩ => ⟨W, ρ, _, ok, S, hm, fun v H' d q e1 S1 t => by
    cases d <;> try (exact False.elim q)
    cases t.bool
    exact ⟨_, rfl, f _ _ q e1 S1⟩⟩
/-- a comparison -/
theorem dt_cmp {op : CmpOp} {p : D → D → (D → Prop) → Prop} (r : R2D X (compareOp op) p) (ha : DB I X a ma) (hb : DB I X b mb) (h1 : behindInMarks op b = false := by first | exact nobehind _ (by decide) (by decide) | rfl) : DT I X (.Compare a [op] [b] pos) (tBool (m2 p ma mb)) := by
  refine ⟨fun pins s σ H Q Iv ⟨W, ρ, Qb, ok, S, hm, f⟩ => ?_⟩
  refine wpAny_isTrue_Compare1 (twoB ha hb Iv ok S hm fun v u s2 x y H2 d e I2 rx ry q e2 S2 t1 t2 => ?_) h1
  refine thn (r I2 ok S2 rx ry t1 t2 q (Q := fun z H3 => ∃ k, z = V.bl k ∧ Q k H3) fun w H3 d3 q3 e3 S3 t3 => ?_) fun c s3 ⟨z, H3, I3, r3, k, ez, q3⟩ => ?_
  · cases d3 <;> try (exact False.elim q3)
    cases t3
    exact ⟨_, rfl, f _ _ q3 (e2.trans e3) S3⟩
  · subst ez
    cases r3
    exact wpAny_truthy_bool ⟨H3, I3, q3⟩
theorem dt_cmpM {op : CmpOp} {p : D → D → (D → Prop) → Prop} (r : R2M X (compareOp op) p) (ha : DE I X a ma) (hb : DB I X b mb) (h1 : behindInMarks op b = false := by first | exact nobehind _ (by decide) (by decide) | rfl) : DT I X (.Compare a [op] [b] pos) (tBool (m2 p ma mb)) := by
  refine ⟨fun pins s σ H Q Iv ⟨W, ρ, Qb, ok, S, hm, f⟩ => ?_⟩
  refine wpAny_isTrue_Compare1 (twoM ha hb Iv ok S hm fun v u s2 x y H2 d e I2 rx ry q e2 S2 t1 t2 => ?_) h1
  refine thn (r I2 ok S2 rx ry t1 t2 q (Q := fun z H3 => ∃ k, z = V.bl k ∧ Q k H3) fun w H3 d3 q3 e3 S3 t3 => ?_) fun c s3 ⟨z, H3, I3, r3, k, ez, q3⟩ => ?_
  · cases d3 <;> try (exact False.elim q3)
    cases t3
    exact ⟨_, rfl, f _ _ q3 (e2.trans e3) S3⟩
  · subst ez
    cases r3
    exact wpAny_truthy_bool ⟨H3, I3, q3⟩
def tAndM (t u : MT) : MT := fun ρ Q => t ρ fun c => if c = true then u ρ Q else Q false
def tOrM (t u : MT) : MT := fun ρ Q => t ρ fun c => if c = true then Q true else u ρ Q
def tNotM (t : MT) : MT := fun ρ Q => t ρ fun c => Q (!c)
/-- a test whatever its whole is -/
def DW' (I : SI) (X : Cx) (e : Expr) (m : MT) : Prop := PW X e (tT I X.K m)
theorem dw_and1 (ha : DT I X a t) : DW' I X (.BoolOp .And [a] pos) t := pw_and1 ha
theorem dw_or1 (ha : DT I X a t) : DW' I X (.BoolOp .Or [a] pos) t := pw_or1 ha
theorem pw_imp {X : Cx} {e : Expr} {t t' : TT} (h : PW X e t) (k : ∀ σ H Q, t' σ H Q → t σ H Q) : PW X e t' := ⟨fun wh pins s σ H Q I q => h.run wh pins s σ H Q I (k _ _ _ q)⟩
theorem dw_and (ha : DT I X a t) (hb : DW' I X (.BoolOp .And (b :: rest) pos) u) : DW' I X (.BoolOp .And (a :: b :: rest) pos) (tAndM t u) :=
  pw_imp (pw_and ha hb) fun σ H Q ⟨W, ρ, Qb, ok, S, hm, f⟩ => ⟨W, ρ, _, ok, S, hm, fun c H' q e1 S1 => by
    cases c with
    | true => rw [if_pos rfl] at q; rw [if_pos rfl]; exact ⟨W, ρ, Qb, ok, S1, q, f.ex e1⟩
    | false => rw [if_neg Bool.false_ne_true] at q; rw [if_neg Bool.false_ne_true]; exact f _ _ q e1 S1⟩
theorem dw_or (ha : DT I X a t) (hb : DW' I X (.BoolOp .Or (b :: rest) pos) u) : DW' I X (.BoolOp .Or (a :: b :: rest) pos) (tOrM t u) :=
  pw_imp (pw_or ha hb) fun σ H Q ⟨W, ρ, Qb, ok, S, hm, f⟩ => ⟨W, ρ, _, ok, S, hm, fun c H' q e1 S1 => by
    cases c with
    | true => rw [if_pos rfl] at q; rw [if_pos rfl]; exact f _ _ q e1 S1
    | false => rw [if_neg Bool.false_ne_true] at q; rw [if_neg Bool.false_ne_true]; exact ⟨W, ρ, Qb, ok, S1, q, f.ex e1⟩⟩
theorem dt_w (h : DW' I X e t) : DT I X e t := PW.pt h
theorem dt_not (ha : DT I X a t) : DT I X (.UnaryOp .Not a pos) (tNotM t) :=
  pt_imp (pt_not ha) fun σ H Q ⟨W, ρ, Qb, ok, S, hm, f⟩ => ⟨W, ρ, _, ok, S, hm, fun c H' q e1 S1 => f _ _ q e1 S1⟩
def mAndV (a b : ME) : ME := fun ρ Q => a ρ fun d => match d with
  | .bool c => if c = true then b ρ Q else Q (.bool false)
  | _ => False
def mOrV (a b : ME) : ME := fun ρ Q => a ρ fun d => match d with
  | .bool c => if c = true then Q (.bool true) else b ρ Q
  | _ => False
theorem de_one {op} (h : DE I X a ma) : DE I X (.BoolOp op [a] pos) ma := pe_one h
theorem de_and (ha : DE I X a ma) (hb : DE I X (.BoolOp .And (b :: rest) pos) mb) : DE I X (.BoolOp .And (a :: b :: rest) pos) (mAndV ma mb) :=
  pe_imp (pe_and ha hb) fun σ H Q ⟨W, ρ, Qb, ok, S, hm, f⟩ => ⟨W, ρ, _, ok, S, hm, fun v H' d q e1 S1 t => by
    cases d <;> try (exact False.elim q)
    rename_i c
    cases t
    refine ⟨c, rfl, ?_⟩
    cases c with
    | true => rw [if_pos rfl]; exact ⟨W, ρ, Qb, ok, S1, q, f.ex e1⟩
    | false => rw [if_neg Bool.false_ne_true]; exact (f.ex e1).here S1 (.bl _) q⟩
theorem de_or (ha : DE I X a ma) (hb : DE I X (.BoolOp .Or (b :: rest) pos) mb) : DE I X (.BoolOp .Or (a :: b :: rest) pos) (mOrV ma mb) :=
  pe_imp (pe_or ha hb) fun σ H Q ⟨W, ρ, Qb, ok, S, hm, f⟩ => ⟨W, ρ, _, ok, S, hm, fun v H' d q e1 S1 t => by
    cases d <;> try (exact False.elim q)
    rename_i c
    cases t
    refine ⟨c, rfl, ?_⟩
    cases c with
    | true => rw [if_pos rfl]; exact (f.ex e1).here S1 (.bl _) q
    | false => rw [if_neg Bool.false_ne_true]; exact ⟨W, ρ, Qb, ok, S1, q, f.ex e1⟩⟩
def pNotB : D → (D → Prop) → Prop
  | .bool c, Q => Q (.bool (!c))
  | _, _ => False
theorem de_not (ha : DE I X a ma) : DE I X (.UnaryOp .Not a pos) (m1 pNotB ma) :=
  pe_imp (pe_not ha) fun σ H Q ⟨W, ρ, Qb, ok, S, hm, f⟩ => ⟨W, ρ, _, ok, S, hm, fun v H' d q e1 S1 t => by
    cases d <;> try (exact False.elim q)
    cases t
    exact ⟨_, rfl, (f.ex e1).here S1 (.bl _) q⟩⟩
def mIf (t : MT) (a b : ME) : ME := fun ρ Q => t ρ fun c => if c = true then a ρ Q else b ρ Q
theorem de_if {c : Expr} (hc : DT I X c t) (ha : DE I X a ma) (hb : DE I X b mb) : DE I X (.IfExp c a b pos) (mIf t ma mb) :=
  pe_imp (pe_ifExp hc ha hb) fun σ H Q ⟨W, ρ, Qb, ok, S, hm, f⟩ => ⟨W, ρ, _, ok, S, hm, fun c H' q e1 S1 => by
    cases c with
    | true => rw [if_pos rfl] at q; rw [if_pos rfl]; exact ⟨W, ρ, Qb, ok, S1, q, f.ex e1⟩
    | false => rw [if_neg Bool.false_ne_true] at q; rw [if_neg Bool.false_ne_true]; exact ⟨W, ρ, Qb, ok, S1, q, f.ex e1⟩⟩
end
end PyD
namespace PyD
open PySem PySem.Spec L2
open PyProof.Rows hiding St
def tF (I : SI) (K : PySem.W.Frag) (m : ME) : TE := fun σ H Q => ∃ W ρ Qd, WOk I W ∧ SR I W K σ H ρ ∧ m ρ Qd ∧ FinF I W K σ ρ H Qd Q
def DF (I : SI) (X : Cx) (e : Expr) (m : ME) : Prop := PE X e (tF I X.K m)
section
variable {I : SI} {X : Cx} {e a b : Expr} {m ma mb : ME} {mr : MA} {es : List Expr} {pos : Pos}
theorem de (h : DF I X e m) : DE I X e m := pe_imp h fun σ H Q ⟨W, ρ, Qd, ok, S, hm, f⟩ => ⟨W, ρ, Qd, ok, S, hm, f.toF⟩
theorem df_lst (h : DAE I X es mr) : DF I X (.List es pos) (mLst mr) :=
  pe_imp (pe_lst h) fun σ H Q ⟨W, ρ, Qd, ok, S, hm, f⟩ => ⟨W, ρ, _, ok, S, hm, fun vs H' ds q e1 S1 t => ⟨by rw [t.len]; exact q.1, fun p hp => (f.ex ok e1).newL ok S1 hp (by rw [t.len]; exact q.1) t q.2⟩⟩
theorem df_bi {x : Str} {p : Pos} {id : String} {pp : List D → (D → Prop) → Prop} (r : RnF X (.builtin id) pp) (hg : Gl X x) (hm : X.mg x = none) (hv : bootBuiltins x = some (.builtin id)) (ha : DAB I X (e :: es) mr) (hn : x ≠ "__name__" := by decide) (hdb : (x == ("__debug__" : Str)) = false := by decide)
    (he : starEach (e :: es) X.env = (false, eval e X.env) :: starEach es X.env := by rfl) (hpl : (backTo pos (starEach es X.env)).any (·.1) = false := by rfl) : DF I X (.Call (.Name x p) (e :: es) [] pos) (mN pp mr) := by
  refine ⟨fun pins s σ H Q Iv ⟨W, ρ, Qd, ok, S, hq, f⟩ => ?_⟩
  refine wpAny_Call_Name_kw (ld_blt Iv hg hm hv ?_ hn hdb)
  exact PyProof.Rows.callWith_builtin1 (ha.run pos Iv ok S hq fun us s1 vs H1 ds I1 rv q e1 S1 t => r I1 ok S1 rv t q (f.ex ok e1)) he hpl
theorem df_bty {x : Str} {p : Pos} {T : String} {pp : List D → (D → Prop) → Prop} (r : RnF X (.type T) pp) (hg : Gl X x) (hm : X.mg x = none) (hv : bootBuiltins x = some (.type T)) (ha : DAB I X (e :: es) mr) (hn : x ≠ "__name__" := by decide) (hdb : (x == ("__debug__" : Str)) = false := by decide)
    (he : starEach (e :: es) X.env = (false, eval e X.env) :: starEach es X.env := by rfl) (hpl : (backTo pos (starEach es X.env)).any (·.1) = false := by rfl) : DF I X (.Call (.Name x p) (e :: es) [] pos) (mN pp mr) := by
  refine ⟨fun pins s σ H Q Iv ⟨W, ρ, Qd, ok, S, hq, f⟩ => ?_⟩
  refine wpAny_Call_Name_kw (ld_blt Iv hg hm hv ?_ hn hdb)
  exact PyProof.Rows.callWith_type1 (ha.run pos Iv ok S hq fun us s1 vs H1 ds I1 rv q e1 S1 t => r I1 ok S1 rv t q (f.ex ok e1)) he hpl
/-- xs + ys of lists: a new list -/
def pAddL : D → D → (D → Prop) → Prop
  | .list a, .list b, Q => a.length + b.length ≤ sizeLine ∧ Q (.list (a ++ b))
  | _, _, _ => False
theorem df_addL (ha : DB I X a ma) (hb : DB I X b mb) : DF I X (.BinOp a .Add b pos) (m2 pAddL ma mb) := by
  refine ⟨fun pins s σ H Q Iv ⟨W, ρ, Qd, ok, S, hm, f⟩ => ?_⟩
  refine wpAny_BinOp (twoB ha hb Iv ok S hm fun v u s2 x y H2 d e I2 rx ry q e2 S2 tx ty => ?_)
  cases d <;> cases e <;> try (exact False.elim q)
  rename_i ds es
  obtain ⟨a, xs, rfl, ra, za, ha⟩ := tx.list
  obtain ⟨b, ys, rfl, rb, zb, hb⟩ := ty.list
  cases rx; cases ry
  obtain ⟨its, r1, ⟨⟨c1, d1, t1, l1⟩, n1, e1, rfl, _, rfl⟩, _⟩ := I2.list (S2.sqL ra)
  obtain ⟨its2, r2, ⟨⟨c2, d2, t2, l2⟩, n2, e2', rfl, _, rfl⟩, _⟩ := I2.list (S2.sqL rb)
  have hz : (xs ++ ys).length ≤ sizeLine := by rw [List.length_append, ha.len, hb.len]; exact q.1
  have hz2 : its.toArray.size + its2.toArray.size ≤ sizeLine := by
    rw [List.size_toArray, List.size_toArray, ← r1.length, ← r2.length, ← List.length_append]; exact hz
  refine concat_meets ⟨_, e1, rfl⟩ ⟨_, e2', rfl⟩ noFill_list_add seq_list_add PySem.F.slot_list_add PySem.F.entry_list_add (PySem.F.args_list_add_2 _ _)
    (list_addW a b its.toArray its2.toArray n1 n2 d1 d2 l1 l2 hz2) ⟨e1, e2', ?_⟩
  have hf : H2 s2.heap.objs.size = none := I2.hok.fresh (Nat.le_refl _)
  have ea : its.toArray ++ its2.toArray = (its ++ its2).toArray := by simp
  rw [ea]
  exact ⟨.ref s2.heap.objs.size, upd H2 s2.heap.objs.size (.lst (xs ++ ys)), I2.laid (t' := s2.toks) (fun b u e => Heap.get?_push_of_some _ e) (Nat.le_refl _) ⟨hz, _, 0, r1.append r2, Heap.get?_push_size _ rfl⟩, rfl,
    (f.ex ok e2).newL ok S2 hf hz (ha.app hb) q.2⟩
theorem df_dnewK : DF I X (.Dict [] [] pos) (mC (dK [])) := pe_imp pe_dnewK fun σ H Q ⟨W, ρ, Qd, ok, S, hm, f⟩ => fun p hp => f.newK ok S hp .nil hm
theorem df_dnewT : DF I X (.Dict [] [] pos) (mC (dT [])) := pe_imp pe_dnewT fun σ H Q ⟨W, ρ, Qd, ok, S, hm, f⟩ => fun p hp => f.newTd ok S hp .nil hm
end

structure MEnds where
  nx : En → Prop
  rt : D → Prop
  bk : En → Prop := fun _ => False
  ct : En → Prop := fun _ => False
abbrev MS := MEnds → En → Prop
/-- what is not kept back stays; so does what is walked -/
structure Kp (I : SI) (W : DW) (σ : St) (ρ : En) (H : Hp) (σ' : St) (ρ' : En) (H' : Hp) : Prop where
  st : ∀ b o, ¬ avA W I.own σ ρ b → unl W.L H b = some o → ¬ avA W I.own σ' ρ' b ∧ unl W.L H' b = some o
  lk : ∀ i ∈ I.lk, ρ'[i]? = ρ[i]? ∧ σ'[i]? = σ[i]? ∧ ((∃ d, ρ[i]? = some (some d)) → ∀ a, σ[i]? = some (some (.ref a)) → unl W.L H' a = unl W.L H a)
structure RetOk (W : DW) (I : SI) (K : PySem.W.Frag) (H' : Hp) (v : V) (d : D) : Prop where
  rep : Rep K W.av (unl W.L H') v d
  lkd : Lkd W.L H'
  fr : ∀ b o, W.H0 b = some o → ¬ W.bx b → unl W.L H' b = some o
  box : ∀ p, W.box = some p → I.bk (unl W.L H') p.1 p.2
  bxt : ∀ b, W.bx b → ∃ o, unl W.L H' b = some o ∧ ntup o = true
section
variable {I : SI} {W : DW} {K : PySem.W.Frag} {σ σ1 σ2 : St} {ρ ρ1 ρ2 : En} {H H1 H2 : Hp}
theorem Kp.refl : Kp I W σ ρ H σ ρ H := ⟨fun _ _ n h => ⟨n, h⟩, fun _ _ => ⟨rfl, rfl, fun _ _ _ => rfl⟩⟩
theorem Kp.trans (a : Kp I W σ ρ H σ1 ρ1 H1) (b : Kp I W σ1 ρ1 H1 σ2 ρ2 H2) : Kp I W σ ρ H σ2 ρ2 H2 where
  st := fun c o n h => let ⟨n1, h1⟩ := a.st c o n h; b.st c o n1 h1
  lk := fun i hi => by
    obtain ⟨a1, a2, a3⟩ := a.lk i hi
    obtain ⟨b1, b2, b3⟩ := b.lk i hi
    refine ⟨b1.trans a1, b2.trans a2, fun l p hp => ?_⟩
    rw [b3 (by rw [a1]; exact l) p (by rw [a2]; exact hp), a3 l p hp]
theorem Ex.kp (ok : WOk I W) (S : SR I W K σ H ρ) (hl : ∀ i ∈ I.lk, i ∈ I.own) (e : Ex W H H1) : Kp I W σ ρ H σ ρ H1 where
  st := fun b o n h => ⟨n, e b o h fun z => n (.inl (ok.bxav b z))⟩
  lk := fun i hi => ⟨rfl, rfl, fun ⟨d, hd⟩ a ha => by
    obtain ⟨a', h1, ow, _⟩ := S.own i d hd (hl i hi)
    rw [ha] at h1; cases h1
    obtain ⟨u, hu, _⟩ := ow.some
    rw [hu]; exact e a u hu (S.ownbx ok hd (hl i hi) ha)⟩
theorem Kp.cm (k : Kp I W σ ρ H σ1 ρ1 H1) : Cm (avA W I.own σ ρ) (avA W I.own σ1 ρ1) (unl W.L H) (unl W.L H1) :=
  ⟨fun b o n h => (k.st b o n h).1, fun b u _ n r => rd_up r fun o h => (k.st b o n h).2, fun b xs n h => (k.st b _ n h).2⟩
end
/-- what is wanted behind a statement -/
structure EndS (I : SI) (W : DW) (K : PySem.W.Frag) (σ : St) (ρ : En) (H : Hp) (M : MEnds) (D : Ends) : Prop where
  nx : ∀ σ' H' ρ', M.nx ρ' → SR I W K σ' H' ρ' → Kp I W σ ρ H σ' ρ' H' → D.nx σ' H'
  rt : ∀ v H' d, M.rt d → RetOk W I K H' v d → D.rt v H'
  bk : ∀ σ' H' ρ', M.bk ρ' → SR I W K σ' H' ρ' → Kp I W σ ρ H σ' ρ' H' → D.bk σ' H'
  ct : ∀ σ' H' ρ', M.ct ρ' → SR I W K σ' H' ρ' → Kp I W σ ρ H σ' ρ' H' → D.ct σ' H'
def tS (I : SI) (K : PySem.W.Frag) (m : MS) : TS := fun D σ H => ∃ W ρ M, WOk I W ∧ SR I W K σ H ρ ∧ (∀ i ∈ I.lk, i ∈ I.own) ∧ m M ρ ∧ EndS I W K σ ρ H M D
def DS (I : SI) (X : Cx) (st : Stmt) (m : MS) : Prop := PS X st (tS I X.K m)
def DSs (I : SI) (X : Cx) (st : List Stmt) (m : MS) : Prop := PSs X st (tS I X.K m)
theorem ps_imp {X : Cx} {st : Stmt} {t t' : TS} (h : PS X st t) (k : ∀ D σ H, t' D σ H → t D σ H) : PS X st t' := ⟨fun pins s σ H D I q => h.run pins s σ H D I (k _ _ _ q)⟩
theorem pss_imp {X : Cx} {st : List Stmt} {t t' : TS} (h : PSs X st t) (k : ∀ D σ H, t' D σ H → t D σ H) : PSs X st t' := ⟨fun pins s σ H D I q => h.run pins s σ H D I (k _ _ _ q)⟩
section
variable {I : SI} {W : DW} {K : PySem.W.Frag} {σ σ1 : St} {ρ ρ1 : En} {H H1 : Hp} {M : MEnds} {D : Ends}
theorem EndS.kp (E : EndS I W K σ ρ H M D) (k : Kp I W σ ρ H σ1 ρ1 H1) : EndS I W K σ1 ρ1 H1 M D :=
  ⟨fun σ' H' ρ' m s q => E.nx σ' H' ρ' m s (k.trans q), E.rt, fun σ' H' ρ' m s q => E.bk σ' H' ρ' m s (k.trans q), fun σ' H' ρ' m s q => E.ct σ' H' ρ' m s (k.trans q)⟩
theorem EndS.here (E : EndS I W K σ ρ H M D) (S : SR I W K σ H ρ) (q : M.nx ρ) : D.nx σ H := E.nx σ H ρ q S Kp.refl
/-- a value handed back -/
theorem SR.ret (ok : WOk I W) (S : SR I W K σ H ρ) {v : V} {d : PyD.D} (r : Rep K (avA W I.own σ ρ) (unl W.L H) v d) : RetOk W I K H v d where
  rep := r.mono ⟨fun _ _ n _ z => n (.inl z), fun _ _ _ _ h => h, fun _ _ _ h => h⟩
  lkd := S.lkd
  fr := S.fr
  box := S.box
  bxt := fun b hb => S.avt b (ok.bxav b hb)
theorem getSet {α : Type} {l : List (Option α)} {i j : Nat} {x : Option α} {d : α} (h : (l.set i x)[j]? = some (some d)) : (i = j ∧ x = some d) ∨ (i ≠ j ∧ l[j]? = some (some d)) := by
  by_cases e : i = j
  · subst e
    have hl : i < l.length := by
      have := (List.getElem?_eq_some_iff.mp h).1
      simpa using this
    rw [List.getElem?_set_self hl] at h
    exact .inl ⟨rfl, Option.some.inj h⟩
  · rw [List.getElem?_set_ne e] at h
    exact .inr ⟨e, h⟩
/-- a name that owns nothing is stored -/
theorem SR.setV (S : SR I W K σ H ρ) {i : Nat} (hi : i ∉ I.own) (hb : I.bs ≠ some i) {v : V} {d : PyD.D} (r : Rep K (avA W I.own σ ρ) (unl W.L H) v d) : SR I W K (σ.set i (some v)) H (ρ.set i (some d)) ∧ (∀ b, avA W I.own (σ.set i (some v)) (ρ.set i (some d)) b ↔ avA W I.own σ ρ b) := by
  have key : ∀ b, avA W I.own (σ.set i (some v)) (ρ.set i (some d)) b ↔ avA W I.own σ ρ b := fun b => by
    have h1 : ∀ j, j ∈ I.own → i ≠ j := fun j hj z => hi (z ▸ hj)
    constructor
    · rintro (z | ⟨j, hj, ⟨d', hd⟩, hs⟩)
      · exact .inl z
      · rw [List.getElem?_set_ne (h1 j hj)] at hd hs
        exact .inr ⟨j, hj, ⟨d', hd⟩, hs⟩
    · rintro (z | ⟨j, hj, ⟨d', hd⟩, hs⟩)
      · exact .inl z
      · exact .inr ⟨j, hj, ⟨d', by rw [List.getElem?_set_ne (h1 j hj)]; exact hd⟩, by rw [List.getElem?_set_ne (h1 j hj)]; exact hs⟩
  have c : Cm (avA W I.own σ ρ) (avA W I.own (σ.set i (some v)) (ρ.set i (some d))) (unl W.L H) (unl W.L H) := ⟨fun b _ n _ z => n ((key b).mp z), fun _ _ _ _ h => h, fun _ _ _ h => h⟩
  refine ⟨⟨by rw [List.length_set, List.length_set]; exact S.len, S.lkd, fun j d' hd hj => ?_, fun j d' hd hj => ?_, fun j k a hj hk hdj hdk hsj hsk => ?_, S.fr, S.avt, S.box, fun j hj => ?_⟩, key⟩
  · rcases getSet hd with ⟨rfl, e⟩ | ⟨ne, hd⟩
    · cases e
      have hl : i < σ.length := by
        have := (List.getElem?_eq_some_iff.mp hd).1
        rw [← S.len]; simpa using this
      exact ⟨v, by rw [List.getElem?_set_self hl], r.mono c⟩
    · obtain ⟨u, hu, ru⟩ := S.val j d' hd hj
      exact ⟨u, by rw [List.getElem?_set_ne ne]; exact hu, ru.mono c⟩
  · have ne : i ≠ j := fun z => hi (z ▸ hj)
    rw [List.getElem?_set_ne ne] at hd
    obtain ⟨a, h1, ow, h2, h3, h4⟩ := S.own j d' hd hj
    exact ⟨a, by rw [List.getElem?_set_ne ne]; exact h1, ow.mono c rfl, h2, h3, h4⟩
  · have nj : i ≠ j := fun z => hi (z ▸ hj)
    have nk : i ≠ k := fun z => hi (z ▸ hk)
    rw [List.getElem?_set_ne nj] at hdj hsj
    rw [List.getElem?_set_ne nk] at hdk hsk
    exact S.inj j k a hj hk hdj hdk hsj hsk
  · have ne : i ≠ j := fun z => hb (z ▸ hj)
    rw [List.getElem?_set_ne ne]
    exact S.bsl j hj
theorem Kp.setV (S : SR I W K σ H ρ) (hl : ∀ i ∈ I.lk, i ∈ I.own) {i : Nat} (hi : i ∉ I.own) {v : V} {d : PyD.D} (key : ∀ b, avA W I.own (σ.set i (some v)) (ρ.set i (some d)) b ↔ avA W I.own σ ρ b) : Kp I W σ ρ H (σ.set i (some v)) (ρ.set i (some d)) H where
  st := fun b o n h => ⟨fun z => n ((key b).mp z), h⟩
  lk := fun j hj => by
    have ne : i ≠ j := fun z => hi (z ▸ hl j hj)
    rw [List.getElem?_set_ne ne, List.getElem?_set_ne ne]
    exact ⟨rfl, rfl, fun _ _ _ => rfl⟩
/-- a name comes to own a new list or dict -/
theorem SR.setO (ok : WOk I W) {p : Addr} (S : SR I (W.add p) K σ H ρ) {i : Nat} (hi : i ∈ I.own) (hb : I.bs ≠ some i) {d : PyD.D} (ow : Own K (avA (W.add p) I.own σ ρ) (unl W.L H) p d) (nv : ¬ W.av p) (n0 : W.H0 p = none) (nL : W.L.lookup p = none) :
    SR I W K (σ.set i (some (.ref p))) H (ρ.set i (some d)) ∧ (∀ b, avA W I.own (σ.set i (some (.ref p))) (ρ.set i (some d)) b → avA (W.add p) I.own σ ρ b) := by
  have key : ∀ b, avA W I.own (σ.set i (some (.ref p))) (ρ.set i (some d)) b → avA (W.add p) I.own σ ρ b := fun b => by
    rintro (z | ⟨j, hj, ⟨d', hd⟩, hs⟩)
    · exact .inl (.inl z)
    · by_cases e : i = j
      · subst e
        rcases getSet hs with ⟨_, e⟩ | ⟨ne, _⟩
        · cases e; exact .inl (.inr rfl)
        · exact absurd rfl ne
      · rw [List.getElem?_set_ne e] at hd hs
        exact .inr ⟨j, hj, ⟨d', hd⟩, hs⟩
  have c : Cm (avA (W.add p) I.own σ ρ) (avA W I.own (σ.set i (some (.ref p))) (ρ.set i (some d))) (unl W.L H) (unl W.L H) := ⟨fun b _ n _ z => n (key b z), fun _ _ _ _ h => h, fun _ _ _ h => h⟩
  have other : ∀ j d' a, j ∈ I.own → ρ[j]? = some (some d') → σ[j]? = some (some (.ref a)) → a ≠ p := fun j d' a hj hd hs z => by
    obtain ⟨a', h1, _, h2, _⟩ := S.own j d' hd hj
    rw [hs] at h1; cases h1
    exact h2 (.inr z)
  refine ⟨⟨by rw [List.length_set, List.length_set]; exact S.len, S.lkd, fun j d' hd hj => ?_, fun j d' hd hj => ?_, fun j k a hj hk hdj hdk hsj hsk => ?_, S.fr, fun b h => S.avt b (.inl h), S.box, fun j hj => ?_⟩, key⟩
  · have ne : i ≠ j := fun z => hj (z ▸ hi)
    rw [List.getElem?_set_ne ne] at hd ⊢
    obtain ⟨u, hu, ru⟩ := S.val j d' hd hj
    exact ⟨u, hu, ru.mono c⟩
  · rcases getSet hd with ⟨rfl, e⟩ | ⟨ne, hd⟩
    · cases e
      have hl : i < σ.length := by
        have := (List.getElem?_eq_some_iff.mp hd).1
        rw [← S.len]; simpa using this
      exact ⟨p, by rw [List.getElem?_set_self hl], ow.mono c rfl, nv, n0, fun _ => nL⟩
    · obtain ⟨a, h1, ow', h2, h3, h4⟩ := S.own j d' hd hj
      exact ⟨a, by rw [List.getElem?_set_ne ne]; exact h1, ow'.mono c rfl, fun z => h2 (.inl z), h3, h4⟩
  · obtain ⟨dj, hdj⟩ := hdj
    obtain ⟨dk, hdk⟩ := hdk
    rcases getSet hdj with ⟨ej, _⟩ | ⟨nj, hdj⟩
    · rcases getSet hdk with ⟨ek, _⟩ | ⟨nk, hdk⟩
      · exact ej.symm.trans ek
      · subst ej
        rw [List.getElem?_set_ne nk] at hsk
        rcases getSet hsj with ⟨_, e⟩ | ⟨n, _⟩
        · cases e; exact absurd rfl (other k dk _ hk hdk hsk)
        · exact absurd rfl n
    · rcases getSet hdk with ⟨ek, _⟩ | ⟨nk, hdk⟩
      · subst ek
        rw [List.getElem?_set_ne nj] at hsj
        rcases getSet hsk with ⟨_, e⟩ | ⟨n, _⟩
        · cases e; exact absurd rfl (other j dj _ hj hdj hsj)
        · exact absurd rfl n
      · rw [List.getElem?_set_ne nj] at hsj
        rw [List.getElem?_set_ne nk] at hsk
        exact S.inj j k a hj hk ⟨dj, hdj⟩ ⟨dk, hdk⟩ hsj hsk
  · have ne : i ≠ j := fun z => hb (z ▸ hj)
    rw [List.getElem?_set_ne ne]
    exact S.bsl j hj
theorem Kp.setO (ok : WOk I W) {p : Addr} (hl : ∀ i ∈ I.lk, i ∈ I.own) (S0 : SR I W K σ H ρ) (e : Ex W H H1) (hp : unl W.L H p = none) {i : Nat} (hi : i ∉ I.lk) {d : PyD.D} (key : ∀ b, avA W I.own (σ.set i (some (.ref p))) (ρ.set i (some d)) b → avA (W.add p) I.own σ ρ b) : Kp I W σ ρ H (σ.set i (some (.ref p))) (ρ.set i (some d)) H1 where
  st := fun b o n h => by
    refine ⟨fun z => ?_, e b o h fun z => n (.inl (ok.bxav b z))⟩
    rcases key b z with (z | z) | z
    · exact n (.inl z)
    · rw [z, hp] at h; cases h
    · exact n (.inr z)
  lk := fun j hj => by
    have ne : i ≠ j := fun z => hi (z ▸ hj)
    rw [List.getElem?_set_ne ne, List.getElem?_set_ne ne]
    exact ⟨rfl, rfl, ((e.kp ok S0 hl).lk j hj).2.2⟩
end
end PyD
namespace PyD
open PySem PySem.Spec L2
open PyProof.Rows hiding St
section
variable {I : SI} {W : DW} {K : PySem.W.Frag} {σ σ1 : St} {ρ ρ1 : En} {H H1 : Hp} {M : MEnds} {D : Ends}
theorem WOk.add (ok : WOk I W) (p : Addr) (nl : W.L.lookup p = none) : WOk I (W.add p) := ⟨fun b h => .inl (ok.bxav b h), ok.lbx, ok.bkst⟩
theorem freshC (ok : WOk I W) (e : Ex W H H1) {p : Addr} (hp : unl W.L H p = none) : Cm (avA W I.own σ ρ) (avA (W.add p) I.own σ ρ) (unl W.L H) (unl W.L H1) :=
  ⟨fun b u n r z => by
    rcases z with (z | z) | z
    · exact n (.inl z)
    · rw [z, hp] at r; cases r
    · exact n (.inr z), (e.keep ok).rd, (e.keep ok).tp⟩
theorem SR.avs {av' : Addr → Prop} (S : SR I W K σ H ρ) (h : ∀ b, W.av b ↔ av' b) : SR I { W with av := av' } K σ H ρ := by
  have e : W.av = av' := funext fun b => propext (h b)
  subst e; exact S
theorem add_comm (W : DW) (p q : Addr) : (W.add p).add q = (W.add q).add p := by
  unfold DW.add
  have e : (fun b => (W.av b ∨ b = p) ∨ b = q) = fun b => (W.av b ∨ b = q) ∨ b = p := funext fun b => propext ⟨fun h => by rcases h with (h | h) | h <;> simp [h], fun h => by rcases h with (h | h) | h <;> simp [h]⟩
  simp only [e]
end
section
variable {I : SI} {X : Cx} {st : Stmt} {rest : List Stmt} {m mu : MS} {e a b : Expr} {me ma mb : ME} {pos : Pos}
def sNext : MS := fun M ρ => M.nx ρ
def sSeq (m u : MS) : MS := fun M ρ => m { M with nx := fun ρ' => u M ρ' } ρ
theorem dss_nil : DSs I X [] sNext := pss_imp pss_nil fun D σ H ⟨W, ρ, M, ok, S, hl, hm, E⟩ => E.here S hm
theorem dss_one (h : DS I X st m) : DSs I X [st] m := pss_one h
theorem dss_cons (h1 : DS I X st m) (h2 : DSs I X rest mu) : DSs I X (st :: rest) (sSeq m mu) :=
  pss_imp (pss_cons h1 h2) fun D σ H ⟨W, ρ, M, ok, S, hl, hm, E⟩ =>
    ⟨W, ρ, { M with nx := fun ρ' => mu M ρ' }, ok, S, hl, hm, ⟨fun σ' H' ρ' q S' k => ⟨W, ρ', M, ok, S', hl, q, E.kp k⟩, E.rt, E.bk, E.ct⟩⟩
theorem ds_pass : DS I X (.Pass pos) sNext := ps_imp ps_pass fun D σ H ⟨W, ρ, M, ok, S, hl, hm, E⟩ => E.here S hm
def sBreak : MS := fun M ρ => M.bk ρ
def sCont : MS := fun M ρ => M.ct ρ
theorem ds_break : DS I X (.Break pos) sBreak := ps_imp ps_break fun D σ H ⟨W, ρ, M, ok, S, hl, hm, E⟩ => E.bk σ H ρ hm S Kp.refl
theorem ds_continue : DS I X (.Continue pos) sCont := ps_imp ps_continue fun D σ H ⟨W, ρ, M, ok, S, hl, hm, E⟩ => E.ct σ H ρ hm S Kp.refl
def sExpr (m : ME) : MS := fun M ρ => m ρ fun _ => M.nx ρ
theorem ds_expr (he : DE I X e me) (hs : swapsWith e none pos.line X.env = pure false := by rfl) : DS I X (.Expr e pos) (sExpr me) :=
  ps_imp (ps_expr he hs) fun D σ H ⟨W, ρ, M, ok, S, hl, hm, E⟩ => ⟨W, ρ, _, ok, S, hm, fun v H' d q e1 S1 r => E.nx σ H' ρ q S1 (e1.kp ok S hl)⟩
theorem ds_doc {x : Str} {j pos pos'} : DS I X (.Expr (.Constant (.str x) j pos) pos') sNext := ps_imp ps_doc fun D σ H ⟨W, ρ, M, ok, S, hl, hm, E⟩ => E.here S hm
def sRet (m : ME) : MS := fun M ρ => m ρ M.rt
theorem ds_ret (he : DE I X e me) : DS I X (.Return (some e) pos) (sRet me) :=
  ps_imp (ps_ret he) fun D σ H ⟨W, ρ, M, ok, S, hl, hm, E⟩ => ⟨W, ρ, _, ok, S, hm, fun v H' d q e1 S1 r => E.rt v H' d q (S1.ret ok r)⟩
/-- return x, x an own name -/
theorem ds_retO (i : Nat) {x : Str} {pos' : Pos} (ho : i ∈ I.own) (hN : X.N[i]? = some x) (hv : Vis X.env.scope x) (hd : (x == ("__debug__" : Str)) = false := by decide) (hcd : (x == ("__classdict__" : Str)) = false := by decide) : DS I X (.Return (some (.Name x pos')) pos) (sRet (mV i)) :=
  ps_imp (ps_ret (pe_var hN hv hd hcd)) fun D σ H ⟨W, ρ, M, ok, S, hl, hm, E⟩ => by
    obtain ⟨d, hd, hq⟩ := mV_of hm
    obtain ⟨a, hv, ow, n, h0, _⟩ := S.own i d hd ho
    refine ⟨.ref a, hv, E.rt _ H d hq ⟨?_, S.lkd, S.fr, S.box, fun b hb => S.avt b (ok.bxav b hb)⟩⟩
    have c : Cm (avA W I.own σ ρ) W.av (unl W.L H) (unl W.L H) := ⟨fun _ _ n _ z => n (.inl z), fun _ _ _ _ h => h, fun _ _ _ h => h⟩
    exact (ow.mono c rfl).rep n
def sRetN : MS := fun M _ => M.rt .none
theorem ds_retN : DS I X (.Return none pos) sRetN := ps_imp ps_retN fun D σ H ⟨W, ρ, M, ok, S, hl, hm, E⟩ => E.rt .non H .none hm (S.ret ok .non)
def sIf (t : MT) (m u : MS) : MS := fun M ρ => t ρ fun c => if c = true then m M ρ else u M ρ
theorem ds_if {c : Expr} {x y : List Stmt} {t : MT} (hc : DT I X c t) (ha : DSs I X x m) (hb : DSs I X y mu) : DS I X (.If c x y pos) (sIf t m mu) :=
  ps_imp (ps_if hc ha hb) fun D σ H ⟨W, ρ, M, ok, S, hl, hm, E⟩ => ⟨W, ρ, _, ok, S, hm, fun c H' q e1 S1 => by
    cases c with
    | true => rw [if_pos rfl] at q; rw [if_pos rfl]; exact ⟨W, ρ, M, ok, S1, hl, q, E.kp (e1.kp ok S hl)⟩
    | false => rw [if_neg Bool.false_ne_true] at q; rw [if_neg Bool.false_ne_true]; exact ⟨W, ρ, M, ok, S1, hl, q, E.kp (e1.kp ok S hl)⟩⟩
/-- code that is not come to -/
def sNever : MS := fun _ _ => False
theorem ds_never : DS I X st sNever := ps_imp ps_never fun D σ H ⟨W, ρ, M, ok, S, hl, hm, E⟩ => hm.elim
theorem dss_never {sts : List Stmt} : DSs I X sts sNever := pss_imp pss_never fun D σ H ⟨W, ρ, M, ok, S, hl, hm, E⟩ => hm.elim
def sSet (i : Nat) (m : ME) : MS := fun M ρ => m ρ fun d => M.nx (ρ.set i (some d))
theorem ds_set (i : Nat) {x : Str} {pos' : Pos} (ho : i ∉ I.own) (hb : I.bs ≠ some i) (hN : X.N.Nodup) (hi : X.N[i]? = some x) (hx : Loc X.env.scope x) (he : DE I X e me) (hs : swapsWith e (some (.Name x pos')) pos.line X.env = pure false := by rfl)
    (hf : X.fn x = true ∨ X.env.scope.names.lookup x = some .local := by first | exact .inl rfl | exact .inr rfl | assumption) : DS I X (.Assign [.Name x pos'] e pos) (sSet i me) :=
  ps_imp (ps_set hN hi hx he hs hf) fun D σ H ⟨W, ρ, M, ok, S, hl, hm, E⟩ => ⟨W, ρ, _, ok, S, hm, fun v H' d q e1 S1 r => by
    obtain ⟨S2, key⟩ := S1.setV ho hb r
    exact E.nx _ _ _ q S2 ((e1.kp ok S hl).trans (Kp.setV S1 hl ho key))⟩
theorem ds_setO (i : Nat) {x : Str} {pos' : Pos} (ho : i ∈ I.own) (hk : i ∉ I.lk) (hb : I.bs ≠ some i) (hN : X.N.Nodup) (hi : X.N[i]? = some x) (hx : Loc X.env.scope x) (he : DF I X e me) (hs : swapsWith e (some (.Name x pos')) pos.line X.env = pure false := by rfl)
    (hf : X.fn x = true ∨ X.env.scope.names.lookup x = some .local := by first | exact .inl rfl | exact .inr rfl | assumption) : DS I X (.Assign [.Name x pos'] e pos) (sSet i me) :=
  ps_imp (ps_set hN hi hx he hs hf) fun D σ H ⟨W, ρ, M, ok, S, hl, hm, E⟩ => ⟨W, ρ, _, ok, S, hm, fun p H' d q e1 S1 ow nv n0 nl nf => by
    obtain ⟨S2, key⟩ := S1.setO ok ho hb ow nv n0 nl
    exact E.nx _ _ _ q S2 (Kp.setO ok hl S e1 nf hk key)⟩
end
def DW.adds (W : DW) (ps : List Addr) : DW := { W with av := fun b => W.av b ∨ b ∈ ps }
theorem adds_nil (W : DW) : W.adds [] = W := by
  unfold DW.adds
  have e : (fun b => W.av b ∨ b ∈ ([] : List Addr)) = W.av := funext fun b => propext (by simp)
  simp only [e]
theorem adds_cons (W : DW) (p : Addr) (ps : List Addr) : W.adds (p :: ps) = (W.adds ps).add p := by
  unfold DW.adds DW.add
  have e : (fun b => W.av b ∨ b ∈ p :: ps) = fun b => (W.av b ∨ b ∈ ps) ∨ b = p := funext fun b => propext (by rw [List.mem_cons]; exact ⟨fun h => by rcases h with h | h | h <;> simp [h], fun h => by rcases h with (h | h) | h <;> simp [h]⟩)
  simp only [e]
theorem adds_snoc (W : DW) (p : Addr) (ps : List Addr) : W.adds (p :: ps) = (W.add p).adds ps := by
  unfold DW.adds DW.add
  have e : (fun b => W.av b ∨ b ∈ p :: ps) = fun b => (W.av b ∨ b = p) ∨ b ∈ ps := funext fun b => propext (by rw [List.mem_cons]; exact ⟨fun h => by rcases h with h | h | h <;> simp [h], fun h => by rcases h with (h | h) | h <;> simp [h]⟩)
  simp only [e]
inductive ItemsX (K : PySem.W.Frag) (av : Addr → Prop) (H : Hp) : List Bool → List V → List D → List Addr → Prop
  | nil : ItemsX K av H [] [] [] []
  | e {fl : List Bool} {v : V} {d : D} {vs : List V} {ds : List D} {ps : List Addr} : Rep K av H v d → ItemsX K av H fl vs ds ps → ItemsX K av H (false :: fl) (v :: vs) (d :: ds) ps
  | f {fl : List Bool} {p : Addr} {d : D} {vs : List V} {ds : List D} {ps : List Addr} : Own K av H p d → ItemsX K av H fl vs ds ps → ItemsX K av H (true :: fl) (.ref p :: vs) (d :: ds) (p :: ps)
theorem ItemsX.mono {K : PySem.W.Frag} {av av' : Addr → Prop} {H H' : Hp} (c : Cm av av' H H') : ∀ {fl : List Bool} {vs : List V} {ds : List D} {ps : List Addr}, (∀ p ∈ ps, H' p = H p) → ItemsX K av H fl vs ds ps → ItemsX K av' H' fl vs ds ps
  | _, _, _, _, _, .nil => .nil
  | _, _, _, _, k, .e r t => .e (r.mono c) (ItemsX.mono c k t)
  | _, _, _, _, k, .f r t => .f (r.mono c (k _ List.mem_cons_self)) (ItemsX.mono c (fun p hp => k p (List.mem_cons_of_mem _ hp)) t)
theorem ItemsX.len {K : PySem.W.Frag} {av : Addr → Prop} {H : Hp} : ∀ {fl : List Bool} {vs : List V} {ds : List D} {ps : List Addr}, ItemsX K av H fl vs ds ps → vs.length = fl.length
  | _, _, _, _, .nil => rfl
  | _, _, _, _, .e r t => by rw [List.length_cons, List.length_cons, ItemsX.len t]
  | _, _, _, _, .f r t => by rw [List.length_cons, List.length_cons, ItemsX.len t]
/-- what holds of the new ones -/
def NewPs (W : DW) (H : Hp) (ps : List Addr) : Prop := ps.Nodup ∧ ∀ p ∈ ps, ¬ W.av p ∧ W.H0 p = none ∧ W.L.lookup p = none ∧ unl W.L H p = none
def setAll {α : Type} (σ : List (Option α)) : List Nat → List α → List (Option α)
  | i :: is, v :: vs => setAll (σ.set i (some v)) is vs
  | _, _ => σ
/-- where each value goes -/
def SlotsOk (I : SI) : List Nat → List Bool → Prop
  | i :: is, f :: fl => (I.bs ≠ some i ∧ (if f = true then i ∈ I.own ∧ i ∉ I.lk else i ∉ I.own)) ∧ SlotsOk I is fl
  | [], [] => True
  | _, _ => False
section
variable {I : SI} {W : DW} {K : PySem.W.Frag} {M : MEnds} {D : Ends}
theorem WOk.adds (ok : WOk I W) (ps : List Addr) : WOk I (W.adds ps) := ⟨fun b h => .inl (ok.bxav b h), ok.lbx, ok.bkst⟩
theorem storeX (ok : WOk I W) {H0 H : Hp} (hl : ∀ i ∈ I.lk, i ∈ I.own) : ∀ {fl : List Bool} {is : List Nat} {vs : List V} {ds : List PyD.D} {ps : List Addr} {σ : St} {ρ : En}, SlotsOk I is fl → NewPs W H0 ps → SR I (W.adds ps) K σ H ρ → ItemsX K (avA (W.adds ps) I.own σ ρ) (unl W.L H) fl vs ds ps →
    SR I W K (setAll σ is vs) H (setAll ρ is ds) ∧ (∀ b, avA W I.own (setAll σ is vs) (setAll ρ is ds) b → avA (W.adds ps) I.own σ ρ b) ∧ (∀ i ∈ I.lk, (setAll ρ is ds)[i]? = ρ[i]? ∧ (setAll σ is vs)[i]? = σ[i]?)
  | [], [], _, _, _, σ, ρ, _, _, S, .nil => by
    rw [adds_nil] at S ⊢
    exact ⟨S, fun _ h => h, fun _ _ => ⟨rfl, rfl⟩⟩
  | false :: fl, i :: is, _, _, ps, σ, ρ, so, np, S, .e (v := v) (d := d) (vs := vs) (ds := ds) r t => by
    obtain ⟨⟨hb, hi⟩, so⟩ := so
    rw [if_neg Bool.false_ne_true] at hi
    obtain ⟨S2, key⟩ := S.setV hi hb r
    have c : Cm (avA (W.adds ps) I.own σ ρ) (avA (W.adds ps) I.own (σ.set i (some v)) (ρ.set i (some d))) (unl W.L H) (unl W.L H) := ⟨fun b _ n _ z => n ((key b).mp z), fun _ _ _ _ h => h, fun _ _ _ h => h⟩
    obtain ⟨S3, key3, lk3⟩ := storeX ok hl so np S2 (t.mono c fun _ _ => rfl)
    refine ⟨S3, fun b h => (key b).mp (key3 b h), fun j hj => ?_⟩
    obtain ⟨a1, a2⟩ := lk3 j hj
    have ne : i ≠ j := fun z => hi (z ▸ hl j hj)
    rw [List.getElem?_set_ne ne] at a1 a2
    exact ⟨a1, a2⟩
  | true :: fl, i :: is, _, _, p :: ps, σ, ρ, so, np, S, .f (d := d) (vs := vs) (ds := ds) r t => by
    obtain ⟨⟨hb, hi⟩, so⟩ := so
    rw [if_pos rfl] at hi
    obtain ⟨nd, np⟩ := np
    obtain ⟨h1, h2, h3, h4⟩ := np p List.mem_cons_self
    have nin : p ∉ ps := (List.nodup_cons.mp nd).1
    rw [adds_cons] at S r t
    have nv : ¬ (W.adds ps).av p := fun z => z.elim h1 nin
    obtain ⟨S2, key⟩ := S.setO (ok.adds ps) hi.1 hb r nv h2 h3
    have c : Cm (avA ((W.adds ps).add p) I.own σ ρ) (avA (W.adds ps) I.own (σ.set i (some (.ref p))) (ρ.set i (some d))) (unl W.L H) (unl W.L H) := ⟨fun b _ n _ z => n (key b z), fun _ _ _ _ h => h, fun _ _ _ h => h⟩
    obtain ⟨S3, key3, lk3⟩ := storeX ok hl so ⟨(List.nodup_cons.mp nd).2, fun q hq => np q (List.mem_cons_of_mem _ hq)⟩ S2 (t.mono c fun _ _ => rfl)
    refine ⟨S3, fun b h => by rw [adds_cons]; exact key b (key3 b h), fun j hj => ?_⟩
    obtain ⟨a1, a2⟩ := lk3 j hj
    have ne : i ≠ j := fun z => hi.2 (z ▸ hj)
    rw [List.getElem?_set_ne ne] at a1 a2
    exact ⟨a1, a2⟩
  | [], _ :: _, _, _, _, _, _, so, _, _, _ => so.elim
  | _ :: _, [], _, _, _, _, _, so, _, _, _ => by cases ‹Bool› <;> exact so.elim
end
def tAX (I : SI) (K : PySem.W.Frag) (fl : List Bool) (m : MA) : TA := fun σ H Q => ∃ W ρ Qd, WOk I W ∧ SR I W K σ H ρ ∧ m ρ Qd ∧
  ∀ vs H' ds ps, Qd ds → Ex W H H' → NewPs W H ps → SR I (W.adds ps) K σ H' ρ → ItemsX K (avA (W.adds ps) I.own σ ρ) (unl W.L H') fl vs ds ps → Q vs H'
def DAX (I : SI) (X : Cx) (fl : List Bool) (es : List Expr) (m : MA) : Prop := PA X es (tAX I X.K fl m)
section
variable {I : SI} {X : Cx} {e : Expr} {es : List Expr} {me : ME} {mr : MA} {fl : List Bool} {pos : Pos}
theorem dax_nil : DAX I X [] [] aNil := pa_imp pa_nil fun σ H Q ⟨W, ρ, Qd, ok, S, hm, f⟩ => f [] H [] [] hm (Ex.refl W H) ⟨List.nodup_nil, fun _ h => nomatch h⟩ (by rw [adds_nil]; exact S) .nil
theorem dax_e (ha : DE I X e me) (hr : DAX I X fl es mr) (hs : starEach (e :: es) X.env = (false, eval e X.env) :: starEach es X.env := by rfl) : DAX I X (false :: fl) (e :: es) (aCons me mr) := by
  refine ⟨fun pos pins s σ H Q Iv ⟨W, ρ, Qd, ok, S, hm, f⟩ => ?_⟩
  rw [hs]
  show wpAny _ _ (spliced ((false, eval e X.env) :: backTo pos (starEach es X.env))) _ _ s
  refine Calls.spliced_cons (ha.run Iv ok S hm fun u s1 x H1 d I1 rx q e1 S1 t1 => ?_)
  refine thn (hr.run pos pins s1 σ H1 (fun vs H2 => Q (x :: vs) H2) I1 ⟨W, ρ, _, ok, S1, q, fun vs H2 ds ps q2 e2 np S2 it => ?_⟩) fun us s2 ⟨vs, H2, I2, rv, q3⟩ => ⟨x :: vs, H2, I2, .cons rx rv, q3⟩
  have npH : NewPs W H ps := ⟨np.1, fun p hp => by
    obtain ⟨h1, h2, h3, h4⟩ := np.2 p hp
    refine ⟨h1, h2, h3, ?_⟩
    cases h : unl W.L H p with
    | none => rfl
    | some u =>
      have := e1 p u h fun z => h1 (ok.bxav p z)
      rw [h4] at this; cases this⟩
  have c : Cm (avA W I.own σ ρ) (avA (W.adds ps) I.own σ ρ) (unl W.L H1) (unl W.L H2) := ⟨fun b u n r z => by
    rcases z with (z | z) | z
    · exact n (.inl z)
    · rw [(np.2 b z).2.2.2] at r; cases r
    · exact n (.inr z), (e2.keep ok).rd, (e2.keep ok).tp⟩
  exact f _ _ _ ps q2 (e1.trans e2) npH S2 (.e (t1.mono c) it)
theorem dax_f (ha : DF I X e me) (hr : DAX I X fl es mr) (hs : starEach (e :: es) X.env = (false, eval e X.env) :: starEach es X.env := by rfl) : DAX I X (true :: fl) (e :: es) (aCons me mr) := by
  refine ⟨fun pos pins s σ H Q Iv ⟨W, ρ, Qd, ok, S, hm, f⟩ => ?_⟩
  rw [hs]
  show wpAny _ _ (spliced ((false, eval e X.env) :: backTo pos (starEach es X.env))) _ _ s
  refine Calls.spliced_cons (thn (PE.run ha pins s σ H (fun v H1 => ∃ p d, v = V.ref p ∧ mr ρ (fun ds => Qd (d :: ds)) ∧ Ex W H H1 ∧ SR I (W.add p) X.K σ H1 ρ ∧ Own X.K (avA (W.add p) I.own σ ρ) (unl W.L H1) p d ∧ ¬ W.av p ∧ W.H0 p = none ∧ W.L.lookup p = none ∧ unl W.L H p = none) Iv
    ⟨W, ρ, _, ok, S, hm, fun p H1 d q e1 S1 ow nv n0 nl nf => ⟨p, d, rfl, q, e1, S1, ow, nv, n0, nl, nf⟩⟩) fun u s1 ⟨x, H1, I1, rx, p, d, ex, q, e1, S1, ow, nv, n0, nl, nf⟩ => ?_)
  subst ex
  have ok1 : WOk I (W.add p) := ok.add p nl
  refine thn (hr.run pos pins s1 σ H1 (fun vs H2 => Q (.ref p :: vs) H2) I1 ⟨W.add p, ρ, _, ok1, S1, q, fun vs H2 ds ps q2 e2 np S2 it => ?_⟩) fun us s2 ⟨vs, H2, I2, rv, q3⟩ => ⟨.ref p :: vs, H2, I2, .cons rx rv, q3⟩
  obtain ⟨o, ho, _⟩ := ow.some
  have e2' : Ex W H1 H2 := e2
  have hpp : p ∉ ps := fun hp => by
    have := (np.2 p hp).2.2.2
    rw [show (W.add p).L = W.L from rfl, ho] at this; cases this
  have npH : NewPs W H (p :: ps) := ⟨List.nodup_cons.mpr ⟨hpp, np.1⟩, fun r hr => by
    rcases List.mem_cons.mp hr with rfl | hr
    · exact ⟨nv, n0, nl, nf⟩
    · obtain ⟨h1, h2, h3, h4⟩ := np.2 r hr
      have h1' : ¬ W.av r := fun z => h1 (.inl z)
      refine ⟨h1', h2, h3, ?_⟩
      cases h : unl W.L H r with
      | none => rfl
      | some u =>
        have := e1 r u h fun z => h1' (ok.bxav r z)
        rw [show (W.add p).L = W.L from rfl, this] at h4; cases h4⟩
  have c : Cm (avA (W.add p) I.own σ ρ) (avA ((W.add p).adds ps) I.own σ ρ) (unl W.L H1) (unl W.L H2) := ⟨fun b u n r z => by
    rcases z with (z | z) | z
    · exact n (.inl z)
    · rw [show unl W.L H1 b = none from (np.2 b z).2.2.2] at r; cases r
    · exact n (.inr z), (e2.keep ok1).rd, (e2.keep ok1).tp⟩
  refine f _ _ _ (p :: ps) q2 (e1.trans e2') npH (by rw [adds_snoc]; exact S2) ?_
  rw [adds_snoc]
  refine .f (ow.mono c ?_) it
  rw [ho]
  exact e2' p o ho fun z => nv (ok.bxav p z)
end
end PyD
namespace PyD
open PySem PySem.Spec L2
open PyProof.Rows hiding St
abbrev MG := D → En → (En → Prop) → Prop
abbrev MGs := List D → En → (En → Prop) → Prop
/-- a target that stores into the slots ts alone -/
def tG (I : SI) (K : PySem.W.Frag) (ts : List Nat) (g : MG) : TG := fun v σ H Q => ∃ W ρ d Qe, WOk I W ∧ SR I W K σ H ρ ∧ (∀ i ∈ I.lk, i ∈ I.own) ∧ Rep K (avA W I.own σ ρ) (unl W.L H) v d ∧ g d ρ Qe ∧
  ∀ σ' H' ρ', Qe ρ' → SR I W K σ' H' ρ' → Kp I W σ ρ H σ' ρ' H' → (∀ b, avA W I.own σ' ρ' b ↔ avA W I.own σ ρ b) → (∀ j, j ∉ ts → σ'[j]? = σ[j]? ∧ ρ'[j]? = ρ[j]?) → (H' = H ∧ σ'.length = σ.length) → Q σ' H'
def DG (I : SI) (X : Cx) (tg : Expr) (ts : List Nat) (g : MG) : Prop := PG X tg (tG I X.K ts g)
def tGs (I : SI) (K : PySem.W.Frag) (ts : List Nat) (g : MGs) : TGs := fun vs σ H Q => ∃ W ρ ds Qe, WOk I W ∧ SR I W K σ H ρ ∧ (∀ i ∈ I.lk, i ∈ I.own) ∧ RepA K (avA W I.own σ ρ) (unl W.L H) vs ds ∧ g ds ρ Qe ∧
  ∀ σ' H' ρ', Qe ρ' → SR I W K σ' H' ρ' → Kp I W σ ρ H σ' ρ' H' → (∀ b, avA W I.own σ' ρ' b ↔ avA W I.own σ ρ b) → (∀ j, j ∉ ts → σ'[j]? = σ[j]? ∧ ρ'[j]? = ρ[j]?) → (H' = H ∧ σ'.length = σ.length) → Q σ' H'
def DGs (I : SI) (X : Cx) (tg : List Expr) (ts : List Nat) (g : MGs) : Prop := PGs X tg (tGs I X.K ts g)
theorem pg_imp {X : Cx} {e : Expr} {t t' : TG} (h : PG X e t) (k : ∀ v σ H Q, t' v σ H Q → t v σ H Q) : PG X e t' := ⟨fun pins s σ H v u Q I r q => h.run pins s σ H v u Q I r (k _ _ _ _ q)⟩
theorem pgs_imp {X : Cx} {e : List Expr} {t t' : TGs} (h : PGs X e t) (k : ∀ v σ H Q, t' v σ H Q → t v σ H Q) : PGs X e t' := ⟨fun pins s σ H v u Q I r q => h.run pins s σ H v u Q I r (k _ _ _ _ q)⟩
section
variable {I : SI} {X : Cx} {pos : Pos}
def gN (i : Nat) : MG := fun d ρ Q => Q (ρ.set i (some d))
theorem dg_name (i : Nat) {x : Str} (ho : i ∉ I.own) (hb : I.bs ≠ some i) (hN : X.N.Nodup) (hi : X.N[i]? = some x) (hx : Loc X.env.scope x) (hf : X.fn x = true ∨ X.env.scope.names.lookup x = some .local := by first | exact .inl rfl | exact .inr rfl | assumption) : DG I X (.Name x pos) [i] (gN i) :=
  pg_imp (pg_name hN hi hx hf) fun v σ H Q ⟨W, ρ, d, Qe, ok, S, hl, r, hg, k⟩ => by
    obtain ⟨S2, key⟩ := S.setV ho hb r
    refine k _ _ _ hg S2 (Kp.setV S hl ho key) key (fun j hj => ?_) ⟨rfl, List.length_set⟩
    have ne : i ≠ j := fun z => hj (by simp [z])
    exact ⟨List.getElem?_set_ne ne, List.getElem?_set_ne ne⟩
def gsNil : MGs := fun ds ρ Q => match ds with
  | [] => Q ρ
  | _ => False
def gsCons (g : MG) (r : MGs) : MGs := fun ds ρ Q => match ds with
  | d :: ds => g d ρ fun ρ' => r ds ρ' Q
  | _ => False
theorem dgs_nil : DGs I X [] [] gsNil :=
  pgs_imp pgs_nil fun vs σ H Q ⟨W, ρ, ds, Qe, ok, S, hl, r, hg, k⟩ => by
    cases r with
    | nil => exact ⟨rfl, k _ _ _ hg S Kp.refl (fun _ => Iff.rfl) (fun _ _ => ⟨rfl, rfl⟩) ⟨rfl, rfl⟩⟩
    | cons => exact hg.elim
theorem dgs_cons {e : Expr} {es : List Expr} {ts us : List Nat} {g : MG} {gr : MGs} (h1 : DG I X e ts g) (h2 : DGs I X es us gr) (hs : (assignEach (e :: es) X.env).map (·.2) = assign e X.env :: (assignEach es X.env).map (·.2) := by rfl) : DGs I X (e :: es) (ts ++ us) (gsCons g gr) :=
  pgs_imp (pgs_cons h1 h2 hs) fun vs σ H Q ⟨W, ρ, ds, Qe, ok, S, hl, r, hg, k⟩ => by
    cases r with
    | nil => exact hg.elim
    | cons a t =>
      refine ⟨_, _, rfl, W, ρ, _, _, ok, S, hl, a, hg, fun σ1 H1 ρ1 q1 S1 k1 key1 o1 ⟨e1, n1⟩ => ?_⟩
      subst e1
      refine ⟨W, ρ1, _, _, ok, S1, hl, t.mono k1.cm, q1, fun σ2 H2 ρ2 q2 S2 k2 key2 o2 ⟨e2, n2⟩ => ?_⟩
      subst e2
      refine k _ _ _ q2 S2 (k1.trans k2) (fun b => (key2 b).trans (key1 b)) (fun j hj => ?_) ⟨rfl, n2.trans n1⟩
      obtain ⟨a1, a2⟩ := o1 j fun z => hj (List.mem_append_left _ z)
      obtain ⟨b1, b2⟩ := o2 j fun z => hj (List.mem_append_right _ z)
      exact ⟨b1.trans a1, b2.trans a2⟩
def gT (g : MGs) : MG := fun d ρ Q => match d with
  | .tuple ds => g ds ρ Q
  | _ => False
theorem dg_tup {es : List Expr} {k : Nat} {ts : List Nat} {g : MGs} {n : Nat} (hc : X.calm = true) (h : DGs I X es ts g) (hlen : ∀ ds ρ Q, g ds ρ Q → ds.length = n := by intro ds ρ Q h; rcases ds with _ | ⟨a, _ | ⟨b, _ | ⟨c, _ | ⟨d, _ | ⟨e, ds⟩⟩⟩⟩⟩ <;> first | rfl | exact h.elim)
    (hn : (assignEach es X.env).length = n := by rfl) (hst : (assignEach es X.env).findIdx? (·.1) = none := by rfl) : DG I X (.Tuple es k pos) ts (gT g) :=
  pg_imp (pg_tup hc h hn hst) fun v σ H Q ⟨W, ρ, d, Qe, ok, S, hl, r, hg, k⟩ => by
    cases d <;> try (exact False.elim hg)
    rename_i ds
    obtain ⟨a, xs, rfl, ra, za, rr⟩ := (Top.rep (bx := W.bx) r).tuple
    exact ⟨a, xs, rfl, S.sqT ra, by rw [rr.len]; exact hlen ds ρ Qe hg, W, ρ, ds, Qe, ok, S, hl, rr, hg, k⟩
end
section
variable {I : SI} {X : Cx} {e : Expr} {es : List Expr} {me : ME} {mr : MA} {fl : List Bool} {pos : Pos}
def sAsg (m : ME) (g : MG) : MS := fun M ρ => m ρ fun d => g d ρ M.nx
/-- a, b = e -/
theorem ds_asg {tg : Expr} {ts : List Nat} {g : MG} (he : DE I X e me) (hg : DG I X tg ts g) (hs : swapsWithSole [tg] e pos.line X.env = pure false := by rfl) (hw : swappedStores [tg] e X.env = pure none := by rfl)
    (h1 : (assignEach [tg] X.env).map (·.2) = [assign tg X.env] := by rfl) : DS I X (.Assign [tg] e pos) (sAsg me g) :=
  ps_imp (ps_asg he hg hs hw h1) fun D σ H ⟨W, ρ, M, ok, S, hl, hm, E⟩ => ⟨W, ρ, _, ok, S, hm, fun v H' d q e1 S1 r =>
    ⟨W, ρ, d, M.nx, ok, S1, hl, r, q, fun σ' H2 ρ' q2 S2 k2 _ _ _ => E.nx _ _ _ q2 S2 ((e1.kp ok S hl).trans k2)⟩⟩
def sPar (is : List Nat) (m : MA) : MS := fun M ρ => m ρ fun ds => ds.length = is.length ∧ M.nx (setAll ρ is ds)
theorem Kp.storeX {W : DW} {K : PySem.W.Frag} {σ : St} {ρ : En} {H H1 : Hp} {ps : List Addr} {is : List Nat} {vs : List V} {ds : List PyD.D} (ok : WOk I W) (hl : ∀ i ∈ I.lk, i ∈ I.own) (S0 : SR I W K σ H ρ) (e : Ex W H H1) (np : NewPs W H ps)
    (key : ∀ b, avA W I.own (setAll σ is vs) (setAll ρ is ds) b → avA (W.adds ps) I.own σ ρ b) (lk : ∀ i ∈ I.lk, (setAll ρ is ds)[i]? = ρ[i]? ∧ (setAll σ is vs)[i]? = σ[i]?) : Kp I W σ ρ H (setAll σ is vs) (setAll ρ is ds) H1 where
  st := fun b o n h => by
    refine ⟨fun z => ?_, e b o h fun z => n (.inl (ok.bxav b z))⟩
    rcases key b z with (z | z) | z
    · exact n (.inl z)
    · rw [(np.2 b z).2.2.2] at h; cases h
    · exact n (.inr z)
  lk := fun j hj => ⟨(lk j hj).1, (lk j hj).2, ((e.kp ok S0 hl).lk j hj).2.2⟩
/-- a, b = e1, e2 with plain local names -/
theorem ds_par2 (i j : Nat) {x y : Str} {a b : Expr} {px py pt : Pos} {kt k2 pt2} (hso : SlotsOk I [i, j] fl) (hc : X.calm = true) (hN : X.N.Nodup) (hi : X.N[i]? = some x) (hj : X.N[j]? = some y) (hij : i ≠ j)
    (hx : X.env.scope.names.lookup x = some .local) (hy : X.env.scope.names.lookup y = some .local) (ha : DAX I X fl [a, b] mr)
    (hw : swappedStores [.Tuple [.Name x px, .Name y py] kt pt] (.Tuple [a, b] k2 pt2) X.env = pure (some [x, y]))
    (hs : swapsWithSole [.Tuple [.Name x px, .Name y py] kt pt] (.Tuple [a, b] k2 pt2) pos.line X.env = pure false := by rfl) : DS I X (.Assign [.Tuple [.Name x px, .Name y py] kt pt] (.Tuple [a, b] k2 pt2) pos) (sPar [i, j] mr) :=
  ps_imp (ps_par hc hN hi hj hij hx hy ha hw hs) fun D σ H ⟨W, ρ, M, ok, S, hl, hm, E⟩ => ⟨W, ρ, _, ok, S, hm, fun vs H' ds ps q e1 np S1 it => by
    obtain ⟨S2, key, lk⟩ := storeX ok hl hso np S1 it
    have hvl := it.len
    have hfl : fl.length = 2 := by
      rcases fl with _ | ⟨f, _ | ⟨g, _ | ⟨h, fl⟩⟩⟩
      · exact hso.elim
      · exact hso.2.elim
      · rfl
      · exact hso.2.2.elim
    rw [hfl] at hvl
    obtain ⟨v, w, rfl⟩ : ∃ v w, vs = [v, w] := by
      rcases vs with _ | ⟨v, _ | ⟨w, _ | ⟨_, _⟩⟩⟩ <;> first | exact ⟨_, _, rfl⟩ | (simp at hvl)
    exact ⟨v, w, rfl, E.nx _ _ _ q.2 S2 (Kp.storeX ok hl S e1 np key lk)⟩⟩
/-- names stored one by one off a new tuple -/
def gNames : List Nat → TGs
  | [] => gNil
  | i :: is => gCons (gName i) (gNames is)
theorem gNames_all : ∀ (is : List Nat) (vs : List V) (σ : St) (H : Hp) (Q : St → Hp → Prop), vs.length = is.length → Q (setAll σ is vs) H → gNames is vs σ H Q
  | [], [], σ, H, Q, _, h => ⟨rfl, h⟩
  | i :: is, v :: vs, σ, H, Q, hl, h => ⟨v, vs, rfl, gNames_all is vs _ H Q (by simpa using hl) h⟩
  | [], _ :: _, _, _, _, hl, _ => by simp at hl
  | _ :: _, [], _, _, _, hl, _ => by simp at hl
theorem SlotsOk.len {I : SI} : ∀ {is : List Nat} {fl : List Bool}, SlotsOk I is fl → fl.length = is.length
  | [], [], _ => rfl
  | _ :: _, _ :: _, h => by rw [List.length_cons, List.length_cons, SlotsOk.len h.2]
  | [], _ :: _, h => h.elim
  | _ :: _, [], h => h.elim
theorem ItemsX.lenD {K : PySem.W.Frag} {av : Addr → Prop} {H : Hp} : ∀ {fl : List Bool} {vs : List V} {ds : List PyD.D} {ps : List Addr}, ItemsX K av H fl vs ds ps → ds.length = fl.length
  | _, _, _, _, .nil => rfl
  | _, _, _, _, .e r t => by rw [List.length_cons, List.length_cons, ItemsX.lenD t]
  | _, _, _, _, .f r t => by rw [List.length_cons, List.length_cons, ItemsX.lenD t]
/-- .. by way of a tuple (names that are cells, or more than three) -/
theorem ds_parT (is : List Nat) {tgs : List Expr} {k1 k2 : Nat} {p1 p2 : Pos} (hso : SlotsOk I is fl) (hlong : is.length ≤ 100) (hc : X.calm = true) (ha : DAX I X fl es mr) (hg : PGs X tgs (gNames is))
    (hn : (assignEach tgs X.env).length = is.length := by rfl) (hst : (assignEach tgs X.env).findIdx? (·.1) = none := by rfl)
    (hs : swapsWithSole [.Tuple tgs k1 p1] (.Tuple es k2 p2) pos.line X.env = pure false := by rfl) (hw : swappedStores [.Tuple tgs k1 p1] (.Tuple es k2 p2) X.env = pure none := by rfl)
    (h1 : (assignEach [.Tuple tgs k1 p1] X.env).map (·.2) = [assign (.Tuple tgs k1 p1) X.env] := by rfl) : DS I X (.Assign [.Tuple tgs k1 p1] (.Tuple es k2 p2) pos) (sPar is mr) :=
  ps_imp (ps_asg (pe_tup ha) (pg_tup hc hg hn hst) hs hw h1) fun D σ H ⟨W, ρ, M, ok, S, hl, hm, E⟩ => ⟨W, ρ, _, ok, S, hm, fun vs H' ds ps q e1 np S1 it => by
    have hvl : vs.length = is.length := it.len.trans hso.len
    refine ⟨by rw [hvl]; exact Nat.le_trans hlong (by decide), fun p hp => ?_⟩
    have ok1 : WOk I (W.adds ps) := ok.adds ps
    have e2 : Ex (W.adds ps) H' (upd H' p (.tup vs)) := Ex.new S1.lkd hp
    have S2 : SR I (W.adds ps) X.K σ (upd H' p (.tup vs)) ρ := S1.new ok1 hp
    have it2 := it.mono (e2.keep ok1) (fun r hr => by
      rw [unl_upd (L := (W.adds ps).L) (S1.lkd.free hp), upd_ne]
      rintro rfl
      have := S1.fresh hp
      exact this (.inl (.inr hr)))
    obtain ⟨S3, key, lk⟩ := storeX ok hl hso np S2 it2
    exact ⟨p, vs, rfl, .inl (.inl upd_same), hvl, gNames_all is vs σ _ _ hvl (E.nx _ _ _ q.2 S3 (Kp.storeX ok hl S (e1.trans e2) np key lk))⟩⟩
end
section
variable {I : SI} {W : DW} {K : PySem.W.Frag} {σ : St} {ρ : En} {H : Hp}
theorem setSame {σ : St} {i : Nat} {a : V} (h : σ[i]? = some (some a)) : σ.set i (some a) = σ := by
  apply List.ext_getElem?
  intro j
  by_cases e : i = j
  · subst e
    rw [List.getElem?_set_self (List.getElem?_eq_some_iff.mp h).1, h]
  · rw [List.getElem?_set_ne e]
/-- the object of an own name is written -/
theorem SR.wr (ok : WOk I W) (S : SR I W K σ H ρ) (hl : ∀ i ∈ I.lk, i ∈ I.own) {i : Nat} {d d' : D} {a : Addr} {o : HO} (hi : i ∈ I.own) (hk : i ∉ I.lk) (hd : ρ[i]? = some (some d)) (ha : σ[i]? = some (some (.ref a)))
    (new : Cm (avA W I.own σ ρ) (avA W I.own σ ρ) (unl W.L H) (unl W.L (upd H a o)) → Own K (avA W I.own σ ρ) (unl W.L (upd H a o)) a d') :
    SR I W K σ (upd H a o) (ρ.set i (some d')) ∧ Kp I W σ ρ H σ (ρ.set i (some d')) (upd H a o) := by
  obtain ⟨a', h1, ow, nv, n0, nl⟩ := S.own i d hd hi
  rw [ha] at h1; cases h1
  have nl := nl hk
  have hU : unl W.L (upd H a o) = upd (unl W.L H) a o := unl_upd nl
  have hil : i < ρ.length := (List.getElem?_eq_some_iff.mp hd).1
  have key : ∀ b, avA W I.own σ (ρ.set i (some d')) b ↔ avA W I.own σ ρ b := fun b => by
    constructor
    · rintro (z | ⟨j, hj, ⟨e, he⟩, hs⟩)
      · exact .inl z
      · rcases getSet he with ⟨rfl, _⟩ | ⟨_, he⟩
        · exact .inr ⟨_, hj, ⟨d, hd⟩, hs⟩
        · exact .inr ⟨j, hj, ⟨e, he⟩, hs⟩
    · rintro (z | ⟨j, hj, ⟨e, he⟩, hs⟩)
      · exact .inl z
      · by_cases q : i = j
        · subst q; exact .inr ⟨i, hj, ⟨d', List.getElem?_set_self hil⟩, hs⟩
        · exact .inr ⟨j, hj, ⟨e, by rw [List.getElem?_set_ne q]; exact he⟩, hs⟩
  have isAv : avA W I.own σ ρ a := .inr ⟨i, hi, ⟨d, hd⟩, ha⟩
  have ne : ∀ b, ¬ avA W I.own σ ρ b → b ≠ a := fun b n z => n (z ▸ isAv)
  have c : Cm (avA W I.own σ ρ) (avA W I.own σ ρ) (unl W.L H) (unl W.L (upd H a o)) := ⟨fun _ _ n _ => n, fun b u _ n r => by rw [hU]; exact rd_up r fun q hq => by rw [upd_ne (ne b n)]; exact hq, fun b xs n r => by rw [hU, upd_ne (ne b n)]; exact r⟩
  have ck : Cm (avA W I.own σ ρ) (avA W I.own σ (ρ.set i (some d'))) (unl W.L H) (unl W.L (upd H a o)) := ⟨fun b _ n _ z => n ((key b).mp z), c.rd, c.tp⟩
  have ck2 : Cm (avA W I.own σ ρ) (avA W I.own σ (ρ.set i (some d'))) (unl W.L (upd H a o)) (unl W.L (upd H a o)) := ⟨fun b _ n _ z => n ((key b).mp z), fun _ _ _ _ h => h, fun _ _ _ h => h⟩
  refine ⟨⟨by rw [List.length_set]; exact S.len, fun b u e => ?_, fun j e he hj => ?_, fun j e he hj => ?_, fun j k b hj hk' hdj hdk hsj hsk => ?_, fun b u e n => ?_, fun b hb => ?_, fun p hp => ?_, S.bsl⟩, ⟨fun b u n h => ⟨fun z => n ((key b).mp z), ?_⟩, fun j hj => ?_⟩⟩
  · obtain ⟨m, q⟩ := S.lkd b u e
    refine ⟨m, ?_⟩
    rw [upd_ne, q]
    rintro rfl
    rw [nl] at e; cases e
  · have q : i ≠ j := fun z => hj (z ▸ hi)
    rw [List.getElem?_set_ne q] at he
    obtain ⟨v, hv, r⟩ := S.val j e he hj
    exact ⟨v, hv, r.mono ck⟩
  · rcases getSet he with ⟨rfl, q⟩ | ⟨q, he⟩
    · cases q
      exact ⟨a, ha, (new c).mono ck2 rfl, nv, n0, fun _ => nl⟩
    · obtain ⟨b, hb, ow', h2, h3, h4⟩ := S.own j e he hj
      have nba : b ≠ a := fun z => q (S.inj i j a hi hj ⟨d, hd⟩ ⟨e, he⟩ ha (z ▸ hb))
      exact ⟨b, hb, ow'.mono ck (by rw [hU, upd_ne nba]), h2, h3, h4⟩
  · have lv : ∀ m : Nat, (∃ e, (ρ.set i (some d'))[m]? = some (some e)) → ∃ e, ρ[m]? = some (some e) := fun m ⟨e, he⟩ => by
      rcases getSet he with ⟨rfl, _⟩ | ⟨_, he⟩
      · exact ⟨d, hd⟩
      · exact ⟨e, he⟩
    exact S.inj j k b hj hk' (lv j hdj) (lv k hdk) hsj hsk
  · have q : b ≠ a := fun z => by rw [z, n0] at e; cases e
    rw [hU, upd_ne q]; exact S.fr b u e n
  · have q : b ≠ a := fun z => nv (z ▸ hb)
    rw [hU, upd_ne q]; exact S.avt b hb
  · have q : ∀ b, W.bx b → b ≠ a := fun b hb z => nv (z ▸ ok.bxav b hb)
    refine ok.bkst _ _ _ _ ?_ ?_ (S.box p hp)
    · rw [hU, upd_ne (q _ ⟨p, hp, .inl rfl⟩)]
    · rw [hU, upd_ne (q _ ⟨p, hp, .inr rfl⟩)]
  · rw [hU, upd_ne (ne b n)]; exact h
  · have q : i ≠ j := fun z => hk (z ▸ hj)
    rw [List.getElem?_set_ne q]
    refine ⟨rfl, rfl, fun ⟨e, he⟩ b hb => ?_⟩
    rw [hU, upd_ne]
    rintro rfl
    exact q (S.inj i j b hi (hl j hj) ⟨d, hd⟩ ⟨e, he⟩ ha hb)
end
end PyD
namespace PyD
open PySem PySem.Spec L2
open PyProof.Rows hiding St
abbrev MM := En → (En → D → Prop) → Prop
def tM (I : SI) (K : PySem.W.Frag) (m : MM) : TE := fun σ H Q => ∃ W ρ Qd, WOk I W ∧ SR I W K σ H ρ ∧ (∀ i ∈ I.lk, i ∈ I.own) ∧ m ρ Qd ∧
  ∀ v H' ρ' d, Qd ρ' d → SR I W K σ H' ρ' → Kp I W σ ρ H σ ρ' H' → Rep K (avA W I.own σ ρ') (unl W.L H') v d → Q v H'
def DM (I : SI) (X : Cx) (e : Expr) (m : MM) : Prop := PE X e (tM I X.K m)
section
variable {I : SI} {X : Cx} {e : Expr} {m : MM} {pos : Pos}
def sExprM (m : MM) : MS := fun M ρ => m ρ fun ρ' _ => M.nx ρ'
theorem ds_exprM (he : DM I X e m) (hs : swapsWith e none pos.line X.env = pure false := by rfl) : DS I X (.Expr e pos) (sExprM m) :=
  ps_imp (ps_expr he hs) fun D σ H ⟨W, ρ, M, ok, S, hl, hm, E⟩ => ⟨W, ρ, _, ok, S, hl, hm, fun v H' ρ' d q S1 k _ => E.nx σ H' ρ' q S1 k⟩
def sSetM (i : Nat) (m : MM) : MS := fun M ρ => m ρ fun ρ' d => M.nx (ρ'.set i (some d))
theorem ds_setM (i : Nat) {x : Str} {pos' : Pos} (ho : i ∉ I.own) (hb : I.bs ≠ some i) (hN : X.N.Nodup) (hi : X.N[i]? = some x) (hx : Loc X.env.scope x) (he : DM I X e m) (hs : swapsWith e (some (.Name x pos')) pos.line X.env = pure false := by rfl)
    (hf : X.fn x = true ∨ X.env.scope.names.lookup x = some .local := by first | exact .inl rfl | exact .inr rfl | assumption) : DS I X (.Assign [.Name x pos'] e pos) (sSetM i m) :=
  ps_imp (ps_set hN hi hx he hs hf) fun D σ H ⟨W, ρ, M, ok, S, hl, hm, E⟩ => ⟨W, ρ, _, ok, S, hl, hm, fun v H' ρ' d q S1 k r => by
    obtain ⟨S2, key⟩ := S1.setV ho hb r
    exact E.nx _ _ _ q S2 (k.trans (Kp.setV S1 hl ho key))⟩
def sRetM (m : MM) : MS := fun M ρ => m ρ fun _ d => M.rt d
theorem ds_retM (he : DM I X e m) : DS I X (.Return (some e) pos) (sRetM m) :=
  ps_imp (ps_ret he) fun D σ H ⟨W, ρ, M, ok, S, hl, hm, E⟩ => ⟨W, ρ, _, ok, S, hl, hm, fun v H' ρ' d q S1 k r => E.rt v H' d q (S1.ret ok r)⟩
end
def tGw (I : SI) (K : PySem.W.Frag) (g : MG) : TG := fun v σ H Q => ∃ W ρ d Qe, WOk I W ∧ SR I W K σ H ρ ∧ (∀ i ∈ I.lk, i ∈ I.own) ∧ Rep K (avA W I.own σ ρ) (unl W.L H) v d ∧ g d ρ Qe ∧
  ∀ σ' H' ρ', Qe ρ' → SR I W K σ' H' ρ' → Kp I W σ ρ H σ' ρ' H' → Q σ' H'
def DGw (I : SI) (X : Cx) (tg : Expr) (g : MG) : Prop := PG X tg (tGw I X.K g)
def tGsw (I : SI) (K : PySem.W.Frag) (g : MGs) : TGs := fun vs σ H Q => ∃ W ρ ds Qe, WOk I W ∧ SR I W K σ H ρ ∧ (∀ i ∈ I.lk, i ∈ I.own) ∧ RepA K (avA W I.own σ ρ) (unl W.L H) vs ds ∧ g ds ρ Qe ∧
  ∀ σ' H' ρ', Qe ρ' → SR I W K σ' H' ρ' → Kp I W σ ρ H σ' ρ' H' → Q σ' H'
def DGsw (I : SI) (X : Cx) (tg : List Expr) (g : MGs) : Prop := PGs X tg (tGsw I X.K g)
section
variable {I : SI} {X : Cx} {pos : Pos} {e : Expr} {m : MM} {me : ME}
theorem dgw {tg : Expr} {ts : List Nat} {g : MG} (h : DG I X tg ts g) : DGw I X tg g :=
  pg_imp h fun v σ H Q ⟨W, ρ, d, Qe, ok, S, hl, r, hg, k⟩ => ⟨W, ρ, d, Qe, ok, S, hl, r, hg, fun σ' H' ρ' q S' kp _ _ _ => k σ' H' ρ' q S' kp⟩
theorem dgsw_nil : DGsw I X [] gsNil :=
  pgs_imp pgs_nil fun vs σ H Q ⟨W, ρ, ds, Qe, ok, S, hl, r, hg, k⟩ => by
    cases r with
    | nil => exact ⟨rfl, k _ _ _ hg S Kp.refl⟩
    | cons => exact hg.elim
theorem dgsw_cons {e : Expr} {es : List Expr} {g : MG} {gr : MGs} (h1 : DGw I X e g) (h2 : DGsw I X es gr) (hs : (assignEach (e :: es) X.env).map (·.2) = assign e X.env :: (assignEach es X.env).map (·.2) := by rfl) : DGsw I X (e :: es) (gsCons g gr) :=
  pgs_imp (pgs_cons h1 h2 hs) fun vs σ H Q ⟨W, ρ, ds, Qe, ok, S, hl, r, hg, k⟩ => by
    cases r with
    | nil => exact hg.elim
    | cons a t =>
      refine ⟨_, _, rfl, W, ρ, _, _, ok, S, hl, a, hg, fun σ1 H1 ρ1 q1 S1 k1 => ?_⟩
      exact ⟨W, ρ1, _, _, ok, S1, hl, t.mono k1.cm, q1, fun σ2 H2 ρ2 q2 S2 k2 => k _ _ _ q2 S2 (k1.trans k2)⟩
theorem dgw_tup {es : List Expr} {k : Nat} {g : MGs} {n : Nat} (hc : X.calm = true) (h : DGsw I X es g) (hlen : ∀ ds ρ Q, g ds ρ Q → ds.length = n := by intro ds ρ Q h; rcases ds with _ | ⟨a, _ | ⟨b, _ | ⟨c, _ | ⟨d, _ | ⟨e, ds⟩⟩⟩⟩⟩ <;> first | rfl | exact h.elim)
    (hn : (assignEach es X.env).length = n := by rfl) (hst : (assignEach es X.env).findIdx? (·.1) = none := by rfl) : DGw I X (.Tuple es k pos) (gT g) :=
  pg_imp (pg_tup hc h hn hst) fun v σ H Q ⟨W, ρ, d, Qe, ok, S, hl, r, hg, k⟩ => by
    cases d <;> try (exact False.elim hg)
    rename_i ds
    obtain ⟨a, xs, rfl, ra, za, rr⟩ := (Top.rep (bx := W.bx) r).tuple
    exact ⟨a, xs, rfl, S.sqT ra, by rw [rr.len]; exact hlen ds ρ Qe hg, W, ρ, ds, Qe, ok, S, hl, rr, hg, k⟩
theorem ds_asgw {tg : Expr} {g : MG} (he : DE I X e me) (hg : DGw I X tg g) (hs : swapsWithSole [tg] e pos.line X.env = pure false := by rfl) (hw : swappedStores [tg] e X.env = pure none := by rfl)
    (h1 : (assignEach [tg] X.env).map (·.2) = [assign tg X.env] := by rfl) : DS I X (.Assign [tg] e pos) (sAsg me g) :=
  ps_imp (ps_asg he hg hs hw h1) fun D σ H ⟨W, ρ, M, ok, S, hl, hm, E⟩ => ⟨W, ρ, _, ok, S, hm, fun v H' d q e1 S1 r =>
    ⟨W, ρ, d, M.nx, ok, S1, hl, r, q, fun σ' H2 ρ' q2 S2 k2 => E.nx _ _ _ q2 S2 ((e1.kp ok S hl).trans k2)⟩⟩
def sAsgM (m : MM) (g : MG) : MS := fun M ρ => m ρ fun ρ' d => g d ρ' M.nx
theorem ds_asgM {tg : Expr} {g : MG} (he : DM I X e m) (hg : DGw I X tg g) (hs : swapsWithSole [tg] e pos.line X.env = pure false := by rfl) (hw : swappedStores [tg] e X.env = pure none := by rfl)
    (h1 : (assignEach [tg] X.env).map (·.2) = [assign tg X.env] := by rfl) : DS I X (.Assign [tg] e pos) (sAsgM m g) :=
  ps_imp (ps_asg he hg hs hw h1) fun D σ H ⟨W, ρ, M, ok, S, hl, hm, E⟩ => ⟨W, ρ, _, ok, S, hl, hm, fun v H' ρ1 d q S1 k1 r =>
    ⟨W, ρ1, d, M.nx, ok, S1, hl, r, q, fun σ' H2 ρ' q2 S2 k2 => E.nx _ _ _ q2 S2 (k1.trans k2)⟩⟩
end
def StR (K : PySem.W.Frag) (t : TSet) (φ : D → D → D → (D → Prop) → Prop) : Prop :=
  ∀ {I : SI} {W : DW} {σ : St} {H : Hp} {ρ : En} {a : Addr} {d k w : D} {i v : V} {Qd : D → Prop} {Q : Hp → Prop}, SR I W K σ H ρ → W.L.lookup a = none → Own K (avA W I.own σ ρ) (unl W.L H) a d →
    Rep K (avA W I.own σ ρ) (unl W.L H) i k → Rep K (avA W I.own σ ρ) (unl W.L H) v w → φ d k w Qd →
    (∀ o d', Qd d' → (∀ H', Cm (avA W I.own σ ρ) (avA W I.own σ ρ) (unl W.L H) H' → H' a = some o → Own K (avA W I.own σ ρ) H' a d') → Q (upd H a o)) → t (.ref a) i v H Q
def pSetL : D → D → D → (D → Prop) → Prop
  | .list ds, .int i, w, Q => ∃ j, ixN ds.length i = some j ∧ Q (.list (ds.set j w))
  | _, _, _, _ => False
def pSetK : D → D → D → (D → Prop) → Prop
  | .dict ((.none, .none) :: es), k, w, Q => isKeyK k = true ∧ es.length < sizeLine ∧ Q (dK (dput es k w))
  | _, _, _, _ => False
def pSetT : D → D → D → (D → Prop) → Prop
  | .dict ((.none, .bool true) :: es), k, w, Q => isKeyT k = true ∧ es.length < sizeLine ∧ Q (dT (dput es k w))
  | _, _, _, _ => False
theorem Own.listOf {K : PySem.W.Frag} {av : Addr → Prop} {H : Hp} {a : Addr} {ds : List D} (h : Own K av H a (.list ds)) : ∃ xs, H a = Option.some (.lst xs) ∧ xs.length ≤ sizeLine ∧ RepA K av H xs ds := by
  cases h with | lst r z q => exact ⟨_, r, z, q⟩
theorem Own.dictK {K : PySem.W.Frag} {av : Addr → Prop} {H : Hp} {a : Addr} {es : List (D × D)} (h : Own K av H a (dK es)) : ∃ kvs, H a = Option.some (.dK kvs) ∧ RepK K av H kvs es := by
  cases h with | dcK r q => exact ⟨_, r, q⟩
theorem Own.dictT {K : PySem.W.Frag} {av : Addr → Prop} {H : Hp} {a : Addr} {es : List (D × D)} (h : Own K av H a (dT es)) : ∃ kvs, H a = Option.some (.dT kvs) ∧ RepT K av H kvs es := by
  cases h with | dcT r q => exact ⟨_, r, q⟩
theorem st_list {K : PySem.W.Frag} : StR K rSetL pSetL := by
  intro I W σ H ρ a d k w i v Qd Q S nl ow ri rv hp fin
  unfold pSetL at hp
  split at hp
  · obtain ⟨j, hj, hq⟩ := hp
    obtain ⟨xs, hx, z, r⟩ := ow.listOf
    rw [unl_none nl] at hx
    cases ri
    refine ⟨a, xs, _, j, rfl, rfl, hx, ?_, fin _ _ hq fun H' c e => .lst e (by rw [List.length_set]; exact z) (RepA.set (rv.mono c) j (r.mono c))⟩
    rw [r.len]; exact hj
  · exact hp.elim
theorem st_dictK {K : PySem.W.Frag} : StR K rSetD pSetK := by
  intro I W σ H ρ a d k w i v Qd Q S nl ow ri rv hp fin
  unfold pSetK at hp
  split at hp
  · obtain ⟨hk, hz, hq⟩ := hp
    obtain ⟨k', rfl⟩ := isKeyK_of hk
    obtain ⟨kvs, hx, r⟩ := ow.dictK
    rw [unl_none nl] at hx
    rw [ri.key]
    exact ⟨a, _, rfl, DPut.k hx (by rw [r.len]; exact hz), fin _ _ hq fun H' c e => .dcK e (RepK.put (rv.mono c) (r.mono c))⟩
  · exact hp.elim
theorem st_dictT {K : PySem.W.Frag} : StR K rSetD pSetT := by
  intro I W σ H ρ a d k w i v Qd Q S nl ow ri rv hp fin
  unfold pSetT at hp
  split at hp
  · obtain ⟨hk, hz, hq⟩ := hp
    obtain ⟨ks, rfl⟩ := isKeyT_of hk
    obtain ⟨kvs, hx, r⟩ := ow.dictT
    rw [unl_none nl] at hx
    cases ri with
    | tup n rt zt q =>
      rw [q.keys] at rt
      exact ⟨a, _, rfl, DPut.t hx (S.lkd.tp rt) (by rw [r.len]; exact hz), fin _ _ hq fun H' c e => .dcT e (RepT.put (rv.mono c) (r.mono c))⟩
  · exact hp.elim
def gSt (i : Nat) (φ : D → D → D → (D → Prop) → Prop) (mi : ME) : MG := fun w ρ Q => match ρ[i]? with
  | some (some d) => mi ρ fun k => φ d k w fun d' => Q (ρ.set i (some d'))
  | _ => False
section
variable {I : SI} {X : Cx} {pos pos2 pos3 apos : Pos} {x : Str} {mi me : ME}
theorem dgw_sub (i : Nat) {ie : Expr} {t : TSet} {φ : D → D → D → (D → Prop) → Prop} (ht : PSet X t) (hr : StR X.K t φ) (ho : i ∈ I.own) (hk : i ∉ I.lk) (hN : X.N[i]? = some x) (hv : Vis X.env.scope x) (he : DE I X ie mi)
    (hd : (x == ("__debug__" : Str)) = false := by decide) (hcd : (x == ("__classdict__" : Str)) = false := by decide)
    (ha : ∀ v, assign (.Subscript (.Name x pos2) ie pos) X.env v = (do
      let ov ← holding [v] (eval (.Name x pos2) X.env)
      let iv ← holding [v, ov] (eval ie X.env)
      standAt pos
      holding [v, ov, iv] (setItem ov iv v)
      release [v, ov, iv] []) := by intro _; rfl) : DGw I X (.Subscript (.Name x pos2) ie pos) (gSt i φ mi) :=
  pg_imp (pg_sub (pe_var hN hv hd hcd) he ht ha) fun v σ H Q ⟨W, ρ, w, Qe, ok, S, hl, rw', hg, kk⟩ => by
    unfold gSt at hg
    split at hg
    · rename_i d hρ
      obtain ⟨a, hs, _, nv, n0, nl⟩ := S.own i d hρ ho
      refine ⟨.ref a, hs, W, ρ, _, ok, S, hg, fun u H1 k hφ e1 S1 t1 => ?_⟩
      obtain ⟨a', hs', ow, _⟩ := S1.own i d hρ ho
      rw [hs] at hs'; cases hs'
      refine hr S1 (nl hk) ow t1 (e1.rep ok rw') hφ fun o d' hq hown => ?_
      obtain ⟨S2, k2⟩ := S1.wr ok hl ho hk hρ hs fun c => hown _ c (by rw [unl_upd (nl hk), upd_same])
      exact kk _ _ _ hq S2 ((e1.kp ok S hl).trans k2)
    · exact hg.elim
end
def MutR (K : PySem.W.Frag) (r : V → List V → Hp → VK → Prop) (φ : D → List D → (D → D → Prop) → Prop) : Prop :=
  ∀ {I : SI} {W : DW} {σ : St} {H : Hp} {ρ : En} {a : Addr} {d : D} {vs : List V} {ds : List D} {Qd : D → D → Prop} {Q : VK}, SR I W K σ H ρ → W.L.lookup a = none → Own K (avA W I.own σ ρ) (unl W.L H) a d →
    RepA K (avA W I.own σ ρ) (unl W.L H) vs ds → φ d ds Qd →
    (∀ v o d' dr, Qd d' dr → (∀ H', Cm (avA W I.own σ ρ) (avA W I.own σ ρ) (unl W.L H) H' → H' a = some o → Own K (avA W I.own σ ρ) H' a d') → Rep K (avA W I.own σ ρ) (unl W.L H) v dr → Q v (upd H a o)) → r (.ref a) vs H Q
def tyD (T : String) : D → Prop
  | .list _ => T = "list"
  | .dict _ => T = "dict"
  | _ => False
def mMeth (i : Nat) (T : String) (φ : D → List D → (D → D → Prop) → Prop) (ma : MA) : MM := fun ρ Q => match ρ[i]? with
  | some (some d) => tyD T d ∧ ma ρ fun ds => φ d ds fun d' dr => Q (ρ.set i (some d')) dr
  | _ => False
theorem tyD_of {I : SI} {W : DW} {K : PySem.W.Frag} {σ : St} {H : Hp} {ρ : En} {T : String} {a : Addr} {d : D} (nl : W.L.lookup a = none) (ow : Own K (avA W I.own σ ρ) (unl W.L H) a d) (h : tyD T d) : tyV K T (.ref a) H := by
  cases ow with
  | lst r z q => rw [unl_none nl] at r; exact .inl ⟨h, _, .inl (.inl r)⟩
  | dcK r q => rw [unl_none nl] at r; exact .inr (.inr (.inl ⟨h, .inl ⟨_, r⟩⟩))
  | dcT r q => rw [unl_none nl] at r; exact .inr (.inr (.inl ⟨h, .inr ⟨_, r⟩⟩))
section
variable {I : SI} {X : Cx} {pos pos2 pos3 apos cpos : Pos} {x name : Str} {T id : String} {r : V → List V → Hp → VK → Prop} {φ : D → List D → (D → D → Prop) → Prop} {e : Expr} {es : List Expr} {ma : MA}
theorem dm_meth (i : Nat) (hr : MutR X.K r φ) (pa : PlainAttrs T) (slot : Slot T name id) (hty : typeOf (.builtin id) = pure (.type "method_descriptor")) (hm : MtR X id r) (ho : i ∈ I.own) (hk : i ∉ I.lk) (hN : X.N[i]? = some x) (hv : Vis X.env.scope x) (ha : DAE I X (e :: es) ma)
    (hd : (x == ("__debug__" : Str)) = false := by decide) (hcd : (x == ("__classdict__" : Str)) = false := by decide)
    (hbase : attributeBase (.Name x pos3) name X.env (eval (.Name x pos3) X.env) = eval (.Name x pos3) X.env := by rfl)
    (hfew : ((backTo cpos (starEach (e :: es) X.env)).all (fun x => !x.1) && (backToKw cpos (keywordEach [] X.env)).all (fun x => x.1.isSome)
      && decide ((e :: es).length + ([] : List Keyword).length + (if ([] : List Keyword).isEmpty then 0 else 1) < 30)) = true := by rfl)
    (hline : (apos.endLine == cpos.line) = true := by rfl) (hs : starEach (e :: es) X.env = (false, eval e X.env) :: starEach es X.env := by rfl) (hplain : (backTo cpos (starEach es X.env)).any (·.1) = false := by rfl) :
    DM I X (.Call (.Attribute (.Name x pos3) name apos) (e :: es) [] cpos) (mMeth i T φ ma) :=
  pe_imp (pe_bm pa slot hty hm (pe_var hN hv hd hcd) ha hbase hfew hline hs hplain) fun σ H Q ⟨W, ρ, Qd, ok, S, hl, hg, kk⟩ => by
    unfold mMeth at hg
    split at hg
    · rename_i d hρ
      obtain ⟨a, hs, ow0, nv, n0, nl⟩ := S.own i d hρ ho
      refine ⟨.ref a, hs, tyD_of (nl hk) ow0 hg.1, W, ρ, _, ok, S, hg.2, fun vs H1 ds hφ e1 S1 t1 => ?_⟩
      obtain ⟨a', hs', ow, _⟩ := S1.own i d hρ ho
      rw [hs] at hs'; cases hs'
      refine hr S1 (nl hk) ow t1 hφ fun v o d' dr hq hown rr => ?_
      obtain ⟨S2, k2⟩ := S1.wr ok hl ho hk hρ hs fun c => hown _ c (by rw [unl_upd (nl hk), upd_same])
      exact kk _ _ _ _ hq S2 ((e1.kp ok S hl).trans k2) (rr.mono k2.cm)
    · exact hg.elim
theorem dm_meth0 (i : Nat) (hr : MutR X.K r φ) (pa : PlainAttrs T) (slot : Slot T name id) (hty : typeOf (.builtin id) = pure (.type "method_descriptor")) (hm : MtR X id r) (ho : i ∈ I.own) (hk : i ∉ I.lk) (hN : X.N[i]? = some x) (hv : Vis X.env.scope x)
    (hd : (x == ("__debug__" : Str)) = false := by decide) (hcd : (x == ("__classdict__" : Str)) = false := by decide)
    (hbase : attributeBase (.Name x pos3) name X.env (eval (.Name x pos3) X.env) = eval (.Name x pos3) X.env := by rfl) (hline : (apos.endLine == cpos.line) = true := by rfl) :
    DM I X (.Call (.Attribute (.Name x pos3) name apos) [] [] cpos) (mMeth i T φ aNil) :=
  pe_imp (pe_bm0 pa slot hty hm (pe_var hN hv hd hcd) hbase hline) fun σ H Q ⟨W, ρ, Qd, ok, S, hl, hg, kk⟩ => by
    unfold mMeth at hg
    split at hg
    · rename_i d hρ
      obtain ⟨a, hs, ow, nv, n0, nl⟩ := S.own i d hρ ho
      refine ⟨.ref a, hs, tyD_of (nl hk) ow hg.1, ?_⟩
      refine hr S (nl hk) ow .nil hg.2 fun v o d' dr hq hown rr => ?_
      obtain ⟨S2, k2⟩ := S.wr ok hl ho hk hρ hs fun c => hown _ c (by rw [unl_upd (nl hk), upd_same])
      exact kk _ _ _ _ hq S2 k2 (rr.mono k2.cm)
    · exact hg.elim
end
def qAppend : D → List D → (D → D → Prop) → Prop
  | .list ds, [d], Q => ds.length < sizeLine ∧ Q (.list (ds ++ [d])) .none
  | _, _, _ => False
def qPop : D → List D → (D → D → Prop) → Prop
  | .list ds, [], Q => ∃ d, ds[ds.length - 1]? = some d ∧ Q (.list ds.dropLast) d
  | _, _, _ => False
def qPopAt : D → List D → (D → D → Prop) → Prop
  | .list ds, [.int i], Q => -(2 ^ 63) ≤ i ∧ i < 2 ^ 63 ∧ ∃ k d, seqIndex? i ds.length = some k ∧ ds[k]? = some d ∧ Q (.list (ds.eraseIdx k)) d
  | _, _, _ => False
theorem RepA.dropLast {K : PySem.W.Frag} {av : Addr → Prop} {H : Hp} : ∀ {vs : List V} {ds : List D}, RepA K av H vs ds → RepA K av H vs.dropLast ds.dropLast := fun {vs ds} r => by
  rw [List.dropLast_eq_take, List.dropLast_eq_take, r.len]; exact r.take _
theorem RepA.eraseIdx {K : PySem.W.Frag} {av : Addr → Prop} {H : Hp} : ∀ {vs : List V} {ds : List D} (k : Nat), RepA K av H vs ds → RepA K av H (vs.eraseIdx k) (ds.eraseIdx k) := fun {vs ds} k r => by
  rw [List.eraseIdx_eq_take_drop_succ, List.eraseIdx_eq_take_drop_succ]; exact (r.take _).app (r.drop _)
theorem mu_append {K : PySem.W.Frag} : MutR K rAppend qAppend := by
  intro I W σ H ρ a d vs ds Qd Q S nl ow ra hp fin
  unfold qAppend at hp
  split at hp
  · obtain ⟨hz, hq⟩ := hp
    obtain ⟨xs, hx, z, r⟩ := ow.listOf
    rw [unl_none nl] at hx
    cases ra with | cons rv t => cases t with | nil =>
    exact ⟨a, xs, _, rfl, rfl, hx, by rw [r.len]; exact hz, fin _ _ _ _ hq (fun H' c e => .lst e (by rw [List.length_append, r.len]; exact hz) ((r.mono c).app (.cons (rv.mono c) .nil))) .non⟩
  · exact hp.elim
theorem mu_pop {K : PySem.W.Frag} : MutR K rPop qPop := by
  intro I W σ H ρ a d vs ds Qd Q S nl ow ra hp fin
  unfold qPop at hp
  split at hp
  · obtain ⟨d, hd, hq⟩ := hp
    obtain ⟨xs, hx, z, r⟩ := ow.listOf
    rw [unl_none nl] at hx
    cases ra
    obtain ⟨v, hv, rv⟩ := r.get hd
    exact ⟨a, xs, v, rfl, rfl, hx, by rw [r.len]; exact hv, fin _ _ _ _ hq (fun H' c e => .lst e (by rw [List.length_dropLast]; omega) (r.mono c).dropLast) rv⟩
  · exact hp.elim
theorem mu_popAt {K : PySem.W.Frag} : MutR K rPopAt qPopAt := by
  intro I W σ H ρ a d vs ds Qd Q S nl ow ra hp fin
  unfold qPopAt at hp
  split at hp
  · obtain ⟨h1, h2, k, d, hk, hd, hq⟩ := hp
    obtain ⟨xs, hx, z, r⟩ := ow.listOf
    rw [unl_none nl] at hx
    cases ra with | cons ri t => cases t with | nil =>
    cases ri
    obtain ⟨v, hv, rv⟩ := r.get hd
    exact ⟨a, xs, _, k, v, rfl, rfl, hx, h1, h2, by rw [r.len]; exact hk, hv, fin _ _ _ _ hq (fun H' c e => .lst e (by have := List.length_eraseIdx_le xs k; omega) ((r.mono c).eraseIdx k)) rv⟩
  · exact hp.elim
end PyD
namespace PyD
open PySem PySem.Spec L2
open PyProof.Rows hiding St
theorem extend_tup (l : Addr) (items : Array Value) (n : Nat) (b : Addr) (items2 : Array Value) (n2 : Nat) (d2 : Option Addr) (sl : Array (Option Value)) (hs0 : ¬(!items.isEmpty && Builtin.List.listTooLong (items.size + items2.size)) = true) (hs1 : items.size ≤ sizeLine) (hs2 : items.size + items2.size ≤ sizeLine + 1) :
    Meets (Builtin.«list.extend» ⟨[.ref l, .ref b], []⟩) (fun _ R s => s.heap.get? l = some { cls := .type "list", dict := none, data := .seq items n, slots := #[] } ∧ s.heap.get? b = some { cls := .type "tuple", dict := d2, data := .seq items2 n2, slots := sl } ∧ R (.ok (.ret Value.none)) { s with heap := s.heap.update l (Obj.mapSeq fun x => x ++ items2), toks := s.toks }) :=
  .of_wp fun prog w A R s h => by
    obtain ⟨hp, g, d, tk, os⟩ := s; obtain ⟨hl, hb, h⟩ := h; have f1 := AutoSeq1.idx_int; have f2 := AutoSeq1.sub_tuple_tuple; have f3 := AutoSeq1.sub_list_list; have f4 := AutoSeq1.sub_tuple_list; have f5 := AutoSeq1.sub_list_tuple;
    have hz' : (items ++ items2).size ≤ sizeLine + 1 := by rw [Array.size_append]; exact hs2
    wp_walk using (wpAny_updateSeq hl rfl (hz := hs1) (_hz' := hz')), AutoSeq1.wpAny_loadPart' hl, AutoSeq1.wpAny_loadPart' hb; exact ⟨_, rfl, h⟩
theorem extend_lst (l : Addr) (items : Array Value) (n : Nat) (b : Addr) (items2 : Array Value) (n2 : Nat) (d2 : Option Addr) (sl : Array (Option Value)) (hs0 : ¬(!items.isEmpty && Builtin.List.listTooLong (items.size + items2.size)) = true) (hs1 : items.size ≤ sizeLine) (hs2 : items.size + items2.size ≤ sizeLine + 1) :
    Meets (Builtin.«list.extend» ⟨[.ref l, .ref b], []⟩) (fun _ R s => s.heap.get? l = some { cls := .type "list", dict := none, data := .seq items n, slots := #[] } ∧ s.heap.get? b = some { cls := .type "list", dict := d2, data := .seq items2 n2, slots := sl } ∧ R (.ok (.ret Value.none)) { s with heap := s.heap.update l (Obj.mapSeq fun x => x ++ items2), toks := s.toks }) :=
  .of_wp fun prog w A R s h => by
    obtain ⟨hp, g, d, tk, os⟩ := s; obtain ⟨hl, hb, h⟩ := h; have f1 := AutoSeq1.idx_int; have f2 := AutoSeq1.sub_tuple_tuple; have f3 := AutoSeq1.sub_list_list; have f4 := AutoSeq1.sub_tuple_list; have f5 := AutoSeq1.sub_list_tuple;
    have hz' : (items ++ items2).size ≤ sizeLine + 1 := by rw [Array.size_append]; exact hs2
    wp_walk using (wpAny_updateSeq hl rfl (hz := hs1) (_hz' := hz')), AutoSeq1.wpAny_loadPart' hl, AutoSeq1.wpAny_loadPart' hb; exact ⟨_, rfl, h⟩
def rExtendD (K : PySem.W.Frag) : V → List V → Hp → VK → Prop := fun x vs H Q => ∃ l b xs zs, x = .ref l ∧ vs = [.ref b] ∧ H l = some (.lst xs) ∧ (Rd H b (.lst zs) ∨ SqT K H b zs) ∧ xs.length + zs.length ≤ sizeLine ∧ Q .non (upd H l (.lst (xs ++ zs)))
theorem mt_extendD {X : Cx} : MtR X "list.extend" (rExtendD X.K) := by
  intro pins s σ H x xs v us Q I rx rv h
  obtain ⟨l, b, xs, zs, rfl, rfl, hH, hB, hz, q⟩ := h
  cases rx
  obtain ⟨u, rfl, ru⟩ := rv.one
  cases ru
  obtain ⟨z, its, n, r, hl, e⟩ := I.lstM hH
  have go : ∀ (its2 : List Value), Vals zs its2 → xs.length + its2.length ≤ sizeLine → (∃ o n2, s.heap.get? b = some o ∧ (o.cls = .type "list" ∨ o.cls = .type "tuple") ∧ o.data = .seq its2.toArray n2) → wpAny (model X.prog X.w) X.A (call (.builtin "list.extend") [.ref l, .ref b]) (EP X pins σ Q) X.xe s := fun its2 r2 hz2 ⟨o, n2, e2, hc, hdt⟩ => by
    have hsz : its.toArray.size + its2.toArray.size ≤ sizeLine := by rw [List.size_toArray, List.size_toArray]; omega
    have hlong : ¬ (!its.toArray.isEmpty && Builtin.List.listTooLong (its.toArray.size + its2.toArray.size)) = true := by
      rw [notLongL hsz, Bool.and_false]
      exact Bool.false_ne_true
    obtain ⟨c, d2, dt, sl⟩ := o
    have hdt : dt = .seq its2.toArray n2 := hdt
    subst hdt
    have fin : EP X pins σ Q Value.none { s with heap := s.heap.update l (Obj.mapSeq fun x => x ++ its2.toArray), toks := s.toks } := by
      refine ⟨.non, _, I.lset (its' := its ++ its2) hH e (by simp) (r.append r2) ?_, rfl, q⟩
      rw [List.length_append]; omega
    rcases hc with hc | hc
    · have hc : c = .type "list" := hc
      subst hc
      exact call_meets F.slot_list_extend ⟨_, e, rfl⟩ F.entry_list_extend (F.args_list_extend_2 _ _)
        (extend_lst l its.toArray n b its2.toArray n2 d2 sl hlong (by rw [List.size_toArray]; omega) (by omega)) ⟨e, e2, fin⟩
    · have hc : c = .type "tuple" := hc
      subst hc
      exact call_meets F.slot_list_extend ⟨_, e, rfl⟩ F.entry_list_extend (F.args_list_extend_2 _ _)
        (extend_tup l its.toArray n b its2.toArray n2 d2 sl hlong (by rw [List.size_toArray]; omega) (by omega)) ⟨e, e2, fin⟩
  rcases hB with hB | hB
  · obtain ⟨its2, r2, ⟨o, n2, e2, hc, hd, hdt⟩, _⟩ := I.list (.inl hB)
    exact go its2 r2 (by rw [← r2.length]; exact hz) ⟨o, n2, e2, .inl hc, by first | exact hdt | exact hdt.1⟩
  · obtain ⟨its2, r2, ⟨o, e2, hc, n2, hdt⟩, _⟩ := I.tuple hB
    exact go its2 r2 (by rw [← r2.length]; exact hz) ⟨o, n2, e2, .inr hc, hdt⟩
def qExtend : D → List D → (D → D → Prop) → Prop
  | .list ds, [.list es], Q => ds.length + es.length ≤ sizeLine ∧ Q (.list (ds ++ es)) .none
  | .list ds, [.tuple es], Q => ds.length + es.length ≤ sizeLine ∧ Q (.list (ds ++ es)) .none
  | _, _, _ => False
theorem mu_extend {K : PySem.W.Frag} : MutR K (rExtendD K) qExtend := by
  intro I W σ H ρ a d vs ds Qd Q S nl ow ra hp fin
  unfold qExtend at hp
  split at hp
  · obtain ⟨hz, hq⟩ := hp
    obtain ⟨xs, hx, z, r⟩ := ow.listOf
    rw [unl_none nl] at hx
    cases ra with | cons rv t => cases t with | nil =>
    cases rv with | lst n rb zb rr =>
    exact ⟨a, _, xs, _, rfl, rfl, hx, .inl (S.lkd.rd rb), by rw [r.len, rr.len]; exact hz, fin _ _ _ _ hq (fun H' c e => .lst e (by rw [List.length_append, r.len, rr.len]; exact hz) ((r.mono c).app (rr.mono c))) .non⟩
  · obtain ⟨hz, hq⟩ := hp
    obtain ⟨xs, hx, z, r⟩ := ow.listOf
    rw [unl_none nl] at hx
    cases ra with | cons rv t => cases t with | nil =>
    cases rv with | tup n rb zb rr =>
    exact ⟨a, _, xs, _, rfl, rfl, hx, .inr (.inl (.inl (S.lkd.tp rb))), by rw [r.len, rr.len]; exact hz, fin _ _ _ _ hq (fun H' c e => .lst e (by rw [List.length_append, r.len, rr.len]; exact hz) ((r.mono c).app (rr.mono c))) .non⟩
  · exact hp.elim
section
variable {I : SI} {X : Cx} {pos : Pos} {e : Expr} {me : ME} {x : Str}
def sAugI (i : Nat) (f : Int → Int → Int) (m : ME) : MS := fun M ρ => match ρ[i]? with
  | some (some (.int a)) => m ρ fun d => match d with
    | .int b => M.nx (ρ.set i (some (.int (f a b))))
    | _ => False
  | _ => False
theorem ds_augI (i : Nat) {op : Operator} {f : Int → Int → Int} {pos' : Pos} (hop : PIp X op (ipI f)) (ho : i ∉ I.own) (hb : I.bs ≠ some i) (hN : X.N.Nodup) (hi : X.N[i]? = some x) (hx : Loc X.env.scope x) (he : DE I X e me)
    (hf : X.fn x = true ∨ X.env.scope.names.lookup x = some .local := by first | exact .inl rfl | exact .inr rfl | assumption) : DS I X (.AugAssign (.Name x pos') op e pos) (sAugI i f me) :=
  ps_imp (ps_aug hN hi hx he hop hf) fun D σ H ⟨W, ρ, M, ok, S, hl, hm, E⟩ => by
    unfold sAugI at hm
    split at hm
    · rename_i a hρ
      obtain ⟨v, hv, rv⟩ := S.val i _ hρ ho
      cases rv
      refine ⟨_, hv, W, ρ, _, ok, S, hm, fun w H1 d q e1 S1 r1 => ?_⟩
      split at q
      · cases r1
        obtain ⟨S2, key⟩ := S1.setV ho hb (v := .int (f a _)) (d := .int (f a _)) (.int _)
        exact ⟨_, _, rfl, rfl, E.nx _ _ _ q S2 ((e1.kp ok S hl).trans (Kp.setV S1 hl ho key))⟩
      · exact q.elim
    · exact hm.elim
end
end PyD
namespace PyD
open PySem PySem.Spec L2
open PyProof.Rows hiding St
def sWhile (t : MT) (b : MS) : MS := fun M ρ => ∃ inv : Nat → En → Prop, (∃ m, inv m ρ) ∧ ∀ m ρ, inv m ρ → t ρ fun c => if c = true then b { M with nx := fun ρ' => ∃ m', m' < m ∧ inv m' ρ', ct := fun ρ' => ∃ m', m' < m ∧ inv m' ρ', bk := M.nx } ρ else M.nx ρ
section
variable {I : SI} {X : Cx} {pos : Pos}
theorem ds_while {c : Expr} {body : List Stmt} {t : MT} {mb : MS} (hc : DT I X c t) (hb : DSs I X body mb) (hp : PassesOwn (model X.prog X.w) X.A X.env X.xe) : DS I X (.While c body [] pos) (sWhile t mb) :=
  ps_imp (ps_while hp hc hb) fun D σ H ⟨W, ρ, M, ok, S, hl, hm, E⟩ => by
    obtain ⟨inv, ⟨m0, h0⟩, step⟩ := hm
    refine ⟨fun m σ' H' => ∃ ρ', inv m ρ' ∧ SR I W X.K σ' H' ρ' ∧ Kp I W σ ρ H σ' ρ' H', ⟨m0, ρ, h0, S, Kp.refl⟩, ?_⟩
    rintro m σ' H' ⟨ρ', hi, S', k'⟩
    refine ⟨W, ρ', _, ok, S', step m ρ' hi, fun b H1 q e1 S1 => ?_⟩
    cases b with
    | true =>
      rw [if_pos rfl] at q
      rw [if_pos rfl]
      refine ⟨fun σ2 H2 => ∃ m', m' < m ∧ ∃ ρ2, inv m' ρ2 ∧ SR I W X.K σ2 H2 ρ2 ∧ Kp I W σ ρ H σ2 ρ2 H2, fun σ2 H2 ⟨m', hm', w⟩ => ⟨m', hm', w⟩, W, ρ', _, ok, S1, hl, q, ?_⟩
      have k1 := k'.trans (e1.kp ok S' hl)
      exact ⟨fun σ2 H2 ρ2 ⟨m', hm', hi2⟩ S2 k2 => ⟨m', hm', ρ2, hi2, S2, k1.trans k2⟩, E.rt, fun σ2 H2 ρ2 hn S2 k2 => E.nx _ _ _ hn S2 (k1.trans k2), fun σ2 H2 ρ2 ⟨m', hm', hi2⟩ S2 k2 => ⟨m', hm', ρ2, hi2, S2, k1.trans k2⟩⟩
    | false =>
      rw [if_neg Bool.false_ne_true] at q
      rw [if_neg Bool.false_ne_true]
      exact E.nx _ _ _ q S1 (k'.trans (e1.kp ok S' hl))
end
/-- one turn's thing: it stands already, or it is a new tuple -/
def YlD (K : PySem.W.Frag) (av : Addr → Prop) (U H H' : Hp) (x : V) (d : D) : Prop :=
  (H' = H ∧ Rep K av U x d) ∨ ∃ T ys es, x = .ref T ∧ H T = none ∧ H' = upd H T (.tup ys) ∧ ys.length ≤ sizeLine ∧ d = .tuple es ∧ RepA K av U ys es
theorem YlD.sr {I : SI} {W : DW} {K : PySem.W.Frag} {σ : St} {ρ : En} {H H' : Hp} {x : V} {d : D} (ok : WOk I W) (S : SR I W K σ H ρ) (y : YlD K (avA W I.own σ ρ) (unl W.L H) H H' x d) :
    SR I W K σ H' ρ ∧ Ex W H H' ∧ Rep K (avA W I.own σ ρ) (unl W.L H') x d := by
  rcases y with ⟨rfl, r⟩ | ⟨T, ys, es, rfl, hT, rfl, hz, rfl, r⟩
  · exact ⟨S, Ex.refl _ _, r⟩
  · exact ⟨S.new ok hT, Ex.new S.lkd hT, .tup (S.fresh hT) (by rw [unl_upd (S.lkd.free hT), upd_same]) hz ((Ex.new S.lkd hT).repA ok r)⟩
/-- J walks ds, as long as what it rests on stays -/
def Wk (I : SI) (W : DW) (K : PySem.W.Frag) (σ : St) (ρ : En) (H : Hp) (J : It) (ds : List D) : Prop :=
  ∃ objs : List (Addr × HO), (∀ p ∈ objs, unl W.L H p.1 = some p.2 ∧ (¬ avA W I.own σ ρ p.1 ∨ ∃ i ∈ I.lk, σ[i]? = some (some (.ref p.1)) ∧ ∃ d, ρ[i]? = some (some d))) ∧
    ∀ (H' : Hp) (av' : Addr → Prop), Lkd W.L H' → (∀ p ∈ objs, unl W.L H' p.1 = some p.2) → Cm (avA W I.own σ ρ) av' (unl W.L H) (unl W.L H') → (∀ b xs, unl W.L H' b = some (.tup xs) → ¬ av' b) → ∀ i,
      (∀ d, ds[i]? = some d → J.go i H' ∧ ∀ x H'', J.yld i H' x H'' → YlD K av' (unl W.L H') H' H'' x d) ∧ (ds.length ≤ i → J.stop i H')
theorem Wk.at {I : SI} {W : DW} {K : PySem.W.Frag} {σ σ' : St} {ρ ρ' : En} {H H' : Hp} {J : It} {ds : List D} (w : Wk I W K σ ρ H J ds) (S : SR I W K σ' H' ρ') (k : Kp I W σ ρ H σ' ρ' H') (i : Nat) :
    (∀ d, ds[i]? = some d → J.go i H' ∧ ∀ x H'', J.yld i H' x H'' → YlD K (avA W I.own σ' ρ') (unl W.L H') H' H'' x d) ∧ (ds.length ≤ i → J.stop i H') := by
  obtain ⟨objs, h1, h2⟩ := w
  refine h2 H' _ S.lkd (fun p hp => ?_) k.cm (fun b xs h => S.tupAv h) i
  obtain ⟨e, n | ⟨j, hj, hs, hd⟩⟩ := h1 p hp
  · exact (k.st _ _ n e).2
  · obtain ⟨_, _, z⟩ := k.lk j hj
    rw [z hd _ hs]; exact e
abbrev PR := DW → St → Hp → Prop
def noPr : PR := fun _ _ _ => True
def tI (pr : PR) (I : SI) (K : PySem.W.Frag) (m : MA) : TI := fun σ H R => ∃ W ρ Qd, WOk I W ∧ SR I W K σ H ρ ∧ pr W σ H ∧ m ρ Qd ∧ ∀ J H1 ds, Qd ds → Ex W H H1 → SR I W K σ H1 ρ → Wk I W K σ ρ H1 J ds → R J H1
def DI (pr : PR) (I : SI) (X : Cx) (tg iter : Expr) (m : MA) : Prop := PI X tg iter (tI pr I X.K m)
theorem pi_imp {X : Cx} {tg e : Expr} {t t' : TI} (h : PI X tg e t) (k : ∀ σ H R, t' σ H R → t σ H R) : PI X tg e t' := ⟨fun pins s σ H R I q => h.run pins s σ H R I (k _ _ _ q)⟩
section
variable {I : SI} {W : DW} {K : PySem.W.Frag} {σ : St} {ρ : En} {H : Hp}
/-- a range -/
theorem Wk.rng (lo : Int) (n : Nat) : Wk I W K σ ρ H (Itr lo n) ((List.range n).map fun (i : Nat) => PyData.int (lo + i)) :=
  ⟨[], (fun p hp => nomatch hp), fun H' av' l hp c _ i => ⟨fun d hd => by
    rw [List.getElem?_map, Option.map_eq_some_iff] at hd
    obtain ⟨j, hj, rfl⟩ := hd
    obtain ⟨hlt, e⟩ := List.getElem?_eq_some_iff.mp hj
    rw [List.length_range] at hlt
    rw [List.getElem_range] at e
    subst e
    refine ⟨hlt, fun x H'' y => ?_⟩
    obtain ⟨e1, e2⟩ := (show H'' = H' ∧ x = .int (lo + i) from y)
    exact .inl ⟨e1, by rw [e2]; exact .int _⟩, fun h => by rw [List.length_map, List.length_range] at h; exact h⟩⟩
theorem Wk.rngC (lo c : Int) (n : Nat) : Wk I W K σ ρ H (Itc lo c n) ((List.range n).map fun (i : Nat) => PyData.int (lo + i * c)) :=
  ⟨[], (fun p hp => nomatch hp), fun H' av' l hp _ _ i => ⟨fun d hd => by
    rw [List.getElem?_map, Option.map_eq_some_iff] at hd
    obtain ⟨j, hj, rfl⟩ := hd
    obtain ⟨hlt, e⟩ := List.getElem?_eq_some_iff.mp hj
    rw [List.length_range] at hlt
    rw [List.getElem_range] at e
    subst e
    refine ⟨hlt, fun x H'' y => ?_⟩
    obtain ⟨e1, e2⟩ := (show H'' = H' ∧ x = .int (lo + (i : Nat) * c) from y)
    exact .inl ⟨e1, by rw [e2]; exact .int _⟩, fun h => by rw [List.length_map, List.length_range] at h; exact h⟩⟩
/-- a list object -/
theorem SqL.of_lst {L : List (Addr × Obj × HO)} {H' : Hp} (l : Lkd L H') {a : Addr} {o : HO} {xs : List V} (h : unl L H' a = some o) (e : o = .lst xs ∨ ∃ ob, o = .frz ob (.lst xs)) : SqL K H' a xs := by
  rcases e with rfl | ⟨ob, rfl⟩
  · exact .inl (l.rd (.inl h))
  · exact .inl (l.rd (.inr ⟨ob, h⟩))
end
/-- what the walk of a list rests on -/
theorem rd_obj {U : Hp} {a : Addr} {u : HO} (h : Rd U a u) : ∃ o, U a = some o ∧ (o = u ∨ ∃ ob, o = .frz ob u) := by
  rcases h with h | ⟨o, h⟩
  · exact ⟨_, h, .inl rfl⟩
  · exact ⟨_, h, .inr ⟨o, rfl⟩⟩
/-- a list or tuple that may be walked: (is it a list?) its address, what the walk rests on -/
inductive SeqW (I : SI) (W : DW) (K : PySem.W.Frag) (σ : St) (ρ : En) (H : Hp) : Bool → Addr → List V → List (Addr × HO) → Prop
  | lst {a : Addr} {o : HO} {xs : List V} : unl W.L H a = some o → (o = .lst xs ∨ ∃ ob, o = .frz ob (.lst xs)) → (¬ avA W I.own σ ρ a ∨ ∃ i ∈ I.lk, σ[i]? = some (some (.ref a)) ∧ ∃ d, ρ[i]? = some (some d)) → SeqW I W K σ ρ H true a xs [(a, o)]
  | tup {a : Addr} {xs : List V} : unl W.L H a = some (.tup xs) → ¬ avA W I.own σ ρ a → SeqW I W K σ ρ H false a xs [(a, .tup xs)]
  | wrt {a : Addr} {xs : List V} : WrT K a xs → SeqW I W K σ ρ H false a xs []
section
variable {I : SI} {W : DW} {K : PySem.W.Frag} {σ : St} {ρ : En} {H : Hp}
theorem SeqW.keeps {b : Bool} {a : Addr} {xs : List V} {objs : List (Addr × HO)} (w : SeqW I W K σ ρ H b a xs objs) : ∀ p ∈ objs, unl W.L H p.1 = some p.2 ∧ (¬ avA W I.own σ ρ p.1 ∨ ∃ i ∈ I.lk, σ[i]? = some (some (.ref p.1)) ∧ ∃ d, ρ[i]? = some (some d)) := by
  cases w with
  | lst h e n => intro p hp; rw [List.mem_singleton] at hp; subst hp; exact ⟨h, n⟩
  | tup h n => intro p hp; rw [List.mem_singleton] at hp; subst hp; exact ⟨h, .inl n⟩
  | wrt h => intro p hp; exact nomatch hp
theorem SeqW.sqL {a : Addr} {xs : List V} {objs : List (Addr × HO)} (w : SeqW I W K σ ρ H true a xs objs) {H' : Hp} (l : Lkd W.L H') (h : ∀ p ∈ objs, unl W.L H' p.1 = some p.2) : SqL K H' a xs := by
  cases w with
  | lst h0 e n => exact SqL.of_lst l (h _ (List.mem_singleton.mpr rfl)) e
theorem SeqW.sqT {a : Addr} {xs : List V} {objs : List (Addr × HO)} (w : SeqW I W K σ ρ H false a xs objs) {H' : Hp} (l : Lkd W.L H') (h : ∀ p ∈ objs, unl W.L H' p.1 = some p.2) : SqT K H' a xs := by
  cases w with
  | tup h0 n => exact .inl (.inl (l.tp (h _ (List.mem_singleton.mpr rfl))))
  | wrt h0 => exact .inr h0
end
/-- v may be walked, if it is a list or a tuple -/
def SqD (I : SI) (W : DW) (K : PySem.W.Frag) (σ : St) (ρ : En) (H : Hp) (v : V) : D → Prop
  | .list ds => ∃ a xs objs, v = .ref a ∧ SeqW I W K σ ρ H true a xs objs ∧ xs.length ≤ sizeLine ∧ RepA K (avA W I.own σ ρ) (unl W.L H) xs ds
  | .tuple ds => ∃ a xs objs, v = .ref a ∧ SeqW I W K σ ρ H false a xs objs ∧ xs.length ≤ sizeLine ∧ RepA K (avA W I.own σ ρ) (unl W.L H) xs ds
  | _ => True
theorem Rep.sqd {I : SI} {W : DW} {K : PySem.W.Frag} {σ : St} {ρ : En} {H : Hp} {v : V} {d : D} (r : Rep K (avA W I.own σ ρ) (unl W.L H) v d) : SqD I W K σ ρ H v d := by
  cases r with
  | lst n rd z q =>
    obtain ⟨o, ho, e⟩ := rd_obj rd
    exact ⟨_, _, _, rfl, .lst ho e (.inl n), z, q⟩
  | tup n rd z q => exact ⟨_, _, _, rfl, .tup rd n, z, q⟩
  | _ => trivial
def tQ (I : SI) (K : PySem.W.Frag) (m : ME) : TE := fun σ H Q => ∃ W ρ Qd, WOk I W ∧ SR I W K σ H ρ ∧ m ρ Qd ∧ ∀ v H' d, Qd d → Ex W H H' → SR I W K σ H' ρ → SqD I W K σ ρ H' v d → Q v H'
def DQ (I : SI) (X : Cx) (e : Expr) (m : ME) : Prop := PE X e (tQ I X.K m)
section
variable {I : SI} {X : Cx} {e : Expr} {m : ME} {pos : Pos} {x : Str}
theorem dq (h : DE I X e m) : DQ I X e m := pe_imp h fun σ H Q ⟨W, ρ, Qd, ok, S, hm, f⟩ => ⟨W, ρ, Qd, ok, S, hm, fun v H' d q e1 S1 r => f v H' d q e1 S1 r.sqd⟩
theorem dq_own (i : Nat) (ho : i ∈ I.own) (hk : i ∈ I.lk) (hN : X.N[i]? = some x) (hv : Vis X.env.scope x) (hd : (x == ("__debug__" : Str)) = false := by decide) (hcd : (x == ("__classdict__" : Str)) = false := by decide) : DQ I X (.Name x pos) (mV i) :=
  pe_imp (pe_var hN hv hd hcd) fun σ H Q ⟨W, ρ, Qd, ok, S, hm, f⟩ => by
    obtain ⟨d, hd, hq⟩ := mV_of hm
    obtain ⟨a, ha, ow, _⟩ := S.own i d hd ho
    refine ⟨.ref a, ha, f _ _ d hq (Ex.refl W H) S ?_⟩
    cases ow with
    | lst r z q => exact ⟨a, _, _, rfl, .lst r (.inl rfl) (.inr ⟨i, hk, ha, _, hd⟩), z, q⟩
    | dcK r q => trivial
    | dcT r q => trivial
end
/-- a list or a tuple walked -/
def iSeq (K : PySem.W.Frag) (tl : TE) : TI := fun σ H R => tl σ H fun x H1 => ∃ a, x = .ref a ∧ (((∃ xs, SqL K H1 a xs) ∧ R (Itl K a) H1) ∨ ((∃ xs, SqT K H1 a xs) ∧ R (Itt K a) H1))
theorem pi_seq {X : Cx} {tg l : Expr} {tl : TE} (hl : PE X l tl) : PI X tg l (iSeq X.K tl) := by
  refine ⟨fun pins s σ H R I h => ?_⟩
  refine thn (hl.run pins s σ H _ I h) fun v s1 ⟨x, H1, I1, r1, q1⟩ => ?_
  obtain ⟨a, e, q1⟩ := q1
  subst e
  cases r1
  have fp : ∀ b ∈ [s1.heap.objs.size], FpOk X pins H1 b := fun b hb => by
    have e : b = s1.heap.objs.size := by simpa using hb
    subst e
    exact I1.fpOk (Nat.le_refl _) (I1.hok.fresh (Nat.le_refl _))
  rcases q1 with ⟨⟨xs, hq⟩, q⟩ | ⟨⟨xs, hq⟩, q⟩
  · obtain ⟨its, rv, p, hz⟩ := I1.list hq
    refine wpAny_pyIter_list p.isList ?_
    exact ⟨s1.heap.objs.size, [s1.heap.objs.size], _, _, H1, rfl, I1.kept (t' := s1.toks) fun b o e => Heap.get?_push_of_some _ e, turn_list a _, ⟨_, Heap.get?_push_size _ rfl, rfl, rfl⟩, fp, q⟩
  · obtain ⟨its, rv, p, hz⟩ := I1.tuple hq
    refine wpAny_pyIter_tuple (show s1.heap.IsTuple a its.toArray from p) ?_
    exact ⟨s1.heap.objs.size, [s1.heap.objs.size], _, _, H1, rfl, I1.kept (t' := s1.toks) fun b o e => Heap.get?_push_of_some _ e, turn_tuple a _, ⟨_, Heap.get?_push_size _ rfl, rfl, rfl⟩, fp, q⟩
def itemsS : D → Option (List D)
  | .list ds => some ds
  | .tuple ds => some ds
  | _ => none
def aSeq (m : ME) : MA := fun ρ Q => m ρ fun d => match itemsS d with
  | some ds => ds.length ≤ sizeLine → Q ds
  | none => False
section
variable {I : SI} {X : Cx} {tg e : Expr} {es : List Expr} {m : ME} {ma : MA} {pos p : Pos}
theorem Wk.list {W : DW} {K : PySem.W.Frag} {σ : St} {ρ : En} {H : Hp} {a : Addr} {xs : List V} {ds : List D} {objs : List (Addr × HO)} (w : SeqW I W K σ ρ H true a xs objs) (r : RepA K (avA W I.own σ ρ) (unl W.L H) xs ds) : Wk I W K σ ρ H (Itl K a) ds :=
  ⟨objs, w.keeps, fun H' av' l hk c _ i => ⟨fun d hd => by
    obtain ⟨v, hv, rv⟩ := r.get hd
    refine ⟨⟨xs, v, w.sqL l hk, hv⟩, fun x H'' y => ?_⟩
    obtain ⟨e1, e2⟩ := (show H'' = H' ∧ ∀ xs, SqL K H' a xs → xs[i]? = some x from y)
    have := e2 xs (w.sqL l hk)
    rw [hv] at this; cases this
    exact .inl ⟨e1, rv.mono c⟩, fun h => ⟨xs, w.sqL l hk, by rw [r.len]; exact h⟩⟩⟩
theorem Wk.tup {W : DW} {K : PySem.W.Frag} {σ : St} {ρ : En} {H : Hp} {a : Addr} {xs : List V} {ds : List D} {objs : List (Addr × HO)} (w : SeqW I W K σ ρ H false a xs objs) (r : RepA K (avA W I.own σ ρ) (unl W.L H) xs ds) : Wk I W K σ ρ H (Itt K a) ds :=
  ⟨objs, w.keeps, fun H' av' l hk c _ i => ⟨fun d hd => by
    obtain ⟨v, hv, rv⟩ := r.get hd
    refine ⟨⟨xs, v, w.sqT l hk, hv⟩, fun x H'' y => ?_⟩
    obtain ⟨e1, e2⟩ := (show H'' = H' ∧ ∀ xs, SqT K H' a xs → xs[i]? = some x from y)
    have := e2 xs (w.sqT l hk)
    rw [hv] at this; cases this
    exact .inl ⟨e1, rv.mono c⟩, fun h => ⟨xs, w.sqT l hk, by rw [r.len]; exact h⟩⟩⟩
theorem di_seq {pr : PR} (h : DQ I X e m) : DI pr I X tg e (aSeq m) :=
  pi_imp (pi_seq h) fun σ H R ⟨W, ρ, Qd, ok, S, _, hm, f⟩ => ⟨W, ρ, _, ok, S, hm, fun v H1 d q e1 S1 sq => by
    cases d <;> try exact False.elim q
    · obtain ⟨a, xs, objs, rfl, w, z, r⟩ := sq
      exact ⟨a, rfl, .inl ⟨⟨xs, w.sqL S1.lkd fun p hp => (w.keeps p hp).1⟩, f _ _ _ (q (by rw [← r.len]; exact z)) e1 S1 (Wk.list w r)⟩⟩
    · obtain ⟨a, xs, objs, rfl, w, z, r⟩ := sq
      exact ⟨a, rfl, .inr ⟨⟨xs, w.sqT S1.lkd fun p hp => (w.keeps p hp).1⟩, f _ _ _ (q (by rw [← r.len]; exact z)) e1 S1 (Wk.tup w r)⟩⟩⟩
def rngD (lo hi : Int) : List D := (List.range (hi - lo).toNat).map fun (i : Nat) => PyData.int (lo + i)
def rngOk (i : Int) : Prop := -(2 ^ 62) ≤ i ∧ i < 2 ^ 62
def aRng1 (m : MA) : MA := fun ρ Q => m ρ fun ds => match ds with
  | [.int j] => rngOk j ∧ Q (rngD 0 j)
  | _ => False
def aRng2 (m : MA) : MA := fun ρ Q => m ρ fun ds => match ds with
  | [.int i, .int j] => rngOk i ∧ rngOk j ∧ Q (rngD i j)
  | _ => False
theorem di_range1 {pr : PR} (hg : Gl X "range") (hm : X.mg "range" = none) (ha : DAE I X [e] ma) (hs : starEach [e] X.env = [(false, eval e X.env)] := by rfl) : DI pr I X tg (.Call (.Name "range" p) [e] [] pos) (aRng1 ma) :=
  pi_imp (pi_range1 hg hm ha hs) fun σ H R ⟨W, ρ, Qd, ok, S, _, hm, f⟩ => ⟨W, ρ, _, ok, S, hm, fun vs H1 ds q e1 S1 r => by
    split at q
    · rename_i j
      cases r with | cons r1 t => cases t with | nil =>
      cases r1
      refine ⟨j, rfl, q.1.1, q.1.2, f _ _ _ q.2 e1 S1 ?_⟩
      have := Wk.rng (I := I) (W := W) (K := X.K) (σ := σ) (ρ := ρ) (H := H1) 0 j.toNat
      unfold rngD
      rw [Int.sub_zero]
      exact this
    · exact q.elim⟩
theorem di_range2 {pr : PR} {e2 : Expr} (hg : Gl X "range") (hm : X.mg "range" = none) (ha : DAE I X [e, e2] ma) (hs : starEach [e, e2] X.env = [(false, eval e X.env), (false, eval e2 X.env)] := by rfl) (hs2 : starEach [e2] X.env = [(false, eval e2 X.env)] := by rfl) : DI pr I X tg (.Call (.Name "range" p) [e, e2] [] pos) (aRng2 ma) :=
  pi_imp (pi_range2 hg hm ha hs hs2) fun σ H R ⟨W, ρ, Qd, ok, S, _, hm, f⟩ => ⟨W, ρ, _, ok, S, hm, fun vs H1 ds q e1 S1 r => by
    split at q
    · rename_i i j
      cases r with | cons r1 t => cases t with | cons r2 t => cases t with | nil =>
      cases r1; cases r2
      exact ⟨i, j, rfl, ⟨q.1.1, q.1.2, q.2.1.1, q.2.1.2⟩, f _ _ _ q.2.2 e1 S1 (Wk.rng i (j - i).toNat)⟩
    · exact q.elim⟩
end
/-- range(i, j, c) with c > 0 -/
def stepN (i j c : Int) : Nat := if i < j then ((j - i - 1) / c + 1).toNat else 0
def rngC (i j c : Int) : List D := (List.range (stepN i j c)).map fun (k : Nat) => PyData.int (i + k * c)
def smallR (i : Int) : Prop := -1000000000000 ≤ i ∧ i ≤ 1000000000000
theorem rgC_up {i j c : Int} (hi : smallR i) (hj : smallR j) (hc : 0 < c) (hc' : c < 1073741824) : RgC i j c (stepN i j c) := by
  obtain ⟨h1, h2⟩ := hi
  obtain ⟨h3, h4⟩ := hj
  have e : Builtin.Range.rangeSize i j c = (stepN i j c : Int) := by
    unfold Builtin.Range.rangeSize stepN
    rw [if_pos hc]
    split
    · have : 0 ≤ (j - i - 1) / c := Int.ediv_nonneg (by omega) (by omega)
      omega
    · rfl
  have hb : (stepN i j c : Int) ≤ 3000000000000 ∧ (stepN i j c : Int) * c ≤ 3000000000000 + c := by
    unfold stepN
    split
    · have h0 : 0 ≤ (j - i - 1) / c := Int.ediv_nonneg (by omega) (by omega)
      have h5 : (j - i - 1) / c ≤ j - i - 1 := Int.ediv_le_self _ (by omega)
      have h6 : (j - i - 1) / c * c ≤ j - i - 1 := Int.ediv_mul_le _ (by omega)
      have e2 : (((j - i - 1) / c + 1).toNat : Int) = (j - i - 1) / c + 1 := Int.toNat_of_nonneg (by omega)
      rw [e2, Int.add_mul]
      omega
    · omega
  refine ⟨by omega, by omega, ?_, e⟩
  unfold Builtin.Range.small
  rw [e]
  have fits : ∀ z : Int, -9000000000000 ≤ z → z ≤ 9000000000000 → Builtin.Range.rangeFitsLong z = true := fun z h1 h2 => by
    unfold Builtin.Range.rangeFitsLong
    rw [decide_eq_true (by omega), decide_eq_true (by omega)]; rfl
  rw [fits i (by omega) (by omega), fits j (by omega) (by omega), fits c (by omega) (by omega), fits _ (by omega) (by omega), if_pos hc, fits (j + (c - 1)) (by omega) (by omega)]
  simp
def aRng3 (m : MA) : MA := fun ρ Q => m ρ fun ds => match ds with
  | [.int i, .int j, .int c] => smallR i ∧ smallR j ∧ (0 < c ∧ c < 1073741824) ∧ Q (rngC i j c)
  | _ => False
theorem di_range3 {I : SI} {X : Cx} {tg e1 e2 e3 : Expr} {ma : MA} {pos p : Pos} {pr : PR} (hg : Gl X "range") (hm : X.mg "range" = none) (ha : DAE I X [e1, e2, e3] ma) (hs : starEach [e1, e2, e3] X.env = (false, eval e1 X.env) :: starEach [e2, e3] X.env := by rfl) (hpl : (backTo pos (starEach [e2, e3] X.env)).any (·.1) = false := by rfl) : DI pr I X tg (.Call (.Name "range" p) [e1, e2, e3] [] pos) (aRng3 ma) :=
  pi_imp (pi_range3 hg hm ha hs hpl) fun σ H R ⟨W, ρ, Qd, ok, S, _, hm, f⟩ => ⟨W, ρ, _, ok, S, hm, fun vs H1 ds q e1 S1 r => by
    split at q
    · rename_i i j c
      cases r with | cons r1 t => cases t with | cons r2 t => cases t with | cons r3 t => cases t with | nil =>
      cases r1; cases r2; cases r3
      exact ⟨i, j, c, stepN i j c, rfl, rgC_up q.1 q.2.1 q.2.2.1.1 q.2.2.1.2, f _ _ _ q.2.2.2 e1 S1 (Wk.rngC i c (stepN i j c))⟩
    · exact q.elim⟩
def SI.lock (I : SI) (js : List Nat) : SI := { I with lk := js ++ I.lk }
def sFor (m : MA) (g : MG) (b : MS) : MS := fun M ρ => m ρ fun ds => ∃ P : Nat → En → Prop, P 0 ρ ∧ (∀ i d ρ', ds[i]? = some d → P i ρ' → g d ρ' fun ρ1 => b { M with nx := P (i + 1), ct := P (i + 1), bk := M.nx } ρ1) ∧ ∀ ρ', P ds.length ρ' → M.nx ρ'
section
variable {I : SI} {W : DW} {K : PySem.W.Frag} {σ σ' : St} {ρ ρ' : En} {H H' : Hp} {js : List Nat}
theorem WOk.lock (ok : WOk I W) : WOk (I.lock js) W := ⟨ok.bxav, ok.lbx, ok.bkst⟩
theorem WOk.unlock (ok : WOk (I.lock js) W) : WOk I W := ⟨ok.bxav, ok.lbx, ok.bkst⟩
theorem SR.lock (S : SR I W K σ H ρ) : SR (I.lock js) W K σ H ρ :=
  ⟨S.len, S.lkd, S.val, fun i d h n => let ⟨a, h1, h2, h3, h4, h5⟩ := S.own i d h n; ⟨a, h1, h2, h3, h4, fun z => h5 fun q => z (List.mem_append_right _ q)⟩, S.inj, S.fr, S.avt, S.box, S.bsl⟩
theorem Kp.unlock (k : Kp (I.lock js) W σ ρ H σ' ρ' H') : Kp I W σ ρ H σ' ρ' H' := ⟨k.st, fun i hi => k.lk i (List.mem_append_right _ hi)⟩
theorem SR.unlock (S0 : SR I W K σ H ρ) (k : Kp (I.lock js) W σ ρ H σ' ρ' H') (S : SR (I.lock js) W K σ' H' ρ') : SR I W K σ' H' ρ' :=
  ⟨S.len, S.lkd, S.val, fun i d h n => by
    obtain ⟨a, h1, h2, h3, h4, h5⟩ := S.own i d h n
    refine ⟨a, h1, h2, h3, h4, fun z => ?_⟩
    by_cases q : i ∈ js
    · obtain ⟨e1, e2, _⟩ := k.lk i (List.mem_append_left _ q)
      rw [e1] at h
      rw [e2] at h1
      obtain ⟨a', h1', _, _, _, h5'⟩ := S0.own i d h n
      rw [h1] at h1'; cases h1'
      exact h5' z
    · exact h5 fun y => (List.mem_append.mp y).elim q z, S.inj, S.fr, S.avt, S.box, S.bsl⟩
end
def tSp (pr : PR) (I : SI) (K : PySem.W.Frag) (m : MS) : TS := fun D σ H => ∃ W ρ M, WOk I W ∧ SR I W K σ H ρ ∧ pr W σ H ∧ (∀ i ∈ I.lk, i ∈ I.own) ∧ m M ρ ∧ EndS I W K σ ρ H M D
def DSp (pr : PR) (I : SI) (X : Cx) (st : Stmt) (m : MS) : Prop := PS X st (tSp pr I X.K m)
theorem ds_noPr {I : SI} {X : Cx} {st : Stmt} {m : MS} (h : DSp noPr I X st m) : DS I X st m := ps_imp h fun D σ H ⟨W, ρ, M, ok, S, hl, hm, E⟩ => ⟨W, ρ, M, ok, S, trivial, hl, hm, E⟩
theorem ds_forP {pr : PR} {I : SI} {X : Cx} {tg iter : Expr} {body : List Stmt} {pos : Pos} {m : MA} {g : MG} {b : MS} (js : List Nat) (hj : ∀ j ∈ js, j ∈ I.own) (hc : X.calm = true) (hi : DI pr (I.lock js) X tg iter m) (hg : DGw (I.lock js) X tg g) (hb : DSs (I.lock js) X body b)
    (hp : PassesOwn (model X.prog X.w) X.A X.env X.xe) (hs : ∀ x, foldedSetIterable iter X.env x = pure x := by intro _; rfl) : DSp pr I X (.For tg iter body [] pos) (sFor m g b) :=
  ps_imp (ps_for hp hc hi hg hb hs) fun Dn σ H ⟨W, ρ, M, ok, S, hpr, hl, hm, E⟩ => by
    have hl' : ∀ i ∈ (I.lock js).lk, i ∈ (I.lock js).own := fun i hi => (List.mem_append.mp hi).elim (hj i) (hl i)
    refine ⟨W, ρ, _, ok.lock, S.lock, hpr, hm, fun J H1 ds q e1 S1 wk => ?_⟩
    obtain ⟨P, p0, step, last⟩ := q
    have k0 : Kp (I.lock js) W σ ρ H σ ρ H1 := e1.kp ok.lock S.lock hl'
    have out : ∀ {σ2 : St} {H2 : Hp} {ρ2 : En}, M.nx ρ2 → SR (I.lock js) W X.K σ2 H2 ρ2 → Kp (I.lock js) W σ ρ H1 σ2 ρ2 H2 → Dn.nx σ2 H2 := fun hn S2 k2 => E.nx _ _ _ hn (S.unlock (k0.trans k2) S2) (k0.trans k2).unlock
    refine ⟨fun i mm σ' H' => mm = ds.length - i ∧ i ≤ ds.length ∧ ∃ ρ', P i ρ' ∧ SR (I.lock js) W X.K σ' H' ρ' ∧ Kp (I.lock js) W σ ρ H1 σ' ρ' H', ⟨_, rfl, Nat.zero_le _, ρ, p0, S1, Kp.refl⟩, ?_⟩
    rintro i mm σ' H' ⟨rfl, hi, ρ', pi, S', k'⟩
    by_cases hlt : i < ds.length
    · have hd : ds[i]? = some ds[i] := List.getElem?_eq_getElem hlt
      obtain ⟨go, yl⟩ := (wk.at S' k' i).1 _ hd
      refine .inr ⟨go, fun σ2 H2 => i + 1 ≤ ds.length ∧ ∃ ρ2, P (i + 1) ρ2 ∧ SR (I.lock js) W X.K σ2 H2 ρ2 ∧ Kp (I.lock js) W σ ρ H1 σ2 ρ2 H2, fun σ2 H2 ⟨h1, w⟩ => ⟨_, by omega, rfl, h1, w⟩, fun x H'' y => ?_⟩
      obtain ⟨S2, e2, r⟩ := YlD.sr ok.lock S' (yl x H'' y)
      have k2 := k'.trans (e2.kp ok.lock S' hl')
      refine ⟨W, ρ', ds[i], _, ok.lock, S2, hl', r, step i _ ρ' hd pi, fun σ3 H3 ρ3 q3 S3 k3 => ?_⟩
      refine ⟨W, ρ3, _, ok.lock, S3, hl', q3, ?_⟩
      have k4 := k2.trans k3
      exact ⟨fun σ4 H4 ρ4 p4 S4 k5 => ⟨hlt, ρ4, p4, S4, k4.trans k5⟩, fun v H4 d hr ro => E.rt v H4 d hr ⟨ro.rep, ro.lkd, ro.fr, ro.box, ro.bxt⟩, fun σ4 H4 ρ4 hn S4 k5 => out hn S4 (k4.trans k5), fun σ4 H4 ρ4 p4 S4 k5 => ⟨hlt, ρ4, p4, S4, k4.trans k5⟩⟩
    · have e : i = ds.length := by omega
      subst e
      exact .inl ⟨(wk.at S' k' _).2 (Nat.le_refl _), out (last _ pi) S' k'⟩
theorem ds_for {I : SI} {X : Cx} {tg iter : Expr} {body : List Stmt} {pos : Pos} {m : MA} {g : MG} {b : MS} (js : List Nat) (hj : ∀ j ∈ js, j ∈ I.own) (hc : X.calm = true) (hi : DI noPr (I.lock js) X tg iter m) (hg : DGw (I.lock js) X tg g) (hb : DSs (I.lock js) X body b)
    (hp : PassesOwn (model X.prog X.w) X.A X.env X.xe) (hs : ∀ x, foldedSetIterable iter X.env x = pure x := by intro _; rfl) : DS I X (.For tg iter body [] pos) (sFor m g b) := ds_noPr (ds_forP js hj hc hi hg hb hp hs)
end PyD
namespace PyD
open PySem PySem.Spec L2
open PyProof.Rows hiding St
def wipeD {α : Type} (σ : List (Option α)) : List Nat → List (Option α)
  | [] => σ
  | v :: vs => (wipeD σ vs).set v none
theorem wipe_eq (σ : St) : ∀ vs : List Nat, wipe σ vs = wipeD σ vs
  | [] => rfl
  | v :: vs => by show (wipe σ vs).set v none = (wipeD σ vs).set v none; rw [wipe_eq σ vs]
theorem wipeD_len {α : Type} (σ : List (Option α)) : ∀ vs : List Nat, (wipeD σ vs).length = σ.length
  | [] => rfl
  | v :: vs => by unfold wipeD; rw [List.length_set, wipeD_len σ vs]
theorem wipeD_out {α : Type} {σ : List (Option α)} {i : Nat} : ∀ {vs : List Nat}, i ∉ vs → (wipeD σ vs)[i]? = σ[i]?
  | [], _ => rfl
  | v :: vs, h => by
    have h1 : v ≠ i := fun e => h (by rw [e]; exact List.mem_cons_self)
    have h2 : i ∉ vs := fun m => h (List.mem_cons_of_mem _ m)
    unfold wipeD
    rw [List.getElem?_set_ne h1, wipeD_out h2]
theorem wipeD_in {α : Type} {σ : List (Option α)} {i : Nat} : ∀ {vs : List Nat}, i ∈ vs → ∀ d, (wipeD σ vs)[i]? ≠ some (some d)
  | [], h => nomatch h
  | v :: vs, h => fun d e => by
    unfold wipeD at e
    by_cases q : v = i
    · subst q
      rw [List.getElem?_set] at e
      rw [if_pos rfl] at e
      split at e <;> cases e
    · rw [List.getElem?_set_ne q] at e
      exact wipeD_in ((List.mem_cons.mp h).resolve_left fun z => q z.symm) d e
theorem wipeD_inN {α : Type} {σ : List (Option α)} {i : Nat} {vs : List Nat} (h : i ∈ vs) (hl : i < σ.length) : (wipeD σ vs)[i]? = some none := by
  cases e : (wipeD σ vs)[i]? with
  | none => rw [List.getElem?_eq_none_iff, wipeD_len] at e; omega
  | some o => cases o with
    | none => rfl
    | some d => exact absurd e (wipeD_in h d)
theorem wipeD_same {α : Type} {σ σ2 : List (Option α)} {vs : List Nat} (hl : σ2.length = σ.length) (h : ∀ j, j ∉ vs → σ2[j]? = σ[j]?) : wipeD σ2 vs = wipeD σ vs := by
  apply List.ext_getElem?
  intro j
  by_cases hj : j ∈ vs
  · by_cases q : j < σ.length
    · rw [wipeD_inN hj q, wipeD_inN hj (by omega)]
    · rw [List.getElem?_eq_none (by rw [wipeD_len]; omega), List.getElem?_eq_none (by rw [wipeD_len]; omega)]
  · rw [wipeD_out hj, wipeD_out hj, h j hj]
theorem wipeD_ofsome {α : Type} {σ : List (Option α)} {i : Nat} {d : α} {vs : List Nat} (h : (wipeD σ vs)[i]? = some (some d)) : σ[i]? = some (some d) := by
  by_cases q : i ∈ vs
  · exact absurd h (wipeD_in q d)
  · rw [wipeD_out q] at h; exact h
section
variable {I : SI} {W : DW} {K : PySem.W.Frag} {σ σ2 : St} {ρ ρ2 : En} {H H2 : Hp} {vs : List Nat}
theorem avA_wipe (hv : ∀ v ∈ vs, v ∉ I.own) (b : Addr) : avA W I.own (wipeD σ vs) (wipeD ρ vs) b ↔ avA W I.own σ ρ b := by
  constructor
  · rintro (z | ⟨i, hi, ⟨d, hd⟩, hs⟩)
    · exact .inl z
    · exact .inr ⟨i, hi, ⟨d, wipeD_ofsome hd⟩, wipeD_ofsome hs⟩
  · rintro (z | ⟨i, hi, ⟨d, hd⟩, hs⟩)
    · exact .inl z
    · have q : i ∉ vs := fun z => hv i z hi
      exact .inr ⟨i, hi, ⟨d, by rw [wipeD_out q]; exact hd⟩, by rw [wipeD_out q]; exact hs⟩
theorem cm_wipe (hv : ∀ v ∈ vs, v ∉ I.own) {U : Hp} : Cm (avA W I.own σ ρ) (avA W I.own (wipeD σ vs) (wipeD ρ vs)) U U := ⟨fun b _ n _ z => n ((avA_wipe hv b).mp z), fun _ _ _ _ h => h, fun _ _ _ h => h⟩
theorem SR.wipe (S : SR I W K σ H ρ) (hv : ∀ v ∈ vs, v ∉ I.own) (hb : ∀ v ∈ vs, I.bs ≠ some v) : SR I W K (wipeD σ vs) H (wipeD ρ vs) where
  len := by rw [wipeD_len, wipeD_len]; exact S.len
  lkd := S.lkd
  val := fun i d hd n => by
    have q : i ∉ vs := fun z => wipeD_in z d hd
    rw [wipeD_out q] at hd
    obtain ⟨v, h1, r⟩ := S.val i d hd n
    exact ⟨v, by rw [wipeD_out q]; exact h1, r.mono (cm_wipe hv)⟩
  own := fun i d hd n => by
    have q : i ∉ vs := fun z => hv i z n
    rw [wipeD_out q] at hd
    obtain ⟨a, h1, ow, h2⟩ := S.own i d hd n
    exact ⟨a, by rw [wipeD_out q]; exact h1, ow.mono (cm_wipe hv) rfl, h2⟩
  inj := fun i j a hi hj ⟨d, hd⟩ ⟨e, he⟩ hs ht => S.inj i j a hi hj ⟨d, wipeD_ofsome hd⟩ ⟨e, wipeD_ofsome he⟩ (wipeD_ofsome hs) (wipeD_ofsome ht)
  fr := S.fr
  avt := S.avt
  box := S.box
  bsl := fun i hi => by
    have q : i ∉ vs := fun z => hb i z hi
    obtain ⟨p, h1, h2⟩ := S.bsl i hi
    exact ⟨p, h1, by rw [wipeD_out q]; exact h2⟩
/-- the names as they were, in a heap that has grown -/
theorem SR.back (ok : WOk I W) (S : SR I W K σ H ρ) (S2 : SR I W K σ2 H2 ρ2) {T : Addr} (hT : W.av T) (e : ∀ b o, b ≠ T → unl W.L H b = some o → ¬ W.bx b → unl W.L H2 b = some o) : SR I W K σ H2 ρ := by
  have aT : avA W I.own σ ρ T := .inl hT
  have c : Cm (avA W I.own σ ρ) (avA W I.own σ ρ) (unl W.L H) (unl W.L H2) := by
    have n : ∀ b, ¬ avA W I.own σ ρ b → b ≠ T ∧ ¬ W.bx b := fun b n => ⟨fun z => n (z ▸ aT), fun z => n (.inl (ok.bxav b z))⟩
    exact ⟨fun _ _ n _ => n, fun b u _ nb r => rd_up r fun o h => e b o (n b nb).1 h (n b nb).2, fun b xs nb r => e b _ (n b nb).1 r (n b nb).2⟩
  refine ⟨S.len, S2.lkd, fun i d h n => ?_, fun i d h n => ?_, S.inj, S2.fr, S2.avt, S2.box, S.bsl⟩
  · obtain ⟨v, h1, r⟩ := S.val i d h n
    exact ⟨v, h1, r.mono c⟩
  · obtain ⟨a, h1, ow, h2, h3, h4⟩ := S.own i d h n
    refine ⟨a, h1, ow.mono c ?_, h2, h3, h4⟩
    obtain ⟨u, hu, _⟩ := ow.some
    rw [hu]
    exact e a u (fun z => h2 (z ▸ hT)) hu (S.ownbx ok h n h1)
/-- a thing that is kept back is written -/
theorem SR.wrAv (ok : WOk I W) (S : SR I W K σ H ρ) {T : Addr} (hT : W.av T) (nb : ¬ W.bx T) (n0 : W.H0 T = none) (nl : W.L.lookup T = none) {o : HO} (ho : ntup o = true) : SR I W K σ (upd H T o) ρ := by
  have hU : unl W.L (upd H T o) = upd (unl W.L H) T o := unl_upd nl
  have ne : ∀ b, ¬ avA W I.own σ ρ b → b ≠ T := fun b n z => n (.inl (z ▸ hT))
  have c : Cm (avA W I.own σ ρ) (avA W I.own σ ρ) (unl W.L H) (unl W.L (upd H T o)) := ⟨fun _ _ n _ => n, fun b u _ n r => by rw [hU]; exact rd_up r fun q hq => by rw [upd_ne (ne b n)]; exact hq, fun b xs n r => by rw [hU, upd_ne (ne b n)]; exact r⟩
  refine ⟨S.len, fun b u e => ?_, fun i d h n => ?_, fun i d h n => ?_, S.inj, fun b u e n => ?_, fun b hb => ?_, fun p hp => ?_, S.bsl⟩
  · obtain ⟨m, q⟩ := S.lkd b u e
    refine ⟨m, ?_⟩
    rw [upd_ne, q]
    rintro rfl
    rw [nl] at e; cases e
  · obtain ⟨v, h1, r⟩ := S.val i d h n
    exact ⟨v, h1, r.mono c⟩
  · obtain ⟨a, h1, ow, h2, h3, h4⟩ := S.own i d h n
    have q : a ≠ T := fun z => h2 (z ▸ hT)
    exact ⟨a, h1, ow.mono c (by rw [hU, upd_ne q]), h2, h3, h4⟩
  · have q : b ≠ T := fun z => by rw [z, n0] at e; cases e
    rw [hU, upd_ne q]; exact S.fr b u e n
  · by_cases q : b = T
    · subst q; exact ⟨o, by rw [hU, upd_same], ho⟩
    · rw [hU, upd_ne q]; exact S.avt b hb
  · have q : ∀ b, W.bx b → b ≠ T := fun b hb z => nb (z ▸ hb)
    refine ok.bkst _ _ _ _ ?_ ?_ (S.box p hp)
    · rw [hU, upd_ne (q _ ⟨p, hp, .inl rfl⟩)]
    · rw [hU, upd_ne (q _ ⟨p, hp, .inr rfl⟩)]
end
def DTs (I : SI) (X : Cx) (ifs : List Expr) (t : MT) : Prop := PTs X ifs (tT I X.K t)
theorem pts_imp {X : Cx} {e : List Expr} {t t' : TT} (h : PTs X e t) (k : ∀ σ H Q, t' σ H Q → t σ H Q) : PTs X e t' := ⟨fun pins s σ H Q I q => h.run pins s σ H Q I (k _ _ _ q)⟩
def tTrue : MT := fun _ Q => Q true
theorem dts_nil {I : SI} {X : Cx} : DTs I X [] tTrue := pts_imp pts_nil fun σ H Q ⟨W, ρ, Qd, ok, S, hm, f⟩ => f.here S hm
theorem dts_one {I : SI} {X : Cx} {c : Expr} {t : MT} (h : DT I X c t) : DTs I X [c] t := pts_one h
def mLc (vs : List Nat) (m : MA) (g : MG) (t : MT) (e : ME) : ME := fun ρ Q => m ρ fun ds => ∃ P : Nat → List D → Prop, P 0 [] ∧
  (∀ i d acc, ds[i]? = some d → P i acc → g d (wipeD ρ vs) fun ρ1 => t ρ1 fun c => if c = true then e ρ1 fun y => acc.length < sizeLine ∧ P (i + 1) (acc ++ [y]) else P (i + 1) acc) ∧ ∀ acc, P ds.length acc → Q (.list acc)
theorem lc_run {pr : PR} {I : SI} {X : Cx} {W : DW} {σ : St} {ρ : En} {H : Hp} {Q : VK} {Qd : D → Prop} {m : MA} {g : MG} {t : MT} {e : ME} {vs ts js : List Nat} (ok : WOk I W) (S : SR I W X.K σ H ρ) (hpr : pr W σ H) (hl : ∀ i ∈ I.lk, i ∈ I.own) (hj : ∀ j ∈ js, j ∈ I.own)
    (hv : ∀ v ∈ vs, v ∉ I.own) (hb : ∀ v ∈ vs, I.bs ≠ some v) (hts : ∀ v ∈ ts, v ∈ vs) (hm : mLc vs m g t e ρ Qd) (f : FinF I W X.K σ ρ H Qd Q) :
    tLc (tI pr (I.lock js) X.K m) (tG (I.lock js) X.K ts g) (tT (I.lock js) X.K t) (tD (I.lock js) X.K e) vs σ H Q := by
  refine ⟨W, ρ, _, ok.lock, S.lock, hpr, hm, fun J H1 ds q e1 S1 wk => ?_⟩
  obtain ⟨P, p0, step, last⟩ := q
  intro T hT
  have S1' : SR I W X.K σ H1 ρ := ⟨S1.len, S1.lkd, S1.val, fun i d h n => by
    obtain ⟨a, h1, h2, h3, h4, h5⟩ := S1.own i d h n
    obtain ⟨a', h1', _, _, _, h5'⟩ := S.own i d h n
    rw [h1] at h1'; cases h1'
    exact ⟨a, h1, h2, h3, h4, h5'⟩, S1.inj, S1.fr, S1.avt, S1.box, S1.bsl⟩
  have hl' : ∀ i ∈ (I.lock js).lk, i ∈ (I.lock js).own := fun i hi => (List.mem_append.mp hi).elim (hj i) (hl i)
  have nl : W.L.lookup T = none := S1.lkd.free hT
  have nU : unl W.L H1 T = none := S1.freshU hT
  have nav : ¬ W.av T := fun z => S1'.fresh hT (.inl z)
  have nbx : ¬ W.bx T := fun z => nav (ok.bxav T z)
  have n0 : W.H0 T = none := by
    cases h : W.H0 T with
    | none => rfl
    | some o => have := S1.fr T o h nbx; rw [nU] at this; cases this
  have ok' : WOk (I.lock js) (W.add T) := ok.lock.add T nl
  have SN : SR (I.lock js) (W.add T) X.K σ (upd H1 T (.lst [])) ρ := S1.newAdd ok.lock hT rfl
  have aT : (W.add T).av T := .inr rfl
  -- what stays of the heap at the start
  let St1 : Hp → Prop := fun H' => ∀ b o, unl W.L H1 b = some o → ¬ W.bx b → unl W.L H' b = some o
  refine ⟨fun i mm H' => mm = ds.length - i ∧ i ≤ ds.length ∧ ∃ acc xs, P i acc ∧ SR (I.lock js) (W.add T) X.K σ H' ρ ∧ H' T = some (.lst xs) ∧ xs.length ≤ sizeLine ∧ RepA X.K (avA (W.add T) I.own σ ρ) (unl W.L H') xs acc ∧ St1 H',
    ⟨_, rfl, Nat.zero_le _, [], [], p0, SN, upd_same, Nat.zero_le _, .nil, fun b o h n => by
      rw [unl_upd nl, upd_ne]
      · exact h
      · rintro rfl; rw [nU] at h; cases h⟩, ?_⟩
  rintro i mm H' ⟨rfl, hi, acc, xs, pa, S', hx, hz, ra, st⟩
  by_cases hlt : i < ds.length
  · have hd : ds[i]? = some ds[i] := List.getElem?_eq_getElem hlt
    have SW : SR (I.lock js) (W.add T) X.K (wipeD σ vs) H' (wipeD ρ vs) := S'.wipe hv hb
    -- the turn's thing
    obtain ⟨objs, o1, o2⟩ := wk
    have av1 : ∀ b, ¬ avA W I.own σ ρ b → ¬ W.bx b := fun b n z => n (.inl (ok.bxav b z))
    have cm : Cm (avA W (I.lock js).own σ ρ) (avA (W.add T) (I.lock js).own (wipeD σ vs) (wipeD ρ vs)) (unl W.L H1) (unl W.L H') := by
      refine ⟨fun b o n h z => ?_, fun b u _ n r => rd_up r fun o h => st b o h (av1 b n), fun b ys n h => st b _ h (av1 b n)⟩
      rcases (avA_wipe hv b).mp z with (z | z) | z
      · exact n (.inl z)
      · rw [z, nU] at h; cases h
      · exact n (.inr z)
    obtain ⟨h1, _⟩ := o2 H' _ S'.lkd (fun p hp => by
      obtain ⟨a, n⟩ := o1 p hp
      refine st _ _ a ?_
      rcases n with n | ⟨k, hk, hs, d, hd⟩
      · exact av1 _ n
      · exact S1'.ownbx ok hd (hl' k hk) hs) cm (fun b xs h => SW.tupAv h) i
    obtain ⟨go, yl⟩ := h1 _ hd
    refine .inr ⟨go, fun H5 => i + 1 ≤ ds.length ∧ ∃ acc xs, P (i + 1) acc ∧ SR (I.lock js) (W.add T) X.K σ H5 ρ ∧ H5 T = some (.lst xs) ∧ xs.length ≤ sizeLine ∧ RepA X.K (avA (W.add T) I.own σ ρ) (unl W.L H5) xs acc ∧ St1 H5, fun H5 ⟨h1, w⟩ => ⟨_, by omega, rfl, h1, w⟩, fun x H'' y => ?_⟩
    obtain ⟨S2, e2, r⟩ := YlD.sr (W := W.add T) ok' SW (yl x H'' y)
    rw [wipe_eq]
    refine ⟨W.add T, wipeD ρ vs, ds[i], _, ok', S2, hl', r, step i _ acc hd pa, fun σ3 H3 ρ3 q3 S3 k3 key3 o3 ⟨hH, ln⟩ => ?_⟩
    subst hH
    have w3 : wipeD σ3 vs = wipeD σ vs := wipeD_same (by rw [ln, wipeD_len]) fun j hj => by rw [(o3 j fun z => hj (hts j z)).1, wipeD_out hj]
    refine ⟨by rw [wipe_eq, w3], W.add T, ρ3, _, ok', S3, q3, fun b H4 q4 e4 S4 => ?_⟩
    have hU' : unl W.L H' T = some (.lst xs) := by rw [unl_none nl]; exact hx
    cases b with
    | false =>
      simp only [Bool.false_eq_true, if_false] at q4 ⊢
      have e24 : ∀ b o, unl W.L H' b = some o → ¬ W.bx b → unl W.L H4 b = some o := fun b o h n => e4 b o (e2 b o h n) n
      refine ⟨hlt, acc, xs, q4, S'.back ok' S4 aT fun b o _ => e24 b o, ?_, hz, ra.mono ?_, fun b o h n => e24 b o (st b o h n) n⟩
      · have := e24 T _ hU' nbx
        rw [unl_none nl] at this; exact this
      · have av2 : ∀ b, ¬ avA (W.add T) I.own σ ρ b → ¬ W.bx b := fun b n z => n (.inl (.inl (ok.bxav b z)))
        exact ⟨fun _ _ n _ => n, fun b u _ n r => rd_up r fun o h => e24 b o h (av2 b n), fun b ys n h => e24 b _ h (av2 b n)⟩
    | true =>
      simp only [if_true] at q4 ⊢
      refine ⟨W.add T, ρ3, _, ok', S4, q4, fun yv H5 yd q5 e5 S5 r5 => ?_⟩
      have e25 : ∀ b o, unl W.L H' b = some o → ¬ W.bx b → unl W.L H5 b = some o := fun b o h n => e5 b o (e4 b o (e2 b o h n) n) n
      have hT5 : H5 T = some (.lst xs) := by
        have := e25 T _ hU' nbx
        rw [unl_none nl] at this; exact this
      have S6 : SR (I.lock js) (W.add T) X.K σ H5 ρ := S'.back ok' S5 aT fun b o _ => e25 b o
      have nbx' : ¬ (W.add T).bx T := nbx
      have S7 : SR (I.lock js) (W.add T) X.K σ (upd H5 T (.lst (xs ++ [yv]))) ρ := S6.wrAv ok' aT nbx' n0 nl rfl
      have hU7 : unl W.L (upd H5 T (.lst (xs ++ [yv]))) = upd (unl W.L H5) T (.lst (xs ++ [yv])) := unl_upd nl
      have neT : ∀ b, ¬ avA (W.add T) I.own σ ρ b → b ≠ T := fun b n z => n (.inl (.inr z))
      have av2 : ∀ b, ¬ avA (W.add T) I.own σ ρ b → ¬ W.bx b := fun b n z => n (.inl (.inl (ok.bxav b z)))
      refine ⟨xs, hT5, by rw [ra.len]; exact q5.1, hlt, acc ++ [yd], xs ++ [yv], q5.2, S7, upd_same, ?_, RepA.app (ra.mono ?_) (.cons (r5.mono ?_) .nil), fun b o h n => ?_⟩
      · have := q5.1
        rw [List.length_append, ra.len]; exact this
      · exact ⟨fun _ _ n _ => n, fun b u _ n r => rd_up r fun o h => by rw [hU7, upd_ne (neT b n)]; exact e25 b o h (av2 b n), fun b ys n h => by rw [hU7, upd_ne (neT b n)]; exact e25 b _ h (av2 b n)⟩
      · -- the names of the block are the names of the def, for what is kept back
        have key : ∀ b, avA (W.add T) I.own σ3 ρ3 b ↔ avA (W.add T) I.own σ ρ b := fun b => (key3 b).trans (avA_wipe hv b)
        exact ⟨fun b _ n _ z => n ((key b).mpr z), fun b u _ n r => rd_up r fun o h => by rw [hU7, upd_ne (neT b fun z => n ((key b).mpr z))]; exact h, fun b ys n h => by rw [hU7, upd_ne (neT b fun z => n ((key b).mpr z))]; exact h⟩
      · have hbT : b ≠ T := fun z => by rw [z, nU] at h; cases h
        rw [hU7, upd_ne hbT]
        exact e25 b o (st b o h n) n
  · have e : i = ds.length := by omega
    subst e
    refine .inl ⟨?_, f T H' _ (last _ pa) ?_ ?_ (.lst (by rw [unl_none nl]; exact hx) hz ra) nav n0 nl ?_⟩
    · obtain ⟨objs, o1, o2⟩ := wk
      have av1 : ∀ b, ¬ avA W I.own σ ρ b → ¬ W.bx b := fun b n z => n (.inl (ok.bxav b z))
      refine (o2 H' (avA (W.add T) (I.lock js).own σ ρ) S'.lkd (fun p hp => ?_) ?_ (fun b xs h => S'.tupAv h) _).2 (Nat.le_refl _)
      · obtain ⟨a, n⟩ := o1 p hp
        refine st _ _ a ?_
        rcases n with n | ⟨k, hk, hs, d, hd⟩
        · exact av1 _ n
        · exact S1'.ownbx ok hd (hl' k hk) hs
      · refine ⟨fun b o n h z => ?_, fun b u _ n r => rd_up r fun o h => st b o h (av1 b n), fun b ys n h => st b _ h (av1 b n)⟩
        rcases z with (z | z) | z
        · exact n (.inl z)
        · rw [z, nU] at h; cases h
        · exact n (.inr z)
    · exact fun b o h n => st b o (e1 b o h n) n
    · exact ⟨S'.len, S'.lkd, S'.val, fun i d h n => by
        obtain ⟨a, h1, h2, h3, h4, h5⟩ := S'.own i d h n
        obtain ⟨a', h1', _, _, _, h5'⟩ := S.own i d h n
        rw [h1] at h1'; cases h1'
        exact ⟨a, h1, h2, h3, h4, h5'⟩, S'.inj, S'.fr, S'.avt, S'.box, S'.bsl⟩
    · cases h : unl W.L H T with
      | none => rfl
      | some o => have := e1 T o h nbx; rw [nU] at this; cases this
section
variable {I : SI} {X : Cx} {elt tg iter : Expr} {ifs : List Expr} {scope : Scope} {pos spos py : Pos} {y : Str} {m : MA} {g : MG} {t : MT} {e : ME} {ts : List Nat}
/-- what a comprehension's rule asks of its slots -/
def LcOk (I : SI) (js vs ts : List Nat) : Prop := (∀ j ∈ js, j ∈ I.own) ∧ (∀ v ∈ vs, v ∉ I.own) ∧ (∀ v ∈ vs, I.bs ≠ some v) ∧ ∀ v ∈ ts, v ∈ vs
def tFp (pr : PR) (I : SI) (K : PySem.W.Frag) (m : ME) : TE := fun σ H Q => ∃ W ρ Qd, WOk I W ∧ SR I W K σ H ρ ∧ pr W σ H ∧ m ρ Qd ∧ FinF I W K σ ρ H Qd Q
def DFp (pr : PR) (I : SI) (X : Cx) (e : Expr) (m : ME) : Prop := PE X e (tFp pr I X.K m)
theorem df_noPr {e : Expr} {m : ME} (h : DFp noPr I X e m) : DF I X e m := pe_imp h fun σ H Q ⟨W, ρ, Qd, ok, S, hm, f⟩ => ⟨W, ρ, Qd, ok, S, trivial, hm, f⟩
theorem df_lcP {pr : PR} (own : List (Str × Nat)) (js : List Nat) (hk : LcOk I js (own.map (·.2)) ts) (hl : ∀ i ∈ I.lk, i ∈ I.own) (hc : X.calm = true) (hN : X.N.Nodup) (hi : DI pr (I.lock js) X tg iter m) (ok : BlkOk X.N X.env.scope scope own)
    (hg : ∀ (s : Shared) (H : Hp) (C : Addr) (cl : List (Str × Addr)) (fp : List Addr), DG (I.lock js) (X.blk s H scope (compEnvC scope cl C X.env) fp) tg ts g)
    (ht : ∀ (s : Shared) (H : Hp) (C : Addr) (cl : List (Str × Addr)) (fp : List Addr), DTs (I.lock js) (X.blk s H scope (compEnvC scope cl C X.env) fp) ifs t)
    (he : ∀ (s : Shared) (H : Hp) (C : Addr) (cl : List (Str × Addr)) (fp : List Addr), DE (I.lock js) (X.blk s H scope (compEnvC scope cl C X.env) fp) elt e) (hs : ∀ x, foldedSetIterable iter X.env x = pure x := by intro _; rfl) :
    DFp pr I X (.ListComp elt [⟨tg, iter, ifs, 0⟩] scope pos) (mLc (own.map (·.2)) m g t e) :=
  pe_imp (pe_lc (g := tG (I.lock js) X.K ts g) (tt := tT (I.lock js) X.K t) (te := tD (I.lock js) X.K e) hc hN hi ok hg ht he hs) fun σ H Q ⟨W, ρ, Qd, okW, S, hpr, hm, f⟩ => lc_run okW S hpr hl hk.1 hk.2.1 hk.2.2.1 hk.2.2.2 hm f
theorem df_lc (own : List (Str × Nat)) (js : List Nat) (hk : LcOk I js (own.map (·.2)) ts) (hl : ∀ i ∈ I.lk, i ∈ I.own) (hc : X.calm = true) (hN : X.N.Nodup) (hi : DI noPr (I.lock js) X tg iter m) (ok : BlkOk X.N X.env.scope scope own)
    (hg : ∀ (s : Shared) (H : Hp) (C : Addr) (cl : List (Str × Addr)) (fp : List Addr), DG (I.lock js) (X.blk s H scope (compEnvC scope cl C X.env) fp) tg ts g)
    (ht : ∀ (s : Shared) (H : Hp) (C : Addr) (cl : List (Str × Addr)) (fp : List Addr), DTs (I.lock js) (X.blk s H scope (compEnvC scope cl C X.env) fp) ifs t)
    (he : ∀ (s : Shared) (H : Hp) (C : Addr) (cl : List (Str × Addr)) (fp : List Addr), DE (I.lock js) (X.blk s H scope (compEnvC scope cl C X.env) fp) elt e) (hs : ∀ x, foldedSetIterable iter X.env x = pure x := by intro _; rfl) :
    DF I X (.ListComp elt [⟨tg, iter, ifs, 0⟩] scope pos) (mLc (own.map (·.2)) m g t e) := df_noPr (df_lcP own js hk hl hc hN hi ok hg ht he hs)
theorem ds_setLcO (i : Nat) (own : List (Str × Nat)) (js : List Nat) (hk : LcOk I js (own.map (·.2)) ts) (ho : i ∈ I.own) (hkl : i ∉ I.lk) (hb : I.bs ≠ some i) (hc : X.calm = true) (hN : X.N.Nodup) (hy : X.N[i]? = some y) (hyl : X.env.scope.names.lookup y = some .local)
    (hsw : swapsWith (.ListComp elt [⟨tg, iter, ifs, 0⟩] scope pos) (some (.Name y py)) spos.line X.env = pure true) (hi : DI noPr (I.lock js) X tg iter m) (ok : BlkOk X.N X.env.scope scope own)
    (hg : ∀ (s : Shared) (H : Hp) (C : Addr) (cl : List (Str × Addr)) (fp : List Addr), DG (I.lock js) (X.blk s H scope (compEnvC scope cl C X.env) fp) tg ts g)
    (ht : ∀ (s : Shared) (H : Hp) (C : Addr) (cl : List (Str × Addr)) (fp : List Addr), DTs (I.lock js) (X.blk s H scope (compEnvC scope cl C X.env) fp) ifs t)
    (he : ∀ (s : Shared) (H : Hp) (C : Addr) (cl : List (Str × Addr)) (fp : List Addr), DE (I.lock js) (X.blk s H scope (compEnvC scope cl C X.env) fp) elt e) (hs : ∀ x, foldedSetIterable iter X.env x = pure x := by intro _; rfl) :
    DS I X (.Assign [.Name y py] (.ListComp elt [⟨tg, iter, ifs, 0⟩] scope pos) spos) (sSet i (mLc (own.map (·.2)) m g t e)) :=
  ps_imp (ps_setLc (g := tG (I.lock js) X.K ts g) (tt := tT (I.lock js) X.K t) (te := tD (I.lock js) X.K e) hc hN hy hyl hsw hi ok hg ht he hs) fun D σ H ⟨W, ρ, M, okW, S, hl, hm, E⟩ => lc_run (pr := noPr) okW S trivial hl hk.1 hk.2.1 hk.2.2.1 hk.2.2.2 hm fun p H' d q e1 S1 ow nv n0 nl nf => by
    obtain ⟨S2, key⟩ := S1.setO okW ho hb ow nv n0 nl
    exact E.nx _ _ _ q S2 (Kp.setO okW hl S e1 nf hkl key)
theorem ds_setLcV (i : Nat) (own : List (Str × Nat)) (js : List Nat) (hk : LcOk I js (own.map (·.2)) ts) (ho : i ∉ I.own) (hb : I.bs ≠ some i) (hc : X.calm = true) (hN : X.N.Nodup) (hy : X.N[i]? = some y) (hyl : X.env.scope.names.lookup y = some .local)
    (hsw : swapsWith (.ListComp elt [⟨tg, iter, ifs, 0⟩] scope pos) (some (.Name y py)) spos.line X.env = pure true) (hi : DI noPr (I.lock js) X tg iter m) (ok : BlkOk X.N X.env.scope scope own)
    (hg : ∀ (s : Shared) (H : Hp) (C : Addr) (cl : List (Str × Addr)) (fp : List Addr), DG (I.lock js) (X.blk s H scope (compEnvC scope cl C X.env) fp) tg ts g)
    (ht : ∀ (s : Shared) (H : Hp) (C : Addr) (cl : List (Str × Addr)) (fp : List Addr), DTs (I.lock js) (X.blk s H scope (compEnvC scope cl C X.env) fp) ifs t)
    (he : ∀ (s : Shared) (H : Hp) (C : Addr) (cl : List (Str × Addr)) (fp : List Addr), DE (I.lock js) (X.blk s H scope (compEnvC scope cl C X.env) fp) elt e) (hs : ∀ x, foldedSetIterable iter X.env x = pure x := by intro _; rfl) :
    DS I X (.Assign [.Name y py] (.ListComp elt [⟨tg, iter, ifs, 0⟩] scope pos) spos) (sSet i (mLc (own.map (·.2)) m g t e)) :=
  ps_imp (ps_setLc (g := tG (I.lock js) X.K ts g) (tt := tT (I.lock js) X.K t) (te := tD (I.lock js) X.K e) hc hN hy hyl hsw hi ok hg ht he hs) fun D σ H ⟨W, ρ, M, okW, S, hl, hm, E⟩ => lc_run (pr := noPr) (Qd := fun d => M.nx (ρ.set i (some d))) okW S trivial hl hk.1 hk.2.1 hk.2.2.1 hk.2.2.2 hm (FinE.toF fun v H' d q e1 S1 r => by
    obtain ⟨S2, key⟩ := S1.setV ho hb r
    exact E.nx _ _ _ q S2 ((e1.kp okW S hl).trans (Kp.setV S1 hl ho key)))
end
end PyD
namespace PyD
open PySem PySem.Spec L2
open PyProof.Rows hiding St
section
variable {K : PySem.W.Frag} {av av' : Addr → Prop} {L : List (Addr × Obj × HO)} {H : Hp}
mutual
theorem Rep.low (l : Lkd L H) : ∀ {v : V} {d : D}, Rep K av (unl L H) v d → Rep K av H v d
  | _, _, .non => .non
  | _, _, .bl b => .bl b
  | _, _, .int i => .int i
  | _, _, .str x => .str x
  | _, _, .lst h r z a => .lst h (l.rd r) z (RepA.low l a)
  | _, _, .tup h r z a => .tup h (l.tp r) z (RepA.low l a)
  | _, _, .dcK h r a => .dcK h (l.rd r) (RepK.low l a)
  | _, _, .dcT h r a => .dcT h (l.rd r) (RepT.low l a)
theorem RepA.low (l : Lkd L H) : ∀ {v : List V} {d : List D}, RepA K av (unl L H) v d → RepA K av H v d
  | _, _, .nil => .nil
  | _, _, .cons h t => .cons (Rep.low l h) (RepA.low l t)
theorem RepK.low (l : Lkd L H) : ∀ {v : List (Key × V)} {d : List (D × D)}, RepK K av (unl L H) v d → RepK K av H v d
  | _, _, .nil => .nil
  | _, _, .cons h t => .cons (Rep.low l h) (RepK.low l t)
theorem RepT.low (l : Lkd L H) : ∀ {v : List (List Key × V)} {d : List (D × D)}, RepT K av (unl L H) v d → RepT K av H v d
  | _, _, .nil => .nil
  | _, _, .cons h t => .cons (Rep.low l h) (RepT.low l t)
end
mutual
theorem Rep.high (l : Lkd L H) : ∀ {v : V} {d : D}, Rep K av H v d → Rep K av (unl L H) v d
  | _, _, .non => .non
  | _, _, .bl b => .bl b
  | _, _, .int i => .int i
  | _, _, .str x => .str x
  | _, _, .lst h r z a => .lst h (l.dr rfl r) z (RepA.high l a)
  | _, _, .tup h r z a => .tup h (l.unt r) z (RepA.high l a)
  | _, _, .dcK h r a => .dcK h (l.dr rfl r) (RepK.high l a)
  | _, _, .dcT h r a => .dcT h (l.dr rfl r) (RepT.high l a)
theorem RepA.high (l : Lkd L H) : ∀ {v : List V} {d : List D}, RepA K av H v d → RepA K av (unl L H) v d
  | _, _, .nil => .nil
  | _, _, .cons h t => .cons (Rep.high l h) (RepA.high l t)
theorem RepK.high (l : Lkd L H) : ∀ {v : List (Key × V)} {d : List (D × D)}, RepK K av H v d → RepK K av (unl L H) v d
  | _, _, .nil => .nil
  | _, _, .cons h t => .cons (Rep.high l h) (RepK.high l t)
theorem RepT.high (l : Lkd L H) : ∀ {v : List (List Key × V)} {d : List (D × D)}, RepT K av H v d → RepT K av (unl L H) v d
  | _, _, .nil => .nil
  | _, _, .cons h t => .cons (Rep.high l h) (RepT.high l t)
end
end
abbrev MF := List D → (D → Prop) → Prop
/-- what a def promises: it looks, and hands back a value -/
def spD (K : PySem.W.Frag) (n : Nat) (φ : MF) : Sp := fun vs H Q _ => ∃ (av : Addr → Prop) (ds : List D) (Qd : D → Prop), RepA K av H vs ds ∧ ds.length = n ∧ φ ds Qd ∧ (∀ b, av b → ∃ o, H b = some o ∧ ntup o = true) ∧
  ∀ v H' d, Qd d → (∀ b o, H b = some o → H' b = some o) → Rep K av H' v d → Q v H'
abbrev BK := Hp → Addr → Addr → Prop
def BkSt (bk : BK) : Prop := ∀ H H' a c, H a = H' a → H c = H' c → bk H a c → bk H' a c
/-- .. with the box as the first argument -/
def spB (K : PySem.W.Frag) (bk : BK) (n : Nat) (φ : MF) : Sp := fun vs H Q _ => ∃ (b c : Addr) (av : Addr → Prop) (us : List V) (ds : List D) (Qd : D → Prop), vs = .ref b :: us ∧ RepA K av H us ds ∧ ds.length = n ∧ φ ds Qd ∧ (∀ b, av b → ∃ o, H b = some o ∧ ntup o = true) ∧ av b ∧ av c ∧ bk H b c ∧
  ∀ v H' d, Qd d → (∀ x o, H x = some o → x ≠ b → x ≠ c → H' x = some o) → (∀ x, x = b ∨ x = c → ∃ o, H' x = some o ∧ ntup o = true) → bk H' b c → Rep K av H' v d → Q v H'
def startD (N : List Str) (ds : List (Option D)) : En := ds ++ List.replicate (N.length - ds.length) none
theorem start_get {N : List Str} {vs : List V} {i : Nat} {v : V} (h : vs[i]? = some v) : (L2.start N vs)[i]? = some (some v) := by
  unfold L2.start
  rw [List.getElem?_append_left (by rw [List.length_map]; exact (List.getElem?_eq_some_iff.mp h).1), List.getElem?_map, h]
  rfl
theorem startD_get {N : List Str} {ds : List (Option D)} {i : Nat} {d : D} (h : (startD N ds)[i]? = some (some d)) : ds[i]? = some (some d) := by
  unfold startD at h
  by_cases q : i < ds.length
  · rw [List.getElem?_append_left q] at h; exact h
  · rw [List.getElem?_append_right (by omega), List.getElem?_replicate] at h
    split at h <;> cases h
section
variable {P : Program} {w : World} {K : PySem.W.Frag} {mg : Str → Option Value} {base : Heap}
theorem fnD {x qual : Str} {st : Stmt} {f : Addr} {fd : FuncData} {N ps : List Str} {k : Nat} (F : Fun K x qual st f fd) (S : FnScope N ps (defScope st)) (I : SI) (hbs : I.bs = none) (hlk : I.lk = []) (hown : ∀ i ∈ I.own, ps.length ≤ i) {m : MS} {φ : MF}
    (hb : ∀ (cdv : Value) (A : Around) (outer : List Env) (s : Shared) (H : Hp) (E : XK), Room k (A.deeper (envOfC qual (defScope st) s.heap.objs.size f cdv)) → DSs { I with bk := fun _ _ _ => True } (cxOf CX0 P w K mg base N qual (defScope st) f cdv A outer s H E).nox (defBody st) m)
    (hφ : ∀ ds Q, ds.length = ps.length → φ ds Q → m ⟨fun _ => Q .none, Q, fun _ => False, fun _ => False⟩ (startD N (ds.map some))) : FnOk P w K mg base CX0 (k + 1) f fd ps (spD K ps.length φ) := by
  refine F.ok S (fun vs H Q E ⟨av, ds, Qd, r, hl, _⟩ => by rw [r.len]; exact hl) (fun cdv A outer s H vs Q E hr h => ?_)
  obtain ⟨av, ds, Qd, r, hl, hp, avt, q⟩ := h
  refine ⟨_, hb cdv A outer s H E hr, ⟨H, av, none, []⟩, startD N (ds.map some), _, ?_, ?_, (fun i hi => by have hi : i ∈ I.lk := hi; rw [hlk] at hi; cases hi), hφ ds Qd hl hp, ?_⟩
  · exact ⟨(fun b ⟨p, hp, _⟩ => nomatch hp), fun b _ => rfl, fun _ _ _ _ _ _ _ => trivial⟩
  · have own0 : ∀ i d, i ∈ I.own → (startD N (ds.map some))[i]? ≠ some (some d) := fun i d hi e => by
      have := startD_get e
      rw [List.getElem?_map, List.getElem?_eq_none (by have := hown i hi; omega)] at this
      cases this
    have avS : ∀ b, avA ⟨H, av, none, []⟩ I.own (L2.start N vs) (startD N (ds.map some)) b → av b := by
      rintro b (z | ⟨i, hi, ⟨d, hd⟩, _⟩)
      · exact z
      · exact absurd hd (own0 i d hi)
    refine ⟨?_, fun b u e => (nomatch e), fun i d hd _ => ?_, fun i d hd hi => absurd hd (own0 i d hi), fun i j a hi _ ⟨d, hd⟩ => absurd hd (own0 i d hi), fun b o h _ => h, avt, fun p hp => (nomatch hp), fun i hi => ?_⟩
    · unfold startD L2.start
      rw [List.length_append, List.length_append, List.length_map, List.length_map, List.length_replicate, List.length_replicate, r.len]
    · have e := startD_get hd
      rw [List.getElem?_map, Option.map_eq_some_iff] at e
      obtain ⟨d', e1, e2⟩ := e
      cases e2
      obtain ⟨v, hv, rv⟩ := r.get e1
      exact ⟨v, start_get hv, rv.mono ⟨fun b _ n _ z => n (avS b z), fun _ _ _ _ h => h, fun _ _ _ h => h⟩⟩
    · rw [show ({ I with bk := fun _ _ _ => True } : SI).bs = I.bs from rfl, hbs] at hi; cases hi
  · have fin : ∀ v H' d, Qd d → RetOk ⟨H, av, none, []⟩ { I with bk := fun _ _ _ => True } K H' v d → Q v H' := fun v H' d hd ro => q v H' d hd (fun b o h => ro.fr b o h (fun ⟨p, hp, _⟩ => nomatch hp)) ro.rep
    refine ⟨fun σ' H' ρ' hn S' kp => q .non H' .none hn (fun b o h => S'.fr b o h (fun ⟨p, hp, _⟩ => nomatch hp)) .non, fun v H' d hd ro => q v H' d hd (fun b o h => ro.fr b o h (fun ⟨p, hp, _⟩ => nomatch hp)) ro.rep, fun _ _ _ z => z.elim, fun _ _ _ z => z.elim⟩
theorem fnB {x qual : Str} {st : Stmt} {f : Addr} {fd : FuncData} {N : List Str} {p0 : Str} {ps : List Str} {k : Nat} {bk : BK} (hst : BkSt bk) (F : Fun K x qual st f fd) (S : FnScope N (p0 :: ps) (defScope st)) (I : SI) (hbs : I.bs = some 0) (hlk : I.lk = []) (hown : ∀ i ∈ I.own, ps.length + 1 ≤ i) {m : MS} {φ : MF}
    (hb : ∀ (cdv : Value) (A : Around) (outer : List Env) (s : Shared) (H : Hp) (E : XK), Room k (A.deeper (envOfC qual (defScope st) s.heap.objs.size f cdv)) → DSs { I with bk := bk } (cxOf CX0 P w K mg base N qual (defScope st) f cdv A outer s H E).nox (defBody st) m)
    (hφ : ∀ ds Q, ds.length = ps.length → φ ds Q → m ⟨fun _ => Q .none, Q, fun _ => False, fun _ => False⟩ (startD N (none :: ds.map some))) : FnOk P w K mg base CX0 (k + 1) f fd (p0 :: ps) (spB K bk ps.length φ) := by
  refine F.ok S (fun vs H Q E ⟨b, c, av, us, ds, Qd, e, r, hl, _⟩ => by rw [e, List.length_cons, r.len, List.length_cons, hl]) (fun cdv A outer s H vs Q E hr h => ?_)
  obtain ⟨b, c, av, us, ds, Qd, rfl, r, hl, hp, avt, avb, avc, hk, q⟩ := h
  have isb : ∀ x, DW.bx ⟨H, av, some (b, c), []⟩ x → x = b ∨ x = c := fun x ⟨p, hp, h⟩ => by cases hp; exact h
  have bis : ∀ x, x = b ∨ x = c → DW.bx ⟨H, av, some (b, c), []⟩ x := fun x h => ⟨(b, c), rfl, h⟩
  refine ⟨_, hb cdv A outer s H E hr, ⟨H, av, some (b, c), []⟩, startD N (none :: ds.map some), _, ?_, ?_, (fun i hi => by have hi : i ∈ I.lk := hi; rw [hlk] at hi; cases hi), hφ ds Qd hl hp, ?_⟩
  · exact ⟨fun x h => (isb x h).elim (fun z => z ▸ avb) (fun z => z ▸ avc), fun b _ => rfl, hst⟩
  · have own0 : ∀ i d, i ∈ I.own → (startD N (none :: ds.map some))[i]? ≠ some (some d) := fun i d hi e => by
      have := startD_get e
      rw [List.getElem?_eq_none (by have := hown i hi; rw [List.length_cons, List.length_map]; omega)] at this
      cases this
    have avS : ∀ x, avA ⟨H, av, some (b, c), []⟩ I.own (L2.start N (.ref b :: us)) (startD N (none :: ds.map some)) x → av x := by
      rintro x (z | ⟨i, hi, ⟨d, hd⟩, _⟩)
      · exact z
      · exact absurd hd (own0 i d hi)
    refine ⟨?_, fun b u e => (nomatch e), fun i d hd _ => ?_, fun i d hd hi => absurd hd (own0 i d hi), fun i j a hi _ ⟨d, hd⟩ => absurd hd (own0 i d hi), fun b o h _ => h, avt, fun p hp => ?_, fun i hi => ?_⟩
    · unfold startD L2.start
      rw [List.length_append, List.length_append, List.length_map, List.length_replicate, List.length_replicate, List.length_cons, List.length_cons, List.length_map, r.len]
    · have e := startD_get hd
      cases i with
      | zero => simp at e
      | succ i =>
        rw [List.getElem?_cons_succ, List.getElem?_map, Option.map_eq_some_iff] at e
        obtain ⟨d', e1, e2⟩ := e
        cases e2
        obtain ⟨v, hv, rv⟩ := r.get e1
        exact ⟨v, start_get (by rw [List.getElem?_cons_succ]; exact hv), rv.mono ⟨fun b _ n _ z => n (avS b z), fun _ _ _ _ h => h, fun _ _ _ h => h⟩⟩
    · cases hp; exact hk
    · rw [show ({ I with bk := bk } : SI).bs = I.bs from rfl, hbs] at hi
      cases hi
      exact ⟨_, rfl, start_get (vs := .ref b :: us) rfl⟩
  · refine ⟨fun σ' H' ρ' hn S' kp => q .non H' .none hn (fun x o h n1 n2 => S'.fr x o h fun z => (isb x z).elim n1 n2) (fun x hx => S'.avt x (hx.elim (fun z => z ▸ avb) (fun z => z ▸ avc))) (S'.box _ rfl) .non,
      fun v H' d hd ro => q v H' d hd (fun x o h n1 n2 => ro.fr x o h fun z => (isb x z).elim n1 n2) (fun x hx => ro.bxt x (bis x hx)) (ro.box _ rfl) ro.rep, fun _ _ _ z => z.elim, fun _ _ _ z => z.elim⟩
end
section
variable {I : SI} {W : DW} {K : PySem.W.Frag} {σ : St} {ρ : En} {H H' : Hp}
/-- behind a call that leaves all but the box -/
theorem SR.called (ok : WOk I W) (S : SR I W K σ H ρ) (h : ∀ b o, H b = some o → ¬ W.bx b → H' b = some o) (hb : ∀ p, W.box = some p → I.bk H' p.1 p.2) (ht : ∀ b, W.bx b → ∃ o, H' b = some o ∧ ntup o = true) : SR I W K σ H' ρ ∧ Ex W H H' ∧ Lkd W.L H' := by
  have lk : Lkd W.L H' := fun b u e => by
    obtain ⟨m, q⟩ := S.lkd b u e
    refine ⟨m, h b _ q fun z => ?_⟩
    rw [ok.lbx b z] at e; cases e
  have e : Ex W H H' := fun b o q n => by
    cases el : W.L.lookup b with
    | none => rw [unl_none el] at q ⊢; exact h b o q n
    | some u => rw [unl_some el] at q ⊢; exact q
  refine ⟨S.step ok e lk (fun p hp => ?_) fun b hx => ?_, e, lk⟩
  · refine ok.bkst H' _ _ _ ?_ ?_ (hb p hp)
    · rw [unl_none (ok.lbx _ ⟨p, hp, .inl rfl⟩)]
    · rw [unl_none (ok.lbx _ ⟨p, hp, .inr rfl⟩)]
  · rw [unl_none (ok.lbx b hx)]; exact ht b hx
theorem SR.avtA (S : SR I W K σ H ρ) : ∀ b, avA W I.own σ ρ b → ∃ o, H b = some o ∧ ntup o = true := fun b hb => by
  have raw : ∀ o, unl W.L H b = some o → ntup o = true → ∃ o, H b = some o ∧ ntup o = true := fun o h n => by
    cases el : W.L.lookup b with
    | none => rw [unl_none el] at h; exact ⟨o, h, n⟩
    | some u => obtain ⟨_, q⟩ := S.lkd b u el; exact ⟨_, q, rfl⟩
  rcases hb with hb | ⟨i, hi, ⟨d, hd⟩, hs⟩
  · obtain ⟨o, h, n⟩ := S.avt b hb; exact raw o h n
  · obtain ⟨a, h1, ow, _⟩ := S.own i d hd hi
    rw [hs] at h1; cases h1
    obtain ⟨u, hu, m⟩ := ow.some
    refine raw u hu ?_
    cases u <;> first | rfl | exact m.elim
end
section
variable {I : SI} {X : Cx} {x : Str} {p pos : Pos} {e : Expr} {es : List Expr} {ma : MA} {k : Nat} {f : Addr} {fd : FuncData} {ps : List Str} {n : Nat} {φ : MF} {bk : BK}
def mCall (n : Nat) (φ : MF) (ma : MA) : ME := fun ρ Q => ma ρ fun ds => ds.length = n ∧ φ ds Q
theorem de_call (F : FnOk X.prog X.w X.K X.mg X.base CX0 k f fd ps (spD X.K n φ)) (hr : Room k X.A) (hg : Gl X x) (hm : X.mg x = some (.ref f)) (hk : PySem.W.keepIn X.K (.ref f) = true) (hb : Binds X.K fd ps []) (ha : DAE I X (e :: es) ma)
    (hdb : (x == ("__debug__" : Str)) = false := by decide) (he : starEach (e :: es) X.env = (false, eval e X.env) :: starEach es X.env := by rfl) (hpl : (backTo pos (starEach es X.env)).any (·.1) = false := by rfl) : DE I X (.Call (.Name x p) (e :: es) [] pos) (mCall n φ ma) :=
  pe_imp (pe_call (E := E0) F hr hg hm hk hb .nil pass0 ha hdb he hpl) fun σ H Q ⟨W, ρ, Qd, ok, S, hm, fin⟩ => ⟨W, ρ, _, ok, S, hm, fun vs H1 ds ⟨hl, q⟩ e1 S1 r => by
    show spD X.K n φ (vs ++ []) H1 Q E0
    rw [List.append_nil]
    refine ⟨_, ds, Qd, r.low S1.lkd, hl, q, S1.avtA, fun v H' d hd keep rr => ?_⟩
    have st : ∀ b, W.bx b → unl W.L H1 b = H' b := fun b hb => by
      obtain ⟨o, ho, _⟩ := S1.avt _ (ok.bxav _ hb)
      have ho' := ho
      rw [unl_none (ok.lbx _ hb)] at ho'
      rw [ho, keep _ _ ho']
    obtain ⟨S2, e2, l2⟩ := S1.called ok (fun b o h _ => keep b o h) (fun p hp => ok.bkst _ _ _ _ (st _ ⟨p, hp, .inl rfl⟩) (st _ ⟨p, hp, .inr rfl⟩) (S1.box p hp)) fun b hx => by
      obtain ⟨o, ho, m⟩ := S1.avt _ (ok.bxav _ hx)
      exact ⟨o, by rw [← st b hx]; exact ho, m⟩
    exact fin v H' d hd (e1.trans e2) S2 (rr.high l2)⟩
theorem de_callB (i : Nat) {bx : Str} {pb : Pos} (hbs : I.bs = some i) (hI : I.bk = bk) (hNb : X.N[i]? = some bx) (hvb : Vis X.env.scope bx) (F : FnOk X.prog X.w X.K X.mg X.base CX0 k f fd ps (spB X.K bk n φ)) (hr : Room k X.A) (hg : Gl X x) (hm : X.mg x = some (.ref f)) (hk : PySem.W.keepIn X.K (.ref f) = true) (hb : Binds X.K fd ps [])
    (ha : DAE I X es ma) (hdb : (x == ("__debug__" : Str)) = false := by decide) (hdb1 : (bx == ("__debug__" : Str)) = false := by decide) (hdb2 : (bx == ("__classdict__" : Str)) = false := by decide)
    (he : starEach (.Name bx pb :: es) X.env = (false, eval (.Name bx pb) X.env) :: starEach es X.env := by rfl) (hpl : (backTo pos (starEach es X.env)).any (·.1) = false := by rfl) : DE I X (.Call (.Name x p) (.Name bx pb :: es) [] pos) (mCall n φ ma) :=
  pe_imp (pe_call (E := E0) F hr hg hm hk hb .nil pass0 (pa_cons (pe_var hNb hvb hdb1 hdb2) ha he) hdb he hpl) fun σ H Q ⟨W, ρ, Qd, ok, S, hm, fin⟩ => by
    obtain ⟨⟨b, c⟩, hp, hs⟩ := S.bsl i hbs
    refine ⟨.ref b, hs, W, ρ, _, ok, S, hm, fun us H1 ds ⟨hl, q⟩ e1 S1 r => ?_⟩
    show spB X.K bk n φ ((.ref b :: us) ++ []) H1 Q E0
    rw [List.append_nil]
    have isb : ∀ x, W.bx x → x = b ∨ x = c := fun x ⟨p, hp', h⟩ => by rw [hp] at hp'; cases hp'; exact h
    have bb : W.bx b := ⟨_, hp, .inl rfl⟩
    have bc : W.bx c := ⟨_, hp, .inr rfl⟩
    have nx : ∀ x, W.bx x → unl W.L H1 x = H1 x := fun x hx => unl_none (ok.lbx x hx)
    have hk1 : bk H1 b c := by rw [← hI]; exact ok.bkst _ _ _ _ (nx b bb) (nx c bc) (S1.box _ hp)
    refine ⟨b, c, _, us, ds, Qd, rfl, r.low S1.lkd, hl, q, S1.avtA, .inl (ok.bxav b bb), .inl (ok.bxav c bc), hk1, fun v H' d hd keep bt hk2 rr => ?_⟩
    obtain ⟨S2, e2, l2⟩ := S1.called ok (fun y o h n => keep y o h (fun z => n (z ▸ bb)) fun z => n (z ▸ bc)) (fun p hp' => by rw [hp] at hp'; cases hp'; rw [hI]; exact hk2) fun y hy => bt y (isb y hy)
    exact fin v H' d hd (e1.trans e2) S2 (rr.high l2)
end
end PyD
namespace PyD
open PySem PySem.Spec L2
open PyProof.Rows hiding St
def DW.lk (W : DW) (a : Addr) (od : Obj) (u : HO) : DW := { W with L := (a, od, u) :: W.L }
section
variable {I : SI} {W : DW} {K : PySem.W.Frag} {σ : St} {ρ : En} {H : Hp} {a : Addr} {od : Obj} {u : HO}
theorem lk_at : (W.lk a od u).L.lookup a = some (od, u) := by show List.lookup a ((a, od, u) :: W.L) = _; simp
theorem lk_ne {b : Addr} (h : b ≠ a) : (W.lk a od u).L.lookup b = W.L.lookup b := by
  show List.lookup b ((a, od, u) :: W.L) = _
  rw [List.lookup_cons]
  have : (b == a) = false := by simpa using h
  rw [this]
theorem lk_unl (nl : W.L.lookup a = none) {H' : Hp} : unl (W.lk a od u).L H' = unl W.L (upd H' a u) := by
  funext b
  by_cases e : b = a
  · subst e; rw [unl_some lk_at, unl_none nl, upd_same]
  · cases q : W.L.lookup b with
    | none => rw [unl_none ((lk_ne e).trans q), unl_none q, upd_ne e]
    | some w => rw [unl_some ((lk_ne e).trans q), unl_some q]
theorem upd_self {H' : Hp} {o : HO} (h : H' a = some o) : upd H' a o = H' := by
  funext b
  by_cases e : b = a
  · subst e; rw [upd_same, h]
  · rw [upd_ne e]
theorem upd_upd {H' : Hp} {o o' : HO} : upd (upd H' a o) a o' = upd H' a o' := by
  funext b
  by_cases e : b = a
  · subst e; rw [upd_same, upd_same]
  · rw [upd_ne e, upd_ne e, upd_ne e]
/-- the thing at a is locked -/
theorem SR.lockW {js : List Nat} (S : SR I W K σ H ρ) (nl : W.L.lookup a = none) (ha : H a = some u) (mu : Mut (some u)) (hj : ∀ i ∈ I.own, (∃ d, ρ[i]? = some (some d)) → σ[i]? = some (some (.ref a)) → i ∈ js) :
    SR (I.lock js) (W.lk a od u) K σ (upd H a (.frz od u)) ρ := by
  have e : unl (W.lk a od u).L (upd H a (.frz od u)) = unl W.L H := by rw [lk_unl nl, upd_upd, upd_self ha]
  refine ⟨S.len, fun b w hw => ?_, fun i d h n => ?_, fun i d h n => ?_, S.inj, ?_, ?_, ?_, S.bsl⟩
  · by_cases q : b = a
    · subst q
      rw [lk_at] at hw; cases hw
      exact ⟨mu, upd_same⟩
    · rw [lk_ne q] at hw
      obtain ⟨m, z⟩ := S.lkd b w hw
      exact ⟨m, by rw [upd_ne q]; exact z⟩
  · rw [e]; exact S.val i d h n
  · rw [e]
    obtain ⟨b, h1, h2, h3, h4, h5⟩ := S.own i d h n
    refine ⟨b, h1, h2, h3, h4, fun z => ?_⟩
    have q : b ≠ a := fun y => z (List.mem_append_left _ (hj i n ⟨d, h⟩ (y ▸ h1)))
    rw [lk_ne q]
    exact h5 fun y => z (List.mem_append_right _ y)
  · rw [e]; exact S.fr
  · rw [e]; exact S.avt
  · rw [e]; exact S.box
theorem WOk.lockW {js : List Nat} (ok : WOk I W) (nb : ¬ W.bx a) : WOk (I.lock js) (W.lk a od u) := ⟨ok.bxav, fun b h => by
  have h : W.bx b := h
  have q : b ≠ a := fun z => nb (z ▸ h)
  rw [lk_ne q]; exact ok.lbx b h, ok.bkst⟩
theorem Lkd.unlockW {H' : Hp} (nl : W.L.lookup a = none) (l : Lkd (W.lk a od u).L H') : Lkd W.L (upd H' a u) := fun b w hw => by
  have q : b ≠ a := fun z => by rw [z, nl] at hw; cases hw
  obtain ⟨m, z⟩ := l b w (by rw [lk_ne q]; exact hw)
  exact ⟨m, by rw [upd_ne q]; exact z⟩
theorem SR.unlockW {js : List Nat} {σ0 : St} {ρ0 : En} {H0 H' : Hp} (nl : W.L.lookup a = none) (S0 : SR I W K σ0 H0 ρ0) (hσ : ∀ i ∈ js, σ[i]? = σ0[i]? ∧ ρ[i]? = ρ0[i]?) (S : SR (I.lock js) (W.lk a od u) K σ H' ρ) : SR I W K σ (upd H' a u) ρ := by
  have e : unl W.L (upd H' a u) = unl (W.lk a od u).L H' := (lk_unl nl).symm
  refine ⟨S.len, S.lkd.unlockW nl, fun i d h n => ?_, fun i d h n => ?_, S.inj, ?_, ?_, ?_, S.bsl⟩
  · rw [e]; exact S.val i d h n
  · rw [e]
    obtain ⟨b, h1, h2, h3, h4, h5⟩ := S.own i d h n
    refine ⟨b, h1, h2, h3, h4, fun z => ?_⟩
    by_cases q : i ∈ js
    · obtain ⟨q1, q2⟩ := hσ i q
      rw [q1] at h1
      rw [q2] at h
      obtain ⟨b', h1', _, _, _, h5'⟩ := S0.own i d h n
      rw [h1] at h1'; cases h1'
      exact h5' z
    · have := h5 fun y => (List.mem_append.mp y).elim q z
      by_cases w : b = a
      · rw [w]; exact nl
      · rw [lk_ne w] at this; exact this
  · rw [e]; exact S.fr
  · rw [e]; exact S.avt
  · rw [e]; exact S.box
end
theorem pe_orLock {X : Cx} {e : Expr} {t : TE} (h : PE X e t) : PE X e (fun σ H Q => t σ H Q ∨ tLockE t σ H Q) := ⟨fun pins s σ H Q I hw => hw.elim (fun q => h.run pins s σ H Q I q) fun q => (pe_lock h).run pins s σ H Q I q⟩
theorem ps_orLock {X : Cx} {st : Stmt} {t : TS} (h : PS X st t) : PS X st (fun D σ H => t D σ H ∨ tLock t D σ H) := ⟨fun pins s σ H D I hw => hw.elim (fun q => h.run pins s σ H D I q) fun q => (ps_lock h).run pins s σ H D I q⟩
/-- slot i holds a dict -/
def hasD (i : Nat) (ρ : En) : Prop := ∃ es, ρ[i]? = some (some (.dict es))
def mLk (i : Nat) (m : ME) : ME := fun ρ Q => hasD i ρ ∧ m ρ Q
def mLkS (i : Nat) (m : MS) : MS := fun M ρ => hasD i ρ ∧ m M ρ
/-- where it stands: it is to be locked, or it is locked -/
theorem dict_at {I : SI} {W : DW} {K : PySem.W.Frag} {σ : St} {ρ : En} {H : Hp} {i : Nat} (ok : WOk I W) (S : SR I W K σ H ρ) (h : hasD i ρ) :
    ∃ a u, σ[i]? = some (some (.ref a)) ∧ ¬ W.bx a ∧ Mut (some u) ∧ ((W.L.lookup a = none ∧ H a = some u) ∨ ∃ o, H a = some (.frz o u)) ∧ (i ∈ I.own ∨ ¬ avA W I.own σ ρ a) := by
  obtain ⟨es, hd⟩ := h
  have fin : ∀ a u, Rd (unl W.L H) a u → Mut (some u) → (W.L.lookup a = none ∧ H a = some u) ∨ ∃ o, H a = some (.frz o u) := fun a u r mu => by
    cases el : W.L.lookup a with
    | none =>
      rcases r with r | ⟨o, r⟩
      · rw [unl_none el] at r; exact .inl ⟨rfl, r⟩
      · rw [unl_none el] at r; exact .inr ⟨o, r⟩
    | some w =>
      obtain ⟨mw, hw⟩ := S.lkd a w el
      rcases r with r | ⟨o, r⟩
      · rw [unl_some el] at r; rw [Option.some.inj r] at hw; exact .inr ⟨_, hw⟩
      · rw [unl_some el] at r; rw [Option.some.inj r] at mw; exact mw.elim
  by_cases ho : i ∈ I.own
  · obtain ⟨a, hs, ow, _⟩ := S.own i _ hd ho
    have nb := S.ownbx ok hd ho hs
    cases ow with
    | dcK r q => exact ⟨a, .dK _, hs, nb, trivial, fin a _ (.inl r) trivial, .inl ho⟩
    | dcT r q => exact ⟨a, .dT _, hs, nb, trivial, fin a _ (.inl r) trivial, .inl ho⟩
  · obtain ⟨v, hs, rv⟩ := S.val i _ hd ho
    cases rv with
    | dcK n r q => exact ⟨_, .dK _, hs, fun z => n (.inl (ok.bxav _ z)), trivial, fin _ _ r trivial, .inr n⟩
    | dcT n r q => exact ⟨_, .dT _, hs, fun z => n (.inl (ok.bxav _ z)), trivial, fin _ _ r trivial, .inr n⟩
/-- the dict in slot i is frozen, whoever froze it -/
def isFz (i : Nat) : PR := fun W σ H => ∃ a o u, σ[i]? = some (some (.ref a)) ∧ Mut (some u) ∧ H a = some (.frz o u)
theorem df_lk {I : SI} {X : Cx} {e : Expr} {m : ME} (i : Nat) (js : List Nat) (hi0 : i ∈ I.own → i ∈ js) (h : DFp (isFz i) (I.lock js) X e m) : DF I X e (mLk i m) :=
  pe_imp (pe_orLock h) fun σ H Q ⟨W, ρ, Qd, ok, S, hm, f⟩ => by
    obtain ⟨hD, hm⟩ := hm
    obtain ⟨a, u, hs, nb, mu, hz | ⟨o, hz⟩, hown⟩ := dict_at ok S hD
    · obtain ⟨nl, hz⟩ := hz
      refine .inr ⟨a, u, hz, mu, fun od => ?_⟩
      have hj : ∀ j ∈ I.own, (∃ d, ρ[j]? = some (some d)) → σ[j]? = some (some (.ref a)) → j ∈ js := fun j hj hd hs' => by
        rcases hown with hi | hi
        · obtain ⟨es, hD⟩ := hD
          rw [S.inj j i a hj hi hd ⟨_, hD⟩ hs' hs]; exact hi0 hi
        · exact absurd (.inr ⟨j, hj, hd, hs'⟩) hi
      have S1 := S.lockW (od := od) nl hz mu hj
      have eU : unl (W.lk a od u).L (upd H a (.frz od u)) = unl W.L H := by rw [lk_unl nl, upd_upd, upd_self hz]
      refine ⟨W.lk a od u, ρ, Qd, ok.lockW nb, S1, ⟨a, od, u, hs, mu, upd_same⟩, hm, fun p H' d q e1 S2 ow nv n0 nlp nf => ?_⟩
      have hfz : H' a = some (.frz od u) := (S2.lkd a _ lk_at).2
      have nlp' : W.L.lookup p = none := by
        by_cases z : p = a
        · rw [z]; exact nl
        · rw [lk_ne z] at nlp; exact nlp
      have eU' : unl (W.lk a od u).L H' = unl W.L (upd H' a u) := lk_unl nl
      have nl' : (W.add p).L.lookup a = none := nl
      have S2' : SR (I.lock js) ((W.add p).lk a od u) X.K σ H' ρ := S2
      refine ⟨hfz, f p _ d q (fun b o hb nbx => ?_) ?_ ?_ nv n0 nlp' ?_⟩
      · rw [← eU']; exact e1 b o (by rw [eU]; exact hb) nbx
      · -- the names as they were
        refine ⟨S2.len, S2'.lkd.unlockW nl', fun j d hd n => ?_, fun j d hd n => ?_, S2.inj, ?_, ?_, ?_, S2.bsl⟩
        · rw [show unl (W.add p).L (upd H' a u) = unl (W.lk a od u).L H' from eU'.symm]; exact S2.val j d hd n
        · rw [show unl (W.add p).L (upd H' a u) = unl (W.lk a od u).L H' from eU'.symm]
          obtain ⟨b, h1, h2, h3, h4, h5⟩ := S2.own j d hd n
          obtain ⟨b', h1', _, _, _, h5'⟩ := S.own j d hd n
          rw [h1] at h1'; cases h1'
          exact ⟨b, h1, h2, h3, h4, h5'⟩
        · rw [show unl (W.add p).L (upd H' a u) = unl (W.lk a od u).L H' from eU'.symm]; exact S2.fr
        · rw [show unl (W.add p).L (upd H' a u) = unl (W.lk a od u).L H' from eU'.symm]; exact S2.avt
        · rw [show unl (W.add p).L (upd H' a u) = unl (W.lk a od u).L H' from eU'.symm]; exact S2.box
      · rw [← eU']; exact ow
      · rw [← eU]; exact nf
    · refine .inl ⟨W, ρ, Qd, ok.lock, S.lock, ⟨a, o, u, hs, mu, hz⟩, hm, fun p H' d q e1 S2 ow nv n0 nlp nf => f p H' d q e1 ?_ ow nv n0 nlp nf⟩
      exact ⟨S2.len, S2.lkd, S2.val, fun j d hd n => by
        obtain ⟨b, h1, h2, h3, h4, h5⟩ := S2.own j d hd n
        obtain ⟨b', h1', _, _, _, h5'⟩ := S.own j d hd n
        rw [h1] at h1'; cases h1'
        exact ⟨b, h1, h2, h3, h4, h5'⟩, S2.inj, S2.fr, S2.avt, S2.box, S2.bsl⟩
theorem ds_lk {I : SI} {X : Cx} {st : Stmt} {m : MS} (i : Nat) (js : List Nat) (hjs : ∀ j ∈ js, j ∈ I.own) (hi0 : i ∈ I.own → i ∈ js) (h : DSp (isFz i) (I.lock js) X st m) : DS I X st (mLkS i m) :=
  ps_imp (ps_orLock h) fun D σ H ⟨W, ρ, M, ok, S, hl, hm, E⟩ => by
    obtain ⟨hD, hm⟩ := hm
    have hl' : ∀ j ∈ (I.lock js).lk, j ∈ (I.lock js).own := fun j hj => (List.mem_append.mp hj).elim (hjs j) (hl j)
    obtain ⟨a, u, hs, nb, mu, hz | ⟨o, hz⟩, hown⟩ := dict_at ok S hD
    · obtain ⟨nl, hz⟩ := hz
      refine .inr ⟨a, u, hz, mu, fun od => ?_⟩
      have hj : ∀ j ∈ I.own, (∃ d, ρ[j]? = some (some d)) → σ[j]? = some (some (.ref a)) → j ∈ js := fun j hj hd hs' => by
        rcases hown with hi | hi
        · obtain ⟨es, hD⟩ := hD
          rw [S.inj j i a hj hi hd ⟨_, hD⟩ hs' hs]; exact hi0 hi
        · exact absurd (.inr ⟨j, hj, hd, hs'⟩) hi
      have S1 := S.lockW (od := od) nl hz mu hj
      have eU : unl (W.lk a od u).L (upd H a (.frz od u)) = unl W.L H := by rw [lk_unl nl, upd_upd, upd_self hz]
      refine ⟨W.lk a od u, ρ, M, ok.lockW nb, S1, ⟨a, od, u, hs, mu, upd_same⟩, hl', hm, ?_⟩
      have bk : ∀ (σ' : St) (H' : Hp) (ρ' : En), SR (I.lock js) (W.lk a od u) X.K σ' H' ρ' → Kp (I.lock js) (W.lk a od u) σ ρ (upd H a (.frz od u)) σ' ρ' H' → H' a = some (.frz od u) ∧ SR I W X.K σ' (upd H' a u) ρ' ∧ Kp I W σ ρ H σ' ρ' (upd H' a u) := fun σ' H' ρ' S2 k2 => by
        refine ⟨(S2.lkd a _ lk_at).2, SR.unlockW nl S (fun j hj => ?_) S2, fun b o n hb => ?_, fun j hj => ?_⟩
        · obtain ⟨q1, q2, _⟩ := k2.lk j (List.mem_append_left _ hj); exact ⟨q2, q1⟩
        · have := k2.st b o n (by rw [eU]; exact hb)
          rw [lk_unl nl] at this; exact this
        · obtain ⟨q1, q2, q3⟩ := k2.lk j (List.mem_append_right _ hj)
          refine ⟨q1, q2, fun hd b hb => ?_⟩
          have := q3 hd b hb
          rw [eU, lk_unl nl] at this; exact this
      refine ⟨fun σ' H' ρ' hn S2 k2 => ?_, fun v H' d hr ro => ?_, fun σ' H' ρ' hn S2 k2 => ?_, fun σ' H' ρ' hn S2 k2 => ?_⟩
      · obtain ⟨q1, q2, q3⟩ := bk _ _ _ S2 k2; exact ⟨q1, E.nx _ _ _ hn q2 q3⟩
      · have e : unl (W.lk a od u).L H' = unl W.L (upd H' a u) := lk_unl nl
        refine ⟨(ro.lkd a _ lk_at).2, E.rt v _ d hr ⟨?_, ro.lkd.unlockW nl, ?_, ?_, ?_⟩⟩
        · rw [← e]; exact ro.rep
        · rw [← e]; exact ro.fr
        · rw [← e]; exact ro.box
        · rw [← e]; exact ro.bxt
      · obtain ⟨q1, q2, q3⟩ := bk _ _ _ S2 k2; exact ⟨q1, E.bk _ _ _ hn q2 q3⟩
      · obtain ⟨q1, q2, q3⟩ := bk _ _ _ S2 k2; exact ⟨q1, E.ct _ _ _ hn q2 q3⟩
    · refine .inl ⟨W, ρ, M, ok.lock, S.lock, ⟨a, o, u, hs, mu, hz⟩, hl', hm, ?_⟩
      exact ⟨fun σ' H' ρ' hn S2 k2 => E.nx _ _ _ hn (S.unlock k2 S2) k2.unlock, fun v H' d hr ro => E.rt v H' d hr ⟨ro.rep, ro.lkd, ro.fr, ro.box, ro.bxt⟩,
        fun σ' H' ρ' hn S2 k2 => E.bk _ _ _ hn (S.unlock k2 S2) k2.unlock, fun σ' H' ρ' hn S2 k2 => E.ct _ _ _ hn (S.unlock k2 S2) k2.unlock⟩
def keySz : D → Prop
  | .tuple ks => ks.length ≤ sizeLine
  | _ => True
def aKeys (i : Nat) : MA := fun ρ Q => match ρ[i]? with
  | some (some (.dict ((.none, .none) :: es))) => Q (es.map (·.1))
  | some (some (.dict ((.none, .bool true) :: es))) => (∀ p ∈ es, keySz p.1) ∧ Q (es.map (·.1))
  | _ => False
theorem RepK.at {K : PySem.W.Frag} {av : Addr → Prop} {H : Hp} : ∀ {kvs : List (Key × V)} {es : List (D × D)}, RepK K av H kvs es → ∀ {i : Nat} {p : D × D}, es[i]? = some p → ∃ k v, kvs[i]? = some (k, v) ∧ p.1 = keyD k ∧ Rep K av H v p.2
  | _, _, .nil, _, _, h => by simp at h
  | _, _, .cons r t, 0, _, h => by simp at h; subst h; exact ⟨_, _, rfl, rfl, r⟩
  | _, _, .cons r t, i + 1, _, h => by
    obtain ⟨k, v, h1, h2⟩ := RepK.at t (i := i) (by simpa using h)
    exact ⟨k, v, by simpa using h1, h2⟩
theorem RepT.at {K : PySem.W.Frag} {av : Addr → Prop} {H : Hp} : ∀ {kvs : List (List Key × V)} {es : List (D × D)}, RepT K av H kvs es → ∀ {i : Nat} {p : D × D}, es[i]? = some p → ∃ k v, kvs[i]? = some (k, v) ∧ p.1 = .tuple (k.map keyD) ∧ Rep K av H v p.2
  | _, _, .nil, _, _, h => by simp at h
  | _, _, .cons r t, 0, _, h => by simp at h; subst h; exact ⟨_, _, rfl, rfl, r⟩
  | _, _, .cons r t, i + 1, _, h => by
    obtain ⟨k, v, h1, h2⟩ := RepT.at t (i := i) (by simpa using h)
    exact ⟨k, v, by simpa using h1, h2⟩
section
variable {I : SI} {W : DW} {K : PySem.W.Frag} {σ : St} {ρ : En} {H : Hp} {i : Nat} {a : Addr} {o : Obj} {u w : HO}
theorem fz_is (S : SR I W K σ H ρ) (hz : H a = some (.frz o u)) (r : Rd (unl W.L H) a w) (hw : nf w = true) : u = w := by
  rcases S.lkd.rd r with r | ⟨o', r⟩
  · rw [hz] at r; cases r; simp [nf] at hw
  · rw [hz] at r; cases r; rfl
/-- a frozen thing stays -/
theorem fz_keep (S : SR I W K σ H ρ) (hz : H a = some (.frz o u)) (mu : Mut (some u)) (n : i ∈ I.own → False ∨ unl W.L H a = some u) (nav : i ∈ I.own ∨ ¬ avA W I.own σ ρ a) :
    ∃ objs : List (Addr × HO), (∀ p ∈ objs, unl W.L H p.1 = some p.2 ∧ (¬ avA W I.own σ ρ p.1 ∨ ∃ i ∈ I.lk, σ[i]? = some (some (.ref p.1)) ∧ ∃ d, ρ[i]? = some (some d))) ∧ ∀ H', Lkd W.L H' → (∀ p ∈ objs, unl W.L H' p.1 = some p.2) → H' a = some (.frz o u) := by
  cases el : W.L.lookup a with
  | some q =>
    obtain ⟨m, hq⟩ := S.lkd a q el
    rw [hz] at hq
    obtain ⟨q1, q2⟩ := q
    cases hq
    exact ⟨[], (fun p hp => nomatch hp), fun H' l _ => (l a _ el).2⟩
  | none =>
    have hU : unl W.L H a = some (.frz o u) := by rw [unl_none el]; exact hz
    refine ⟨[(a, .frz o u)], fun p hp => ?_, fun H' l h => ?_⟩
    · rw [List.mem_singleton] at hp; subst hp
      refine ⟨hU, .inl ?_⟩
      rcases nav with z | z
      · rcases n z with q | q
        · exact q.elim
        · rw [hU] at q; rw [← Option.some.inj q] at mu; exact mu.elim
      · exact z
    · have := h _ (List.mem_singleton.mpr rfl)
      rw [unl_none el] at this; exact this
theorem slot_dict {d : D} (ok : WOk I W) (S : SR I W K σ H ρ) (hd : ρ[i]? = some (some d)) (hs : σ[i]? = some (some (.ref a))) : (Top K W.bx (avA W I.own σ ρ) (unl W.L H) (.ref a) d) ∧ (i ∈ I.own → ∃ w, unl W.L H a = some w ∧ Mut (some w)) ∧ (i ∈ I.own ∨ Rep K (avA W I.own σ ρ) (unl W.L H) (.ref a) d) := by
  by_cases ho : i ∈ I.own
  · obtain ⟨b, hb, ow, _⟩ := S.own i d hd ho
    rw [hs] at hb; cases hb
    exact ⟨ow.top (S.ownbx ok hd ho hs), fun _ => ow.some, .inl ho⟩
  · obtain ⟨v, hv, r⟩ := S.val i d hd ho
    rw [hs] at hv; cases hv
    exact ⟨.rep r, fun z => absurd z ho, .inr r⟩
end
theorem di_keys {I : SI} {X : Cx} {tg : Expr} {x : Str} {pos : Pos} (i : Nat) (hN : X.N[i]? = some x) (hv : Vis X.env.scope x) (hd : (x == ("__debug__" : Str)) = false := by decide) (hcd : (x == ("__classdict__" : Str)) = false := by decide) : DI (isFz i) I X tg (.Name x pos) (aKeys i) :=
  pi_imp (pi_keys (pe_var hN hv hd hcd)) fun σ H R ⟨W, ρ, Qd, ok, S, ⟨a, o, u, hs, mu, hz⟩, hm, f⟩ => by
    refine ⟨.ref a, hs, a, o, rfl, ?_⟩
    unfold aKeys at hm
    split at hm
    · rename_i es hρ
      obtain ⟨tp, h1, h2⟩ := slot_dict ok S hρ hs
      obtain ⟨a', kvs, ea, r, q⟩ := tp.dictK
      cases ea
      obtain rfl := fz_is S hz r rfl
      obtain ⟨objs, o1, o2⟩ := fz_keep (i := i) S hz mu (fun ho => by obtain ⟨w, hw, mw⟩ := h1 ho; rcases r with r | ⟨o', r⟩; exact .inr r; rw [hw] at r; rw [Option.some.inj r] at mw; exact mw.elim)
        (h2.imp id fun r => by cases r with | dcK n _ _ => exact n)
      refine .inl ⟨kvs, hz, f _ _ _ hm (Ex.refl W H) S ⟨objs, o1, fun H' av' l hp c tv j => ⟨fun d hd => ?_, fun h => ⟨o2 H' l hp, by rw [q.len]; rw [List.length_map] at h; exact h⟩⟩⟩⟩
      rw [List.getElem?_map, Option.map_eq_some_iff] at hd
      obtain ⟨p, hp1, rfl⟩ := hd
      obtain ⟨k, v, hk, e1, rv⟩ := q.at hp1
      refine ⟨⟨o2 H' l hp, (List.getElem?_eq_some_iff.mp hk).1⟩, fun y H'' ⟨e2, k', v', hk', e3⟩ => ?_⟩
      rw [hk] at hk'; cases hk'
      exact .inl ⟨e2, by rw [e3, e1]; exact keyRep k⟩
    · rename_i es hρ
      obtain ⟨tp, h1, h2⟩ := slot_dict ok S hρ hs
      obtain ⟨a', kvs, ea, r, q⟩ := tp.dictT
      cases ea
      obtain rfl := fz_is S hz r rfl
      obtain ⟨objs, o1, o2⟩ := fz_keep (i := i) S hz mu (fun ho => by obtain ⟨w, hw, mw⟩ := h1 ho; rcases r with r | ⟨o', r⟩; exact .inr r; rw [hw] at r; rw [Option.some.inj r] at mw; exact mw.elim)
        (h2.imp id fun r => by cases r with | dcT n _ _ => exact n)
      refine .inr ⟨kvs, hz, f _ _ _ hm.2 (Ex.refl W H) S ⟨objs, o1, fun H' av' l hp c tv j => ⟨fun d hd => ?_, fun h => ⟨o2 H' l hp, by rw [q.len]; rw [List.length_map] at h; exact h⟩⟩⟩⟩
      rw [List.getElem?_map, Option.map_eq_some_iff] at hd
      obtain ⟨p, hp1, rfl⟩ := hd
      obtain ⟨k, v, hk, e1, rv⟩ := q.at hp1
      have hsz := hm.1 p (List.mem_of_getElem? hp1)
      rw [e1] at hsz
      refine ⟨⟨o2 H' l hp, (List.getElem?_eq_some_iff.mp hk).1⟩, fun y H'' ⟨e2, k', v', b, hk', e3, hb⟩ => ?_⟩
      rw [hk] at hk'; cases hk'
      have hb' := l.unt hb
      refine .inl ⟨e2, ?_⟩
      rw [e3, e1]
      exact .tup (tv b _ hb') hb' (by rw [List.length_map]; simpa [keySz] using hsz) (keysRep k)
    · exact hm.elim
end PyD
namespace PyD
open PySem PySem.Spec L2
open PyProof.Rows hiding St
def tyN : D → Option String
  | .none => some "NoneType"
  | .bool _ => some "bool"
  | .int _ => some "int"
  | .str _ => some "str"
  | .list _ => some "list"
  | .tuple _ => some "tuple"
  | .dict ((.none, .none) :: _) => some "dict"
  | _ => none
def isaB (a b : String) : Bool := a == b || (a == "bool" && b == "int")
theorem kit_all : ∀ a ∈ ["NoneType", "bool", "int", "str", "list", "tuple", "dict"], ∀ b ∈ ["tuple", "list", "bool", "int", "str", "dict"], kitB a b = some (isaB a b) := by decide +kernel
def pIsa (T : String) (d : D) (Q : D → Prop) : Prop := match tyN d with
  | some a => Q (.bool (isaB a T))
  | none => False
section
variable {I : SI} {X : Cx} {e : Expr} {m : ME} {pos p p2 : Pos} {T : Str}
theorem de_isa {N : String} (hT : N ∈ ["tuple", "list", "bool", "int", "str", "dict"]) (h : DB I X e m) (hg : Gl X "isinstance") (hm : X.mg "isinstance" = none) (hgT : Gl X T) (hmT : X.mg T = none) (hvT : bootBuiltins T = some (.type N)) (hn : T ≠ "__name__" := by decide) (hdb : (T == ("__debug__" : Str)) = false := by decide)
    (he : starEach [e, .Name T p2] X.env = (false, eval e X.env) :: starEach [.Name T p2] X.env := by rfl) (he2 : starEach [.Name T p2] X.env = (false, eval (.Name T p2) X.env) :: starEach [] X.env := by rfl) (hpl : (backTo pos (starEach [.Name T p2] X.env)).any (·.1) = false := by rfl) :
    DE I X (.Call (.Name "isinstance" p) [e, .Name T p2] [] pos) (m1 (pIsa N) m) :=
  pe_imp (pe_callB call_isi hg hm boot_isinstance (pa_cons h (pa_cons (pe_bltn (v := .ty N) hgT hmT hvT rfl hn hdb) pa_nil he2) he) (by decide) (by decide) he hpl) fun σ H Q ⟨W, ρ, Qd, ok, S, hm, f⟩ => ⟨W, ρ, _, ok, S, hm, fun v H1 d q e1 S1 t => by
    unfold pIsa at q
    split at q
    · rename_i a ha
      have fin : ∀ (mem : a ∈ ["NoneType", "bool", "int", "str", "list", "tuple", "dict"]), TyX X.K H1 v (.type a) → rIsi X.K [v, .ty N] H1 Q := fun mem ty =>
        ⟨v, .ty N, .type a, .type N, isaB a N, rfl, .ty N, ty, kit_ty (kit_all a mem N hT), f _ H1 _ q e1 S1 (.bl _)⟩
      unfold tyN at ha
      split at ha <;> cases ha
      · cases t.none; exact fin (by decide) (.base .non)
      · cases t.bool; exact fin (by decide) (.base (.bl _))
      · cases t.int; exact fin (by decide) (.base (.int _))
      · cases t.str; exact fin (by decide) (.base (.str _))
      · obtain ⟨b, xs, rfl, r, _, _⟩ := t.list
        rcases S1.lkd.rd r with r | ⟨o, r⟩
        · exact fin (by decide) (.base (.lst r))
        · exact fin (by decide) (.base (.frz r))
      · obtain ⟨b, xs, rfl, r, _, _⟩ := t.tuple
        rcases r with r | ⟨o, its, n, hk, hc, _⟩
        · exact fin (by decide) (.base (.tup (S1.lkd.tp r)))
        · exact fin (by decide) (.kTuple hk hc)
      · obtain ⟨b, kvs, rfl, r, _⟩ := t.dictK
        rcases S1.lkd.rd r with r | ⟨o, r⟩
        · exact fin (by decide) (.base (.dK r))
        · exact fin (by decide) (.fDict r)
    · exact q.elim⟩
def tTru (m : ME) : MT := fun ρ Q => m ρ fun d => match d with
  | .int i => Q (i != 0)
  | .bool b => Q b
  | .none => Q false
  | .list ds => Q (!ds.isEmpty)
  | .tuple ds => Q (!ds.isEmpty)
  | .str x => x.length ≤ sizeLine ∧ Q ((x.length : Int) != 0)
  | _ => False
theorem dt_tru (h : DB I X e m) (he : ∀ whole, isTrue e X.env whole = (do let v ← whole; standAt e.pos; holding [v] (truthy v)) := by intro _; rfl) : DT I X e (tTru m) :=
  pt_imp (pt_truth h he) fun σ H Q ⟨W, ρ, Qd, ok, S, hm, f⟩ => ⟨W, ρ, _, ok, S, hm, fun v H1 d q e1 S1 t => by
    split at q
    · cases t.int; exact ⟨_, rfl, f _ _ q e1 S1⟩
    · cases t.bool; exact ⟨_, rfl, f _ _ q e1 S1⟩
    · cases t.none; exact ⟨_, rfl, f _ _ q e1 S1⟩
    · obtain ⟨b, xs, rfl, r, _, ra⟩ := t.list
      exact ⟨_, .inl ⟨xs, S1.sqL r, rfl⟩, f _ _ (by cases ra <;> exact q) e1 S1⟩
    · obtain ⟨b, xs, rfl, r, _, ra⟩ := t.tuple
      exact ⟨_, .inr (.inl ⟨xs, S1.sqT r, rfl⟩), f _ _ (by cases ra <;> exact q) e1 S1⟩
    · cases t.str; exact ⟨_, ⟨q.1, rfl⟩, f _ _ q.2 e1 S1⟩
    · exact q.elim⟩
end
abbrev MO := En → (Option Int → Prop) → Prop
def tO (I : SI) (K : PySem.W.Frag) (m : MO) : TO := fun σ H Q => ∃ W ρ Qo, WOk I W ∧ SR I W K σ H ρ ∧ m ρ Qo ∧ ∀ o H', Qo o → Ex W H H' → SR I W K σ H' ρ → Q o H'
def DO (I : SI) (X : Cx) (e : Option Expr) (m : MO) : Prop := PO X e (tO I X.K m)
theorem po_imp {X : Cx} {e : Option Expr} {t t' : TO} (h : PO X e t) (k : ∀ σ H Q, t' σ H Q → t σ H Q) : PO X e t' := ⟨fun pins s σ H Q I q => h.run pins s σ H Q I (k _ _ _ q)⟩
def oNone : MO := fun _ Q => Q none
def oSome (m : ME) : MO := fun ρ Q => m ρ fun d => match d with
  | .int i => Q (some i)
  | _ => False
def cutD (ds : List D) (lo hi : Option Int) : List D := (ds.drop (HT.sIx ds.length 0 lo)).take (HT.sIx ds.length ds.length hi - HT.sIx ds.length 0 lo)
def pSl (m : ME) (l h : MO) : ME := fun ρ Q => m ρ fun d => l ρ fun a => h ρ fun b => match d with
  | .list ds => Q (.list (cutD ds a b))
  | .tuple ds => Q (.tuple (cutD ds a b))
  | .str x => x.length ≤ sizeLine ∧ Q (.str (cutS x a b))
  | _ => False
def pSlL (m : ME) (l h : MO) : ME := fun ρ Q => m ρ fun d => l ρ fun a => h ρ fun b => match d with
  | .list ds => Q (.list (cutD ds a b))
  | _ => False
section
variable {I : SI} {X : Cx} {e : Expr} {m : ME} {pos p p2 : Pos} {lo hi : Option Expr} {ml mh : MO}
theorem do_none : DO I X none oNone := po_imp po_none fun σ H Q ⟨W, ρ, Qo, ok, S, hm, f⟩ => f none H hm (Ex.refl W H) S
theorem do_some (h : DE I X e m) : DO I X (some e) (oSome m) := po_imp (po_some h) fun σ H Q ⟨W, ρ, Qo, ok, S, hm, f⟩ => ⟨W, ρ, _, ok, S, hm, fun v H1 d q e1 S1 r => by
  cases d <;> try exact False.elim q
  cases r
  exact ⟨_, rfl, f _ _ q e1 S1⟩⟩
theorem RepA.cut {K : PySem.W.Frag} {av : Addr → Prop} {H : Hp} {xs : List V} {ds : List D} (r : RepA K av H xs ds) (a b : Option Int) : RepA K av H (cutV xs a b) (cutD ds a b) := by
  unfold cutV cutD
  rw [r.len]
  exact (r.drop _).take _
theorem cut_whole {xs : List V} {ds : List D} (h : xs.length = ds.length) {a b : Option Int} (w : HT.sIx xs.length 0 a = 0 ∧ HT.sIx xs.length xs.length b = xs.length) : cutD ds a b = ds := by
  unfold cutD
  rw [← h, w.1, w.2, List.drop_zero, Nat.sub_zero, h, List.take_length]
theorem df_slL (he : DB I X e m) (hl : DO I X lo ml) (hh : DO I X hi mh) : DF I X (.Subscript e (.Slice lo hi none p2) pos) (pSlL m ml mh) :=
  pe_imp (pe_slice sl_list he hl hh) fun σ H Q ⟨W, ρ, Qd, ok, S, hm, f⟩ => ⟨W, ρ, _, ok, S, hm, fun v H1 d q e1 S1 t => ⟨W, ρ, _, ok, S1, q, fun a H2 q e2 S2 => ⟨W, ρ, _, ok, S2, q, fun b H3 q e3 S3 => by
    cases d <;> try exact False.elim q
    have t3 := t.mono (fun c u hn hb hr => e3.rd (e2.rd hr hb) hb) ((e2.trans e3).keep ok)
    obtain ⟨c, xs, rfl, r, z, ra⟩ := t3.list
    refine ⟨c, xs, rfl, S3.sqL r, fun p hp => ((f.ex ok e1).ex ok (e2.trans e3)).newL ok S3 hp ?_ (ra.cut a b) q⟩
    exact Nat.le_trans (cutV_length xs a b) z⟩⟩⟩
theorem de_sl (he : DE I X e m) (hl : DO I X lo ml) (hh : DO I X hi mh) : DE I X (.Subscript e (.Slice lo hi none p2) pos) (pSl m ml mh) :=
  pe_imp (pe_slice (SlR.or sl_list (SlR.or sl_tupA sl_str)) he hl hh) fun σ H Q ⟨W, ρ, Qd, ok, S, hm, f⟩ => ⟨W, ρ, _, ok, S, hm, fun v H1 d q e1 S1 t => ⟨W, ρ, _, ok, S1, q, fun a H2 q e2 S2 => ⟨W, ρ, _, ok, S2, q, fun b H3 q e3 S3 => by
    have t3 := (e2.trans e3).rep ok t
    have f3 := (f.ex e1).ex (e2.trans e3)
    cases d <;> try exact False.elim q
    · cases t3
      exact .inr (.inr ⟨_, rfl, q.1, f3.here S3 (.str _) q.2⟩)
    · obtain ⟨c, xs, rfl, r, z, ra⟩ := (Top.rep (bx := W.bx) t3).list
      refine .inl ⟨c, xs, rfl, S3.sqL r, fun p hp => f3.newL ok S3 hp ?_ (ra.cut a b) q⟩
      exact Nat.le_trans (cutV_length xs a b) z
    · obtain ⟨c, xs, rfl, r, z, ra⟩ := (Top.rep (bx := W.bx) t3).tuple
      refine .inr (.inl ⟨c, xs, rfl, S3.sqT r, fun w => ?_, fun _ p hp => f3.newT ok S3 hp ?_ (ra.cut a b) q⟩)
      · have q' : Qd (.tuple (cutD _ a b)) := q
        rw [cut_whole ra.len w] at q'
        exact f3.here S3 t3 q'
      · exact Nat.le_trans (cutV_length xs a b) z⟩⟩⟩
end
/-- the pairs in a row: keys and values in turn -/
def pairsD : List D → Option (List (D × D))
  | [] => some []
  | k :: v :: r => (pairsD r).map ((k, v) :: ·)
  | _ => none
def mergeD (es ps : List (D × D)) : List (D × D) := ps.foldl (fun acc p => dput acc p.1 p.2) es
def tPr (I : SI) (K : PySem.W.Frag) (m : MA) : List (TE × TE) → Prop := fun trs => ∀ σ H Q, (∃ W ρ Qd, WOk I W ∧ SR I W K σ H ρ ∧ m ρ Qd ∧ ∀ vs H' ds, Qd ds → Ex W H H' → SR I W K σ H' ρ → RepA K (avA W I.own σ ρ) (unl W.L H') (vs.flatMap fun p => [p.1, p.2]) ds → Q vs H') → tPairs trs σ H Q
def DPr (I : SI) (X : Cx) (pos : Pos) (keys : List (Option Expr)) (values : List Expr) (m : MA) : Prop := ∃ trs, PPs X pos keys values trs ∧ tPr I X.K m trs
section
variable {I : SI} {X : Cx} {e k v : Expr} {mk mv : ME} {mr : MA} {pos : Pos} {keys : List (Option Expr)} {values : List Expr}
theorem dpr_nil : DPr I X pos [] [] aNil := ⟨[], pps_nil, fun σ H Q ⟨W, ρ, Qd, ok, S, hm, f⟩ => f [] H [] hm (Ex.refl W H) S .nil⟩
theorem dpr_cons (hk : DE I X k mk) (hv : DE I X v mv) (hr : DPr I X pos keys values mr) : DPr I X pos (some k :: keys) (v :: values) (aCons mk (aCons mv mr)) := by
  obtain ⟨trs, hp, ht⟩ := hr
  refine ⟨_, pps_cons hk hv hp, fun σ H Q ⟨W, ρ, Qd, ok, S, hm, f⟩ => ?_⟩
  refine ⟨W, ρ, _, ok, S, hm, fun x H1 d1 q1 e1 S1 r1 => ⟨W, ρ, _, ok, S1, q1, fun y H2 d2 q2 e2 S2 r2 => ht _ _ _ ⟨W, ρ, _, ok, S2, q2, fun vs H3 ds q3 e3 S3 r3 => ?_⟩⟩⟩
  exact f _ H3 _ q3 (e1.trans (e2.trans e3)) S3 (.cons ((e2.trans e3).rep ok r1) (.cons (e3.rep ok r2) r3))
theorem pairs_of {K : PySem.W.Frag} {av : Addr → Prop} {H : Hp} : ∀ {vs : List (V × V)} {ds : List D} {es : List (D × D)}, RepA K av H (vs.flatMap fun p => [p.1, p.2]) ds → pairsD ds = some es → es.all (fun p => isKeyK p.1) = true →
    ∃ kvs : List (Key × V), vs = kvs.map (fun kv => (kV kv.1, kv.2)) ∧ RepK K av H kvs es
  | [], _, es, r, h, _ => by
    cases r
    cases h
    exact ⟨[], rfl, .nil⟩
  | (x, y) :: vs, _, es, r, h, hk => by
    cases r with | cons r1 r => cases r with | cons r2 r =>
    unfold pairsD at h
    rw [Option.map_eq_some_iff] at h
    obtain ⟨es', h', rfl⟩ := h
    rw [List.all_cons, Bool.and_eq_true] at hk
    obtain ⟨k, hk1⟩ := isKeyK_of hk.1
    obtain ⟨kvs, e1, r'⟩ := pairs_of r h' hk.2
    simp only at hk1
    subst hk1
    refine ⟨(k, y) :: kvs, ?_, .cons r2 r'⟩
    have ex : x = kV k := r1.key
    rw [List.map_cons, ← e1, ex]
theorem RepK.merge {K : PySem.W.Frag} {av : Addr → Prop} {H : Hp} : ∀ {kvs : List (Key × V)} {es : List (D × D)}, RepK K av H kvs es → ∀ {a : List (Key × V)} {b : List (D × D)}, RepK K av H a b → RepK K av H (mergeK a kvs) (mergeD b es)
  | _, _, .nil, _, _, h => h
  | _, _, .cons r t, _, _, h => RepK.merge t (RepK.put r h)
def pDisp (m : MA) : ME := fun ρ Q => m ρ fun ds => match pairsD ds with
  | some es => es.all (fun p => isKeyK p.1) = true ∧ es.length ≤ 15 ∧ Q (dK (mergeD [] es))
  | none => False
/-- {k: v, ..} with int or str keys -/
theorem df_disp (h : DPr I X pos keys values mr) (hall : keys.all (·.isSome) = true := by rfl) (hl : keys.length = values.length := by rfl) (h0 : keys ≠ [] := by intro z; cases z) (h15 : keys.length ≤ 15 := by decide) : DF I X (.Dict keys values pos) (pDisp mr) := by
  obtain ⟨trs, hp, ht⟩ := h
  refine pe_imp (pe_disp hp hall hl h0 h15) fun σ H Q ⟨W, ρ, Qd, ok, S, hm, f⟩ p hn => ?_
  have nl : W.L.lookup p = none := S.lkd.free hn
  have ok1 : WOk I (W.add p) := ok.add p nl
  have S1 : SR I (W.add p) X.K σ (upd H p (.dK [])) ρ := S.newAdd ok hn rfl
  have nav : ¬ W.av p := fun z => S.fresh hn (.inl z)
  have nbx : ¬ W.bx p := fun z => nav (ok.bxav p z)
  have nU : unl W.L H p = none := S.freshU hn
  have n0 : W.H0 p = none := by
    cases h : W.H0 p with
    | none => rfl
    | some o => have := S.fr p o h nbx; rw [nU] at this; cases this
  refine ht _ _ _ ⟨W.add p, ρ, _, ok1, S1, hm, fun vs H' ds q e1 S2 r => ?_⟩
  have hU : unl W.L (upd H p (.dK [])) p = some (.dK []) := by rw [unl_upd nl, upd_same]
  have hp' : H' p = some (.dK []) := by
    have := e1 p _ hU nbx
    rw [show unl (W.add p).L H' p = H' p from unl_none nl] at this; exact this
  refine ⟨hp', ?_⟩
  split at q
  · rename_i es he
    obtain ⟨hk, hlen, hq⟩ := q
    obtain ⟨kvs, rfl, rk⟩ := pairs_of r he hk
    refine ⟨kvs, rfl, by rw [rk.len]; exact hlen, f p _ _ hq (fun b o hb n => ?_) (S2.wrAv ok1 (.inr rfl) nbx n0 nl rfl) (.dcK (by rw [unl_upd nl, upd_same]) (RepK.merge (kvs := kvs) ?_ .nil)) nav n0 nl nU⟩
    · have hbp : b ≠ p := fun z => by rw [z, nU] at hb; cases hb
      rw [unl_upd nl, upd_ne hbp]
      exact e1 b o (by rw [show (W.add p).L = W.L from rfl, unl_upd nl, upd_ne hbp]; exact hb) n
    · have c : Cm (avA (W.add p) I.own σ ρ) (avA (W.add p) I.own σ ρ) (unl W.L H') (unl W.L (upd H' p (.dK (mergeK [] kvs)))) := by
        have ne : ∀ b, ¬ avA (W.add p) I.own σ ρ b → b ≠ p := fun b n z => n (.inl (.inr z))
        exact ⟨fun _ _ n _ => n, fun b u _ n r => by rw [unl_upd nl]; exact rd_up r fun o h => by rw [upd_ne (ne b n)]; exact h, fun b xs n r => by rw [unl_upd nl, upd_ne (ne b n)]; exact r⟩
      exact RepK.mono c rk
  · exact q.elim
end
end PyD
namespace PyD
open PySem PySem.Spec L2
open PyProof.Rows hiding St
def pairOf : D → Option (D × D)
  | .tuple [k, v] => some (k, v)
  | _ => none
def pairsOf : List D → Option (List (D × D))
  | [] => some []
  | d :: r => match pairOf d, pairsOf r with
    | some p, some es => some (p :: es)
    | _, _ => none
def pDictP : List D → (D → Prop) → Prop
  | [.list ds], Q => match pairsOf ds with
    | some es => es.all (fun p => isKeyK p.1) = true ∧ Q (dK (mergeD [] es))
    | none => False
  | [.dict ((.none, .none) :: es)], Q => Q (dK es)
  | _, _ => False
theorem pairOf_is {d : D} {p : D × D} (h : pairOf d = some p) : d = .tuple [p.1, p.2] := by
  unfold pairOf at h
  split at h
  · cases h; rfl
  · cases h
theorem pairsOf_rep {K : PySem.W.Frag} {av : Addr → Prop} {L : List (Addr × Obj × HO)} {H : Hp} (l : Lkd L H) : ∀ {xs : List V} {ds : List D} {es : List (D × D)}, RepA K av (unl L H) xs ds → pairsOf ds = some es → es.all (fun p => isKeyK p.1) = true →
    ∃ (ps : List Addr) (kvs : List (Key × V)), xs = ps.map V.ref ∧ Paired (fun p kv => SqT K H p [kV kv.1, kv.2]) ps kvs ∧ RepK K av (unl L H) kvs es
  | _, [], es, r, h, _ => by
    cases r
    cases h
    exact ⟨[], [], rfl, .nil, .nil⟩
  | _, d :: ds, es, r, h, hk => by
    cases r with | cons r1 r =>
    unfold pairsOf at h
    split at h
    · rename_i p es' h1 h2
      cases h
      rw [List.all_cons, Bool.and_eq_true] at hk
      obtain ⟨k, hk1⟩ := isKeyK_of hk.1
      obtain ⟨ps, kvs, e1, pr, rk⟩ := pairsOf_rep l r h2 hk.2
      have ed := pairOf_is h1
      obtain ⟨p1, p2⟩ := p
      simp only at hk1 ed
      subst hk1 ed
      cases r1 with | tup n rt z ra =>
      cases ra with | cons ra rb => cases rb with | cons rb rc =>
      cases rc
      have ex := ra.key
      subst ex
      rename_i a w
      refine ⟨a :: ps, (k, _) :: kvs, by rw [e1]; rfl, .cons (.inl (.inl (l.tp rt))) pr, .cons rb rk⟩
    · cases h
theorem r_dictP {X : Cx} (hc : X.calm = true) : RnF X (.type "dict") pDictP := by
  intro I W pins s σ H ρ xs us ds Qd Q Iv ok S rv t hp fin
  unfold pDictP at hp
  split at hp
  · rename_i ds
    obtain ⟨x, rfl, tx⟩ := t.one
    obtain ⟨a, ys, rfl, r, z, ra⟩ := tx.list
    split at hp
    · rename_i es he
      obtain ⟨ps, kvs, rfl, pr, rk⟩ := pairsOf_rep S.lkd ra he hp.1
      refine call_dictP hc _ _ _ _ _ _ _ Iv rv ⟨a, ps, kvs, rfl, S.sqL r, pr, fun p hn => fin.newK ok S hn (RepK.merge rk .nil) hp.2⟩
    · exact hp.elim
  · rename_i es
    obtain ⟨x, rfl, tx⟩ := t.one
    obtain ⟨a, kvs, rfl, r, ra⟩ := tx.dictK
    exact call_dictD _ _ _ _ _ _ _ Iv rv ⟨a, kvs, rfl, S.lkd.rd r, fun p hn => fin.newK ok S hn ra hp⟩
  · exact hp.elim
end PyD
namespace PyD
open PySem PySem.Spec L2
open PyProof.Rows hiding St
def slotsB (I : SI) : List Nat → List Bool → Bool
  | i :: is, f :: fl => decide (I.bs ≠ some i) && (if f then decide (i ∈ I.own) && decide (i ∉ I.lk) else decide (i ∉ I.own)) && slotsB I is fl
  | [], [] => true
  | _, _ => false
theorem slotsOk {I : SI} : ∀ {is : List Nat} {fl : List Bool}, slotsB I is fl = true → SlotsOk I is fl
  | [], [], _ => trivial
  | i :: is, f :: fl, h => by
    unfold slotsB at h
    rw [Bool.and_eq_true, Bool.and_eq_true] at h
    obtain ⟨⟨h1, h2⟩, h3⟩ := h
    refine ⟨⟨of_decide_eq_true h1, ?_⟩, slotsOk h3⟩
    cases f with
    | true =>
      rw [if_pos rfl] at h2 ⊢
      rw [Bool.and_eq_true] at h2
      exact ⟨of_decide_eq_true h2.1, of_decide_eq_true h2.2⟩
    | false =>
      rw [if_neg Bool.false_ne_true] at h2 ⊢
      exact of_decide_eq_true h2
  | [], _ :: _, h => by cases h
  | _ :: _, [], h => by cases h
section
variable {I : SI} {X : Cx} {x y : Str} {pos pos' pos2 pos3 apos cpos : Pos} {e a b c : Expr} {es : List Expr} {me ma mb mk mi : ME} {mA : MA} {m : MS} {t u : MT}
theorem w_v (i : Nat) (ho : i ∉ I.own := by decide) (hN : X.N[i]? = some x := by rfl) (hv : Vis X.env.scope x := by first | exact Or.inl rfl | exact Or.inr (Or.inl rfl) | exact Or.inr (Or.inr rfl)) (hd : (x == ("__debug__" : Str)) = false := by decide) (hcd : (x == ("__classdict__" : Str)) = false := by decide) : DE I X (.Name x pos) (mV i) := de_var i ho hN hv hd hcd
theorem w_b (i : Nat) (hN : X.N[i]? = some x := by rfl) (hv : Vis X.env.scope x := by first | exact Or.inl rfl | exact Or.inr (Or.inl rfl) | exact Or.inr (Or.inr rfl)) (hd : (x == ("__debug__" : Str)) = false := by decide) (hcd : (x == ("__classdict__" : Str)) = false := by decide) : DB I X (.Name x pos) (mV i) := db_var i hN hv hd hcd
theorem w_q (i : Nat) (ho : i ∈ I.own := by decide) (hk : i ∈ I.lk := by decide) (hN : X.N[i]? = some x := by rfl) (hv : Vis X.env.scope x := by first | exact Or.inl rfl | exact Or.inr (Or.inl rfl) | exact Or.inr (Or.inr rfl)) (hd : (x == ("__debug__" : Str)) = false := by decide) (hcd : (x == ("__classdict__" : Str)) = false := by decide) : DQ I X (.Name x pos) (mV i) := dq_own i ho hk hN hv hd hcd
theorem w_keys {tg : Expr} (i : Nat) (hN : X.N[i]? = some x := by rfl) (hv : Vis X.env.scope x := by first | exact Or.inl rfl | exact Or.inr (Or.inl rfl) | exact Or.inr (Or.inr rfl)) (hd : (x == ("__debug__" : Str)) = false := by decide) (hcd : (x == ("__classdict__" : Str)) = false := by decide) : DI (isFz i) I X tg (.Name x pos) (aKeys i) := di_keys i hN hv hd hcd
theorem w_gn (i : Nat) (hN : X.N.Nodup) (ho : i ∉ I.own := by decide) (hb : I.bs ≠ some i := by decide) (hi : X.N[i]? = some x := by rfl) (hx : Loc X.env.scope x := by first | exact .inl rfl | exact .inr rfl) (hf : X.fn x = true ∨ X.env.scope.names.lookup x = some .local := by first | exact .inl rfl | exact .inr rfl | assumption) : DG I X (.Name x pos) [i] (gN i) := dg_name i ho hb hN hi hx hf
theorem w_set (i : Nat) (hN : X.N.Nodup) (he : DE I X e me) (ho : i ∉ I.own := by decide) (hb : I.bs ≠ some i := by decide) (hi : X.N[i]? = some x := by rfl) (hx : Loc X.env.scope x := by first | exact .inl rfl | exact .inr rfl) (hs : swapsWith e (some (.Name x pos')) pos.line X.env = pure false := by rfl)
    (hf : X.fn x = true ∨ X.env.scope.names.lookup x = some .local := by first | exact .inl rfl | exact .inr rfl | assumption) : DS I X (.Assign [.Name x pos'] e pos) (sSet i me) := ds_set i ho hb hN hi hx he hs hf
theorem w_setO (i : Nat) (hN : X.N.Nodup) (he : DF I X e me) (ho : i ∈ I.own := by decide) (hk : i ∉ I.lk := by decide) (hb : I.bs ≠ some i := by decide) (hi : X.N[i]? = some x := by rfl) (hx : Loc X.env.scope x := by first | exact .inl rfl | exact .inr rfl) (hs : swapsWith e (some (.Name x pos')) pos.line X.env = pure false := by rfl)
    (hf : X.fn x = true ∨ X.env.scope.names.lookup x = some .local := by first | exact .inl rfl | exact .inr rfl | assumption) : DS I X (.Assign [.Name x pos'] e pos) (sSet i me) := ds_setO i ho hk hb hN hi hx he hs hf
theorem w_retO (i : Nat) (ho : i ∈ I.own := by decide) (hN : X.N[i]? = some x := by rfl) (hv : Vis X.env.scope x := by first | exact Or.inl rfl | exact Or.inr (Or.inl rfl) | exact Or.inr (Or.inr rfl)) (hd : (x == ("__debug__" : Str)) = false := by decide) (hcd : (x == ("__classdict__" : Str)) = false := by decide) : DS I X (.Return (some (.Name x pos')) pos) (sRet (mV i)) := ds_retO i ho hN hv hd hcd
theorem w_par2 (i j : Nat) {fl : List Bool} {mr : MA} {px py pt : Pos} {kt k2 pt2} (hN : X.N.Nodup) (ha : DAX I X fl [a, b] mr) (hso : SlotsOk I [i, j] fl := by exact slotsOk (by decide)) (hc : X.calm = true := by rfl) (hi : X.N[i]? = some x := by rfl) (hj : X.N[j]? = some y := by rfl) (hij : i ≠ j := by decide)
    (hx : X.env.scope.names.lookup x = some .local := by rfl) (hy : X.env.scope.names.lookup y = some .local := by rfl)
    (hw : swappedStores [.Tuple [.Name x px, .Name y py] kt pt] (.Tuple [a, b] k2 pt2) X.env = pure (some [x, y]) := by rfl)
    (hs : swapsWithSole [.Tuple [.Name x px, .Name y py] kt pt] (.Tuple [a, b] k2 pt2) pos.line X.env = pure false := by rfl) : DS I X (.Assign [.Tuple [.Name x px, .Name y py] kt pt] (.Tuple [a, b] k2 pt2) pos) (sPar [i, j] mr) :=
  ds_par2 i j hso hc hN hi hj hij hx hy ha hw hs
theorem w_gsub (i : Nat) {ie : Expr} {tt : TSet} {φ : D → D → D → (D → Prop) → Prop} (ht : PSet X tt) (hr : StR X.K tt φ) (he : DE I X ie mi) (ho : i ∈ I.own := by decide) (hk : i ∉ I.lk := by decide) (hN : X.N[i]? = some x := by rfl) (hv : Vis X.env.scope x := by first | exact Or.inl rfl | exact Or.inr (Or.inl rfl) | exact Or.inr (Or.inr rfl))
    (hd : (x == ("__debug__" : Str)) = false := by decide) (hcd : (x == ("__classdict__" : Str)) = false := by decide)
    (ha : ∀ v, assign (.Subscript (.Name x pos2) ie pos) X.env v = (do
      let ov ← holding [v] (eval (.Name x pos2) X.env)
      let iv ← holding [v, ov] (eval ie X.env)
      standAt pos
      holding [v, ov, iv] (setItem ov iv v)
      release [v, ov, iv] []) := by intro _; rfl) : DGw I X (.Subscript (.Name x pos2) ie pos) (gSt i φ mi) := dgw_sub i ht hr ho hk hN hv he hd hcd ha
theorem w_app (i : Nat) (ha : DAE I X [e] mA) (ho : i ∈ I.own := by decide) (hk : i ∉ I.lk := by decide) (hN : X.N[i]? = some x := by rfl) (hv : Vis X.env.scope x := by first | exact Or.inl rfl | exact Or.inr (Or.inl rfl) | exact Or.inr (Or.inr rfl))
    (hd : (x == ("__debug__" : Str)) = false := by decide) (hcd : (x == ("__classdict__" : Str)) = false := by decide)
    (hbase : attributeBase (.Name x pos3) "append" X.env (eval (.Name x pos3) X.env) = eval (.Name x pos3) X.env := by rfl)
    (hfew : ((backTo cpos (starEach [e] X.env)).all (fun x => !x.1) && (backToKw cpos (keywordEach [] X.env)).all (fun x => x.1.isSome)
      && decide ([e].length + ([] : List Keyword).length + (if ([] : List Keyword).isEmpty then 0 else 1) < 30)) = true := by rfl)
    (hline : (apos.endLine == cpos.line) = true := by rfl) (hs : starEach [e] X.env = (false, eval e X.env) :: starEach [] X.env := by rfl) (hplain : (backTo cpos (starEach [] X.env)).any (·.1) = false := by rfl) :
    DM I X (.Call (.Attribute (.Name x pos3) "append" apos) [e] [] cpos) (mMeth i "list" qAppend mA) := dm_meth i mu_append PySem.F.plainAttrs_list PySem.F.slot_list_append PySem.F.type_list_append mt_append ho hk hN hv ha hd hcd hbase hfew hline hs hplain
theorem w_ext (i : Nat) (ha : DAE I X [e] mA) (ho : i ∈ I.own := by decide) (hk : i ∉ I.lk := by decide) (hN : X.N[i]? = some x := by rfl) (hv : Vis X.env.scope x := by first | exact Or.inl rfl | exact Or.inr (Or.inl rfl) | exact Or.inr (Or.inr rfl))
    (hd : (x == ("__debug__" : Str)) = false := by decide) (hcd : (x == ("__classdict__" : Str)) = false := by decide)
    (hbase : attributeBase (.Name x pos3) "extend" X.env (eval (.Name x pos3) X.env) = eval (.Name x pos3) X.env := by rfl)
    (hfew : ((backTo cpos (starEach [e] X.env)).all (fun x => !x.1) && (backToKw cpos (keywordEach [] X.env)).all (fun x => x.1.isSome)
      && decide ([e].length + ([] : List Keyword).length + (if ([] : List Keyword).isEmpty then 0 else 1) < 30)) = true := by rfl)
    (hline : (apos.endLine == cpos.line) = true := by rfl) (hs : starEach [e] X.env = (false, eval e X.env) :: starEach [] X.env := by rfl) (hplain : (backTo cpos (starEach [] X.env)).any (·.1) = false := by rfl) :
    DM I X (.Call (.Attribute (.Name x pos3) "extend" apos) [e] [] cpos) (mMeth i "list" qExtend mA) := dm_meth i mu_extend PySem.F.plainAttrs_list PySem.F.slot_list_extend PySem.F.type_list_extend mt_extendD ho hk hN hv ha hd hcd hbase hfew hline hs hplain
theorem w_popAt (i : Nat) (ha : DAE I X [e] mA) (ho : i ∈ I.own := by decide) (hk : i ∉ I.lk := by decide) (hN : X.N[i]? = some x := by rfl) (hv : Vis X.env.scope x := by first | exact Or.inl rfl | exact Or.inr (Or.inl rfl) | exact Or.inr (Or.inr rfl))
    (hd : (x == ("__debug__" : Str)) = false := by decide) (hcd : (x == ("__classdict__" : Str)) = false := by decide)
    (hbase : attributeBase (.Name x pos3) "pop" X.env (eval (.Name x pos3) X.env) = eval (.Name x pos3) X.env := by rfl)
    (hfew : ((backTo cpos (starEach [e] X.env)).all (fun x => !x.1) && (backToKw cpos (keywordEach [] X.env)).all (fun x => x.1.isSome)
      && decide ([e].length + ([] : List Keyword).length + (if ([] : List Keyword).isEmpty then 0 else 1) < 30)) = true := by rfl)
    (hline : (apos.endLine == cpos.line) = true := by rfl) (hs : starEach [e] X.env = (false, eval e X.env) :: starEach [] X.env := by rfl) (hplain : (backTo cpos (starEach [] X.env)).any (·.1) = false := by rfl) :
    DM I X (.Call (.Attribute (.Name x pos3) "pop" apos) [e] [] cpos) (mMeth i "list" qPopAt mA) := dm_meth i mu_popAt PySem.F.plainAttrs_list PySem.F.slot_list_pop PySem.F.type_list_pop mt_popAt ho hk hN hv ha hd hcd hbase hfew hline hs hplain
theorem w_pop (i : Nat) (ho : i ∈ I.own := by decide) (hk : i ∉ I.lk := by decide) (hN : X.N[i]? = some x := by rfl) (hv : Vis X.env.scope x := by first | exact Or.inl rfl | exact Or.inr (Or.inl rfl) | exact Or.inr (Or.inr rfl))
    (hd : (x == ("__debug__" : Str)) = false := by decide) (hcd : (x == ("__classdict__" : Str)) = false := by decide)
    (hbase : attributeBase (.Name x pos3) "pop" X.env (eval (.Name x pos3) X.env) = eval (.Name x pos3) X.env := by rfl) (hline : (apos.endLine == cpos.line) = true := by rfl) :
    DM I X (.Call (.Attribute (.Name x pos3) "pop" apos) [] [] cpos) (mMeth i "list" qPop aNil) := dm_meth0 i mu_pop PySem.F.plainAttrs_list PySem.F.slot_list_pop PySem.F.type_list_pop mt_pop ho hk hN hv hd hcd hbase hline
/-- names whose value the top has not written -/
theorem w_ix (hr : ∃ k, Room k X.A) (ha : DB I X a ma) (hb : DE I X b mb) (hs : PlainIx b := by intro _ _; rfl) : DE I X (.Subscript a b pos) (m2 pIx ma mb) := de_ix (by obtain ⟨k, r⟩ := hr; have := r.un; omega) ha hb hs
theorem hu200 {k : Nat} {A : Around} (r : Room k A) : A.units + 200 < cLine := by have := r.un; omega
theorem hu1 {k : Nat} {A : Around} (r : Room k A) : A.units + 1 < cLine := by have := r.un; omega
end
section
variable {I : SI} {X : Cx} {x : Str} {p pos : Pos} {e : Expr} {es : List Expr} {ma : MA} {k : Nat} {f : Addr} {fd : FuncData} {ps : List Str} {n : Nat} {φ : MF} {bk : BK}
theorem w_call (F : FnOk X.prog X.w X.K X.mg X.base CX0 k f fd ps (spD X.K n φ)) (hr : Room k X.A) (hm : X.mg x = some (.ref f)) (hk : PySem.W.keepIn X.K (.ref f) = true) (hb : Binds X.K fd ps []) (ha : DAE I X (e :: es) ma) (hg : Gl X x := by rfl)
    (hdb : (x == ("__debug__" : Str)) = false := by decide) (he : starEach (e :: es) X.env = (false, eval e X.env) :: starEach es X.env := by rfl) (hpl : (backTo pos (starEach es X.env)).any (·.1) = false := by rfl) : DE I X (.Call (.Name x p) (e :: es) [] pos) (mCall n φ ma) := de_call F hr hg hm hk hb ha hdb he hpl
theorem w_callB (i : Nat) {bx : Str} {pb : Pos} (F : FnOk X.prog X.w X.K X.mg X.base CX0 k f fd ps (spB X.K bk n φ)) (hr : Room k X.A) (hm : X.mg x = some (.ref f)) (hk : PySem.W.keepIn X.K (.ref f) = true) (hb : Binds X.K fd ps []) (ha : DAE I X es ma)
    (hbs : I.bs = some i := by rfl) (hI : I.bk = bk := by rfl) (hNb : X.N[i]? = some bx := by rfl) (hvb : Vis X.env.scope bx := by first | exact Or.inl rfl | exact Or.inr (Or.inl rfl) | exact Or.inr (Or.inr rfl)) (hg : Gl X x := by rfl)
    (hdb : (x == ("__debug__" : Str)) = false := by decide) (hdb1 : (bx == ("__debug__" : Str)) = false := by decide) (hdb2 : (bx == ("__classdict__" : Str)) = false := by decide)
    (he : starEach (.Name bx pb :: es) X.env = (false, eval (.Name bx pb) X.env) :: starEach es X.env := by rfl) (hpl : (backTo pos (starEach es X.env)).any (·.1) = false := by rfl) : DE I X (.Call (.Name x p) (.Name bx pb :: es) [] pos) (mCall n φ ma) := de_callB i hbs hI hNb hvb F hr hg hm hk hb ha hdb hdb1 hdb2 he hpl
end
end PyD
namespace PyD
open PySem PySem.Spec L2
open PyProof.Rows hiding St
def boxK : BK := fun H b c => ∃ (x y : Int) (ns : List Int), H b = some (.lst [.ref c, .int x, .int y]) ∧ H c = some (.lst (ns.map V.int))
theorem boxK_st : BkSt boxK := fun H H' a c h1 h2 ⟨x, y, ns, e1, e2⟩ => ⟨x, y, ns, h1 ▸ e1, h2 ▸ e2⟩
section
variable {I : SI} {W : DW} {K : PySem.W.Frag} {σ : St} {ρ : En} {H : Hp} {i : Nat}
theorem SR.boxRaw (ok : WOk I W) (S : SR I W K σ H ρ) (hbs : I.bs = some i) (hI : I.bk = boxK) : ∃ b c x y, ∃ ns : List Int, W.box = some (b, c) ∧ σ[i]? = some (some (.ref b)) ∧ H b = some (.lst [.ref c, .int x, .int y]) ∧ H c = some (.lst (ns.map V.int)) ∧ b ≠ c := by
  obtain ⟨⟨b, c⟩, hp, hs⟩ := S.bsl i hbs
  have hk := S.box _ hp
  rw [hI] at hk
  obtain ⟨x, y, ns, e1, e2⟩ := hk
  rw [unl_none (ok.lbx _ ⟨_, hp, .inl rfl⟩)] at e1
  rw [unl_none (ok.lbx _ ⟨_, hp, .inr rfl⟩)] at e2
  refine ⟨b, c, x, y, ns, hp, hs, e1, e2, fun z => ?_⟩
  rw [show b = c from z, e2] at e1
  cases ns with
  | nil => cases e1
  | cons n ns => rw [List.map_cons] at e1; cases e1
/-- the box has changed -/
theorem SR.boxed (ok : WOk I W) (S : SR I W K σ H ρ) (hI : I.bk = boxK) {b c : Addr} (hp : W.box = some (b, c)) {H' : Hp} (hk : boxK H' b c) (st : ∀ x, x ≠ b → x ≠ c → H' x = H x) : SR I W K σ H' ρ ∧ Ex W H H' := by
  have bb : W.bx b := ⟨_, hp, .inl rfl⟩
  have bc : W.bx c := ⟨_, hp, .inr rfl⟩
  have isb : ∀ x, W.bx x → x = b ∨ x = c := fun x ⟨p, hp', h⟩ => by rw [hp] at hp'; cases hp'; exact h
  obtain ⟨S1, e1, _⟩ := S.called ok (H' := H') (fun x o h n => by rw [st x (fun z => n (z ▸ bb)) fun z => n (z ▸ bc)]; exact h) (fun p hp' => by rw [hp] at hp'; cases hp'; rw [hI]; exact hk) (fun x hx => by
    obtain ⟨x1, y1, ns, q1, q2⟩ := hk
    rcases isb x hx with z | z
    · rw [z]; exact ⟨_, q1, rfl⟩
    · rw [z]; exact ⟨_, q2, rfl⟩)
  exact ⟨S1, e1⟩
/-- a name of which nothing is known any more -/
theorem SR.forget (S : SR I W K σ H ρ) (ho : i ∉ I.own) (hb : I.bs ≠ some i) (v : V) : SR I W K (σ.set i (some v)) H (ρ.set i none) ∧ (∀ b, avA W I.own (σ.set i (some v)) (ρ.set i none) b ↔ avA W I.own σ ρ b) := by
  have key : ∀ b, avA W I.own (σ.set i (some v)) (ρ.set i none) b ↔ avA W I.own σ ρ b := fun b => by
    constructor
    · rintro (z | ⟨j, hj, ⟨d, hd⟩, hs⟩)
      · exact .inl z
      · have ne : i ≠ j := fun z => ho (z ▸ hj)
        rw [List.getElem?_set_ne ne] at hd hs
        exact .inr ⟨j, hj, ⟨d, hd⟩, hs⟩
    · rintro (z | ⟨j, hj, ⟨d, hd⟩, hs⟩)
      · exact .inl z
      · have ne : i ≠ j := fun z => ho (z ▸ hj)
        exact .inr ⟨j, hj, ⟨d, by rw [List.getElem?_set_ne ne]; exact hd⟩, by rw [List.getElem?_set_ne ne]; exact hs⟩
  have c : Cm (avA W I.own σ ρ) (avA W I.own (σ.set i (some v)) (ρ.set i none)) (unl W.L H) (unl W.L H) := ⟨fun b _ n _ z => n ((key b).mp z), fun _ _ _ _ h => h, fun _ _ _ h => h⟩
  have lv : ∀ {j : Nat} {d : D}, (ρ.set i none)[j]? = some (some d) → i ≠ j ∧ ρ[j]? = some (some d) := fun {j d} h => by
    rcases getSet h with ⟨_, e⟩ | ⟨n, e⟩
    · cases e
    · exact ⟨n, e⟩
  refine ⟨⟨by rw [List.length_set, List.length_set]; exact S.len, S.lkd, fun j d h n => ?_, fun j d h n => ?_, fun j k a hj hk ⟨d, hd⟩ ⟨e, he⟩ hs ht => ?_, S.fr, S.avt, S.box, fun j hj => ?_⟩, key⟩
  · obtain ⟨ne, h⟩ := lv h
    obtain ⟨u, h1, r⟩ := S.val j d h n
    exact ⟨u, by rw [List.getElem?_set_ne ne]; exact h1, r.mono c⟩
  · obtain ⟨ne, h⟩ := lv h
    obtain ⟨a, h1, ow, h2⟩ := S.own j d h n
    exact ⟨a, by rw [List.getElem?_set_ne ne]; exact h1, ow.mono c rfl, h2⟩
  · obtain ⟨n1, hd⟩ := lv hd
    obtain ⟨n2, he⟩ := lv he
    rw [List.getElem?_set_ne n1] at hs
    rw [List.getElem?_set_ne n2] at ht
    exact S.inj j k a hj hk ⟨d, hd⟩ ⟨e, he⟩ hs ht
  · have ne : i ≠ j := fun z => hb (z ▸ hj)
    obtain ⟨p, h1, h2⟩ := S.bsl j hj
    exact ⟨p, h1, by rw [List.getElem?_set_ne ne]; exact h2⟩
theorem Kp.forget (hl : ∀ j ∈ I.lk, j ∈ I.own) (ho : i ∉ I.own) {v : V} (key : ∀ b, avA W I.own (σ.set i (some v)) (ρ.set i none) b ↔ avA W I.own σ ρ b) : Kp I W σ ρ H (σ.set i (some v)) (ρ.set i none) H where
  st := fun b o n h => ⟨fun z => n ((key b).mp z), h⟩
  lk := fun j hj => by
    have ne : i ≠ j := fun z => ho (z ▸ hl j hj)
    rw [List.getElem?_set_ne ne, List.getElem?_set_ne ne]
    exact ⟨rfl, rfl, fun _ _ _ => rfl⟩
end
section
variable {I : SI} {X : Cx} {bx xc xk : Str} {p1 p2 p3 p4 p5 q1 q2 q3 q4 q5 q6 r1 r2 r3 r4 r5 r6 r7 r8 pos : Pos} {e : Expr} {me : ME} {rest rest2 : List Stmt} {m m2 : MS} {j0 j1 j2 : Nat}
def mBoxI : ME := fun _ Q => ∀ n, Q (.int n)
/-- box[1], box[2] -/
theorem de_boxI (i : Nat) {j : Int} (hj : j = 1 ∨ j = 2) (hbs : I.bs = some i := by rfl) (hI : I.bk = boxK := by rfl) (hN : X.N[i]? = some bx := by rfl) (hv : Vis X.env.scope bx := by first | exact Or.inl rfl | exact Or.inr (Or.inl rfl) | exact Or.inr (Or.inr rfl))
    (hd : (bx == ("__debug__" : Str)) = false := by decide) (hcd : (bx == ("__classdict__" : Str)) = false := by decide) : DE I X (.Subscript (.Name bx p1) (.Constant (.int j) j0 p2) p3) mBoxI :=
  pe_imp (pe_ix ix_list (pe_var hN hv hd hcd) pe_int (fun _ _ => rfl)) fun σ H Q ⟨W, ρ, Qd, ok, S, hm, f⟩ => by
    obtain ⟨b, c, x, y, ns, hp, hs, e1, e2, _⟩ := S.boxRaw ok hbs hI
    rcases hj with rfl | rfl
    · exact ⟨.ref b, hs, b, _, 1, .int x, rfl, rfl, .inl (.inl e1), rfl, f.here S (.int x) (hm x)⟩
    · exact ⟨.ref b, hs, b, _, 2, .int y, rfl, rfl, .inl (.inl e1), rfl, f.here S (.int y) (hm y)⟩
def sBoxPut (me : ME) : MS := fun M ρ => me ρ fun d => match d with
  | .int _ => M.nx ρ
  | _ => False
theorem ds_boxPut (i : Nat) {j : Int} (hj : j = 1 ∨ j = 2) (he : DE I X e me) (hbs : I.bs = some i := by rfl) (hI : I.bk = boxK := by rfl) (hN : X.N[i]? = some bx := by rfl) (hv : Vis X.env.scope bx := by first | exact Or.inl rfl | exact Or.inr (Or.inl rfl) | exact Or.inr (Or.inr rfl))
    (hd : (bx == ("__debug__" : Str)) = false := by decide) (hcd : (bx == ("__classdict__" : Str)) = false := by decide)
    (hs : swapsWithSole [.Subscript (.Name bx p1) (.Constant (.int j) j0 p2) p3] e pos.line X.env = pure false := by rfl) (hw : swappedStores [.Subscript (.Name bx p1) (.Constant (.int j) j0 p2) p3] e X.env = pure none := by rfl)
    (h1 : (assignEach [.Subscript (.Name bx p1) (.Constant (.int j) j0 p2) p3] X.env).map (·.2) = [assign (.Subscript (.Name bx p1) (.Constant (.int j) j0 p2) p3) X.env] := by rfl)
    (ha : ∀ v, assign (.Subscript (.Name bx p1) (.Constant (.int j) j0 p2) p3) X.env v = (do
      let ov ← holding [v] (eval (.Name bx p1) X.env)
      let iv ← holding [v, ov] (eval (.Constant (.int j) j0 p2) X.env)
      standAt p3
      holding [v, ov, iv] (setItem ov iv v)
      release [v, ov, iv] []) := by intro _; rfl) :
    DS I X (.Assign [.Subscript (.Name bx p1) (.Constant (.int j) j0 p2) p3] e pos) (sBoxPut me) :=
  ps_imp (ps_asg he (pg_sub (pe_var hN hv hd hcd) pe_int set_list ha) hs hw h1) fun D σ H ⟨W, ρ, M, ok, S, hl, hm, E⟩ => ⟨W, ρ, _, ok, S, hm, fun v H' d q e1 S1 r => by
    cases d <;> try exact False.elim q
    rename_i n
    cases r
    obtain ⟨b, c, x, y, ns, hp, hs', q1, q2, hne⟩ := S1.boxRaw ok hbs hI
    have go : ∀ k x' y', ixN 3 j = some k → [V.ref c, .int x, .int y].set k (.int n) = [V.ref c, .int x', .int y'] → ∃ v, σ[i]? = some (some v) ∧ rSetL v (.int j) (.int n) H' fun H6 => D.nx σ H6 := fun k x' y' hk hse => by
      refine ⟨.ref b, hs', b, _, j, k, rfl, rfl, q1, hk, ?_⟩
      obtain ⟨S2, e2⟩ := S1.boxed ok hI hp (H' := upd H' b (.lst ([V.ref c, .int x, .int y].set k (.int n)))) ⟨x', y', ns, by rw [upd_same, hse], by rw [upd_ne (Ne.symm hne)]; exact q2⟩ fun z n1 n2 => upd_ne n1
      exact E.nx _ _ _ q S2 ((e1.trans e2).kp ok S hl)
    rcases hj with rfl | rfl
    · exact go 1 n y rfl rfl
    · exact go 2 x n rfl rfl⟩
/-- cells = box[0]; if len(cells) > 0: k = int(cells.pop(0)); .. -/
def sCells (ic ik : Nat) (m m2 : MS) : MS := fun M ρ => ic < ρ.length ∧ (∀ n, m { M with nx := fun ρ' => m2 M ρ' } ((ρ.set ic none).set ik (some (.int n)))) ∧ m2 M (ρ.set ic none)
theorem dss_cells (i ic ik : Nat) (hN : X.N.Nodup) (hbs : I.bs = some i) (hI : I.bk = boxK) (hNb : X.N[i]? = some bx) (hNc : X.N[ic]? = some xc) (hNk : X.N[ik]? = some xk) (vb : Vis X.env.scope bx) (vc : X.env.scope.names.lookup xc = some .local) (vk : X.env.scope.names.lookup xk = some .local)
    (hoc : ic ∉ I.own) (hok : ik ∉ I.own) (hbc : I.bs ≠ some ic) (hbk : I.bs ≠ some ik) (hck : ic ≠ ik) (glen : Gl X "len") (mlen : X.mg "len" = none) (gint : Gl X "int") (mint : X.mg "int" = none)
    (db1 : (bx == ("__debug__" : Str)) = false) (db2 : (bx == ("__classdict__" : Str)) = false) (dc1 : (xc == ("__debug__" : Str)) = false) (dc2 : (xc == ("__classdict__" : Str)) = false)
    (hs1 : swapsWith (.Subscript (.Name bx p2) (.Constant (.int 0) j0 p3) p4) (some (.Name xc p1)) p5.line X.env = pure false)
    (hs2 : swapsWith (.Call (.Name "int" r2) [.Call (.Attribute (.Name xc r3) "pop" r4) [.Constant (.int 0) j2 r5] [] r6] [] r7) (some (.Name xk r1)) r8.line X.env = pure false)
    (pop : ∀ {t : TE}, PE X (.Name xc r3) t → PE X (.Call (.Attribute (.Name xc r3) "pop" r4) [.Constant (.int 0) j2 r5] [] r6) (tBM X.K "list" rPopAt t (tCons (tC (.int 0)) tNil)))
    (hsl : starEach [.Name xc q2] X.env = (false, eval (.Name xc q2) X.env) :: starEach [] X.env) (hpl : (backTo q3 (starEach [] X.env)).any (·.1) = false)
    (hsp : starEach [.Call (.Attribute (.Name xc r3) "pop" r4) [.Constant (.int 0) j2 r5] [] r6] X.env = (false, eval (.Call (.Attribute (.Name xc r3) "pop" r4) [.Constant (.int 0) j2 r5] [] r6) X.env) :: starEach [] X.env) (hpp : (backTo r7 (starEach [] X.env)).any (·.1) = false)
    (h1 : DSs I X rest m) (h2 : DSs I X rest2 m2) :
    DSs I X (.Assign [.Name xc p1] (.Subscript (.Name bx p2) (.Constant (.int 0) j0 p3) p4) p5 ::
      .If (.Compare (.Call (.Name "len" q1) [.Name xc q2] [] q3) [.Gt] [.Constant (.int 0) j1 q4] q5)
        (.Assign [.Name xk r1] (.Call (.Name "int" r2) [.Call (.Attribute (.Name xc r3) "pop" r4) [.Constant (.int 0) j2 r5] [] r6] [] r7) r8 :: rest) [] q6 :: rest2) (sCells ic ik m m2) :=
  pss_imp (pss_cons (ps_set hN hNc (.inl vc) (pe_ix ix_list (pe_var hNb vb db1 db2) pe_int (fun _ _ => rfl)) hs1 (.inr vc))
    (pss_cons (ps_if (pt_cmpR op_gt (pe_callB call_len_seq glen mlen boot_len (pa_cons (pe_var hNc (.inl vc) dc1 dc2) pa_nil hsl) (by decide) (by decide) hsl hpl) pe_int (nomark _))
      (pss_cons (ps_set hN hNk (.inl vk) (pe_callTy call_int1 gint mint boot_int (pa_cons (pop (pe_var hNc (.inl vc) dc1 dc2)) pa_nil hsp) (by decide) (by decide) hsp hpp) hs2 (.inr vk)) h1) pss_nil) h2)) fun D σ H ⟨W, ρ, M, ok, S, hl, hm, E⟩ => by
    obtain ⟨b, c, x, y, ns, hp, hs', e1, e2, hne⟩ := S.boxRaw ok hbs hI
    refine ⟨.ref b, hs', b, _, 0, .ref c, rfl, rfl, .inl (.inl e1), rfl, ?_⟩
    obtain ⟨S1, k1⟩ := S.forget hoc hbc (.ref c)
    have kp1 : Kp I W σ ρ H (σ.set ic (some (.ref c))) (ρ.set ic none) H := Kp.forget hl hoc k1
    obtain ⟨hil, hm⟩ := hm
    rw [S.len] at hil
    have hc : (σ.set ic (some (V.ref c)))[ic]? = some (some (.ref c)) := List.getElem?_set_self hil
    refine ⟨.ref c, hc, c, ns.map V.int, rfl, .inl (.inl (.inl e2)), _, _, rfl, rfl, _, rfl, ?_⟩
    cases ns with
    | nil =>
      rw [if_neg (by simp)]
      exact ⟨W, ρ.set ic none, M, ok, S1, hl, hm.2, E.kp kp1⟩
    | cons n ns =>
      rw [if_pos (by simp)]
      refine ⟨.ref c, hc, .inl ⟨rfl, _, .inl (.inl e2)⟩, c, _, 0, 0, .int n, rfl, rfl, e2, by decide, by decide, by simp [seqIndex?], rfl, .inl ⟨n, rfl, ?_⟩⟩
      obtain ⟨S2, x2⟩ := S1.boxed ok hI hp (H' := upd H c (.lst (((n :: ns).map V.int).eraseIdx 0))) ⟨x, y, ns, by rw [upd_ne hne]; exact e1, by rw [upd_same]; rfl⟩ fun z n1 n2 => upd_ne n2
      obtain ⟨S3, k3⟩ := S2.setV (i := ik) hok hbk (v := .int n) (d := .int n) (.int n)
      have kp3 := (kp1.trans (x2.kp ok S1 hl)).trans (Kp.setV S2 hl hok k3)
      refine ⟨W, _, _, ok, S3, hl, hm.1 n, ?_⟩
      exact ⟨fun σ' H' ρ' hn S' k' => ⟨W, ρ', M, ok, S', hl, hn, E.kp (kp3.trans k')⟩, E.rt, fun σ' H' ρ' hn S' k' => E.bk _ _ _ hn S' (kp3.trans k'), fun σ' H' ρ' hn S' k' => E.ct _ _ _ hn S' (kp3.trans k')⟩
end
end PyD
namespace PyD
open PySem PySem.Spec L2
open PyProof.Rows hiding St
def spBox (K : PySem.W.Frag) : Sp := fun vs H Q _ => ∃ (a : Addr) (ns : List Int), vs = [.ref a] ∧ SqL K H a (ns.map V.int) ∧ ns.length ≤ 63 ∧
  ∀ H' b c, (∀ x o, H x = some o → H' x = some o) → H b = none → H c = none → boxK H' b c → Q (.ref b) H'
def spLaw (K : PySem.W.Frag) : Sp := fun vs H Q _ => ∃ (a : Addr) (ns : List Int), vs = [.ref a] ∧ ns.length ≤ 63 ∧ SqL K H a (ns.map V.int) ∧ ∀ H', Q (.bl true) H'
theorem startD_none {N : List Str} {i n : Nat} {d : D} : (startD N (List.replicate n none))[i]? ≠ some (some d) := fun h => by
  have := startD_get h
  rw [List.getElem?_replicate] at this
  split at this <;> cases this
section
variable {P : Program} {w : World} {K : PySem.W.Frag} {mg : Str → Option Value} {base : Heap}
theorem lawD {st : Stmt} {f : Addr} {fd : FuncData} {N : List Str} {k : Nat} (F : Fun K "law" "law" st f fd) (S : FnScope N ["script"] (defScope st)) (hN : 2 ≤ N.length) (I : SI) (hbs : I.bs = some 1) (hlk : I.lk = []) {s0 : Stmt} {rest : List Stmt} {m : MS} (hbd : defBody st = s0 :: rest)
    (h0 : ∀ (cdv : Value) (A : Around) (outer : List Env) (s : Shared) (H : Hp) (E : XK), Room k (A.deeper (envOfC "law" (defScope st) s.heap.objs.size f cdv)) → PS (cxOf CX0 P w K mg base N "law" (defScope st) f cdv A outer s H E).nox s0 (tAsg (tCall (spBox K) [] E0 (tCons (tVar 0) tNil)) (gName 1)))
    (hb : ∀ (cdv : Value) (A : Around) (outer : List Env) (s : Shared) (H : Hp) (E : XK), Room k (A.deeper (envOfC "law" (defScope st) s.heap.objs.size f cdv)) → DSs { I with bk := boxK } (cxOf CX0 P w K mg base N "law" (defScope st) f cdv A outer s H E).nox rest m)
    (hm : m ⟨fun _ => False, fun d => d = .bool true, fun _ => False, fun _ => False⟩ (startD N (List.replicate 2 none))) : FnOk P w K mg base CX0 (k + 1) f fd ["script"] (spLaw K) := by
  refine F.ok S (fun vs H Q E ⟨a, ns, e, _⟩ => by rw [e]; rfl) (fun cdv A outer s H vs Q E hr h => ?_)
  obtain ⟨a, ns, rfl, hlen, hS, q⟩ := h
  rw [hbd]
  refine ⟨_, pss_cons (h0 cdv A outer s H E hr) (hb cdv A outer s H E hr), ?_⟩
  refine ⟨.ref a, rfl, a, ns, rfl, hS, hlen, fun H1 b c keep fb fc hk => ?_⟩
  have hne : b ≠ c := fun z => by
    obtain ⟨x, y, ms, e1, e2⟩ := hk
    rw [z, e2] at e1
    cases ms with
    | nil => cases e1
    | cons n ms => rw [List.map_cons] at e1; cases e1
  have hl : (L2.start N [V.ref a]).length = N.length := by
    unfold L2.start
    rw [List.length_append, List.length_map, List.length_replicate, List.length_singleton]; omega
  have hs1 : ((L2.start N [V.ref a]).set 1 (some (V.ref b)))[1]? = some (some (.ref b)) := List.getElem?_set_self (by omega)
  refine ⟨⟨H1, fun x => x = b ∨ x = c, some (b, c), []⟩, startD N (List.replicate 2 none), _, ?_, ?_, (fun i hi => by have hi : i ∈ I.lk := hi; rw [hlk] at hi; cases hi), hm, ?_⟩
  · exact ⟨fun x ⟨p, hp, h⟩ => by cases hp; exact h, fun b _ => rfl, boxK_st⟩
  · refine ⟨?_, fun b u e => (nomatch e), fun i d hd _ => absurd hd startD_none, fun i d hd _ => absurd hd startD_none, fun i j a _ _ ⟨d, hd⟩ => absurd hd startD_none, fun b o h _ => h, fun x hx => ?_, fun p hp => ?_, fun i hi => ?_⟩
    · unfold startD
      rw [List.length_set, hl, List.length_append, List.length_replicate, List.length_replicate]; omega
    · obtain ⟨x1, y1, ms, e1, e2⟩ := hk
      rcases hx with z | z
      · rw [z]; exact ⟨_, e1, rfl⟩
      · rw [z]; exact ⟨_, e2, rfl⟩
    · cases hp; exact hk
    · have hi : I.bs = some i := hi
      rw [hbs] at hi
      cases hi
      exact ⟨_, rfl, hs1⟩
  · refine ⟨fun _ _ _ z => z.elim, fun v H' d hd ro => ?_, fun _ _ _ z => z.elim, fun _ _ _ z => z.elim⟩
    have hd : d = .bool true := hd
    subst hd
    have hv := ro.rep
    cases hv
    exact q H'
end
end PyD
namespace PyD
open PySem PySem.Spec L2 PySem.W
open PyProof.Rows hiding St
abbrev enc {α : Type} [DecidableEq α] [Datum α] (a : α) : D := Datum.toD a
section
variable {α : Type} [DecidableEq α] [DatumOrd α]
theorem eqOk_d {α : Type} [DecidableEq α] [Datum α] (h : Datum.depth α ≤ 150) (x y : α) : EqOk (Datum.toD x) (Datum.toD y) := ⟨Datum.plain x, Datum.plain y, Nat.le_trans (Nat.le_trans (Nat.min_le_left _ _) (Datum.depth_le x)) h⟩
theorem ltOk_d (h : Datum.depth α ≤ 150) (x y : α) : LtOk (Datum.toD x) (Datum.toD y) := ⟨eqOk_d h x y, DatumOrd.alike x y, DatumOrd.notNone x⟩
theorem pEq_d {α : Type} [DecidableEq α] [Datum α] (h : Datum.depth α ≤ 150) (x y : α) (Q : D → Prop) : pEq (Datum.toD x) (Datum.toD y) Q ↔ Q (.bool (decide (x = y))) := by unfold pEq; rw [Datum.eqv]; exact ⟨fun h => h.2, fun q => ⟨eqOk_d h x y, q⟩⟩
theorem pNe_d {α : Type} [DecidableEq α] [Datum α] (h : Datum.depth α ≤ 150) (x y : α) (Q : D → Prop) : pNe (Datum.toD x) (Datum.toD y) Q ↔ Q (.bool (!decide (x = y))) := by unfold pNe; rw [Datum.eqv]; exact ⟨fun h => h.2, fun q => ⟨eqOk_d h x y, q⟩⟩
theorem pLt_d (h : Datum.depth α ≤ 150) (x y : α) (Q : D → Prop) : pLt (Datum.toD x) (Datum.toD y) Q ↔ Q (.bool (DatumOrd.lt x y)) := by unfold pLt; rw [DatumOrd.lt_eq]; exact ⟨fun h => h.2, fun q => ⟨ltOk_d h x y, q⟩⟩
theorem pGt_d (h : Datum.depth α ≤ 150) (x y : α) (Q : D → Prop) : pGt (Datum.toD x) (Datum.toD y) Q ↔ Q (.bool (DatumOrd.lt y x)) := by unfold pGt; rw [DatumOrd.lt_eq]; exact ⟨fun h => h.2, fun q => ⟨ltOk_d h x y, q⟩⟩
theorem pLe_d (h : Datum.depth α ≤ 150) (x y : α) (Q : D → Prop) : pLe (Datum.toD x) (Datum.toD y) Q ↔ Q (.bool (!DatumOrd.lt y x)) := by unfold pLe; rw [DatumOrd.lt_eq]; exact ⟨fun h => h.2, fun q => ⟨ltOk_d h x y, q⟩⟩
theorem pGe_d (h : Datum.depth α ≤ 150) (x y : α) (Q : D → Prop) : pGe (Datum.toD x) (Datum.toD y) Q ↔ Q (.bool (!DatumOrd.lt x y)) := by unfold pGe; rw [DatumOrd.lt_eq]; exact ⟨fun h => h.2, fun q => ⟨ltOk_d h x y, q⟩⟩
theorem minOk_d (h : Datum.depth α ≤ 150) (x : α) (xs : List α) : MinOk (Datum.toD x) (xs.map Datum.toD) := ⟨alikeAll_datum (x :: xs), plainAll_map (x :: xs), Nat.le_trans (depthAll_map (x :: xs)) h⟩
end
theorem pEq_int (i j : Int) (Q : D → Prop) : pEq (.int i) (.int j) Q ↔ Q (.bool (decide (i = j))) := pEq_d (α := Int) (by decide) i j Q
theorem pNe_int (i j : Int) (Q : D → Prop) : pNe (.int i) (.int j) Q ↔ Q (.bool (!decide (i = j))) := pNe_d (α := Int) (by decide) i j Q
theorem pEq_bool (i j : Bool) (Q : D → Prop) : pEq (.bool i) (.bool j) Q ↔ Q (.bool (decide (i = j))) := pEq_d (α := Bool) (by decide) i j Q
theorem pNe_bool (i j : Bool) (Q : D → Prop) : pNe (.bool i) (.bool j) Q ↔ Q (.bool (!decide (i = j))) := pNe_d (α := Bool) (by decide) i j Q
theorem pEq_str (i j : Str) (Q : D → Prop) : pEq (.str i) (.str j) Q ↔ Q (.bool (decide (i = j))) := pEq_d (α := Str) (by decide) i j Q
theorem pNe_str (i j : Str) (Q : D → Prop) : pNe (.str i) (.str j) Q ↔ Q (.bool (!decide (i = j))) := pNe_d (α := Str) (by decide) i j Q
theorem pLt_int (i j : Int) (Q : D → Prop) : pLt (.int i) (.int j) Q ↔ Q (.bool (decide (i < j))) := pLt_d (α := Int) (by decide) i j Q
theorem pGt_int (i j : Int) (Q : D → Prop) : pGt (.int i) (.int j) Q ↔ Q (.bool (decide (j < i))) := pGt_d (α := Int) (by decide) i j Q
theorem pLe_int (i j : Int) (Q : D → Prop) : pLe (.int i) (.int j) Q ↔ Q (.bool (decide (i ≤ j))) := by
  rw [show decide (i ≤ j) = !decide (j < i) by rw [← decide_not]; exact decide_eq_decide.mpr (by omega)]; exact pLe_d (α := Int) (by decide) i j Q
theorem pGe_int (i j : Int) (Q : D → Prop) : pGe (.int i) (.int j) Q ↔ Q (.bool (decide (j ≤ i))) := by
  rw [show decide (j ≤ i) = !decide (i < j) by rw [← decide_not]; exact decide_eq_decide.mpr (by omega)]; exact pGe_d (α := Int) (by decide) i j Q
theorem atD_nat {α : Type} {xs : List α} {i : Int} (h : 0 ≤ i) : atD xs i = xs[i.toNat]? := by unfold atD; rw [if_pos h]
theorem isD_none (d : D) : isD d .none = match d with | .none => true | _ => false := by cases d <;> rfl
theorem mLc_of {vs : List Nat} {m : MA} {g : MG} {t : MT} {e : ME} {ρ : En} {Q : D → Prop} (f : D → Option D) (ds : List D) (hm : m ρ fun ds' => ds' = ds)
    (hmm : ∀ Q : List D → Prop, (m ρ fun ds' => ds' = ds) → Q ds → m ρ Q) (hz : ds.length ≤ sizeLine)
    (ht : ∀ (i : Nat) (d : D) (P : D → Prop) (N : Prop), ds[i]? = some d → (∀ y, f d = some y → P y) → (f d = none → N) → g d (wipeD ρ vs) fun ρ1 => t ρ1 fun c => if c = true then e ρ1 P else N)
    (hq : Q (.list (ds.filterMap f))) : mLc vs m g t e ρ Q := by
  refine hmm _ hm ⟨fun i acc => i ≤ ds.length ∧ acc = (ds.take i).filterMap f, ⟨Nat.zero_le _, rfl⟩, fun i d acc hd ⟨hi, ha⟩ => ?_, fun acc ⟨_, ha⟩ => by rw [ha, List.take_length]; exact hq⟩
  obtain ⟨hlt, he⟩ := List.getElem?_eq_some_iff.mp hd
  have hs : (ds.take (i + 1)).filterMap f = (ds.take i).filterMap f ++ (f d).toList := by
    rw [List.take_add_one, hd, List.filterMap_append]
    cases h : f d <;> simp [h]
  refine ht i d _ _ hd (fun y hy => ⟨?_, hlt, ?_⟩) (fun hn => ⟨hlt, ?_⟩)
  · rw [ha]
    exact Nat.lt_of_le_of_lt (List.length_filterMap_le _ _) (by rw [List.length_take]; omega)
  · rw [hs, hy, ha]; rfl
  · rw [hs, hn, ha]; simp
/-- over any list: the walk's own condition is shown by hm -/
theorem mLc_by {vs : List Nat} {m : MA} {g : MG} {t : MT} {e : ME} {ρ : En} {Q : D → Prop} (f : D → Option D) (ds : List D) (hz : ds.length ≤ sizeLine)
    (ht : ∀ (i : Nat) (d : D) (P : D → Prop) (N : Prop), ds[i]? = some d → (∀ y, f d = some y → P y) → (f d = none → N) → g d (wipeD ρ vs) fun ρ1 => t ρ1 fun c => if c = true then e ρ1 P else N)
    (hq : Q (.list (ds.filterMap f))) : ∃ P : Nat → List D → Prop, P 0 [] ∧
      (∀ i d acc, ds[i]? = some d → P i acc → g d (wipeD ρ vs) fun ρ1 => t ρ1 fun c => if c = true then e ρ1 fun y => acc.length < sizeLine ∧ P (i + 1) (acc ++ [y]) else P (i + 1) acc) ∧ ∀ acc, P ds.length acc → Q (.list acc) :=
  mLc_of (m := fun _ Q => Q ds) (ρ := ρ) f ds rfl (fun Q _ h => h) hz ht hq
theorem rngD_len (lo hi : Int) : (rngD lo hi).length = (hi - lo).toNat := by unfold rngD; rw [List.length_map, List.length_range]
theorem rngD_at {lo hi : Int} {i : Nat} {d : D} (h : (rngD lo hi)[i]? = some d) : d = .int (lo + i) ∧ lo + i < hi := by
  unfold rngD at h
  rw [List.getElem?_map, Option.map_eq_some_iff] at h
  obtain ⟨j, hj, rfl⟩ := h
  obtain ⟨hlt, he⟩ := List.getElem?_eq_some_iff.mp hj
  rw [List.length_range] at hlt
  rw [List.getElem_range] at he
  subst he
  exact ⟨rfl, by omega⟩
section
variable {α : Type} {vs : List Nat} {m : MA} {g : MG} {t : MT} {e : ME} {ρ : En} {Q : D → Prop}
theorem mLc_go (xs : List α) (c : α → D) (F : α → Option D) (hm : ∀ R : List D → Prop, R (xs.map c) → m ρ R) (hz : xs.length ≤ sizeLine)
    (ht : ∀ x, x ∈ xs → ∀ (P : D → Prop) (N : Prop), (∀ y, F x = some y → P y) → (F x = none → N) → g (c x) (wipeD ρ vs) fun ρ1 => t ρ1 fun b => if b = true then e ρ1 P else N)
    (hq : Q (.list (xs.filterMap F))) : mLc vs m g t e ρ Q := by
  refine hm _ ⟨fun i acc => i ≤ xs.length ∧ acc = (xs.take i).filterMap F, ⟨Nat.zero_le _, rfl⟩, fun i d acc hd ⟨hi, ha⟩ => ?_, fun acc ⟨_, ha⟩ => by rw [ha, List.length_map, List.take_length]; exact hq⟩
  rw [List.getElem?_map, Option.map_eq_some_iff] at hd
  obtain ⟨x, hx, rfl⟩ := hd
  obtain ⟨hlt, _⟩ := List.getElem?_eq_some_iff.mp hx
  have hs : (xs.take (i + 1)).filterMap F = (xs.take i).filterMap F ++ (F x).toList := by
    rw [List.take_add_one, hx, List.filterMap_append]
    cases h : F x <;> simp [h]
  refine ht x (List.mem_of_getElem? hx) _ _ (fun y hy => ⟨?_, hlt, ?_⟩) (fun hn => ⟨hlt, ?_⟩)
  · rw [ha]
    exact Nat.lt_of_le_of_lt (List.length_filterMap_le _ _) (by rw [List.length_take]; omega)
  · rw [hs, hy, ha]; rfl
  · rw [hs, hn, ha]; simp
theorem mLc_map (xs : List α) (c F : α → D) (hm : ∀ R : List D → Prop, R (xs.map c) → m ρ R) (hz : xs.length ≤ sizeLine)
    (ht : ∀ x, x ∈ xs → ∀ (P : D → Prop) (N : Prop), P (F x) → g (c x) (wipeD ρ vs) fun ρ1 => t ρ1 fun b => if b = true then e ρ1 P else N)
    (hq : Q (.list (xs.map F))) : mLc vs m g t e ρ Q :=
  mLc_go xs c (fun x => some (F x)) hm hz (fun x hx P N hp _ => ht x hx P N (hp _ rfl)) (by rw [List.filterMap_eq_map' (f := F)]; exact hq)
theorem mLc_filter (xs : List α) (c F : α → D) (p : α → Bool) (hm : ∀ R : List D → Prop, R (xs.map c) → m ρ R) (hz : xs.length ≤ sizeLine)
    (ht : ∀ x, x ∈ xs → ∀ (P : D → Prop) (N : Prop), (p x = true → P (F x)) → (p x = false → N) → g (c x) (wipeD ρ vs) fun ρ1 => t ρ1 fun b => if b = true then e ρ1 P else N)
    (hq : Q (.list ((xs.filter p).map F))) : mLc vs m g t e ρ Q :=
  mLc_go xs c (fun x => if p x = true then some (F x) else none) hm hz (fun x hx P N hp hn => ht x hx P N (fun h => hp _ (by rw [if_pos h])) fun h => hn (by rw [if_neg (by rw [h]; decide)])) (by
    have : ∀ l : List α, l.filterMap (fun x => if p x = true then some (F x) else none) = (l.filter p).map F := fun l => by
      induction l with
      | nil => rfl
      | cons y l ih => rw [List.filterMap_cons, List.filter_cons]; by_cases h : p y = true <;> simp [h, ih]
    rw [this]; exact hq)
end
theorem rngD_eq (lo hi : Int) : rngD lo hi = (List.range (hi - lo).toNat).map fun (i : Nat) => PyData.int (lo + i) := rfl
theorem allB_bools : ∀ bs : List Bool, allB (bs.map .bool) = some bs
  | [] => rfl
  | b :: bs => by rw [List.map_cons]; unfold allB; rw [allB_bools bs]; rfl
section
variable {vs : List Nat} {m : MA} {g : MG} {t : MT} {e : ME} {ρ : En} {Q : D → Prop}
theorem mLc_rngm (lo hi : Int) (F : Nat → D) (hm : ∀ R : List D → Prop, R (rngD lo hi) → m ρ R) (hz : hi - lo ≤ 16777216)
    (ht : ∀ i : Nat, lo + i < hi → ∀ (P : D → Prop) (N : Prop), P (F i) → g (.int (lo + i)) (wipeD ρ vs) fun ρ1 => t ρ1 fun b => if b = true then e ρ1 P else N)
    (hq : Q (.list ((List.range (hi - lo).toNat).map F))) : mLc vs m g t e ρ Q :=
  mLc_map (List.range (hi - lo).toNat) (fun i => .int (lo + i)) F (fun R hR => hm R hR) (by rw [List.length_range, sizeLine_eq]; omega) (fun i hi' P N hp => ht i (by have := List.mem_range.mp hi'; omega) P N hp) hq
theorem mLc_rngf (lo hi : Int) (F : Nat → D) (p : Nat → Bool) (hm : ∀ R : List D → Prop, R (rngD lo hi) → m ρ R) (hz : hi - lo ≤ 16777216)
    (ht : ∀ i : Nat, lo + i < hi → ∀ (P : D → Prop) (N : Prop), (p i = true → P (F i)) → (p i = false → N) → g (.int (lo + i)) (wipeD ρ vs) fun ρ1 => t ρ1 fun b => if b = true then e ρ1 P else N)
    (hq : Q (.list (((List.range (hi - lo).toNat).filter p).map F))) : mLc vs m g t e ρ Q :=
  mLc_filter (List.range (hi - lo).toNat) (fun i => .int (lo + i)) F p (fun R hR => hm R hR) (by rw [List.length_range, sizeLine_eq]; omega) (fun i hi' P N hp hn => ht i (by have := List.mem_range.mp hi'; omega) P N hp hn) hq
end
theorem rngOk_of {i : Int} (h1 : -1000000000000 ≤ i) (h2 : i ≤ 1000000000000) : rngOk i := ⟨by omega, by omega⟩
theorem smallI_of {i : Int} (h1 : -1000000000000 ≤ i) (h2 : i ≤ 1000000000000) : smallI i := ⟨by omega, by omega⟩
section
variable {α : Type} {m : MA} {g : MG} {b : MS} {ρ : En} {M : MEnds}
theorem sFor_go (xs : List α) (c : α → D) (P : Nat → En → Prop) (hm : ∀ R : List D → Prop, R (xs.map c) → m ρ R) (h0 : P 0 ρ)
    (hs : ∀ (i : Nat) (x : α) (ρ' : En), xs[i]? = some x → P i ρ' → g (c x) ρ' fun ρ1 => b { M with nx := P (i + 1), ct := P (i + 1), bk := M.nx } ρ1) (hd : ∀ ρ', P xs.length ρ' → M.nx ρ') : sFor m g b M ρ := by
  refine hm _ ⟨P, h0, fun i d ρ' h hp => ?_, fun ρ' hp => hd ρ' (by rw [List.length_map] at hp; exact hp)⟩
  rw [List.getElem?_map, Option.map_eq_some_iff] at h
  obtain ⟨x, hx, rfl⟩ := h
  exact hs i x ρ' hx hp
theorem sFor_rng (lo hi : Int) (P : Nat → En → Prop) (hm : ∀ R : List D → Prop, R (rngD lo hi) → m ρ R) (h0 : P 0 ρ)
    (hs : ∀ (i : Nat) (ρ' : En), lo + i < hi → P i ρ' → g (.int (lo + i)) ρ' fun ρ1 => b { M with nx := P (i + 1), ct := P (i + 1), bk := M.nx } ρ1) (hd : ∀ ρ', P (hi - lo).toNat ρ' → M.nx ρ') : sFor m g b M ρ :=
  sFor_go (List.range (hi - lo).toNat) (fun i => .int (lo + i)) P (fun R hR => hm R hR) h0 (fun i x ρ' h hp => by
    obtain ⟨hlt, e⟩ := List.getElem?_eq_some_iff.mp h
    rw [List.length_range] at hlt
    rw [List.getElem_range] at e
    subst e
    exact hs i ρ' (by omega) hp) (fun ρ' hp => hd ρ' (by rw [List.length_range] at hp; exact hp))
end
abbrev natD (n : Nat) : D := .int (n : Int)
/-- one statement; what follows stays closed -/
theorem seq_gen {s1 s2 : MS} {M : MEnds} {ρ : En} (h : ∀ N : En → Prop, N = s2 M → s1 { M with nx := N } ρ) : sSeq s1 s2 M ρ := h _ rfl
theorem atD_last {α : Type} (xs : List α) (x : α) : atD (xs ++ [x]) (-1) = some x := by
  unfold atD
  rw [if_neg (by decide), List.length_append, List.length_singleton, if_pos (by omega), show ((-1 : Int) + ((xs.length + 1 : Nat) : Int)).toNat = xs.length by omega]
  rw [List.getElem?_append_right (Nat.le_refl _), Nat.sub_self]; rfl
theorem stepN_cov {i j c : Int} (hc : 0 < c) (h : i < j) : j ≤ i + (stepN i j c : Int) * c := by
  unfold stepN
  rw [if_pos h]
  have h0 : 0 ≤ (j - i - 1) / c := Int.ediv_nonneg (by omega) (by omega)
  rw [Int.toNat_of_nonneg (by omega)]
  have := Int.lt_ediv_add_one_mul_self (j - i - 1) hc
  omega
theorem stepN_lt {i j c : Int} {k : Nat} (hc : 0 < c) (h : k < stepN i j c) : i + (k : Int) * c < j := by
  unfold stepN at h
  split at h
  · have h0 : 0 ≤ (j - i - 1) / c := Int.ediv_nonneg (by omega) (by omega)
    have h1 : (k : Int) ≤ (j - i - 1) / c := by omega
    have h2 := Int.mul_le_mul_of_nonneg_right h1 (by omega : 0 ≤ c)
    have h3 := Int.ediv_mul_le (j - i - 1) (by omega : c ≠ 0)
    omega
  · omega
theorem stepN_le {i j c : Int} (hc : 0 < c) : (stepN i j c : Int) ≤ max 0 (j - i) := by
  unfold stepN
  split
  · have h0 : 0 ≤ (j - i - 1) / c := Int.ediv_nonneg (by omega) (by omega)
    have h1 : (j - i - 1) / c ≤ j - i - 1 := Int.ediv_le_self _ (by omega)
    omega
  · omega
end PyD
namespace PyD
open PySem PySem.Spec L2 PySem.W
open PyProof.Rows hiding St
mutual
def sameD : D → D → Bool
  | .tuple xs, .tuple ys => decide (xs.length = ys.length) && sameAll xs ys
  | .list xs, .list ys => decide (xs.length = ys.length) && sameAll xs ys
  | .bool a, .bool b => decide (a = b)
  | .int a, .int b => decide (a = b)
  | .str a, .str b => decide (a = b)
  | .none, .none => true
  | _, _ => false
def sameAll : List D → List D → Bool
  | x :: xs, y :: ys => sameD x y && sameAll xs ys
  | _, _ => true
end
mutual
theorem sameD_refl : ∀ d : D, d.plain = true → sameD d d = true
  | .tuple xs, h => by unfold sameD; rw [sameAll_refl xs (by simpa [PyData.plain] using h)]; simp
  | .list xs, h => by unfold sameD; rw [sameAll_refl xs (by simpa [PyData.plain] using h)]; simp
  | .bool a, _ => by simp [sameD]
  | .int a, _ => by simp [sameD]
  | .str a, _ => by simp [sameD]
  | .none, _ => rfl
  | .dict _, h => by cases h
theorem sameAll_refl : ∀ xs : List D, PyData.plainAll xs = true → sameAll xs xs = true
  | [], _ => rfl
  | x :: xs, h => by
    have h' : x.plain = true ∧ PyData.plainAll xs = true := by simpa [PyData.plainAll] using h
    unfold sameAll; rw [sameD_refl x h'.1, sameAll_refl xs h'.2]; rfl
end
theorem sameAll_at : ∀ xs ys : List D, xs.length = ys.length → sameAll xs ys = (List.range xs.length).all fun k => sameD (xs.getD k .none) (ys.getD k .none)
  | [], [], _ => rfl
  | x :: xs, y :: ys, h => by
    unfold sameAll
    rw [sameAll_at xs ys (by simpa using h), List.length_cons, List.range_succ_eq_map, List.all_cons, List.all_map]
    rfl
  | [], _ :: _, h => by simp at h
  | _ :: _, [], h => by simp at h
def fSame : Nat → MF
  | 0 => fun _ _ => False
  | n + 1 => fun ds Q => ∃ x y : D, ds = [x, y] ∧ x.plain = true ∧ y.plain = true ∧ x.depth ≤ n ∧ y.depth ≤ n ∧ Q (.bool (sameD x y))
theorem fSame_depth {x : D} {xs : List D} {n : Nat} (h : PyData.depthAll xs ≤ n) (hx : x ∈ xs) : x.depth ≤ n := Nat.le_trans (depth_mem hx) h
theorem plain_memD {x : D} : ∀ {xs : List D}, PyData.plainAll xs = true → x ∈ xs → x.plain = true
  | y :: ys, h, hx => by
    have h' : y.plain = true ∧ PyData.plainAll ys = true := by simpa [PyData.plainAll] using h
    rcases List.mem_cons.mp hx with rfl | hx
    · exact h'.1
    · exact plain_memD h'.2 hx
theorem fnOk_false {P : Program} {w : World} {K : PySem.W.Frag} {mg : Str → Option Value} {base : Heap} {f : Addr} {fd : FuncData} {ps : List Str} {k n : Nat} : FnOk P w K mg base CX0 k f fd ps (spD K n fun _ _ => False) :=
  ⟨fun _ _ _ _ ⟨_, _, _, _, _, h, _⟩ => h.elim, fun _ _ _ _ _ _ _ _ _ _ _ _ _ ⟨_, _, _, _, _, h, _⟩ => h.elim⟩
/-- the heart of the two sequence cases -/
theorem same_seq {xs ys : List D} {n : Nat} {Q : D → Prop} (px : PyData.plainAll xs = true) (py : PyData.plainAll ys = true) (dx : PyData.depthAll xs + 1 ≤ n) (dy : PyData.depthAll ys + 1 ≤ n) (h : xs.length = ys.length) (k : Nat) (hk : k < xs.length) :
    ∃ x y, xs[k]? = some x ∧ ys[k]? = some y ∧ x.plain = true ∧ y.plain = true ∧ x.depth ≤ n - 1 ∧ y.depth ≤ n - 1 ∧ x = xs.getD k .none ∧ y = ys.getD k .none :=
  ⟨xs[k], ys[k], List.getElem?_eq_getElem hk, List.getElem?_eq_getElem (h ▸ hk), plain_memD px (List.getElem_mem hk), plain_memD py (List.getElem_mem _), Nat.le_trans (depth_mem (List.getElem_mem hk)) (by omega), Nat.le_trans (depth_mem (List.getElem_mem _)) (by omega), by simp [List.getD, List.getElem?_eq_getElem hk], by simp [List.getD, List.getElem?_eq_getElem (h ▸ hk)]⟩
/-- len of a list or tuple, with its bound -/
def pLenB : List D → (D → Prop) → Prop
  | [.list xs], Q => xs.length ≤ 16777216 → Q (.int xs.length)
  | [.tuple xs], Q => xs.length ≤ 16777216 → Q (.int xs.length)
  | _, _ => False
theorem r_lenB {X : Cx} : RnD X (.builtin "len") pLenB := by
  intro I W pins s σ H ρ xs us ds Qd Q Iv ok S rv tv hp fin
  unfold pLenB at hp
  split at hp
  · obtain ⟨x, rfl, t⟩ := tv.one
    obtain ⟨a, xs, rfl, r, z, ra⟩ := t.list
    rw [sizeLine_eq, ra.len] at z
    exact call_len_seq _ _ _ _ _ _ _ Iv rv ⟨a, xs, rfl, .inl (S.sqL r), fin.here S (.int _) (by rw [ra.len]; exact hp z)⟩
  · obtain ⟨x, rfl, t⟩ := tv.one
    obtain ⟨a, xs, rfl, r, z, ra⟩ := t.tuple
    rw [sizeLine_eq, ra.len] at z
    exact call_len_seq _ _ _ _ _ _ _ Iv rv ⟨a, xs, rfl, .inr (S.sqT r), fin.here S (.int _) (by rw [ra.len]; exact hp z)⟩
  · exact hp.elim
theorem isa_NoneType_tuple : isaB "NoneType" "tuple" = false := by decide
theorem isa_NoneType_list : isaB "NoneType" "list" = false := by decide
theorem isa_NoneType_bool : isaB "NoneType" "bool" = false := by decide
theorem isa_NoneType_int : isaB "NoneType" "int" = false := by decide
theorem isa_NoneType_str : isaB "NoneType" "str" = false := by decide
theorem isa_NoneType_dict : isaB "NoneType" "dict" = false := by decide
theorem isa_bool_tuple : isaB "bool" "tuple" = false := by decide
theorem isa_bool_list : isaB "bool" "list" = false := by decide
theorem isa_bool_bool : isaB "bool" "bool" = true := by decide
theorem isa_bool_int : isaB "bool" "int" = true := by decide
theorem isa_bool_str : isaB "bool" "str" = false := by decide
theorem isa_bool_dict : isaB "bool" "dict" = false := by decide
theorem isa_int_tuple : isaB "int" "tuple" = false := by decide
theorem isa_int_list : isaB "int" "list" = false := by decide
theorem isa_int_bool : isaB "int" "bool" = false := by decide
theorem isa_int_int : isaB "int" "int" = true := by decide
theorem isa_int_str : isaB "int" "str" = false := by decide
theorem isa_int_dict : isaB "int" "dict" = false := by decide
theorem isa_str_tuple : isaB "str" "tuple" = false := by decide
theorem isa_str_list : isaB "str" "list" = false := by decide
theorem isa_str_bool : isaB "str" "bool" = false := by decide
theorem isa_str_int : isaB "str" "int" = false := by decide
theorem isa_str_str : isaB "str" "str" = true := by decide
theorem isa_str_dict : isaB "str" "dict" = false := by decide
theorem isa_list_tuple : isaB "list" "tuple" = false := by decide
theorem isa_list_list : isaB "list" "list" = true := by decide
theorem isa_list_bool : isaB "list" "bool" = false := by decide
theorem isa_list_int : isaB "list" "int" = false := by decide
theorem isa_list_str : isaB "list" "str" = false := by decide
theorem isa_list_dict : isaB "list" "dict" = false := by decide
theorem isa_tuple_tuple : isaB "tuple" "tuple" = true := by decide
theorem isa_tuple_list : isaB "tuple" "list" = false := by decide
theorem isa_tuple_bool : isaB "tuple" "bool" = false := by decide
theorem isa_tuple_int : isaB "tuple" "int" = false := by decide
theorem isa_tuple_str : isaB "tuple" "str" = false := by decide
theorem isa_tuple_dict : isaB "tuple" "dict" = false := by decide
theorem isa_dict_tuple : isaB "dict" "tuple" = false := by decide
theorem isa_dict_list : isaB "dict" "list" = false := by decide
theorem isa_dict_bool : isaB "dict" "bool" = false := by decide
theorem isa_dict_int : isaB "dict" "int" = false := by decide
theorem isa_dict_str : isaB "dict" "str" = false := by decide
theorem isa_dict_dict : isaB "dict" "dict" = true := by decide
theorem same_true {x y : D} {n : Nat} {Q : D → Prop} (h : x = y) (p : x.plain = true) (d : x.depth ≤ n) (q : Q (.bool true)) : fSame (n + 1) [x, y] Q := by
  subst h
  exact ⟨x, x, rfl, p, p, d, d, by rw [sameD_refl x p]; exact q⟩
theorem small_size {n : Nat} (h : n ≤ 1000000) : n ≤ sizeLine := by rw [sizeLine_eq]; omega
end PyD
namespace PyD
open PySem PySem.Spec L2 PySem.W
open PyProof.Rows hiding St
section
variable {κ β : Type} [DecidableEq κ]
def aget (es : List (κ × β)) (k : κ) : Option β := (es.find? fun p => decide (p.1 = k)).map (·.2)
def aput (es : List (κ × β)) (k : κ) (v : β) : List (κ × β) := if (es.any fun p => decide (p.1 = k)) = true then es.map (fun p => if p.1 = k then (p.1, v) else p) else es ++ [(k, v)]
theorem aget_nil (k : κ) : aget ([] : List (κ × β)) k = none := rfl
theorem aget_cons (p : κ × β) (es : List (κ × β)) (k : κ) : aget (p :: es) k = if p.1 = k then some p.2 else aget es k := by
  unfold aget
  rw [List.find?_cons]
  by_cases h : p.1 = k
  · simp [h]
  · simp [h]
theorem aget_any (es : List (κ × β)) (k : κ) : (es.any fun p => decide (p.1 = k)) = (aget es k).isSome := by
  induction es with
  | nil => rfl
  | cons p es ih =>
    rw [List.any_cons, aget_cons, ih]
    by_cases h : p.1 = k <;> simp [h]
theorem aget_app (a b : List (κ × β)) (k : κ) : aget (a ++ b) k = (aget a k).or (aget b k) := by
  induction a with
  | nil => rfl
  | cons p a ih =>
    rw [List.cons_append, aget_cons, aget_cons, ih]
    by_cases h : p.1 = k <;> simp [h]
theorem aget_upd (es : List (κ × β)) (k j : κ) (v : β) : aget (es.map fun p => if p.1 = k then (p.1, v) else p) j = if j = k then (aget es j).map fun _ => v else aget es j := by
  induction es with
  | nil => simp [aget_nil]
  | cons p es ih =>
    rw [List.map_cons, aget_cons, aget_cons, ih]
    by_cases h : p.1 = k
    · rw [if_pos h]
      by_cases e : p.1 = j
      · rw [if_pos e, if_pos e, if_pos (e.symm.trans h)]; rfl
      · rw [if_neg e, if_neg e]
    · rw [if_neg h]
      by_cases e : p.1 = j
      · rw [if_pos e, if_pos e, if_neg (fun z => h (e.trans z))]
      · rw [if_neg e, if_neg e]
theorem aget_aput (es : List (κ × β)) (k j : κ) (v : β) : aget (aput es k v) j = if j = k then some v else aget es j := by
  unfold aput
  by_cases h : (es.any fun p => decide (p.1 = k)) = true
  · rw [if_pos h, aget_upd]
    by_cases e : j = k
    · subst e
      rw [aget_any] at h
      obtain ⟨x, hx⟩ := Option.isSome_iff_exists.mp h
      rw [if_pos rfl, if_pos rfl, hx]; rfl
    · rw [if_neg e, if_neg e]
  · rw [if_neg h, aget_app, aget_cons, aget_nil]
    by_cases e : j = k
    · subst e
      rw [aget_any] at h
      cases hx : aget es j with
      | none => simp
      | some x => rw [hx] at h; exact absurd rfl h
    · rw [if_neg (fun z => e z.symm), if_neg e]; simp
theorem aput_keys (es : List (κ × β)) (k : κ) (v : β) : (aput es k v).map (·.1) = if (aget es k).isSome = true then es.map (·.1) else es.map (·.1) ++ [k] := by
  unfold aput
  rw [aget_any]
  by_cases h : (aget es k).isSome = true
  · rw [if_pos h, if_pos h, List.map_map]
    apply List.map_congr_left
    intro p _
    show (if p.1 = k then (p.1, v) else p).1 = p.1
    split <;> rfl
  · rw [if_neg h, if_neg h, List.map_append]; rfl
theorem aput_len (es : List (κ × β)) (k : κ) (v : β) : (aput es k v).length = if (aget es k).isSome = true then es.length else es.length + 1 := by
  have := congrArg List.length (aput_keys es k v)
  rw [List.length_map] at this
  rw [this]
  split <;> simp
theorem aget_mem {es : List (κ × β)} {k : κ} {v : β} (h : aget es k = some v) : (k, v) ∈ es := by
  unfold aget at h
  rw [Option.map_eq_some_iff] at h
  obtain ⟨p, hp, rfl⟩ := h
  have h1 := List.mem_of_find?_eq_some hp
  have h2 := List.find?_some hp
  rw [decide_eq_true_eq] at h2
  rw [← h2]; exact h1
theorem aget_key {es : List (κ × β)} {k : κ} : (aget es k).isSome = true ↔ k ∈ es.map (·.1) := by
  rw [← aget_any, List.any_eq_true]
  constructor
  · rintro ⟨p, hp, he⟩
    rw [decide_eq_true_eq] at he
    exact List.mem_map.mpr ⟨p, hp, he⟩
  · intro h
    obtain ⟨p, hp, he⟩ := List.mem_map.mp h
    exact ⟨p, hp, decide_eq_true he⟩
theorem aget_of_mem {es : List (κ × β)} (nd : (es.map (·.1)).Nodup) {k : κ} {v : β} (h : (k, v) ∈ es) : aget es k = some v := by
  induction es with
  | nil => cases h
  | cons p es ih =>
    rw [List.map_cons, List.nodup_cons] at nd
    rw [aget_cons]
    rcases List.mem_cons.mp h with e | h
    · rw [← e, if_pos rfl]
    · rw [if_neg fun (z : p.1 = k) => nd.1 (by rw [z]; exact List.mem_map.mpr ⟨_, h, rfl⟩)]
      exact ih nd.2 h
theorem aput_nodup {es : List (κ × β)} (nd : (es.map (·.1)).Nodup) (k : κ) (v : β) : ((aput es k v).map (·.1)).Nodup := by
  rw [aput_keys]
  by_cases h : (aget es k).isSome = true
  · rw [if_pos h]; exact nd
  · rw [if_neg h]
    refine List.nodup_append.mpr ⟨nd, by simp, fun a ha b hb => ?_⟩
    rw [List.mem_singleton] at hb
    rintro rfl
    subst hb
    exact h (aget_key.mpr ha)
section
variable (ck : κ → D) (cv : β → D)
abbrev encP (p : κ × β) : D × D := (ck p.1, cv p.2)
variable (hk : ∀ k j, PyData.eqv (ck k) (ck j) = decide (k = j))
include hk
theorem dget_map (es : List (κ × β)) (k : κ) : dget (es.map (encP ck cv)) (ck k) = (aget es k).map cv := by
  induction es with
  | nil => rfl
  | cons p es ih =>
    rw [List.map_cons, aget_cons]
    unfold dget at ih ⊢
    rw [List.find?_cons, show PyData.eqv (encP ck cv p).1 (ck k) = decide (p.1 = k) from hk _ _]
    by_cases h : p.1 = k
    · rw [decide_eq_true h, if_pos h]; rfl
    · rw [decide_eq_false h, if_neg h]; exact ih
theorem dput_map (es : List (κ × β)) (k : κ) (v : β) : dput (es.map (encP ck cv)) (ck k) (cv v) = (aput es k v).map (encP ck cv) := by
  unfold dput aput
  have e : ((es.map (encP ck cv)).any fun p => PyData.eqv p.1 (ck k)) = es.any fun p => decide (p.1 = k) := by
    rw [List.any_map]
    congr 1
    funext p
    exact hk _ _
  rw [e]
  by_cases h : (es.any fun p => decide (p.1 = k)) = true
  · rw [if_pos h, if_pos h, List.map_map, List.map_map]
    apply List.map_congr_left
    intro p _
    show (if PyData.eqv (encP ck cv p).1 (ck k) = true then ((encP ck cv p).1, cv v) else encP ck cv p) = encP ck cv (if p.1 = k then (p.1, v) else p)
    rw [show PyData.eqv (encP ck cv p).1 (ck k) = decide (p.1 = k) from hk _ _]
    by_cases q : p.1 = k
    · rw [if_pos (decide_eq_true q), if_pos q]
    · rw [if_neg (by simp [q]), if_neg q]
  · rw [if_neg h, if_neg h, List.map_append]; rfl
theorem keys_any (ks : List κ) (k : κ) : ((ks.map ck).any fun y => PyData.eqv y (ck k)) = decide (k ∈ ks) := by
  rw [List.any_map]
  induction ks with
  | nil => rfl
  | cons j ks ih =>
    rw [List.any_cons, ih]
    show (PyData.eqv (ck j) (ck k) || _) = _
    rw [hk]
    by_cases h : j = k
    · simp [h]
    · simp only [decide_eq_false h, Bool.false_or, List.mem_cons]
      exact decide_eq_decide.mpr ⟨.inr, fun z => z.resolve_left fun q => h q.symm⟩
end
end
theorem eqv_nat (i j : Nat) : PyData.eqv (natD i) (natD j) = decide (i = j) := by
  have := Datum.eqv (α := Int) (i : Int) (j : Int)
  rw [show PyData.eqv (natD i) (natD j) = _ from this]
  exact decide_eq_decide.mpr (by omega)
def dN (es : List (Nat × Nat)) : D := dK (es.map (encP natD natD))
theorem hasD_dN {i : Nat} {ρ : En} {es : List (Nat × Nat)} (h : ρ[i]? = some (some (dN es))) : hasD i ρ := ⟨_, h⟩
theorem pIx_dN (es : List (Nat × Nat)) (k : Nat) (Q : D → Prop) : pIx (dN es) (.int (k : Int)) Q ↔ ∃ v, aget es k = some v ∧ Q (.int (v : Int)) := by
  show (isKeyK (natD k) = true ∧ ∃ d, dget (es.map (encP natD natD)) (natD k) = some d ∧ Q d) ↔ _
  rw [dget_map natD natD eqv_nat]
  constructor
  · rintro ⟨_, d, h, q⟩
    rw [Option.map_eq_some_iff] at h
    obtain ⟨v, hv, rfl⟩ := h
    exact ⟨v, hv, q⟩
  · rintro ⟨v, hv, q⟩
    exact ⟨rfl, _, by rw [hv]; rfl, q⟩
theorem pIn_dN (es : List (Nat × Nat)) (k : Nat) (Q : D → Prop) : pIn (.int (k : Int)) (dN es) Q ↔ Q (.bool (aget es k).isSome) := by
  show (isKeyK (natD k) = true ∧ Q (.bool (dget (es.map (encP natD natD)) (natD k)).isSome)) ↔ _
  rw [dget_map natD natD eqv_nat, Option.isSome_map]
  exact ⟨fun h => h.2, fun h => ⟨rfl, h⟩⟩
theorem pNotIn_dN (es : List (Nat × Nat)) (k : Nat) (Q : D → Prop) : pNotIn (.int (k : Int)) (dN es) Q ↔ Q (.bool (!(aget es k).isSome)) := by
  show (isKeyK (natD k) = true ∧ Q (.bool (!(dget (es.map (encP natD natD)) (natD k)).isSome))) ↔ _
  rw [dget_map natD natD eqv_nat, Option.isSome_map]
  exact ⟨fun h => h.2, fun h => ⟨rfl, h⟩⟩
theorem pSetK_dN (es : List (Nat × Nat)) (k v : Nat) (Q : D → Prop) : pSetK (dN es) (.int (k : Int)) (.int (v : Int)) Q ↔ es.length < sizeLine ∧ Q (dN (aput es k v)) := by
  show (isKeyK (natD k) = true ∧ (es.map (encP natD natD)).length < sizeLine ∧ Q (dK (dput (es.map (encP natD natD)) (natD k) (natD v)))) ↔ _
  rw [dput_map natD natD eqv_nat, List.length_map]
  exact ⟨fun h => h.2, fun h => ⟨rfl, h⟩⟩
theorem pLen_dN (es : List (Nat × Nat)) (Q : D → Prop) : pLen [dN es] Q ↔ Q (.int es.length) := by
  show Q (.int ((es.map (encP natD natD)).length : Nat)) ↔ _
  rw [List.length_map]
theorem aKeys_dN {i : Nat} {ρ : En} {es : List (Nat × Nat)} (h : ρ[i]? = some (some (dN es))) {Q : List D → Prop} (hq : Q (es.map fun p => natD p.1)) : aKeys i ρ Q := by
  unfold aKeys
  rw [h]
  show Q ((es.map (encP natD natD)).map (·.1))
  rw [List.map_map]
  exact hq
/-- the least of pairs, by the first -/
theorem minOf_pair (x : Int × Int) (xs : List (Int × Int)) : minOf x xs ∈ x :: xs ∧ ∀ y ∈ x :: xs, (minOf x xs).1 ≤ y.1 := by
  unfold minOf
  induction xs generalizing x with
  | nil => exact ⟨List.mem_cons_self, fun y hy => by rw [List.mem_singleton] at hy; rw [hy]; exact Int.le_refl _⟩
  | cons z xs ih =>
    rw [List.foldl_cons]
    obtain ⟨h1, h2⟩ := ih (if DatumOrd.lt z x = true then z else x)
    have hx : (if DatumOrd.lt z x = true then z else x).1 ≤ x.1 ∧ (if DatumOrd.lt z x = true then z else x).1 ≤ z.1 := by
      have e : DatumOrd.lt z x = if z.1 = x.1 then decide (z.2 < x.2) else decide (z.1 < x.1) := rfl
      rw [e]
      by_cases q : z.1 = x.1
      · rw [if_pos q]; split <;> constructor <;> omega
      · rw [if_neg q]
        by_cases w : z.1 < x.1
        · rw [decide_eq_true w, if_pos rfl]; constructor <;> omega
        · rw [decide_eq_false w, if_neg (by decide)]; constructor <;> omega
    refine ⟨?_, fun y hy => ?_⟩
    · rcases List.mem_cons.mp h1 with h | h
      · rw [h]; split
        · exact List.mem_cons_of_mem _ List.mem_cons_self
        · exact List.mem_cons_self
      · exact List.mem_cons_of_mem _ (List.mem_cons_of_mem _ h)
    · have h0 := h2 _ List.mem_cons_self
      rcases List.mem_cons.mp hy with rfl | hy
      · exact Int.le_trans h0 hx.1
      · rcases List.mem_cons.mp hy with rfl | hy
        · exact Int.le_trans h0 hx.2
        · exact h2 y (List.mem_cons_of_mem _ hy)
theorem cutD_tail (x : D) (xs : List D) : cutD (x :: xs) (some 1) none = xs := by
  unfold cutD
  rw [show HT.sIx (x :: xs).length 0 (some 1) = min 1 (x :: xs).length from HT.sIx_nat _ 0 1, HT.sIx_none, show min 1 (x :: xs).length = 1 by rw [List.length_cons]; omega]
  show (List.drop 1 (x :: xs)).take ((x :: xs).length - 1) = xs
  rw [List.length_cons, Nat.add_sub_cancel]
  exact List.take_length
theorem maxOf_int (x : Int) (xs : List Int) : maxOf x xs ∈ x :: xs ∧ ∀ y ∈ x :: xs, y ≤ maxOf x xs := by
  unfold maxOf
  induction xs generalizing x with
  | nil => exact ⟨List.mem_cons_self, fun y hy => by rw [List.mem_singleton] at hy; rw [hy]; exact Int.le_refl _⟩
  | cons z xs ih =>
    rw [List.foldl_cons]
    have e : DatumOrd.lt x z = decide (x < z) := rfl
    obtain ⟨h1, h2⟩ := ih (if DatumOrd.lt x z = true then z else x)
    have hx : x ≤ (if DatumOrd.lt x z = true then z else x) ∧ z ≤ (if DatumOrd.lt x z = true then z else x) := by
      rw [e]; by_cases w : x < z
      · rw [decide_eq_true w, if_pos rfl]; omega
      · rw [decide_eq_false w, if_neg (by decide)]; omega
    refine ⟨?_, fun y hy => ?_⟩
    · rcases List.mem_cons.mp h1 with h | h
      · rw [h]; split
        · exact List.mem_cons_of_mem _ List.mem_cons_self
        · exact List.mem_cons_self
      · exact List.mem_cons_of_mem _ (List.mem_cons_of_mem _ h)
    · have h0 := h2 _ List.mem_cons_self
      rcases List.mem_cons.mp hy with rfl | hy
      · exact Int.le_trans hx.1 h0
      · rcases List.mem_cons.mp hy with rfl | hy
        · exact Int.le_trans hx.2 h0
        · exact h2 y (List.mem_cons_of_mem _ hy)
/-- max of ints, by what it is -/
theorem pMax_ints {c : List D → D} (hc : (∀ ds, c ds = .list ds) ∨ (∀ ds, c ds = .tuple ds)) (xs : List Int) (hx : xs ≠ []) (Q : D → Prop) (h : ∀ m, m ∈ xs → (∀ y ∈ xs, y ≤ m) → Q (.int m)) : pMax [c (xs.map .int)] Q := by
  cases xs with
  | nil => exact absurd rfl hx
  | cons x xs =>
    obtain ⟨h1, h2⟩ := maxOf_int x xs
    have q : MinOk (.int x) (xs.map .int) ∧ Q (maxD (.int x) (xs.map .int)) := by
      refine ⟨minOk_d (α := Int) (by decide) x xs, ?_⟩
      rw [show maxD (.int x) (xs.map .int) = .int (maxOf x xs) from maxD_map (α := Int) x xs]
      exact h _ h1 h2
    rcases hc with hc | hc <;> rw [hc] <;> exact q
section
variable {α : Type} [DecidableEq α] [DatumOrd α]
theorem dataLe_d (a b : α) : dataLe false (fun d : D => d) (Datum.toD a) (Datum.toD b) = !DatumOrd.lt b a := by
  rw [← DatumOrd.lt_eq]; rfl
theorem sortD_map (xs : List α) : sortD (xs.map Datum.toD) = (xs.mergeSort fun a b => !DatumOrd.lt b a).map Datum.toD := by
  unfold sortD
  exact (List.map_mergeSort (fun a _ b _ => (dataLe_d a b).symm)).symm
end
theorem sortOk_nats (ks : List Nat) : SortOk (ks.map natD) := by
  have e : ks.map natD = (ks.map fun k => ((k : Nat) : Int)).map .int := by rw [List.map_map]; rfl
  rw [e]
  refine ⟨AllAlike.of fun b b' => ?_, Sortable.others fun b => ⟨(fun h => nomatch h), (fun xs h => nomatch h)⟩, plainAll_map (α := Int) _, Nat.le_trans (depthAll_map (α := Int) _) (by decide)⟩
  exact DatumOrd.alike (α := Int) b b'
theorem sortD_nats (ks : List Nat) : ∃ ls : List Nat, sortD (ks.map natD) = ls.map natD ∧ ls.Perm ks ∧ ls.Pairwise (· ≤ ·) := by
  refine ⟨ks.mergeSort fun a b => decide (a ≤ b), ?_, List.mergeSort_perm _ _, ?_⟩
  · unfold sortD
    refine (List.map_mergeSort fun a _ b _ => ?_).symm
    rw [show dataLe false (fun d : D => d) (natD a) (natD b) = !DatumOrd.lt (α := Int) (b : Int) (a : Int) from dataLe_d (α := Int) _ _]
    show decide (a ≤ b) = !decide ((b : Int) < a)
    rw [← decide_not]; exact decide_eq_decide.mpr (by omega)
  · have := List.pairwise_mergeSort (le := fun a b : Nat => decide (a ≤ b)) (fun a b c h1 h2 => by simp at *; omega) (fun a b => by simp; omega) ks
    exact this.imp fun h => by simpa using h
/-- dict([(v, 1), ..]): its keys -/
theorem mergeD_ones (vs : List Nat) (one : D) : ∃ ks : List Nat, mergeD [] (vs.map fun v => (natD v, one)) = ks.map (fun k => (natD k, one)) ∧ ks.Nodup ∧ ∀ x, x ∈ ks ↔ x ∈ vs := by
  have go : ∀ (vs : List Nat) (es : List (Nat × Unit)), (es.map (·.1)).Nodup → ∃ fs : List (Nat × Unit), mergeD (es.map fun p => (natD p.1, one)) (vs.map fun v => (natD v, one)) = fs.map (fun p => (natD p.1, one)) ∧ (fs.map (·.1)).Nodup ∧ ∀ x, x ∈ fs.map (·.1) ↔ x ∈ es.map (·.1) ∨ x ∈ vs := by
    intro vs
    induction vs with
    | nil => intro es nd; exact ⟨es, rfl, nd, fun x => by simp⟩
    | cons v vs ih =>
      intro es nd
      obtain ⟨fs, h1, h2, h3⟩ := ih (aput es v ()) (aput_nodup nd v ())
      refine ⟨fs, ?_, h2, fun x => ?_⟩
      · rw [← h1, List.map_cons]
        show mergeD (dput (es.map fun p => (natD p.1, one)) (natD v) one) _ = _
        rw [show dput (es.map fun p => (natD p.1, one)) (natD v) one = (aput es v ()).map (fun p => (natD p.1, one)) from dput_map natD (fun _ : Unit => one) eqv_nat es v ()]
      · rw [h3, aput_keys]
        by_cases hm : (aget es v).isSome = true
        · rw [if_pos hm, List.mem_cons]
          exact ⟨fun h => h.imp id .inr, fun h => by
            rcases h with h | rfl | h
            · exact .inl h
            · exact .inl (aget_key.mp hm)
            · exact .inr h⟩
        · rw [if_neg hm, List.mem_append, List.mem_singleton, List.mem_cons, or_assoc]
  obtain ⟨fs, h1, h2, h3⟩ := go vs [] List.nodup_nil
  exact ⟨fs.map (·.1), by rw [List.map_map]; exact h1, h2, fun x => by rw [h3]; simp⟩
theorem pairsOf_map (vs : List Nat) (one : D) : pairsOf (vs.map fun v => .tuple [natD v, one]) = some (vs.map fun v => (natD v, one)) := by
  induction vs with
  | nil => rfl
  | cons v vs ih => rw [List.map_cons, List.map_cons]; unfold pairsOf; rw [ih]; rfl
/-- sorted(dict([(v, 1), ..])) -/
theorem sorted_dict {vs : List Nat} {one : D} {Q : D → Prop} (h : ∀ ls : List Nat, ls.Pairwise (· < ·) → (∀ x, x ∈ ls ↔ x ∈ vs) → Q (.list (ls.map natD))) : pDictP [.list (vs.map fun v => .tuple [natD v, one])] fun d => pSorted [d] Q := by
  unfold pDictP
  simp only
  rw [pairsOf_map]
  simp only
  refine ⟨by simp [List.all_map]; intros; rfl, ?_⟩
  obtain ⟨ks, e, nd, hm⟩ := mergeD_ones vs one
  rw [e]
  obtain ⟨ls, e2, hp, hs⟩ := sortD_nats ks
  refine ⟨ks.map natD, by unfold itemsD; simp only [List.map_map]; rfl, sortOk_nats ks, ?_⟩
  rw [e2]
  have nd2 : ls.Nodup := hp.nodup_iff.mpr nd
  refine h ls ?_ fun x => by rw [hp.mem_iff, hm]
  have := hs.and nd2
  exact this.imp fun ⟨h1, h2⟩ => by omega
theorem plain_mapN (xs : List Nat) (f : Nat → Nat) : (PyData.tuple (xs.map fun r => natD (f r))).plain = true ∧ (PyData.tuple (xs.map fun r => natD (f r))).depth ≤ 1 := by
  have e : (xs.map fun r => natD (f r)) = (xs.map fun r => ((f r : Nat) : Int)).map .int := by rw [List.map_map]; rfl
  rw [e]
  refine ⟨?_, ?_⟩
  · simp only [PyData.plain]; exact plainAll_map (α := Int) _
  · simp only [PyData.depth]; exact Nat.succ_le_succ (depthAll_map (α := Int) _)
end PyD
namespace K47
open PyD
inductive Sums (ls : List Nat) : Nat → Prop
  | zero : Sums ls 0
  | add {s l : Nat} : Sums ls s → l ∈ ls → Sums ls (s + l)
theorem Sums.plus {ls : List Nat} {a b : Nat} (ha : Sums ls a) (hb : Sums ls b) : Sums ls (a + b) := by
  induction hb with
  | zero => exact ha
  | add _ hl ih => rw [← Nat.add_assoc]; exact ih.add hl
theorem Sums.mono {ls ms : List Nat} (h : ∀ l ∈ ls, l ∈ ms) {s : Nat} (hs : Sums ls s) : Sums ms s := by
  induction hs with
  | zero => exact .zero
  | add _ hl ih => exact ih.add (h _ hl)
theorem Sums.times {ls : List Nat} {l : Nat} (h : l ∈ ls) : ∀ k, Sums ls (k * l)
  | 0 => by rw [Nat.zero_mul]; exact .zero
  | k + 1 => by rw [Nat.succ_mul]; exact (Sums.times h k).add h
/-- the first length's multiples do not matter for the remainder -/
theorem Sums.rest {a : Nat} {rest : List Nat} {s : Nat} (h : Sums (a :: rest) s) : ∃ t, Sums rest t ∧ t ≤ s ∧ t % a = s % a := by
  induction h with
  | zero => exact ⟨0, .zero, Nat.le_refl _, rfl⟩
  | @add s l _ hl ih =>
    obtain ⟨t, ht, hle, hm⟩ := ih
    rcases List.mem_cons.mp hl with rfl | hl
    · exact ⟨t, ht, by omega, by rw [hm, Nat.add_mod_right]⟩
    · exact ⟨t + l, ht.add hl, by omega, by rw [Nat.add_mod, hm, ← Nat.add_mod]⟩
theorem bounded_len : ∀ (a : Nat) (l : List Nat), l.Nodup → (∀ x ∈ l, x < a) → l.length ≤ a
  | 0, l, _, h => by cases l with
    | nil => exact Nat.le_refl _
    | cons x l => exact absurd (h x List.mem_cons_self) (Nat.not_lt_zero x)
  | a + 1, l, nd, h => by
    have h1 : (l.erase a).length ≤ a := bounded_len a (l.erase a) (nd.erase a) fun x hx => by
      have h2 := (nd.mem_erase_iff).mp hx
      have h3 := h x h2.2
      have := h2.1
      omega
    have h2 := List.length_erase (a := a) (l := l)
    split at h2 <;> omega
theorem all_in {a : Nat} {l : List Nat} (nd : l.Nodup) (h : ∀ x ∈ l, x < a) (hl : l.length = a) {r : Nat} (hr : r < a) : r ∈ l := by
  by_cases hm : r ∈ l
  · exact hm
  · have := bounded_len a (r :: l) (List.nodup_cons.mpr ⟨hm, nd⟩) fun x hx => by
      rcases List.mem_cons.mp hx with rfl | hx
      · exact hr
      · exact h x hx
    rw [List.length_cons] at this; omega
structure DJ (a : Nat) (rest : List Nat) (es ds : List (Nat × Nat)) (P : Nat → Nat → Prop) : Prop where
  nb : (es.map (·.1)).Nodup
  nd : (ds.map (·.1)).Nodup
  b1 : ∀ r v, aget es r = some v → r < a ∧ v % a = r ∧ Sums rest v ∧ v ≤ ds.length * 27
  d1 : ∀ r v, aget ds r = some v → aget es r = some v ∧ (∀ s, Sums rest s → s % a = r → v ≤ s) ∧ v + 27 ≤ ds.length * 27
  d2 : ∀ r v l, aget ds r = some v → l ∈ rest → P r l → ∃ v', aget es ((v + l) % a) = some v' ∧ v' ≤ v + l
  z : aget es 0 = some 0
variable {a : Nat} {rest : List Nat} {es ds : List (Nat × Nat)} {P : Nat → Nat → Prop}
theorem DJ.start (ha : 0 < a) : DJ a rest [(0, 0)] [] fun _ _ => True where
  nb := by simp
  nd := by simp
  b1 := fun r v h => by
    rw [aget_cons, aget_nil] at h
    split at h
    · rename_i e
      cases h
      have e : 0 = r := e
      subst e
      exact ⟨ha, Nat.zero_mod _, .zero, Nat.zero_le _⟩
    · cases h
  d1 := fun r v h => by rw [aget_nil] at h; cases h
  d2 := fun r v l h => by rw [aget_nil] at h; cases h
  z := by rw [aget_cons, if_pos rfl]
theorem DJ.weak {P' : Nat → Nat → Prop} (J : DJ a rest es ds P) (h : ∀ r l, l ∈ rest → P' r l → P r l) : DJ a rest es ds P' := ⟨J.nb, J.nd, J.b1, J.d1, fun r v l h1 h2 h3 => J.d2 r v l h1 h2 (h r l h2 h3), J.z⟩
/-- Dijkstra's claim -/
theorem DJ.claim (J : DJ a rest es ds fun _ _ => True) (s : Nat) (h : Sums rest s) : (∃ w, aget ds (s % a) = some w ∧ w ≤ s) ∨ ∃ r v, aget es r = some v ∧ aget ds r = none ∧ v ≤ s := by
  have go : ∀ r v t, aget es r = some v → r = t % a → v ≤ t → (∃ w, aget ds (t % a) = some w ∧ w ≤ t) ∨ ∃ r v, aget es r = some v ∧ aget ds r = none ∧ v ≤ t := fun r v t h1 h2 h3 => by
    cases hd : aget ds r with
    | none => exact .inr ⟨r, v, h1, hd, h3⟩
    | some w =>
      have := (J.d1 r w hd).1
      rw [h1] at this; cases this
      exact .inl ⟨v, h2 ▸ hd, h3⟩
  induction h with
  | zero => exact go 0 0 0 J.z (Nat.zero_mod _).symm (Nat.le_refl _)
  | @add s l _ hl ih =>
    rcases ih with ⟨w, hw, hle⟩ | ⟨r, v, h1, h2, h3⟩
    · obtain ⟨v', hv', hle'⟩ := J.d2 _ w l hw hl trivial
      have hm := (J.b1 _ w (J.d1 _ w hw).1).2.1
      exact go _ v' (s + l) hv' (by rw [Nat.add_mod, hm, ← Nat.add_mod]) (by omega)
    · exact .inr ⟨r, v, h1, h2, by omega⟩
/-- the nearest one is done -/
theorem DJ.select (J : DJ a rest es ds fun _ _ => True) (hpos : ∀ l ∈ rest, l ≤ 27) {here v : Nat} (hb : aget es here = some v) (hn : aget ds here = none) (hmin : ∀ r u, aget es r = some u → aget ds r = none → v ≤ u) :
    DJ a rest es (aput ds here v) fun r _ => r ≠ here := by
  have hlen : (aput ds here v).length = ds.length + 1 := by rw [aput_len, hn]; rfl
  refine ⟨J.nb, aput_nodup J.nd _ _, fun r u h => ?_, fun r u h => ?_, fun r u l h hl hr => ?_, J.z⟩
  · obtain ⟨h1, h2, h3, h4⟩ := J.b1 r u h
    exact ⟨h1, h2, h3, by rw [hlen]; omega⟩
  · rw [aget_aput] at h
    rw [hlen]
    by_cases e : r = here
    · rw [if_pos e] at h
      cases h
      subst e
      refine ⟨hb, fun s hs he => ?_, by have := (J.b1 _ _ hb).2.2.2; omega⟩
      rcases J.claim s hs with ⟨w, hw, _⟩ | ⟨r', v', h1, h2, h3⟩
      · rw [he, hn] at hw; cases hw
      · exact Nat.le_trans (hmin r' v' h1 h2) h3
    · rw [if_neg e] at h
      obtain ⟨h1, h2, h3⟩ := J.d1 r u h
      exact ⟨h1, h2, by omega⟩
  · rw [aget_aput, if_neg hr] at h
    exact J.d2 r u l h hl trivial
/-- a length is tried -/
theorem DJ.relax (J : DJ a rest es ds P) (ha : 0 < a) (hpos : ∀ l ∈ rest, l ≤ 27) {here v l : Nat} (hh : aget ds here = some v) (hl : l ∈ rest) :
    ((∀ u, aget es ((v + l) % a) = some u → v + l < u) → DJ a rest (aput es ((v + l) % a) (v + l)) ds fun r l' => P r l' ∨ (r = here ∧ l' = l)) ∧
    ((∃ u, aget es ((v + l) % a) = some u ∧ u ≤ v + l) → DJ a rest es ds fun r l' => P r l' ∨ (r = here ∧ l' = l)) := by
  obtain ⟨hbe, hmin, hsz⟩ := J.d1 here v hh
  obtain ⟨_, hmod, hsum, _⟩ := J.b1 here v hbe
  constructor
  · intro hlt
    have hnd : aget ds ((v + l) % a) = none := by
      cases h : aget ds ((v + l) % a) with
      | none => rfl
      | some w =>
        obtain ⟨h1, h2, _⟩ := J.d1 _ w h
        have := hlt w h1
        have := h2 (v + l) (hsum.add hl) rfl
        omega
    refine ⟨aput_nodup J.nb _ _, J.nd, fun r u h => ?_, fun r u h => ?_, fun r u l' h hl' hp => ?_, ?_⟩
    · rw [aget_aput] at h
      split at h
      · rename_i e
        cases h
        exact ⟨e ▸ Nat.mod_lt _ ha, e.symm, hsum.add hl, by have := hpos l hl; omega⟩
      · exact J.b1 r u h
    · obtain ⟨h1, h2, h3⟩ := J.d1 r u h
      refine ⟨?_, h2, h3⟩
      rw [aget_aput, if_neg fun e => by rw [e, hnd] at h; cases h]
      exact h1
    · rw [aget_aput]
      split
      · rename_i e
        refine ⟨_, rfl, ?_⟩
        rcases hp with hp | ⟨rfl, rfl⟩
        · obtain ⟨v', hv', hle⟩ := J.d2 r u l' h hl' hp
          rw [e] at hv'
          have := hlt v' hv'
          omega
        · rw [hh] at h; cases h; exact Nat.le_refl _
      · rename_i e
        rcases hp with hp | ⟨rfl, rfl⟩
        · exact J.d2 r u l' h hl' hp
        · rw [hh] at h; cases h; exact absurd rfl e
    · rw [aget_aput]
      split
      · rename_i e
        have := hlt 0 (e ▸ J.z)
        omega
      · exact J.z
  · rintro ⟨w, hw, hle⟩
    refine ⟨J.nb, J.nd, J.b1, J.d1, fun r u l' h hl' hp => ?_, J.z⟩
    rcases hp with hp | ⟨rfl, rfl⟩
    · exact J.d2 r u l' h hl' hp
    · rw [hh] at h; cases h; exact ⟨w, hw, hle⟩

def gcdL (a : Nat) : List Nat → Nat
  | [] => a
  | l :: r => Nat.gcd l (gcdL a r)
theorem gcdL_dvd (a : Nat) : ∀ r : List Nat, gcdL a r ∣ a
  | [] => Nat.dvd_refl a
  | l :: r => Nat.dvd_trans (Nat.gcd_dvd_right _ _) (gcdL_dvd a r)
theorem bez (m n : Nat) : ∃ x y : Int, x * m + y * n = (Nat.gcd m n : Nat) := by
  induction m, n using Nat.gcd.induction with
  | H0 n => exact ⟨0, 1, by simp⟩
  | H1 m n hpos ih =>
    obtain ⟨x, y, h⟩ := ih
    refine ⟨y - x * ((n / m : Nat) : Int), x, ?_⟩
    rw [Nat.gcd_rec, ← h]
    have e : ((n % m : Nat) : Int) = n - m * ((n / m : Nat) : Int) := by
      have := Nat.mod_add_div n m
      have h2 : ((n % m + m * (n / m) : Nat) : Int) = n := by rw [this]
      rw [Int.natCast_add, Int.natCast_mul] at h2
      omega
    rw [e, Int.sub_mul, Int.mul_sub, Int.mul_assoc, Int.mul_comm ((n / m : Nat) : Int) m]
    omega
/-- s in steps of l, so often as one likes, comes to any multiple of gcd, by remainders -/
theorem reach (a : Nat) (ha : 0 < a) : ∀ (r : List Nat) (m : Nat), gcdL a r ∣ m → ∃ s, Sums r s ∧ s % a = m % a
  | [], m, h => ⟨0, .zero, by
      obtain ⟨k, rfl⟩ := h
      show 0 % a = (a * k) % a
      rw [Nat.mul_mod_right, Nat.zero_mod]⟩
  | l :: r, m, h => by
    -- some k with m - k * l a multiple of g' = gcdL a r, by remainders modulo a
    have hg' := gcdL_dvd a r
    have hl : ∃ k, ∃ m', gcdL a r ∣ m' ∧ (k * l + m') % a = m % a := by
      obtain ⟨q, rfl⟩ := h
      show ∃ k, ∃ m', gcdL a r ∣ m' ∧ (k * l + m') % a = (Nat.gcd l (gcdL a r) * q) % a
      generalize gcdL a r = g at hg'
      obtain ⟨x, y, hxy⟩ := bez l g
      obtain ⟨c, rfl⟩ := hg'
      generalize hG : Nat.gcd l g = G at hxy
      have ha0 : ((g * c : Nat) : Int) ≠ 0 := by omega
      generalize hA : ((g * c : Nat) : Int) = A at ha0
      have hA2 : A = (g : Int) * c := by rw [← hA, Int.natCast_mul]
      let k : Int := (x * q) % A
      have hk0 : 0 ≤ k := Int.emod_nonneg _ ha0
      let M : Int := (G : Int) * q - k * l
      let m' : Int := M % A
      have hm0 : 0 ≤ m' := Int.emod_nonneg _ ha0
      have hkd : k = x * q - A * (x * q / A) := Int.emod_def _ _
      have hM : M = (g : Int) * (c * (x * q / A) * l + y * q) := by
        show (G : Int) * q - k * l = _
        rw [hkd, ← hxy, hA2]
        simp only [Int.add_mul, Int.sub_mul, Int.mul_add]
        have e1 : x * (l : Int) * q = x * q * l := by rw [Int.mul_assoc, Int.mul_comm (l : Int) q, ← Int.mul_assoc]
        have e2 : (g : Int) * (c * (x * q / (g * c)) * l) = g * c * (x * q / (g * c)) * l := by simp only [Int.mul_assoc]
        have e3 : y * (g : Int) * q = g * (y * q) := by rw [Int.mul_comm y, Int.mul_assoc]
        rw [e1, e2, e3]; omega
      have hmd : (g : Int) ∣ m' := by
        rw [show m' = M - A * (M / A) from Int.emod_def _ _, hM, hA2]
        refine Int.dvd_sub (Int.dvd_mul_right _ _) ?_
        rw [Int.mul_assoc (g : Int)]
        exact Int.dvd_mul_right _ _
      refine ⟨k.toNat, m'.toNat, ?_, ?_⟩
      · have : (g : Int) ∣ ((m'.toNat : Nat) : Int) := by rw [Int.toNat_of_nonneg hm0]; exact hmd
        exact Int.natCast_dvd_natCast.mp this
      · have h1 : ((((k.toNat * l + m'.toNat) % (g * c) : Nat)) : Int) = (((G * q) % (g * c) : Nat) : Int) := by
          rw [Int.natCast_emod, Int.natCast_emod, hA, Int.natCast_add, Int.natCast_mul, Int.natCast_mul, Int.toNat_of_nonneg hk0, Int.toNat_of_nonneg hm0]
          show (k * l + M % A) % A = _
          rw [Int.add_emod, Int.emod_emod_of_dvd _ (Int.dvd_refl A), ← Int.add_emod]
          show (k * l + ((G : Int) * q - k * l)) % A = _
          congr 1; omega
        exact Int.natCast_inj.mp h1
    obtain ⟨k, m', hd, he⟩ := hl
    obtain ⟨s, hs, hm⟩ := reach a ha r m' hd
    refine ⟨k * l + s, (Sums.times List.mem_cons_self k).plus (hs.mono fun x hx => List.mem_cons_of_mem _ hx), ?_⟩
    rw [Nat.add_mod, hm, ← Nat.add_mod, he]

def Least (ls : List Nat) (a r w : Nat) : Prop := Sums ls w ∧ w % a = r ∧ ∀ s, Sums ls s → s % a = r → w ≤ s
theorem Least.uniq {ls : List Nat} {a r w w' : Nat} (h : Least ls a r w) (h' : Least ls a r w') : w = w' := Nat.le_antisymm (h.2.2 _ h'.1 h'.2.1) (h'.2.2 _ h.1 h.2.1)
theorem Sums.cons {a : Nat} {rest : List Nat} {s : Nat} (h : Sums rest s) : Sums (a :: rest) s := h.mono fun _ hx => List.mem_cons_of_mem _ hx
theorem DJ.done_lt (J : DJ a rest es ds P) : ∀ x ∈ ds.map (·.1), x < a := fun x hx => by
  obtain ⟨w, hw⟩ := Option.isSome_iff_exists.mp (aget_key.mpr hx)
  exact (J.b1 x w (J.d1 x w hw).1).1
theorem DJ.len_le (J : DJ a rest es ds P) : ds.length ≤ a := by
  have := bounded_len a _ J.nd J.done_lt
  rw [List.length_map] at this; exact this
/-- some is not done yet -/
theorem DJ.more (J : DJ a rest es ds fun _ _ => True) (ha : 0 < a) (hg : gcdL a rest = 1) (hlt : ds.length < a) : ∃ r v, aget es r = some v ∧ aget ds r = none := by
  have hex : ∃ r, r < a ∧ r ∉ ds.map (·.1) := by
    apply Classical.byContradiction
    intro hno
    have hall : ∀ r, r < a → r ∈ ds.map (·.1) := fun r hr => Classical.byContradiction fun h => hno ⟨r, hr, h⟩
    have h1 : ∀ n, n ≤ a → n ≤ ((ds.map (·.1)).filter fun x => decide (x < n)).length := by
      intro n
      induction n with
      | zero => intro _; exact Nat.zero_le _
      | succ n ih =>
        intro hn
        have ih := ih (by omega)
        have hm := hall n (by omega)
        have : ((ds.map (·.1)).filter fun x => decide (x < n)).length < ((ds.map (·.1)).filter fun x => decide (x < n + 1)).length := by
          clear ih hno hall
          generalize ds.map (·.1) = l at hm
          induction l with
          | nil => cases hm
          | cons y l ihl =>
            rw [List.filter_cons, List.filter_cons]
            have mono : (l.filter fun x => decide (x < n)).length ≤ (l.filter fun x => decide (x < n + 1)).length := by
              clear ihl hm
              induction l with
              | nil => exact Nat.le_refl _
              | cons z l ihm => rw [List.filter_cons, List.filter_cons]; by_cases h1 : z < n <;> by_cases h2 : z < n + 1 <;> simp [h1, h2] <;> omega
            rcases List.mem_cons.mp hm with rfl | hm
            · simp; omega
            · have := ihl hm
              by_cases h1 : y < n <;> by_cases h2 : y < n + 1 <;> simp [h1, h2] <;> omega
        omega
    have h2 := h1 a (Nat.le_refl a)
    have h3 := List.length_filter_le (fun x => decide (x < a)) (ds.map (·.1))
    rw [List.length_map] at h3
    omega
  obtain ⟨r, hr, hn⟩ := hex
  obtain ⟨s, hs, hm⟩ := reach a ha rest r (by rw [hg]; exact Nat.one_dvd _)
  rw [Nat.mod_eq_of_lt hr] at hm
  rcases J.claim s hs with ⟨w, hw, _⟩ | ⟨r', v', h1, h2, _⟩
  · rw [hm] at hw
    exact absurd (aget_key.mp (by rw [hw]; rfl)) hn
  · exact ⟨r', v', h1, h2⟩
/-- all are done -/
theorem DJ.finish (J : DJ a rest es ds fun _ _ => True) (hl : ds.length = a) {r : Nat} (hr : r < a) : ∃ w, aget ds r = some w ∧ Least (a :: rest) a r w ∧ w + 27 ≤ a * 27 := by
  have hm := all_in J.nd J.done_lt (by rw [List.length_map]; exact hl) hr
  obtain ⟨w, hw⟩ := Option.isSome_iff_exists.mp (aget_key.mpr hm)
  obtain ⟨h1, h2, h3⟩ := J.d1 r w hw
  obtain ⟨_, h4, h5, _⟩ := J.b1 r w h1
  refine ⟨w, hw, ⟨h5.cons, h4, fun s hs he => ?_⟩, by rw [← hl]; exact h3⟩
  obtain ⟨t, ht, hle, hmt⟩ := hs.rest
  exact Nat.le_trans (h2 t ht (hmt.trans he)) hle
end K47
namespace K47
open PyD
def tabL (ls : List Nat) : Nat → List Bool
  | 0 => [true]
  | n + 1 => tabL ls n ++ [ls.any fun l => decide (l ≤ n + 1) && ((tabL ls n)[n + 1 - l]?).getD false]
theorem tabL_len (ls : List Nat) : ∀ n, (tabL ls n).length = n + 1
  | 0 => rfl
  | n + 1 => by unfold tabL; rw [List.length_append, tabL_len ls n]; rfl
def joinB (a b d : Nat) : Bool := (List.range (min b (d / a + 1))).any fun k => decide (((d : Int) - a * k) % b = 0)

def sumB (ls : List Nat) (d : Nat) : Bool := ((tabL ls d)[d]?).getD false
theorem tab_stay (ls : List Nat) : ∀ (n k d : Nat), d ≤ n → (tabL ls (n + k))[d]? = (tabL ls n)[d]?
  | n, 0, d, h => rfl
  | n, k + 1, d, h => by
    rw [show n + (k + 1) = (n + k) + 1 by omega]
    rw [show tabL ls (n + k + 1) = tabL ls (n + k) ++ [ls.any fun l => decide (l ≤ n + k + 1) && ((tabL ls (n + k))[n + k + 1 - l]?).getD false] from rfl]
    rw [List.getElem?_append_left (by rw [tabL_len]; omega)]
    exact tab_stay ls n k d h
theorem tab_at {ls : List Nat} {top d : Nat} (h : d ≤ top) : (tabL ls top)[d]? = some (sumB ls d) := by
  obtain ⟨k, rfl⟩ : ∃ k, top = d + k := ⟨top - d, by omega⟩
  rw [tab_stay ls d k d (Nat.le_refl d)]
  unfold sumB
  rw [List.getElem?_eq_getElem (by rw [tabL_len]; omega)]
  rfl
theorem sumB_succ (ls : List Nat) (n : Nat) : sumB ls (n + 1) = ls.any fun l => decide (l ≤ n + 1) && ((tabL ls n)[n + 1 - l]?).getD false := by
  unfold sumB
  rw [show tabL ls (n + 1) = tabL ls n ++ [ls.any fun l => decide (l ≤ n + 1) && ((tabL ls n)[n + 1 - l]?).getD false] from rfl]
  rw [List.getElem?_append_right (by rw [tabL_len]; omega), tabL_len, Nat.sub_self]
  rfl
theorem sumB_iff {ls : List Nat} (hpos : ∀ l ∈ ls, 0 < l) : ∀ d, sumB ls d = true ↔ Sums ls d := by
  intro d
  induction d using Nat.strongRecOn with
  | _ d ih =>
    cases d with
    | zero => exact ⟨fun _ => .zero, fun _ => rfl⟩
    | succ n =>
      rw [sumB_succ, List.any_eq_true]
      constructor
      · rintro ⟨l, hl, h⟩
        rw [Bool.and_eq_true, decide_eq_true_eq] at h
        have hp := hpos l hl
        rw [tab_at (by omega)] at h
        have := ((ih (n + 1 - l) (by omega)).mp h.2).add hl
        rw [show n + 1 - l + l = n + 1 by omega] at this
        exact this
      · intro h
        generalize hm : n + 1 = m at h
        cases h with
        | zero => omega
        | @add s l hs hl =>
          have hp := hpos l hl
          refine ⟨l, hl, ?_⟩
          rw [Bool.and_eq_true, decide_eq_true_eq, tab_at (by omega)]
          refine ⟨by omega, ?_⟩
          rw [show s + l - l = s by omega]
          exact (ih s (by omega)).mpr hs
theorem sums_two {a b d : Nat} : Sums [a, b] d ↔ ∃ x y, d = a * x + b * y := by
  constructor
  · intro h
    induction h with
    | zero => exact ⟨0, 0, rfl⟩
    | @add s l _ hl ih =>
      obtain ⟨x, y, rfl⟩ := ih
      rcases List.mem_cons.mp hl with rfl | hl
      · exact ⟨x + 1, y, by rw [Nat.mul_succ]; omega⟩
      · rw [List.mem_singleton] at hl
        subst hl
        exact ⟨x, y + 1, by rw [Nat.mul_succ]; omega⟩
  · rintro ⟨x, y, rfl⟩
    rw [Nat.mul_comm a x, Nat.mul_comm b y]
    exact (Sums.times List.mem_cons_self x).plus (Sums.times (List.mem_cons_of_mem _ List.mem_cons_self) y)
theorem joinB_eq {a b d : Nat} (ha : 0 < a) (hb : 0 < b) : joinB a b d = sumB [a, b] d := by
  have hpos : ∀ l ∈ [a, b], 0 < l := fun l hl => by
    rcases List.mem_cons.mp hl with rfl | hl
    · exact ha
    · rw [List.mem_singleton] at hl; rw [hl]; exact hb
  rw [Bool.eq_iff_iff, sumB_iff hpos, sums_two]
  unfold joinB
  rw [List.any_eq_true]
  constructor
  · rintro ⟨k, hk, h⟩
    rw [List.mem_range] at hk
    rw [decide_eq_true_eq] at h
    have hk2 : k ≤ d / a := by omega
    have hk3 : a * k ≤ d := by
      have := Nat.mul_le_mul_left a hk2
      exact Nat.le_trans this (Nat.mul_div_le d a)
    obtain ⟨y, hy⟩ := Int.dvd_of_emod_eq_zero h
    have hd : ((d - a * k : Nat) : Int) = b * y := by rw [Int.natCast_sub hk3, Int.natCast_mul]; exact hy
    have hdv : b ∣ d - a * k := Int.natCast_dvd_natCast.mp ⟨y, hd⟩
    obtain ⟨y', hy'⟩ := hdv
    exact ⟨k, y', by omega⟩
  · rintro ⟨x, y, rfl⟩
    have h1 := Nat.mod_add_div x b
    have hlt := Nat.mod_lt x hb
    generalize x % b = r at h1 hlt
    generalize x / b = q at h1
    have he : a * x + b * y = a * r + b * (a * q + y) := by
      rw [← h1, Nat.mul_add, Nat.mul_add b, ← Nat.mul_assoc a b q, Nat.mul_comm a b, Nat.mul_assoc b a q]; omega
    rw [he]
    refine ⟨r, List.mem_range.mpr ?_, ?_⟩
    · have : r ≤ (a * r + b * (a * q + y)) / a := (Nat.le_div_iff_mul_le ha).mpr (by rw [Nat.mul_comm]; exact Nat.le_add_right _ _)
      omega
    · rw [decide_eq_true_eq, Int.natCast_add, Int.natCast_mul, Int.natCast_mul]
      rw [show (a : Int) * r + b * ((a * q + y : Nat) : Int) - a * r = b * ((a * q + y : Nat) : Int) by omega]
      exact Int.mul_emod_right _ _
section
variable {a b : Nat}
theorem rep (hb : 0 < b) (hg : Nat.gcd a b = 1) (d : Int) : ∃ x : Nat, x < b ∧ ∃ y : Int, d = a * x + b * y := by
  obtain ⟨u, v, h⟩ := bez a b
  rw [hg] at h
  have hb0 : (b : Int) ≠ 0 := by omega
  have h0 : 0 ≤ (d * u) % b := Int.emod_nonneg _ hb0
  have h1 : (d * u) % b < b := Int.emod_lt_of_pos _ (by omega)
  refine ⟨((d * u) % b).toNat, by omega, a * (d * u / b) + d * v, ?_⟩
  rw [Int.toNat_of_nonneg h0, Int.emod_def]
  have e : d = d * (u * a + v * b) := by rw [h]; simp
  rw [Int.mul_sub, Int.mul_add (b : Int)]
  have e1 : d * (u * a + v * b) = a * (d * u) + b * (d * v) := by
    rw [Int.mul_add, ← Int.mul_assoc, ← Int.mul_assoc, Int.mul_comm (d * u) a, Int.mul_comm (d * v) b]
  have e2 : (a : Int) * (b * (d * u / b)) = b * (a * (d * u / b)) := by rw [← Int.mul_assoc, ← Int.mul_assoc, Int.mul_comm (a : Int) b]
  rw [e2]
  omega
theorem jrep (hb : 0 < b) (hg : Nat.gcd a b = 1) {d x : Nat} {y : Int} (hx : x < b) (h : (d : Int) = a * x + b * y) : Sums [a, b] d ↔ 0 ≤ y := by
  rw [sums_two]
  constructor
  · rintro ⟨m, n, rfl⟩
    obtain ⟨u, v, huv⟩ := bez a b
    rw [hg] at huv
    have h' : (a : Int) * m + b * n = a * x + b * y := by rw [← h, Int.natCast_add, Int.natCast_mul, Int.natCast_mul]
    have e1 : (a : Int) * (m - x) = b * (y - n) := by rw [Int.mul_sub, Int.mul_sub]; omega
    have e2 : ((m : Int) - x) = b * (u * (y - n) + v * (m - x)) := by
      have h1 : (u * a + v * b) * ((m : Int) - x) = (m : Int) - x := by rw [huv]; simp
      have h2 : (u * a + v * b) * ((m : Int) - x) = b * (u * (y - n) + v * (m - x)) := by
        rw [Int.add_mul, Int.mul_add, Int.mul_assoc u, e1, ← Int.mul_assoc u (b : Int), ← Int.mul_assoc (b : Int) u, ← Int.mul_assoc (b : Int) v, Int.mul_comm u b, Int.mul_comm v b]
      exact h1.symm.trans h2
    generalize hk : u * (y - n) + v * ((m : Int) - x) = k at e2
    have hk0 : 0 ≤ k := by
      apply Classical.byContradiction
      intro hn
      have : (b : Int) * k ≤ b * (-1) := Int.mul_le_mul_of_nonneg_left (by omega) (by omega)
      omega
    have e3 : (b : Int) * (y - n) = b * (a * k) := by
      rw [← e1, e2, ← Int.mul_assoc, ← Int.mul_assoc, Int.mul_comm (a : Int) b]
    have e4 : y - n = a * k := Int.eq_of_mul_eq_mul_left (by omega) e3
    have : 0 ≤ (a : Int) * k := Int.mul_nonneg (by omega) hk0
    omega
  · intro hy
    obtain ⟨n, rfl⟩ := Int.eq_ofNat_of_zero_le hy
    exact ⟨x, n, by exact_mod_cast h⟩
theorem sym (ha : 0 < a) (hb : 0 < b) (hg : Nat.gcd a b = 1) {c d : Nat} (hc : c + a + b = a * b) (hd : d ≤ c) : Sums [a, b] (c - d) ↔ ¬ Sums [a, b] d := by
  obtain ⟨x, hx, y, h⟩ := rep hb hg (d : Int)
  rw [jrep hb hg hx h]
  have hc' : (c : Int) + a + b = a * b := by exact_mod_cast hc
  rw [jrep (x := b - 1 - x) (y := -1 - y) hb hg (by omega) ?_]
  · omega
  · rw [Int.natCast_sub hd, h, show ((b - 1 - x : Nat) : Int) = b - 1 - x by omega, Int.mul_sub, Int.mul_sub, Int.mul_sub]
    omega
theorem big (ha : 0 < a) (hb : 0 < b) (hg : Nat.gcd a b = 1) {d : Nat} (hd : a * b < d + a + b) : Sums [a, b] d := by
  obtain ⟨x, hx, y, h⟩ := rep hb hg (d : Int)
  rw [jrep hb hg hx h]
  apply Classical.byContradiction
  intro hn
  have h1 : (b : Int) * y ≤ b * (-1) := Int.mul_le_mul_of_nonneg_left (by omega) (by omega)
  have h2 : (a : Int) * x ≤ a * (b - 1) := Int.mul_le_mul_of_nonneg_left (by omega) (by omega)
  rw [Int.mul_sub] at h2
  have hd' : (a : Int) * b < d + a + b := by exact_mod_cast hd
  omega
end

theorem filter_none {α : Type} {p : α → Bool} {l : List α} (h : ∀ x ∈ l, p x = false) : l.filter p = [] := by
  rw [List.filter_eq_nil_iff]; intro x hx; rw [h x hx]; decide
theorem range_cut (n m : Nat) (p : Nat → Bool) (h : ∀ d, n ≤ d → d < n + m → p d = false) : (List.range (n + m)).filter p = (List.range n).filter p := by
  induction m with
  | zero => rfl
  | succ m ih =>
    rw [show n + (m + 1) = (n + m) + 1 by omega, List.range_succ, List.filter_append, ih fun d h1 h2 => h d h1 (by omega)]
    rw [show [n + m].filter p = [] from filter_none fun x hx => by rw [List.mem_singleton] at hx; rw [hx]; exact h _ (by omega) (by omega)]
    exact List.append_nil _
theorem filter_sum {α : Type} (p : α → Bool) (l : List α) : (l.filter p).length + (l.filter fun x => !p x).length = l.length := by
  induction l with
  | nil => rfl
  | cons x l ih => rw [List.filter_cons, List.filter_cons]; cases h : p x <;> simp [h] <;> omega
theorem half (c : Nat) (p : Nat → Bool) (h : ∀ d, d ≤ c → p (c - d) = !p d) : ((List.range (c + 1)).filter p).length * 2 = c + 1 := by
  have h1 : (List.range (c + 1)).reverse = (List.range (c + 1)).map fun i => c - i := by
    rw [List.range_eq_range', List.reverse_range', ← List.range_eq_range']
    apply List.map_congr_left
    intro a _; omega
  have h2 : ((List.range (c + 1)).filter p).length = ((List.range (c + 1)).filter fun x => !p x).length := by
    rw [← List.length_reverse (as := (List.range (c + 1)).filter p), ← List.filter_reverse, h1, List.filter_map, List.length_map]
    congr 1
    apply List.filter_congr
    intro x hx
    rw [List.mem_range] at hx
    exact h x (by omega)
  have h3 := filter_sum p (List.range (c + 1))
  rw [List.length_range] at h3
  omega
def greatD' (a b : Nat) : D := if 1 < Nat.gcd a b ∨ min a b = 1 then .none else .int (a * b - a - b)
def countD' (a b : Nat) : D := if 1 < Nat.gcd a b then .none else .int (((a : Int) - 1) * (b - 1) / 2)
def gaps (a b : Nat) : List Nat := (List.range (a * b)).filter fun d => !sumB [a, b] d
section
variable {a b : Nat}
theorem pos2 (ha : 0 < a) (hb : 0 < b) : ∀ l ∈ [a, b], 0 < l := fun l hl => by
  rcases List.mem_cons.mp hl with rfl | hl
  · exact ha
  · rw [List.mem_singleton] at hl; rw [hl]; exact hb
theorem gaps_one (ha : 0 < a) (hb : 0 < b) (h : min a b = 1) : gaps a b = [] := filter_none fun d _ => by
  have : sumB [a, b] d = true := by
    rw [sumB_iff (pos2 ha hb), sums_two]
    rcases (by omega : a = 1 ∨ b = 1) with rfl | rfl
    · exact ⟨d, 0, by omega⟩
    · exact ⟨0, d, by omega⟩
  rw [this]; rfl
theorem gaps_two (hg : Nat.gcd a b = 1) (ha : 2 ≤ a) (hb : 2 ≤ b) : ∃ c G, c + a + b = a * b ∧ gaps a b = G ++ [c] ∧ (gaps a b).length * 2 = c + 1 ∧ ∀ d, d ≤ c → sumB [a, b] (c - d) = !sumB [a, b] d := by
  have hle : a + b ≤ a * b := by
    obtain ⟨x, rfl⟩ : ∃ x, a = x + 2 := ⟨a - 2, by omega⟩
    obtain ⟨y, rfl⟩ : ∃ y, b = y + 2 := ⟨b - 2, by omega⟩
    rw [Nat.add_mul, Nat.mul_add]
    omega
  have hpos := pos2 (a := a) (b := b) (by omega) (by omega)
  obtain ⟨c, hc⟩ : ∃ c, c + a + b = a * b := ⟨a * b - a - b, by omega⟩
  have hsym : ∀ d, d ≤ c → sumB [a, b] (c - d) = !sumB [a, b] d := fun d hd => by
    have := sym (by omega) (by omega) hg hc hd
    rw [← sumB_iff hpos, ← sumB_iff hpos] at this
    cases h1 : sumB [a, b] d <;> cases h2 : sumB [a, b] (c - d) <;> simp [h1, h2] at this ⊢
  have h0 : sumB [a, b] 0 = true := rfl
  have hcf : sumB [a, b] c = false := by
    have := hsym 0 (Nat.zero_le _)
    rw [h0] at this; exact this
  have hcut : gaps a b = (List.range (c + 1)).filter fun d => !sumB [a, b] d := by
    unfold gaps
    rw [show a * b = (c + 1) + (a + b - 1) by omega]
    refine range_cut _ _ _ fun d h1 _ => ?_
    rw [(sumB_iff hpos d).mpr (big (by omega) (by omega) hg (by omega))]; rfl
  refine ⟨c, (List.range c).filter fun d => !sumB [a, b] d, hc, ?_, ?_, hsym⟩
  · rw [hcut, List.range_succ, List.filter_append]
    congr 1
    rw [List.filter_cons, hcf]; rfl
  · rw [hcut]
    exact half c _ fun d hd => by rw [hsym d hd]
/-- what the program says of two lengths is what the table says -/
theorem greatD_eq (ha : 0 < a) (hb : 0 < b) (hg : Nat.gcd a b = 1) : greatD' a b = match (gaps a b).getLast? with
    | some c => .int c
    | none => .none := by
  unfold greatD'
  by_cases h : min a b = 1
  · rw [if_pos (.inr h), gaps_one ha hb h]; rfl
  · rw [if_neg (by omega)]
    obtain ⟨c, G, hc, e, _, _⟩ := gaps_two hg (by omega) (by omega)
    rw [e, show (G ++ [c]).getLast? = some c by simp]
    show PySem.PyData.int _ = PySem.PyData.int _
    congr 1
    have : (c : Int) + a + b = a * b := by exact_mod_cast hc
    omega
theorem countD_eq (ha : 0 < a) (hb : 0 < b) (hg : Nat.gcd a b = 1) : countD' a b = .int ((gaps a b).length : Nat) := by
  unfold countD'
  rw [if_neg (by omega)]
  congr 1
  by_cases h : min a b = 1
  · rw [gaps_one ha hb h]
    rcases (by omega : a = 1 ∨ b = 1) with rfl | rfl <;> simp
  · obtain ⟨c, G, hc, e, hl, _⟩ := gaps_two hg (by omega) (by omega)
    have h1 : (c : Int) + a + b = a * b := by exact_mod_cast hc
    have h2 : ((gaps a b).length : Int) * 2 = c + 1 := by exact_mod_cast hl
    have h3 : ((a : Int) - 1) * (b - 1) = (gaps a b).length * 2 := by
      rw [h2, Int.sub_mul, Int.mul_sub]; omega
    rw [h3]
    exact Int.mul_ediv_cancel _ (by decide)
end

theorem gcdL_mem (a : Nat) : ∀ (r : List Nat), ∀ l ∈ r, gcdL a r ∣ l
  | x :: r, l, h => by
    rcases List.mem_cons.mp h with rfl | h
    · exact Nat.gcd_dvd_left _ _
    · exact Nat.dvd_trans (Nat.gcd_dvd_right _ _) (gcdL_mem a r l h)
/-- the law's common divisor -/
def comm (ls : List Nat) : Nat := ls.foldl (fun c l => Nat.gcd l c) 0
theorem comm_dvd {g : Nat} : ∀ (ls : List Nat) (c : Nat), g ∣ c → (∀ l ∈ ls, g ∣ l) → g ∣ ls.foldl (fun c l => Nat.gcd l c) c
  | [], c, hc, _ => hc
  | x :: ls, c, hc, h => comm_dvd ls _ (Nat.dvd_gcd (h x List.mem_cons_self) hc) fun l hl => h l (List.mem_cons_of_mem _ hl)
theorem comm_one {a : Nat} {rest : List Nat} (ha : 0 < a) (h : ¬ 1 < comm (a :: rest)) : gcdL a rest = 1 := by
  have h1 : gcdL a rest ∣ comm (a :: rest) := comm_dvd _ _ (Nat.dvd_zero _) fun l hl => by
    rcases List.mem_cons.mp hl with rfl | hl
    · exact gcdL_dvd _ _
    · exact gcdL_mem a rest l hl
  have h2 : gcdL a rest ∣ a := gcdL_dvd a rest
  have h3 : 0 < gcdL a rest := Nat.pos_of_dvd_of_pos h2 ha
  have h4 : comm (a :: rest) ≠ 0 := fun z => by
    have dv : ∀ (ls : List Nat) (c : Nat), ls.foldl (fun c l => Nat.gcd l c) c ∣ c ∧ ∀ l ∈ ls, ls.foldl (fun c l => Nat.gcd l c) c ∣ l := by
      intro ls
      induction ls with
      | nil => intro c; exact ⟨Nat.dvd_refl _, fun l hl => by cases hl⟩
      | cons x ls ih =>
        intro c
        obtain ⟨q1, q2⟩ := ih (Nat.gcd x c)
        refine ⟨Nat.dvd_trans q1 (Nat.gcd_dvd_right _ _), fun l hl => ?_⟩
        rcases List.mem_cons.mp hl with rfl | hl
        · exact Nat.dvd_trans q1 (Nat.gcd_dvd_left _ _)
        · exact q2 l hl
    have := (dv (a :: rest) 0).2 a List.mem_cons_self
    rw [show (a :: rest).foldl (fun c l => Nat.gcd l c) 0 = 0 from z] at this
    have := Nat.eq_zero_of_zero_dvd this
    omega
  have h5 := Nat.le_of_dvd (by omega) h1
  omega
section
variable {a : Nat} {rest : List Nat}
theorem least_ge {r w s : Nat} (ha : 0 < a) (h : Least (a :: rest) a r w) (hs : s % a = r) (hle : w ≤ s) : Sums (a :: rest) s := by
  obtain ⟨h1, h2, _⟩ := h
  have e : s = w + (s - w) / a * a := by
    have h3 := Nat.mod_add_div s a
    have h4 := Nat.mod_add_div w a
    have h5 : (s - w) % a = 0 := by
      rw [← Nat.sub_mod_eq_zero_of_mod_eq (hs.trans h2.symm)]
    have h6 := Nat.mod_add_div (s - w) a
    rw [h5, Nat.zero_add, Nat.mul_comm] at h6
    omega
  rw [e]
  exact h1.plus (Sums.times List.mem_cons_self _)
/-- the greatest one missing, or -1 -/
theorem greatest {m top : Nat} (ha : 0 < a) (hpos : ∀ l ∈ a :: rest, 0 < l) (hm : ∃ r, r < a ∧ Least (a :: rest) a r m) (hall : ∀ r, r < a → ∃ w, Least (a :: rest) a r w ∧ w ≤ m) (htop : m < top) :
    (m : Int) - a ∈ (((List.range top).filter fun d => !sumB (a :: rest) d).map fun (d : Nat) => (d : Int)) ++ [-1] ∧
    ∀ y ∈ (((List.range top).filter fun d => !sumB (a :: rest) d).map fun (d : Nat) => (d : Int)) ++ [-1], y ≤ (m : Int) - a := by
  obtain ⟨r, hr, hl⟩ := hm
  have hma : a ≤ m + 1 := by
    obtain ⟨w, hw, hle⟩ := hall (a - 1) (by omega)
    have : w % a ≤ w := Nat.mod_le _ _
    rw [hw.2.1] at this
    omega
  constructor
  · rw [List.mem_append]
    by_cases h : a ≤ m
    · refine .inl (List.mem_map.mpr ⟨m - a, List.mem_filter.mpr ⟨List.mem_range.mpr (by omega), ?_⟩, by omega⟩)
      cases hs : sumB (a :: rest) (m - a) with
      | false => rfl
      | true =>
        have h1 := (sumB_iff hpos _).mp hs
        have h2 := hl.2.2 (m - a) h1 (by rw [← hl.2.1]; exact (Nat.mod_eq_sub_mod h).symm)
        omega
    · refine .inr ?_
      rw [List.mem_singleton]; omega
  · intro y hy
    rcases List.mem_append.mp hy with hy | hy
    · obtain ⟨d, hd, rfl⟩ := List.mem_map.mp hy
      obtain ⟨_, hd⟩ := List.mem_filter.mp hd
      obtain ⟨w, hw, hle⟩ := hall (d % a) (Nat.mod_lt _ ha)
      have hlt : d < w := by
        apply Classical.byContradiction
        intro hn
        have := least_ge ha hw rfl (by omega)
        rw [(sumB_iff hpos d).mpr this] at hd
        cases hd
      have hsub : d + a ≤ w := by
        have h3 := Nat.mod_add_div d a
        have h4 := Nat.mod_add_div w a
        rw [hw.2.1] at h4
        have : d / a < w / a := by
          apply Classical.byContradiction
          intro hn
          have := Nat.mul_le_mul_left a (by omega : w / a ≤ d / a)
          omega
        have := Nat.mul_le_mul_left a (by omega : d / a + 1 ≤ w / a)
        rw [Nat.mul_succ] at this
        omega
      omega
    · rw [List.mem_singleton] at hy; omega
/-- the first delay with a remainder that can be joined -/
theorem first_at {r w n : Nat} (ha : 0 < a) (hpos : ∀ l ∈ a :: rest, 0 < l) (hr : r < a) (h : Least (a :: rest) a r w) (hn : w < r + n * a) :
    ∃ k, k < n ∧ r + k * a = w ∧ (((List.range n).filter fun k => sumB (a :: rest) (r + k * a))[0]? = some k) := by
  have e : r + w / a * a = w := by
    have := Nat.mod_add_div w a
    rw [h.2.1, Nat.mul_comm] at this; exact this
  have hk : w / a < n := by
    apply Classical.byContradiction
    intro hc
    have := Nat.mul_le_mul_right a (by omega : n ≤ w / a)
    omega
  refine ⟨w / a, hk, e, ?_⟩
  have hyes : sumB (a :: rest) (r + w / a * a) = true := by rw [e]; exact (sumB_iff hpos w).mpr h.1
  have hno : ∀ k, k < w / a → sumB (a :: rest) (r + k * a) = false := fun k hk' => by
    cases hs : sumB (a :: rest) (r + k * a) with
    | false => rfl
    | true =>
      have := h.2.2 _ ((sumB_iff hpos _).mp hs) (by rw [Nat.add_mul_mod_self_right]; exact Nat.mod_eq_of_lt hr)
      have h2 := Nat.mul_lt_mul_of_pos_right hk' ha
      omega
  obtain ⟨m, rfl⟩ : ∃ m, n = w / a + 1 + m := ⟨n - (w / a + 1), by omega⟩
  rw [List.range_add, List.filter_append, List.range_succ, List.filter_append, filter_none fun x hx => hno x (List.mem_range.mp hx), List.filter_cons, hyes]
  rfl
end

section
variable {a : Nat} {rest : List Nat} {es ds : List (Nat × Nat)}
theorem DJ.relaxAll {here v : Nat} (ha : 0 < a) (hpos : ∀ l ∈ rest, l ≤ 27) : ∀ (todo fin : List Nat) (es : List (Nat × Nat)), rest = fin ++ todo → aget ds here = some v → DJ a rest es ds (fun r l => r ≠ here ∨ l ∈ fin) → ∃ es', DJ a rest es' ds fun _ _ => True
  | [], fin, es, e, hh, J => ⟨es, J.weak fun r l hl _ => .inr (by rw [e, List.append_nil] at hl; exact hl)⟩
  | l :: todo, fin, es, e, hh, J => by
    have hl : l ∈ rest := by rw [e]; exact List.mem_append_right _ List.mem_cons_self
    obtain ⟨R1, R2⟩ := J.relax ha hpos hh hl
    have wk : ∀ es2, DJ a rest es2 ds (fun r l' => (r ≠ here ∨ l' ∈ fin) ∨ (r = here ∧ l' = l)) → DJ a rest es2 ds fun r l' => r ≠ here ∨ l' ∈ fin ++ [l] := fun es2 J3 => J3.weak fun r l' _ h => by
      rcases h with h | h
      · exact .inl (.inl h)
      · rcases List.mem_append.mp h with h | h
        · exact .inl (.inr h)
        · by_cases e : r = here
          · exact .inr ⟨e, by simpa using h⟩
          · exact .inl (.inl e)
    have e' : rest = (fin ++ [l]) ++ todo := by rw [e]; simp
    by_cases hc : ∃ u, aget es ((v + l) % a) = some u ∧ u ≤ v + l
    · exact DJ.relaxAll ha hpos todo (fin ++ [l]) es e' hh (wk _ (R2 hc))
    · refine DJ.relaxAll ha hpos todo (fin ++ [l]) _ e' hh (wk _ (R1 fun u hu => ?_))
      apply Classical.byContradiction
      intro hn
      exact hc ⟨u, hu, by omega⟩
theorem min_of {p : Nat → Nat → Prop} : ∀ (n v r : Nat), v ≤ n → p r v → ∃ r v, p r v ∧ ∀ r' v', p r' v' → v ≤ v'
  | 0, v, r, hv, hp => ⟨r, v, hp, fun r' v' _ => by omega⟩
  | n + 1, v, r, hv, hp => by
    by_cases h : ∃ r' v', p r' v' ∧ v' < v
    · obtain ⟨r', v', hp', hlt⟩ := h
      exact min_of n v' r' (by omega) hp'
    · exact ⟨r, v, hp, fun r' v' hp' => by
        apply Classical.byContradiction
        intro hn
        exact h ⟨r', v', hp', by omega⟩⟩
theorem DJ.run (ha : 0 < a) (hpos : ∀ l ∈ rest, l ≤ 27) (hg : gcdL a rest = 1) : ∀ (n : Nat) (es ds : List (Nat × Nat)), ds.length + n = a → DJ a rest es ds (fun _ _ => True) → ∃ es' ds', DJ a rest es' ds' (fun _ _ => True) ∧ ds'.length = a
  | 0, es, ds, h, J => ⟨es, ds, J, h⟩
  | n + 1, es, ds, h, J => by
    obtain ⟨r0, v0, h1, h2⟩ := J.more ha hg (by omega)
    obtain ⟨here, v, ⟨hb, hn⟩, hmin⟩ := min_of (p := fun r v => aget es r = some v ∧ aget ds r = none) v0 v0 r0 (Nat.le_refl _) ⟨h1, h2⟩
    have J1 := J.select hpos hb hn fun r u h3 h4 => hmin r u ⟨h3, h4⟩
    have hd : aget (aput ds here v) here = some v := by rw [aget_aput, if_pos rfl]
    obtain ⟨es', J2⟩ := DJ.relaxAll ha hpos rest [] es rfl hd (J1.weak fun r l _ h => by simpa using h)
    exact DJ.run ha hpos hg n es' _ (by rw [aput_len, hn]; simp; omega) J2
theorem exists_least (ha : 0 < a) (hpos : ∀ l ∈ rest, l ≤ 27) (hg : gcdL a rest = 1) : ∃ w : Nat → Nat, ∀ r, r < a → Least (a :: rest) a r (w r) ∧ w r + 27 ≤ a * 27 := by
  obtain ⟨es, ds, J, hl⟩ := DJ.run ha hpos hg a [(0, 0)] [] (by simp) (DJ.start ha)
  refine ⟨fun r => (aget ds r).getD 0, fun r hr => ?_⟩
  obtain ⟨w, hw, h1, h2⟩ := J.finish hl hr
  simp only [hw, Option.getD_some]
  exact ⟨h1, h2⟩
end
theorem comm_mem (ls : List Nat) : ∀ l ∈ ls, comm ls ∣ l := by
  have dv : ∀ (ls : List Nat) (c : Nat), ls.foldl (fun c l => Nat.gcd l c) c ∣ c ∧ ∀ l ∈ ls, ls.foldl (fun c l => Nat.gcd l c) c ∣ l := by
    intro ls
    induction ls with
    | nil => intro c; exact ⟨Nat.dvd_refl _, fun l hl => by cases hl⟩
    | cons x ls ih =>
      intro c
      obtain ⟨q1, q2⟩ := ih (Nat.gcd x c)
      refine ⟨Nat.dvd_trans q1 (Nat.gcd_dvd_right _ _), fun l hl => ?_⟩
      rcases List.mem_cons.mp hl with rfl | hl
      · exact Nat.dvd_trans q1 (Nat.gcd_dvd_left _ _)
      · exact q2 l hl
  exact (dv ls 0).2
theorem comm_next {ls : List Nat} {x : Nat} (h1 : x ∈ ls) (h2 : x + 1 ∈ ls) : ¬ 1 < comm ls := by
  have d1 := comm_mem ls x h1
  have d2 := comm_mem ls (x + 1) h2
  have := Nat.le_of_dvd (by omega) ((Nat.dvd_add_right d1).mp d2)
  omega
theorem comm_snoc (ls : List Nat) (l : Nat) : comm (ls ++ [l]) = Nat.gcd l (comm ls) := by
  unfold comm; rw [List.foldl_append]; rfl
theorem chicken {m : Nat} (hm : ∃ r, r < 6 ∧ Least [6, 9, 20] 6 r m) (hall : ∀ r, r < 6 → ∃ w, Least [6, 9, 20] 6 r w ∧ w ≤ m) : (m : Int) - 6 = 43 := by
  have hpos : ∀ l ∈ [6, 9, 20], 0 < l := by decide
  obtain ⟨h1, h2⟩ := greatest (a := 6) (rest := [9, 20]) (m := m) (top := m + 100) (by decide) hpos hm hall (by omega)
  have hyes : ∀ d : Nat, 44 ≤ d → Sums [6, 9, 20] d := fun d hd => by
    have base : ∀ r, r < 6 → Sums [6, 9, 20] (44 + r) := by
      have : ∀ r, r < 6 → sumB [6, 9, 20] (44 + r) = true := by decide +kernel
      exact fun r hr => (sumB_iff hpos _).mp (this r hr)
    have e : d = 44 + (d - 44) % 6 + (d - 44) / 6 * 6 := by omega
    rw [e]
    exact (base _ (Nat.mod_lt _ (by decide))).plus (Sums.times List.mem_cons_self _)
  have h43 : sumB [6, 9, 20] 43 = false := by decide +kernel
  have a1 := h2 43 (List.mem_append_left _ (List.mem_map.mpr ⟨43, List.mem_filter.mpr ⟨List.mem_range.mpr (by omega), by rw [h43]; rfl⟩, rfl⟩))
  have a2 : (m : Int) - 6 ≤ 43 := by
    rcases List.mem_append.mp h1 with h | h
    · obtain ⟨d, hd, e⟩ := List.mem_map.mp h
      obtain ⟨_, hd⟩ := List.mem_filter.mp hd
      have : d < 44 := by
        apply Classical.byContradiction
        intro hn
        rw [(sumB_iff hpos d).mpr (hyes d (by omega))] at hd
        cases hd
      omega
    · rw [List.mem_singleton] at h; omega
  omega
end K47
namespace K47
open PySem PySem.Spec L2 PyD
open PyProof.Rows hiding St
def topS (i : Nat) : Stmt := PySem.Challenge.pw_fuseslit_k47_whole_delays_that_are_missi.main.body.getD i (.Pass ⟨0, 0, 0, 0⟩)

abbrev s_divisor_of : Stmt := topS 1
theorem sc_divisor_of : FnScope ["a", "b"] ["a", "b"] (defScope s_divisor_of) := ⟨rfl, rfl, rfl, by decide +kernel, rfl, by decide +kernel, by decide +kernel⟩
def i_divisor_of : SI := { own := [], bs := none }
abbrev s_can_join : Stmt := topS 3
theorem sc_can_join : FnScope ["a", "b", "delay", "k"] ["a", "b", "delay"] (defScope s_can_join) := ⟨rfl, rfl, rfl, by decide +kernel, rfl, by decide +kernel, by decide +kernel⟩
def i_can_join : SI := { own := [], bs := none }
abbrev s_greatest_missing : Stmt := topS 4
theorem sc_greatest_missing : FnScope ["a", "b"] ["a", "b"] (defScope s_greatest_missing) := ⟨rfl, rfl, rfl, by decide +kernel, rfl, by decide +kernel, by decide +kernel⟩
def i_greatest_missing : SI := { own := [], bs := none }
abbrev s_count_missing : Stmt := topS 5
theorem sc_count_missing : FnScope ["a", "b"] ["a", "b"] (defScope s_count_missing) := ⟨rfl, rfl, rfl, by decide +kernel, rfl, by decide +kernel, by decide +kernel⟩
def i_count_missing : SI := { own := [], bs := none }
abbrev s_least_by_rests : Stmt := topS 6
theorem sc_least_by_rests : FnScope ["lengths", "a", "best", "done", "here", "length", "there", "rest"] ["lengths"] (defScope s_least_by_rests) := ⟨rfl, rfl, rfl, by decide +kernel, rfl, by decide +kernel, by decide +kernel⟩
def i_least_by_rests : SI := { own := [2, 3], bs := none }
abbrev s_greatest_of_all : Stmt := topS 7
theorem sc_greatest_of_all : FnScope ["lengths"] ["lengths"] (defScope s_greatest_of_all) := ⟨rfl, rfl, rfl, by decide +kernel, rfl, by decide +kernel, by decide +kernel⟩
def i_greatest_of_all : SI := { own := [], bs := none }
abbrev s__law_box : Stmt := topS 9
theorem sc__law_box : FnScope ["script"] ["script"] (defScope s__law_box) := ⟨rfl, rfl, rfl, by decide +kernel, rfl, by decide +kernel, by decide +kernel⟩
def i__law_box : SI := { own := [], bs := none }
abbrev s__law_load : Stmt := topS 10
theorem sc__law_load : FnScope ["box", "cells", "cell", "size", "first", "second"] ["box"] (defScope s__law_load) := ⟨rfl, rfl, rfl, by decide +kernel, rfl, by decide +kernel, by decide +kernel⟩
def i__law_load : SI := { own := [], bs := some 0 }
abbrev s__law_draw : Stmt := topS 11
theorem sc__law_draw : FnScope ["box", "many", "digit"] ["box", "many"] (defScope s__law_draw) := ⟨rfl, rfl, rfl, by decide +kernel, rfl, by decide +kernel, by decide +kernel⟩
def i__law_draw : SI := { own := [], bs := some 0 }
abbrev s__law_same : Stmt := topS 12
theorem sc__law_same : FnScope ["a", "b", "k"] ["a", "b"] (defScope s__law_same) := ⟨rfl, rfl, rfl, by decide +kernel, rfl, by decide +kernel, by decide +kernel⟩
def i__law_same : SI := { own := [], bs := none }
abbrev s__law_table : Stmt := topS 13
theorem sc__law_table : FnScope ["lengths", "top", "found", "delay", "length"] ["lengths", "top"] (defScope s__law_table) := ⟨rfl, rfl, rfl, by decide +kernel, rfl, by decide +kernel, by decide +kernel⟩
def i__law_table : SI := { own := [2], bs := none }
abbrev s__law_divisor : Stmt := topS 14
theorem sc__law_divisor : FnScope ["a", "b"] ["a", "b"] (defScope s__law_divisor) := ⟨rfl, rfl, rfl, by decide +kernel, rfl, by decide +kernel, by decide +kernel⟩
def i__law_divisor : SI := { own := [], bs := none }
abbrev s_law : Stmt := topS 15
theorem sc_law : FnScope ["script", "box", "turn", "a", "b", "table", "step", "delay", "gaps", "lengths", "common", "length", "least_one", "top", "due", "rest"] ["script"] (defScope s_law) := ⟨rfl, rfl, rfl, by decide +kernel, rfl, by decide +kernel, by decide +kernel⟩
def i_law : SI := { own := [], bs := some 1 }
def fLoad : MF := fun ds Q => ∀ i, Q (.int i)
def fDraw : MF := fun ds Q => ∃ many : Int, ds = [.int many] ∧ 0 < many ∧ many < 1073741824 ∧ ∀ d : Int, 0 ≤ d → d < many → Q (.int d)
def fDiv : MF := fun ds Q => ∃ a b : Nat, ds = [.int a, .int b] ∧ a < 1000000 ∧ b < 1000000 ∧ Q (.int (Nat.gcd a b))
def fJoin : MF := fun ds Q => ∃ a b d : Nat, ds = [.int a, .int b, .int d] ∧ 0 < a ∧ 0 < b ∧ a < 1000000 ∧ b < 1000000 ∧ d < 1000000 ∧ Q (.bool (joinB a b d))
def fGreat : MF := fun ds Q => ∃ a b : Nat, ds = [.int a, .int b] ∧ 0 < a ∧ 0 < b ∧ a < 1000000 ∧ b < 1000000 ∧ Q (greatD' a b)
def fCount : MF := fun ds Q => ∃ a b : Nat, ds = [.int a, .int b] ∧ 0 < a ∧ 0 < b ∧ a < 1000000 ∧ b < 1000000 ∧ Q (countD' a b)
def fTable : MF := fun ds Q => ∃ (ls : List Nat) (top : Nat) (d : D), ds = [d, .int top] ∧ (d = .list (ls.map natD) ∨ d = .tuple (ls.map natD)) ∧ (∀ l ∈ ls, 0 < l) ∧ ls.length ≤ 1000 ∧ top < 1000000 ∧ Q (.list ((tabL ls top).map .bool))
def fLeast : MF := fun ds Q => ∃ (a : Nat) (rest : List Nat), ds = [.tuple ((a :: rest).map natD)] ∧ 0 < a ∧ a ≤ 27 ∧ (∀ l ∈ rest, l ≤ 27) ∧ gcdL a rest = 1 ∧
  ∀ w : Nat → Nat, (∀ r, r < a → Least (a :: rest) a r (w r) ∧ w r + 27 ≤ a * 27) → Q (.tuple ((List.range a).map fun r => natD (w r)))
def fAll : MF := fun ds Q => ∃ (a : Nat) (rest : List Nat), ds = [.tuple ((a :: rest).map natD)] ∧ 0 < a ∧ a ≤ 27 ∧ (∀ l ∈ rest, l ≤ 27) ∧ gcdL a rest = 1 ∧
  ∀ m : Nat, (∃ r, r < a ∧ Least (a :: rest) a r m) → (∀ r, r < a → ∃ w, Least (a :: rest) a r w ∧ w ≤ m) → m + 27 ≤ a * 27 → Q (.int ((m : Int) - a))
section
variable {P : Program} {w : World} {K : PySem.W.Frag} {mg : Str → Option Value} {base : Heap}
theorem ok__law_load {f : Addr} {fd : FuncData} (F : Fun K "_law_load" "_law_load" s__law_load f fd) (m_int : mg "int" = none) (m_len : mg "len" = none) : FnOk P w K mg base CX0 1 f fd ["box"] (spB K boxK 0 fLoad) := by
  have nd := sc__law_load.nd
  refine fnB (φ := fLoad) boxK_st F sc__law_load i__law_load rfl rfl (by decide) (fun cdv A outer s H E hr => (dss_cells 0 1 2 nd rfl rfl rfl rfl rfl (Or.inl rfl) rfl rfl (by decide) (by decide) (by decide) (by decide) (by decide) (by rfl) m_len (by rfl) m_int (by decide) (by decide) (by decide) (by decide) (by rfl) (by rfl) (fun h => pe_bm PySem.F.plainAttrs_list PySem.F.slot_list_pop PySem.F.type_list_pop mt_popAt h (pa_cons pe_int pa_nil)) (by rfl) (by rfl) (by rfl) (by rfl)
 (dss_cons (w_set 3 nd (de_if (dt_cmp (r_ge (hu200 hr)) (w_b 2) (db de_int)) (de_bin r_mulI (db de_int) (w_b 2)) (de_bin r_sub (db (de_bin r_mulI (db (de_neg (db de_int))) (w_b 2))) (db de_int))))
 (dss_cons (ds_if (dt_cmp (r_ge (hu200 hr)) (w_b 3) (db de_int))
 (dss_one (ds_ret (w_v 3)))
 dss_nil)
 (dss_one (ds_boxPut 0 (by decide) (de_bin r_mod (db (de_bty r_int1 (by rfl) m_int boot_int (dab_cons (db (de_binE r_addE (de_binE r_addE (de_bin r_mulI (db (de_boxI 0 (by decide))) (db de_int)) (de_bin r_mulI (w_b 3) (db de_int))) de_int)) dab_nil))) (db de_int))))))
 (dss_cons (w_set 4 nd (de_bin r_mod (db (de_bty r_int1 (by rfl) m_int boot_int (dab_cons (db (de_binE r_addE (de_bin r_mulI (db (de_boxI 0 (by decide))) (db de_int)) de_int)) dab_nil))) (db de_int)))
 (dss_cons (w_set 5 nd (de_bin r_mod (db (de_bty r_int1 (by rfl) m_int boot_int (dab_cons (db (de_binE r_addE (de_bin r_mulI (w_b 4) (db de_int)) de_int)) dab_nil))) (db de_int)))
 (dss_cons (ds_boxPut 0 (by decide) (de_bin r_mod (db (de_bty r_int1 (by rfl) m_int boot_int (dab_cons (db (de_binE r_addE (de_bin r_mulI (w_b 5) (db de_int)) de_int)) dab_nil))) (db de_int)))
 (dss_one (ds_ret (de_binE r_addE (de_binE r_addE (de_bin r_mulI (w_b 4) (db de_int)) (de_bin r_mulI (w_b 5) (db de_int))) (de_boxI 0 (by decide)))))))))) ?_
  intro ds Q hl h
  obtain rfl : ds = [] := List.length_eq_zero_iff.mp hl
  have h' : ∀ i, Q (.int i) := h
  rw [show startD ["box", "cells", "cell", "size", "first", "second"] (none :: [].map some) = [none, none, none, none, none, none] from rfl]
  simp only [sCells, sAsg, sSeq, sIf, sSet, sRet, sRetN, sNext, sBoxPut, sPar, setAll, sExprM, mMeth, tyD, tBool, tTru, tAndM, tOrM, tNotM, m1, m2, mN, mV, mC, mCall, mBoxI, aNil, aCons, mIf, mTup, mLst, mLk, hasD, mAndV, mOrV, pNotB, pNeg, aSeq, itemsS, aRng1, aRng2, aRng3, gN, gT, gsNil, gsCons, gSt, pSetL, pSetK, pSetT, qAppend, pAddE, pAdd, pSub, pInt1, pMod, pFdiv, pIx, pLen, pLenB, pAny, pAll, pTupOf, pListOf, pIs, pIsNot, isD, pSl, pSlL, oNone, oSome, pEq_int, pNe_int, pLt_int, pGt_int, pLe_int, pGe_int, List.set_cons_zero, List.set_cons_succ, List.getElem?_cons_zero, List.getElem?_cons_succ, List.length_cons, List.length_nil, if_true, if_false, Bool.false_eq_true, true_and, and_true, decide_eq_true_eq, wipeD, tTrue, List.map_cons, List.map_nil, natD]
  simp [h', smallI]
theorem ok__law_draw {f : Addr} {fd : FuncData} (F : Fun K "_law_draw" "_law_draw" s__law_draw f fd) (m_int : mg "int" = none) {f__law_load : Addr} {fd__law_load : FuncData} (F__law_load : Fun K "_law_load" "_law_load" s__law_load f__law_load fd__law_load) (g__law_load : mg "_law_load" = some (.ref f__law_load)) (b__law_load : Binds K fd__law_load ["box"] []) (G__law_load : FnOk P w K mg base CX0 1 f__law_load fd__law_load ["box"] (spB K boxK 0 fLoad)) : FnOk P w K mg base CX0 2 f fd ["box", "many"] (spB K boxK 1 fDraw) := by
  have nd := sc__law_draw.nd
  refine fnB (φ := fDraw) boxK_st F sc__law_draw i__law_draw rfl rfl (by decide) (fun cdv A outer s H E hr => (dss_cons (ds_if (dt_cmp (r_lt (hu200 hr)) (db (de_boxI 0 (by decide))) (w_b 1))
 (dss_one (ds_boxPut 0 (by decide) (w_callB 0 G__law_load (hr.mono (by omega)) g__law_load F__law_load.kp b__law_load dae_nil)))
 dss_nil)
 (dss_cons (w_set 2 nd (de_bin r_mod (db (de_bty r_int1 (by rfl) m_int boot_int (dab_cons (db (de_boxI 0 (by decide))) dab_nil))) (w_b 1)))
 (dss_cons (ds_boxPut 0 (by decide) (de_bin r_fdiv (db (de_boxI 0 (by decide))) (w_b 1)))
 (dss_one (ds_ret (w_v 2))))))) ?_
  rintro ds Q hl ⟨many, rfl, h1, h2, h3⟩
  rw [show startD ["box", "many", "digit"] (none :: [.int many].map some) = [none, some (.int many), none] from rfl]
  simp only [sCells, sAsg, sSeq, sIf, sSet, sRet, sRetN, sNext, sBoxPut, sPar, setAll, sExprM, mMeth, tyD, tBool, tTru, tAndM, tOrM, tNotM, m1, m2, mN, mV, mC, mCall, mBoxI, aNil, aCons, mIf, mTup, mLst, mLk, hasD, mAndV, mOrV, pNotB, pNeg, aSeq, itemsS, aRng1, aRng2, aRng3, gN, gT, gsNil, gsCons, gSt, pSetL, pSetK, pSetT, qAppend, pAddE, pAdd, pSub, pInt1, pMod, pFdiv, pIx, pLen, pLenB, pAny, pAll, pTupOf, pListOf, pIs, pIsNot, isD, pSl, pSlL, oNone, oSome, pEq_int, pNe_int, pLt_int, pGt_int, pLe_int, pGe_int, List.set_cons_zero, List.set_cons_succ, List.getElem?_cons_zero, List.getElem?_cons_succ, List.length_cons, List.length_nil, if_true, if_false, Bool.false_eq_true, true_and, and_true, decide_eq_true_eq, wipeD, tTrue, List.map_cons, List.map_nil, natD]
  have hf : ∀ n : Int, Q (.int (n % many)) := fun n => h3 _ (Int.emod_nonneg _ (by omega)) (Int.emod_lt_of_pos _ h1)
  simp [fLoad, hf, h1, h2]
theorem ok_divisor_of {f : Addr} {fd : FuncData} (F : Fun K "divisor_of" "divisor_of" s_divisor_of f fd)  : FnOk P w K mg base CX0 1 f fd ["a", "b"] (spD K 2 fDiv) := by
  have nd := sc_divisor_of.nd
  refine fnD (φ := fDiv) F sc_divisor_of i_divisor_of rfl rfl (by decide) (fun cdv A outer s H E hr => (dss_cons (ds_while (dt_tru (w_b 1))
 (dss_one (w_par2 0 1 nd (dax_e (w_v 1) (dax_e (de_bin r_mod (w_b 0) (w_b 1)) dax_nil)))) PassesOwn.never)
 (dss_one (ds_ret (w_v 0))))) ?_
  rintro ds Q hl ⟨a, b, rfl, ha, hb, h⟩
  rw [show startD ["a", "b"] ([.int a, .int b].map some) = [some (.int a), some (.int b)] from rfl]
  simp only [sSeq, sWhile]
  refine ⟨fun m ρ => ∃ x y : Nat, ρ = [some (.int x), some (.int y)] ∧ y = m ∧ Nat.gcd x y = Nat.gcd a b, ⟨b, a, b, rfl, rfl, rfl⟩, ?_⟩
  rintro m _ ⟨x, y, rfl, rfl, hg⟩
  simp only [sCells, sAsg, sSeq, sIf, sSet, sRet, sRetN, sNext, sBoxPut, sPar, setAll, sExprM, mMeth, tyD, tBool, tTru, tAndM, tOrM, tNotM, m1, m2, mN, mV, mC, mCall, mBoxI, aNil, aCons, mIf, mTup, mLst, mLk, hasD, mAndV, mOrV, pNotB, pNeg, aSeq, itemsS, aRng1, aRng2, aRng3, gN, gT, gsNil, gsCons, gSt, pSetL, pSetK, pSetT, qAppend, pAddE, pAdd, pSub, pInt1, pMod, pFdiv, pIx, pLen, pLenB, pAny, pAll, pTupOf, pListOf, pIs, pIsNot, isD, pSl, pSlL, oNone, oSome, pEq_int, pNe_int, pLt_int, pGt_int, pLe_int, pGe_int, List.set_cons_zero, List.set_cons_succ, List.getElem?_cons_zero, List.getElem?_cons_succ, List.length_cons, List.length_nil, if_true, if_false, Bool.false_eq_true, true_and, and_true, decide_eq_true_eq, wipeD, tTrue, List.map_cons, List.map_nil, natD]
  by_cases hy : y = 0
  · subst hy
    rw [Nat.gcd_zero_right] at hg
    simpa [hg] using h
  · rw [if_pos (by simpa using hy)]
    refine ⟨by omega, x % y, Nat.mod_lt _ (by omega), y, x % y, by simp, rfl, ?_⟩
    rw [← hg, Nat.gcd_comm y, ← Nat.gcd_rec, Nat.gcd_comm]
theorem ok__law_divisor {f : Addr} {fd : FuncData} (F : Fun K "_law_divisor" "_law_divisor" s__law_divisor f fd)  : FnOk P w K mg base CX0 1 f fd ["a", "b"] (spD K 2 fDiv) := by
  have nd := sc__law_divisor.nd
  refine fnD (φ := fDiv) F sc__law_divisor i__law_divisor rfl rfl (by decide) (fun cdv A outer s H E hr => (dss_cons (ds_while (dt_cmp (r_gt (hu200 hr)) (w_b 1) (db de_int))
 (dss_one (w_par2 0 1 nd (dax_e (w_v 1) (dax_e (de_bin r_sub (w_b 0) (db (de_bin r_mulI (db (de_bin r_fdiv (w_b 0) (w_b 1))) (w_b 1)))) dax_nil)))) PassesOwn.never)
 (dss_one (ds_ret (w_v 0))))) ?_
  rintro ds Q hl ⟨a, b, rfl, ha, hb, h⟩
  rw [show startD ["a", "b"] ([.int a, .int b].map some) = [some (.int a), some (.int b)] from rfl]
  simp only [sSeq, sWhile]
  refine ⟨fun m ρ => ∃ x y : Nat, ρ = [some (.int x), some (.int y)] ∧ y = m ∧ x < 1000000 ∧ y < 1000000 ∧ Nat.gcd x y = Nat.gcd a b, ⟨b, a, b, rfl, rfl, ha, hb, rfl⟩, ?_⟩
  rintro m _ ⟨x, y, rfl, rfl, hx, hy', hg⟩
  simp only [sCells, sAsg, sSeq, sIf, sSet, sRet, sRetN, sNext, sBoxPut, sPar, setAll, sExprM, mMeth, tyD, tBool, tTru, tAndM, tOrM, tNotM, m1, m2, mN, mV, mC, mCall, mBoxI, aNil, aCons, mIf, mTup, mLst, mLk, hasD, mAndV, mOrV, pNotB, pNeg, aSeq, itemsS, aRng1, aRng2, aRng3, gN, gT, gsNil, gsCons, gSt, pSetL, pSetK, pSetT, qAppend, pAddE, pAdd, pSub, pInt1, pMod, pFdiv, pIx, pLen, pLenB, pAny, pAll, pTupOf, pListOf, pIs, pIsNot, isD, pSl, pSlL, oNone, oSome, pEq_int, pNe_int, pLt_int, pGt_int, pLe_int, pGe_int, List.set_cons_zero, List.set_cons_succ, List.getElem?_cons_zero, List.getElem?_cons_succ, List.length_cons, List.length_nil, if_true, if_false, Bool.false_eq_true, true_and, and_true, decide_eq_true_eq, wipeD, tTrue, List.map_cons, List.map_nil, natD]
  by_cases hy : y = 0
  · subst hy
    rw [Nat.gcd_zero_right] at hg
    simpa [hg] using h
  · rw [if_pos (by omega)]
    have hm : x % y < y := Nat.mod_lt _ (by omega)
    refine ⟨⟨by omega, by omega⟩, .inr ⟨by omega, by omega⟩, x % y, hm, y, x % y, ?_, rfl, by omega, by omega, ?_⟩
    · have : (x : Int) - x / y * y = ((x % y : Nat) : Int) := by
        have h1 := Int.emod_add_mul_ediv (x : Int) y
        rw [Int.natCast_emod]
        rw [Int.mul_comm] at h1
        omega
      rw [this]
    · rw [← hg, Nat.gcd_comm y, ← Nat.gcd_rec, Nat.gcd_comm]
theorem ok_can_join {f : Addr} {fd : FuncData} (F : Fun K "can_join" "can_join" s_can_join f fd) (m_any : mg "any" = none) (m_min : mg "min" = none) (m_range : mg "range" = none) : FnOk P w K mg base CX0 1 f fd ["a", "b", "delay"] (spD K 3 fJoin) := by
  have nd := sc_can_join.nd
  refine fnD (φ := fJoin) F sc_can_join i_can_join rfl rfl (by decide) (fun cdv A outer s H E hr => (dss_one (ds_ret (de_bi (r_any rfl) (by rfl) m_any boot_any (dab_cons (db (de (df_lc [("k", 3)] [] ⟨by decide, by decide, by decide, by decide⟩ (by decide) rfl nd (di_range1 (by rfl) m_range (dae_cons (de_bi (r_min rfl (hu200 hr)) (by rfl) m_min boot_min (dab_cons (w_b 1) (dab_cons (db (de_binE r_addE (de_bin r_fdiv (w_b 2) (w_b 0)) de_int)) dab_nil))) dae_nil)) (blkOk_by (by kernel_rfl)) (fun _ _ _ _ _ => (w_gn 3 nd)) (fun _ _ _ _ _ => dts_nil) (fun _ _ _ _ _ => (de_cmp (r_eq (hu200 hr)) (db (de_bin r_mod (db (de_bin r_sub (w_b 2) (db (de_bin r_mulI (w_b 0) (w_b 3))))) (w_b 1))) (db de_int)))))) dab_nil))))) ?_
  rintro ds Q hl ⟨a, b, d, rfl, ha, hb, ha', hb', hd', h⟩
  rw [show startD ["a", "b", "delay", "k"] ([.int a, .int b, .int d].map some) = [some (.int a), some (.int b), some (.int d), none] from rfl]
  simp only [sCells, sAsg, sSeq, sIf, sSet, sRet, sRetN, sNext, sBoxPut, sPar, setAll, sExprM, mMeth, tyD, tBool, tTru, tAndM, tOrM, tNotM, m1, m2, mN, mV, mC, mCall, mBoxI, aNil, aCons, mIf, mTup, mLst, mLk, hasD, mAndV, mOrV, pNotB, pNeg, aSeq, itemsS, aRng1, aRng2, aRng3, gN, gT, gsNil, gsCons, gSt, pSetL, pSetK, pSetT, qAppend, pAddE, pAdd, pSub, pInt1, pMod, pFdiv, pIx, pLen, pLenB, pAny, pAll, pTupOf, pListOf, pIs, pIsNot, isD, pSl, pSlL, oNone, oSome, pEq_int, pNe_int, pLt_int, pGt_int, pLe_int, pGe_int, List.set_cons_zero, List.set_cons_succ, List.getElem?_cons_zero, List.getElem?_cons_succ, List.length_cons, List.length_nil, if_true, if_false, Bool.false_eq_true, true_and, and_true, decide_eq_true_eq, wipeD, tTrue, List.map_cons, List.map_nil, natD, pMin]
  have hd1 : (d : Int) / a = ((d / a : Nat) : Int) := by rw [Int.natCast_ediv]
  have hd2 : d / a ≤ d := Nat.div_le_self _ _
  unfold joinB at h
  generalize hn : min b (d / a + 1) = n at h
  have hn' : n ≤ b := by omega
  have e : (if (d : Int) / a + 1 < b then (d : Int) / a + 1 else b) = (n : Int) := by
    rw [hd1]; split <;> omega
  refine mLc_rngm 0 (n : Int) (fun k => .bool (decide (((d : Int) - a * k) % b = 0))) (fun R hR => ?_) (by omega) (fun k hk P N hp => ?_) ?_
  · simp only [sCells, sAsg, sSeq, sIf, sSet, sRet, sRetN, sNext, sBoxPut, sPar, setAll, sExprM, mMeth, tyD, tBool, tTru, tAndM, tOrM, tNotM, m1, m2, mN, mV, mC, mCall, mBoxI, aNil, aCons, mIf, mTup, mLst, mLk, hasD, mAndV, mOrV, pNotB, pNeg, aSeq, itemsS, aRng1, aRng2, aRng3, gN, gT, gsNil, gsCons, gSt, pSetL, pSetK, pSetT, qAppend, pAddE, pAdd, pSub, pInt1, pMod, pFdiv, pIx, pLen, pLenB, pAny, pAll, pTupOf, pListOf, pIs, pIsNot, isD, pSl, pSlL, oNone, oSome, pEq_int, pNe_int, pLt_int, pGt_int, pLe_int, pGe_int, List.set_cons_zero, List.set_cons_succ, List.getElem?_cons_zero, List.getElem?_cons_succ, List.length_cons, List.length_nil, if_true, if_false, Bool.false_eq_true, true_and, and_true, decide_eq_true_eq, wipeD, tTrue, List.map_cons, List.map_nil, natD, pMin]
    rw [e]
    exact ⟨⟨by omega, by omega⟩, rngOk_of (by omega) (by omega), hR⟩
  · simp only [sCells, sAsg, sSeq, sIf, sSet, sRet, sRetN, sNext, sBoxPut, sPar, setAll, sExprM, mMeth, tyD, tBool, tTru, tAndM, tOrM, tNotM, m1, m2, mN, mV, mC, mCall, mBoxI, aNil, aCons, mIf, mTup, mLst, mLk, hasD, mAndV, mOrV, pNotB, pNeg, aSeq, itemsS, aRng1, aRng2, aRng3, gN, gT, gsNil, gsCons, gSt, pSetL, pSetK, pSetT, qAppend, pAddE, pAdd, pSub, pInt1, pMod, pFdiv, pIx, pLen, pLenB, pAny, pAll, pTupOf, pListOf, pIs, pIsNot, isD, pSl, pSlL, oNone, oSome, pEq_int, pNe_int, pLt_int, pGt_int, pLe_int, pGe_int, List.set_cons_zero, List.set_cons_succ, List.getElem?_cons_zero, List.getElem?_cons_succ, List.length_cons, List.length_nil, if_true, if_false, Bool.false_eq_true, true_and, and_true, decide_eq_true_eq, wipeD, tTrue, List.map_cons, List.map_nil, natD]
    refine ⟨.inl (smallI_of (by omega) (by omega)), by omega, ?_⟩
    try simp only [pEq_int]
    rw [Int.zero_add]; exact hp
  · refine ⟨(List.range n).map fun (k : Nat) => decide (((d : Int) - a * k) % b = 0), ?_, ?_⟩
    · rw [Int.sub_zero, Int.toNat_natCast, List.map_map]; rfl
    · rw [List.any_map]; exact h
theorem ok_greatest_missing {f : Addr} {fd : FuncData} (F : Fun K "greatest_missing" "greatest_missing" s_greatest_missing f fd) (m_min : mg "min" = none) {f_divisor_of : Addr} {fd_divisor_of : FuncData} (F_divisor_of : Fun K "divisor_of" "divisor_of" s_divisor_of f_divisor_of fd_divisor_of) (g_divisor_of : mg "divisor_of" = some (.ref f_divisor_of)) (b_divisor_of : Binds K fd_divisor_of ["a", "b"] []) (G_divisor_of : FnOk P w K mg base CX0 1 f_divisor_of fd_divisor_of ["a", "b"] (spD K 2 fDiv)) : FnOk P w K mg base CX0 2 f fd ["a", "b"] (spD K 2 fGreat) := by
  have nd := sc_greatest_missing.nd
  refine fnD (φ := fGreat) F sc_greatest_missing i_greatest_missing rfl rfl (by decide) (fun cdv A outer s H E hr => (dss_cons (ds_if (dt_w (dw_or (dt_cmp (r_gt (hu200 hr)) (db (w_call G_divisor_of (hr.mono (by omega)) g_divisor_of F_divisor_of.kp b_divisor_of (dae_cons (w_v 0) (dae_cons (w_v 1) dae_nil)))) (db de_int)) (dw_or1 (dt_cmp (r_eq (hu200 hr)) (db (de_bi (r_min rfl (hu200 hr)) (by rfl) m_min boot_min (dab_cons (w_b 0) (dab_cons (w_b 1) dab_nil)))) (db de_int)))))
 (dss_one (ds_ret de_non))
 dss_nil)
 (dss_one (ds_ret (de_bin r_sub (db (de_bin r_sub (db (de_bin r_mulI (w_b 0) (w_b 1))) (w_b 0))) (w_b 1)))))) ?_
  rintro ds Q hl ⟨a, b, rfl, ha, hb, ha', hb', h⟩
  rw [show startD ["a", "b"] ([.int a, .int b].map some) = [some (.int a), some (.int b)] from rfl]
  simp only [sCells, sAsg, sSeq, sIf, sSet, sRet, sRetN, sNext, sBoxPut, sPar, setAll, sExprM, mMeth, tyD, tBool, tTru, tAndM, tOrM, tNotM, m1, m2, mN, mV, mC, mCall, mBoxI, aNil, aCons, mIf, mTup, mLst, mLk, hasD, mAndV, mOrV, pNotB, pNeg, aSeq, itemsS, aRng1, aRng2, aRng3, gN, gT, gsNil, gsCons, gSt, pSetL, pSetK, pSetT, qAppend, pAddE, pAdd, pSub, pInt1, pMod, pFdiv, pIx, pLen, pLenB, pAny, pAll, pTupOf, pListOf, pIs, pIsNot, isD, pSl, pSlL, oNone, oSome, pEq_int, pNe_int, pLt_int, pGt_int, pLe_int, pGe_int, List.set_cons_zero, List.set_cons_succ, List.getElem?_cons_zero, List.getElem?_cons_succ, List.length_cons, List.length_nil, if_true, if_false, Bool.false_eq_true, true_and, and_true, decide_eq_true_eq, wipeD, tTrue, List.map_cons, List.map_nil, natD, pMin, fDiv]
  refine ⟨a, b, rfl, ha', hb', ?_⟩
  unfold greatD' at h
  by_cases h1 : 1 < Nat.gcd a b
  · rw [if_pos (by omega)]; rw [if_pos (.inl h1)] at h; exact h
  · rw [if_neg (by omega)]
    by_cases h2 : min a b = 1
    · rw [if_pos (by split <;> omega)]; rw [if_pos (.inr h2)] at h; exact h
    · rw [if_neg (by split <;> omega)]; rw [if_neg (by omega)] at h
      exact ⟨.inl (smallI_of (by omega) (by omega)), h⟩
theorem ok_count_missing {f : Addr} {fd : FuncData} (F : Fun K "count_missing" "count_missing" s_count_missing f fd) {f_divisor_of : Addr} {fd_divisor_of : FuncData} (F_divisor_of : Fun K "divisor_of" "divisor_of" s_divisor_of f_divisor_of fd_divisor_of) (g_divisor_of : mg "divisor_of" = some (.ref f_divisor_of)) (b_divisor_of : Binds K fd_divisor_of ["a", "b"] []) (G_divisor_of : FnOk P w K mg base CX0 1 f_divisor_of fd_divisor_of ["a", "b"] (spD K 2 fDiv)) : FnOk P w K mg base CX0 2 f fd ["a", "b"] (spD K 2 fCount) := by
  have nd := sc_count_missing.nd
  refine fnD (φ := fCount) F sc_count_missing i_count_missing rfl rfl (by decide) (fun cdv A outer s H E hr => (dss_one (ds_ret (de_if (dt_cmp (r_gt (hu200 hr)) (db (w_call G_divisor_of (hr.mono (by omega)) g_divisor_of F_divisor_of.kp b_divisor_of (dae_cons (w_v 0) (dae_cons (w_v 1) dae_nil)))) (db de_int)) de_non (de_bin r_fdiv (db (de_bin r_mulI (db (de_bin r_sub (w_b 0) (db de_int))) (db (de_bin r_sub (w_b 1) (db de_int))))) (db de_int)))))) ?_
  rintro ds Q hl ⟨a, b, rfl, ha, hb, ha', hb', h⟩
  rw [show startD ["a", "b"] ([.int a, .int b].map some) = [some (.int a), some (.int b)] from rfl]
  simp only [sCells, sAsg, sSeq, sIf, sSet, sRet, sRetN, sNext, sBoxPut, sPar, setAll, sExprM, mMeth, tyD, tBool, tTru, tAndM, tOrM, tNotM, m1, m2, mN, mV, mC, mCall, mBoxI, aNil, aCons, mIf, mTup, mLst, mLk, hasD, mAndV, mOrV, pNotB, pNeg, aSeq, itemsS, aRng1, aRng2, aRng3, gN, gT, gsNil, gsCons, gSt, pSetL, pSetK, pSetT, qAppend, pAddE, pAdd, pSub, pInt1, pMod, pFdiv, pIx, pLen, pLenB, pAny, pAll, pTupOf, pListOf, pIs, pIsNot, isD, pSl, pSlL, oNone, oSome, pEq_int, pNe_int, pLt_int, pGt_int, pLe_int, pGe_int, List.set_cons_zero, List.set_cons_succ, List.getElem?_cons_zero, List.getElem?_cons_succ, List.length_cons, List.length_nil, if_true, if_false, Bool.false_eq_true, true_and, and_true, decide_eq_true_eq, wipeD, tTrue, List.map_cons, List.map_nil, natD, pMin, fDiv]
  refine ⟨a, b, rfl, ha', hb', ?_⟩
  unfold countD' at h
  by_cases h1 : 1 < Nat.gcd a b
  · rw [if_pos (by omega)]; rw [if_pos h1] at h; exact h
  · rw [if_neg (by omega)]; rw [if_neg h1] at h
    exact ⟨.inl (smallI_of (by omega) (by omega)), by decide, h⟩
theorem ok__law_table {f : Addr} {fd : FuncData} (F : Fun K "_law_table" "_law_table" s__law_table f fd) (m_any : mg "any" = none) (m_range : mg "range" = none) : FnOk P w K mg base CX0 1 f fd ["lengths", "top"] (spD K 2 fTable) := by
  have nd := sc__law_table.nd
  refine fnD (φ := fTable) F sc__law_table i__law_table rfl rfl (by decide) (fun cdv A outer s H E hr => (dss_cons (w_setO 2 nd (df_lst (dae_cons de_bl dae_nil)))
 (dss_cons (ds_for [] (by decide) rfl (di_range2 (by rfl) m_range (dae_cons de_int (dae_cons (de_binE r_addE (w_v 1) de_int) dae_nil))) (dgw (w_gn 3 nd))
 (dss_one (ds_exprM (w_app 2 (dae_cons (de_bi (r_any rfl) (by rfl) m_any boot_any (dab_cons (db (de (df_lc [("length", 4)] [] ⟨by decide, by decide, by decide, by decide⟩ (by decide) rfl nd (di_seq (dq (w_v 0))) (blkOk_by (by kernel_rfl)) (fun _ _ _ _ _ => (w_gn 4 nd)) (fun _ _ _ _ _ => dts_nil) (fun _ _ _ _ _ => (de_and (de_cmp (r_le (hu200 hr)) (w_b 4) (w_b 3)) (de_one (de_ix (hu200 hr) (w_b 2) (de_bin r_sub (w_b 3) (w_b 4))))))))) dab_nil)) dae_nil)))) PassesOwn.never)
 (dss_one (w_retO 2))))) ?_
  rintro ds Q hl ⟨ls, top, d, rfl, hd, hpos, hlen, htop, h⟩
  rw [show startD ["lengths", "top", "found", "delay", "length"] ([d, .int top].map some) = [some (d), some (.int top), none, none, none] from rfl]
  simp only [sCells, sAsg, sSeq, sIf, sSet, sRet, sRetN, sNext, sBoxPut, sPar, setAll, sExprM, mMeth, tyD, tBool, tTru, tAndM, tOrM, tNotM, m1, m2, mN, mV, mC, mCall, mBoxI, aNil, aCons, mIf, mTup, mLst, mLk, hasD, mAndV, mOrV, pNotB, pNeg, aSeq, itemsS, aRng1, aRng2, aRng3, gN, gT, gsNil, gsCons, gSt, pSetL, pSetK, pSetT, qAppend, pAddE, pAdd, pSub, pInt1, pMod, pFdiv, pIx, pLen, pLenB, pAny, pAll, pTupOf, pListOf, pIs, pIsNot, isD, pSl, pSlL, oNone, oSome, pEq_int, pNe_int, pLt_int, pGt_int, pLe_int, pGe_int, List.set_cons_zero, List.set_cons_succ, List.getElem?_cons_zero, List.getElem?_cons_succ, List.length_cons, List.length_nil, if_true, if_false, Bool.false_eq_true, true_and, and_true, decide_eq_true_eq, wipeD, tTrue, List.map_cons, List.map_nil, natD]
  refine ⟨by decide, ?_⟩
  refine sFor_rng 1 (top + 1) (fun i ρ => ∃ o, ρ = [some d, some (.int top), some (.list ((tabL ls i).map .bool)), o, none]) (fun R hR => ?_) ⟨_, rfl⟩ ?_ ?_
  · simp only [sCells, sAsg, sSeq, sIf, sSet, sRet, sRetN, sNext, sBoxPut, sPar, setAll, sExprM, mMeth, tyD, tBool, tTru, tAndM, tOrM, tNotM, m1, m2, mN, mV, mC, mCall, mBoxI, aNil, aCons, mIf, mTup, mLst, mLk, hasD, mAndV, mOrV, pNotB, pNeg, aSeq, itemsS, aRng1, aRng2, aRng3, gN, gT, gsNil, gsCons, gSt, pSetL, pSetK, pSetT, qAppend, pAddE, pAdd, pSub, pInt1, pMod, pFdiv, pIx, pLen, pLenB, pAny, pAll, pTupOf, pListOf, pIs, pIsNot, isD, pSl, pSlL, oNone, oSome, pEq_int, pNe_int, pLt_int, pGt_int, pLe_int, pGe_int, List.set_cons_zero, List.set_cons_succ, List.getElem?_cons_zero, List.getElem?_cons_succ, List.length_cons, List.length_nil, if_true, if_false, Bool.false_eq_true, true_and, and_true, decide_eq_true_eq, wipeD, tTrue, List.map_cons, List.map_nil, natD]
    exact ⟨rngOk_of (by omega) (by omega), rngOk_of (by omega) (by omega), hR⟩
  · rintro i _ hi ⟨o, rfl⟩
    simp only [sCells, sAsg, sSeq, sIf, sSet, sRet, sRetN, sNext, sBoxPut, sPar, setAll, sExprM, mMeth, tyD, tBool, tTru, tAndM, tOrM, tNotM, m1, m2, mN, mV, mC, mCall, mBoxI, aNil, aCons, mIf, mTup, mLst, mLk, hasD, mAndV, mOrV, pNotB, pNeg, aSeq, itemsS, aRng1, aRng2, aRng3, gN, gT, gsNil, gsCons, gSt, pSetL, pSetK, pSetT, qAppend, pAddE, pAdd, pSub, pInt1, pMod, pFdiv, pIx, pLen, pLenB, pAny, pAll, pTupOf, pListOf, pIs, pIsNot, isD, pSl, pSlL, oNone, oSome, pEq_int, pNe_int, pLt_int, pGt_int, pLe_int, pGe_int, List.set_cons_zero, List.set_cons_succ, List.getElem?_cons_zero, List.getElem?_cons_succ, List.length_cons, List.length_nil, if_true, if_false, Bool.false_eq_true, true_and, and_true, decide_eq_true_eq, wipeD, tTrue, List.map_cons, List.map_nil, natD]
    refine mLc_map ls natD (fun l => .bool (decide (l ≤ i + 1) && ((tabL ls i)[i + 1 - l]?).getD false)) (fun R hR => ?_) (by rw [sizeLine_eq]; omega) (fun l hlm P N hp => ?_) ?_
    · rcases hd with rfl | rfl <;> exact fun _ => hR
    · simp only [sCells, sAsg, sSeq, sIf, sSet, sRet, sRetN, sNext, sBoxPut, sPar, setAll, sExprM, mMeth, tyD, tBool, tTru, tAndM, tOrM, tNotM, m1, m2, mN, mV, mC, mCall, mBoxI, aNil, aCons, mIf, mTup, mLst, mLk, hasD, mAndV, mOrV, pNotB, pNeg, aSeq, itemsS, aRng1, aRng2, aRng3, gN, gT, gsNil, gsCons, gSt, pSetL, pSetK, pSetT, qAppend, pAddE, pAdd, pSub, pInt1, pMod, pFdiv, pIx, pLen, pLenB, pAny, pAll, pTupOf, pListOf, pIs, pIsNot, isD, pSl, pSlL, oNone, oSome, pEq_int, pNe_int, pLt_int, pGt_int, pLe_int, pGe_int, List.set_cons_zero, List.set_cons_succ, List.getElem?_cons_zero, List.getElem?_cons_succ, List.length_cons, List.length_nil, if_true, if_false, Bool.false_eq_true, true_and, and_true, decide_eq_true_eq, wipeD, tTrue, List.map_cons, List.map_nil, natD]
      by_cases hc : l ≤ i + 1
      · rw [if_pos (by omega)]
        have hp0 := hpos l hlm
        have hlt : i + 1 - l < (tabL ls i).length := by rw [tabL_len]; omega
        refine ⟨.bool ((tabL ls i)[i + 1 - l]), ?_, ?_⟩
        · rw [atD_nat (by omega), show ((1 : Int) + i - l).toNat = i + 1 - l by omega, List.getElem?_map, List.getElem?_eq_getElem hlt]; rfl
        · rw [List.getElem?_eq_getElem hlt, decide_eq_true hc] at hp; exact hp
      · rw [if_neg (by omega)]
        rw [decide_eq_false hc] at hp; exact hp
    · simp only [sCells, sAsg, sSeq, sIf, sSet, sRet, sRetN, sNext, sBoxPut, sPar, setAll, sExprM, mMeth, tyD, tBool, tTru, tAndM, tOrM, tNotM, m1, m2, mN, mV, mC, mCall, mBoxI, aNil, aCons, mIf, mTup, mLst, mLk, hasD, mAndV, mOrV, pNotB, pNeg, aSeq, itemsS, aRng1, aRng2, aRng3, gN, gT, gsNil, gsCons, gSt, pSetL, pSetK, pSetT, qAppend, pAddE, pAdd, pSub, pInt1, pMod, pFdiv, pIx, pLen, pLenB, pAny, pAll, pTupOf, pListOf, pIs, pIsNot, isD, pSl, pSlL, oNone, oSome, pEq_int, pNe_int, pLt_int, pGt_int, pLe_int, pGe_int, List.set_cons_zero, List.set_cons_succ, List.getElem?_cons_zero, List.getElem?_cons_succ, List.length_cons, List.length_nil, if_true, if_false, Bool.false_eq_true, true_and, and_true, decide_eq_true_eq, wipeD, tTrue, List.map_cons, List.map_nil, natD]
      refine ⟨ls.map fun l => decide (l ≤ i + 1) && ((tabL ls i)[i + 1 - l]?).getD false, by rw [List.map_map]; rfl, by rw [List.length_map, tabL_len, sizeLine_eq]; omega, some (.int (1 + (i : Int))), ?_⟩
      rw [List.any_map]
      rw [show tabL ls (i + 1) = tabL ls i ++ [ls.any fun l => decide (l ≤ i + 1) && ((tabL ls i)[i + 1 - l]?).getD false] from rfl, List.map_append]
      rfl
  · rintro _ ⟨o, rfl⟩
    simp only [sCells, sAsg, sSeq, sIf, sSet, sRet, sRetN, sNext, sBoxPut, sPar, setAll, sExprM, mMeth, tyD, tBool, tTru, tAndM, tOrM, tNotM, m1, m2, mN, mV, mC, mCall, mBoxI, aNil, aCons, mIf, mTup, mLst, mLk, hasD, mAndV, mOrV, pNotB, pNeg, aSeq, itemsS, aRng1, aRng2, aRng3, gN, gT, gsNil, gsCons, gSt, pSetL, pSetK, pSetT, qAppend, pAddE, pAdd, pSub, pInt1, pMod, pFdiv, pIx, pLen, pLenB, pAny, pAll, pTupOf, pListOf, pIs, pIsNot, isD, pSl, pSlL, oNone, oSome, pEq_int, pNe_int, pLt_int, pGt_int, pLe_int, pGe_int, List.set_cons_zero, List.set_cons_succ, List.getElem?_cons_zero, List.getElem?_cons_succ, List.length_cons, List.length_nil, if_true, if_false, Bool.false_eq_true, true_and, and_true, decide_eq_true_eq, wipeD, tTrue, List.map_cons, List.map_nil, natD]
    rw [show ((top : Int) + 1 - 1).toNat = top by omega]
    exact h
theorem ok_least_by_rests {f : Addr} {fd : FuncData} (F : Fun K "least_by_rests" "least_by_rests" s_least_by_rests f fd) (m_len : mg "len" = none) (m_min : mg "min" = none) (m_range : mg "range" = none) (m_tuple : mg "tuple" = none) : FnOk P w K mg base CX0 1 f fd ["lengths"] (spD K 1 fLeast) := by
  have nd := sc_least_by_rests.nd
  refine fnD (φ := fLeast) F sc_least_by_rests i_least_by_rests rfl rfl (by decide) (fun cdv A outer s H E hr => (dss_cons (w_set 1 nd (de_ix (hu200 hr) (w_b 0) de_int))
 (dss_cons (ds_parT [2, 3] (slotsOk (by decide)) (by decide) rfl (dax_f (df_disp (dpr_cons de_int de_int dpr_nil)) (dax_f df_dnewK dax_nil)) (pgs_cons (pg_name (i := 2) nd rfl (by first | exact .inl rfl | exact .inr rfl)) (pgs_cons (pg_name (i := 3) nd rfl (by first | exact .inl rfl | exact .inr rfl)) pgs_nil)))
 (dss_cons (ds_while (dt_cmp (r_lt (hu200 hr)) (db (de_bi r_len (by rfl) m_len boot_len (dab_cons (w_b 3) dab_nil))) (w_b 1))
 (dss_cons (w_set 4 nd (de_ix (hu200 hr) (db (de_bi (r_min rfl (hu200 hr)) (by rfl) m_min boot_min (dab_cons (db (de (df_lk 2 [2] (by decide) (df_lcP [("rest", 7)] [] ⟨by decide, by decide, by decide, by decide⟩ (by decide) rfl nd (w_keys 2) (blkOk_by (by kernel_rfl)) (fun _ _ _ _ _ => (w_gn 7 nd)) (fun _ _ _ _ _ => (dts_one (dt_cmpM (r_notIn (hu200 hr)) (w_v 7) (w_b 3)))) (fun _ _ _ _ _ => (de_tup (dae_cons (de_ix (hu200 hr) (w_b 2) (w_v 7)) (dae_cons (w_v 7) dae_nil)))))))) dab_nil))) de_int))
 (dss_cons (ds_asgw (de_ix (hu200 hr) (w_b 2) (w_v 4)) (w_gsub 3 (set_dict (hu1 hr)) st_dictK (w_v 4)))
 (dss_one (ds_for [] (by decide) rfl (di_seq (dq (de_sl (w_v 0) (do_some de_int) do_none))) (dgw (w_gn 5 nd))
 (dss_cons (w_set 6 nd (de_bin r_mod (db (de_binE r_addE (de_ix (hu200 hr) (w_b 2) (w_v 4)) (w_v 5))) (w_b 1)))
 (dss_one (ds_if (dt_w (dw_or (dt_cmpM (r_notIn (hu200 hr)) (w_v 6) (w_b 2)) (dw_or1 (dt_cmp (r_lt (hu200 hr)) (db (de_binE r_addE (de_ix (hu200 hr) (w_b 2) (w_v 4)) (w_v 5))) (db (de_ix (hu200 hr) (w_b 2) (w_v 6)))))))
 (dss_one (ds_asgw (de_binE r_addE (de_ix (hu200 hr) (w_b 2) (w_v 4)) (w_v 5)) (w_gsub 2 (set_dict (hu1 hr)) st_dictK (w_v 6))))
 dss_nil))) PassesOwn.never)))) PassesOwn.never)
 (dss_one (ds_ret (de_bty r_tupOf (by rfl) m_tuple boot_tuple (dab_cons (db (de (df_lc [("rest", 7)] [] ⟨by decide, by decide, by decide, by decide⟩ (by decide) rfl nd (di_range1 (by rfl) m_range (dae_cons (w_v 1) dae_nil)) (blkOk_by (by kernel_rfl)) (fun _ _ _ _ _ => (w_gn 7 nd)) (fun _ _ _ _ _ => dts_nil) (fun _ _ _ _ _ => (de_ix (hu200 hr) (w_b 3) (w_v 7)))))) dab_nil)))))))) ?_
  rintro ds Q hl ⟨a, rest, rfl, ha, ha', hr26, hg, h⟩
  rw [show startD ["lengths", "a", "best", "done", "here", "length", "there", "rest"] ([.tuple ((a :: rest).map natD)].map some) = [some (.tuple ((a :: rest).map natD)), none, none, none, none, none, none, none] from rfl]
  simp only [sCells, sAsg, sSeq, sIf, sSet, sRet, sRetN, sNext, sBoxPut, sPar, setAll, sExprM, mMeth, tyD, tBool, tTru, tAndM, tOrM, tNotM, m1, m2, mN, mV, mC, mCall, mBoxI, aNil, aCons, mIf, mTup, mLst, mLk, hasD, mAndV, mOrV, pNotB, pNeg, aSeq, itemsS, aRng1, aRng2, aRng3, gN, gT, gsNil, gsCons, gSt, pSetL, pSetT, qAppend, pAddE, pAdd, pSub, pInt1, pMod, pFdiv, pLenB, pAny, pAll, pTupOf, pListOf, pIs, pIsNot, isD, pSl, pSlL, oNone, oSome, pEq_int, pNe_int, pLt_int, pGt_int, pLe_int, pGe_int, List.set_cons_zero, List.set_cons_succ, List.getElem?_cons_zero, List.getElem?_cons_succ, List.length_cons, List.length_nil, if_true, if_false, Bool.false_eq_true, true_and, and_true, decide_eq_true_eq, wipeD, tTrue, List.map_cons, List.map_nil, natD, pIx_dN, pIn_dN, pNotIn_dN, pSetK_dN, pLen_dN, pDisp, pairsD, Option.map_some]
  refine ⟨.int a, rfl, by decide, by decide, ?_⟩
  refine ⟨fun m ρ => ∃ es ds o4 o5 o6, ρ = [some (.tuple ((a :: rest).map natD)), some (.int a), some (dN es), some (dN ds), o4, o5, o6, none] ∧ DJ a rest es ds (fun _ _ => True) ∧ m = a - ds.length, ⟨a, [(0, 0)], [], none, none, none, rfl, DJ.start ha, rfl⟩, ?_⟩
  rintro m _ ⟨es, ds, o4, o5, o6, rfl, J, rfl⟩
  have hle := J.len_le
  have hes : es.length ≤ a := by
    have := bounded_len a _ J.nb fun x hx => by
      obtain ⟨v, hv⟩ := Option.isSome_iff_exists.mp (aget_key.mpr hx)
      exact (J.b1 x v hv).1
    rw [List.length_map] at this; exact this
  simp only [sCells, sAsg, sSeq, sIf, sSet, sRet, sRetN, sNext, sBoxPut, sPar, setAll, sExprM, mMeth, tyD, tBool, tTru, tAndM, tOrM, tNotM, m1, m2, mN, mV, mC, mCall, mBoxI, aNil, aCons, mIf, mTup, mLst, mLk, hasD, mAndV, mOrV, pNotB, pNeg, aSeq, itemsS, aRng1, aRng2, aRng3, gN, gT, gsNil, gsCons, gSt, pSetL, pSetT, qAppend, pAddE, pAdd, pSub, pInt1, pMod, pFdiv, pLenB, pAny, pAll, pTupOf, pListOf, pIs, pIsNot, isD, pSl, pSlL, oNone, oSome, pEq_int, pNe_int, pLt_int, pGt_int, pLe_int, pGe_int, List.set_cons_zero, List.set_cons_succ, List.getElem?_cons_zero, List.getElem?_cons_succ, List.length_cons, List.length_nil, if_true, if_false, Bool.false_eq_true, true_and, and_true, decide_eq_true_eq, wipeD, tTrue, List.map_cons, List.map_nil, natD, pIx_dN, pIn_dN, pNotIn_dN, pSetK_dN, pLen_dN]
  by_cases hlt : ds.length < a
  · rw [if_pos (by omega)]
    obtain ⟨r0, v0, hr0, hn0⟩ := J.more ha hg hlt
    refine ⟨⟨_, rfl⟩, mLc_filter es (fun p => natD p.1) (fun p => PySem.W.Datum.toD ((p.2 : Int), (p.1 : Int))) (fun p => !(aget ds p.1).isSome) (fun R hR => aKeys_dN rfl hR) (by rw [sizeLine_eq]; omega) (fun p hp P N hP hN => ?_) ?_⟩
    · simp only [sCells, sAsg, sSeq, sIf, sSet, sRet, sRetN, sNext, sBoxPut, sPar, setAll, sExprM, mMeth, tyD, tBool, tTru, tAndM, tOrM, tNotM, m1, m2, mN, mV, mC, mCall, mBoxI, aNil, aCons, mIf, mTup, mLst, mLk, hasD, mAndV, mOrV, pNotB, pNeg, aSeq, itemsS, aRng1, aRng2, aRng3, gN, gT, gsNil, gsCons, gSt, pSetL, pSetT, qAppend, pAddE, pAdd, pSub, pInt1, pMod, pFdiv, pLenB, pAny, pAll, pTupOf, pListOf, pIs, pIsNot, isD, pSl, pSlL, oNone, oSome, pEq_int, pNe_int, pLt_int, pGt_int, pLe_int, pGe_int, List.set_cons_zero, List.set_cons_succ, List.getElem?_cons_zero, List.getElem?_cons_succ, List.length_cons, List.length_nil, if_true, if_false, Bool.false_eq_true, true_and, and_true, decide_eq_true_eq, wipeD, tTrue, List.map_cons, List.map_nil, natD, pIx_dN, pIn_dN, pNotIn_dN, pSetK_dN, pLen_dN]
      have hv := aget_of_mem J.nb (k := p.1) (v := p.2) hp
      cases hb : !(aget ds p.1).isSome with
      | true =>
        rw [if_pos rfl]
        exact ⟨p.2, hv, by decide, hP hb⟩
      | false =>
        rw [if_neg (by decide)]
        exact hN hb
    · have hmem0 : (r0, v0) ∈ es.filter fun p => !(aget ds p.1).isSome := List.mem_filter.mpr ⟨aget_mem hr0, by simp [hn0]⟩
      generalize hL : (es.filter fun p => !(aget ds p.1).isSome) = L at hmem0
      have hLm : ∀ p ∈ L, aget es p.1 = some p.2 ∧ aget ds p.1 = none := fun p hp => by
        rw [← hL] at hp
        obtain ⟨h1, h2⟩ := List.mem_filter.mp hp
        exact ⟨aget_of_mem J.nb h1, by simpa using h2⟩
      have hLi : ∀ r u, aget es r = some u → aget ds r = none → (r, u) ∈ L := fun r u h1 h2 => by
        rw [← hL]; exact List.mem_filter.mpr ⟨aget_mem h1, by simp [h2]⟩
      obtain ⟨p0, ps, rfl⟩ : ∃ p0 ps, L = p0 :: ps := by
        cases L with
        | nil => cases hmem0
        | cons p0 ps => exact ⟨p0, ps, rfl⟩
      let pr : Nat × Nat → Int × Int := fun p => ((p.2 : Int), (p.1 : Int))
      obtain ⟨hm1, hm2⟩ := minOf_pair (pr p0) (ps.map pr)
      rw [← List.map_cons] at hm1
      obtain ⟨⟨here, v⟩, hp, hpq⟩ := List.mem_map.mp hm1
      obtain ⟨hb, hn⟩ := hLm _ hp
      have hmin : ∀ r u, aget es r = some u → aget ds r = none → v ≤ u := fun r u h1 h2 => by
        have := hm2 (pr (r, u)) (by rw [← List.map_cons]; exact List.mem_map.mpr ⟨_, hLi r u h1 h2, rfl⟩)
        rw [← hpq] at this
        exact Int.ofNat_le.mp this
      have e1 : (ps.map fun p => PySem.W.Datum.toD ((p.2 : Int), (p.1 : Int))) = (ps.map pr).map PySem.W.Datum.toD := by rw [List.map_map]; rfl
      rw [List.map_cons, e1]
      refine ⟨minOk_d (α := Int × Int) (by decide) (pr p0) (ps.map pr), ?_⟩
      rw [show PySem.W.minD (PySem.W.Datum.toD ((p0.2 : Int), (p0.1 : Int))) ((ps.map pr).map PySem.W.Datum.toD) = PySem.W.Datum.toD (PySem.W.minOf (pr p0) (ps.map pr)) from PySem.W.minD_map _ _, ← hpq]
      refine ⟨.int here, rfl, ?_⟩
      simp only [sCells, sAsg, sSeq, sIf, sSet, sRet, sRetN, sNext, sBoxPut, sPar, setAll, sExprM, mMeth, tyD, tBool, tTru, tAndM, tOrM, tNotM, m1, m2, mN, mV, mC, mCall, mBoxI, aNil, aCons, mIf, mTup, mLst, mLk, hasD, mAndV, mOrV, pNotB, pNeg, aSeq, itemsS, aRng1, aRng2, aRng3, gN, gT, gsNil, gsCons, gSt, pSetL, pSetT, qAppend, pAddE, pAdd, pSub, pInt1, pMod, pFdiv, pLenB, pAny, pAll, pTupOf, pListOf, pIs, pIsNot, isD, pSl, pSlL, oNone, oSome, pEq_int, pNe_int, pLt_int, pGt_int, pLe_int, pGe_int, List.set_cons_zero, List.set_cons_succ, List.getElem?_cons_zero, List.getElem?_cons_succ, List.length_cons, List.length_nil, if_true, if_false, Bool.false_eq_true, true_and, and_true, decide_eq_true_eq, wipeD, tTrue, List.map_cons, List.map_nil, natD, pIx_dN, pIn_dN, pNotIn_dN, pSetK_dN, pLen_dN]
      have J1 := J.select hr26 hb hn hmin
      refine ⟨v, hb, by rw [sizeLine_eq]; omega, ?_⟩
      have hl1 : (aput ds here v).length = ds.length + 1 := by rw [aput_len, hn]; rfl
      have hd1 : aget (aput ds here v) here = some v := by rw [aget_aput, if_pos rfl]
      refine sFor_go rest natD (fun i ρ => ∃ es' o5 o6, ρ = [some (.tuple ((a :: rest).map natD)), some (.int a), some (dN es'), some (dN (aput ds here v)), some (.int here), o5, o6, none] ∧ DJ a rest es' (aput ds here v) (fun r l => r ≠ here ∨ l ∈ rest.take i)) (fun R hR => ?_) ⟨es, o5, o6, rfl, J1.weak fun r l _ h => by simpa using h⟩ ?_ ?_
      · simp only [sCells, sAsg, sSeq, sIf, sSet, sRet, sRetN, sNext, sBoxPut, sPar, setAll, sExprM, mMeth, tyD, tBool, tTru, tAndM, tOrM, tNotM, m1, m2, mN, mV, mC, mCall, mBoxI, aNil, aCons, mIf, mTup, mLst, mLk, hasD, mAndV, mOrV, pNotB, pNeg, aSeq, itemsS, aRng1, aRng2, aRng3, gN, gT, gsNil, gsCons, gSt, pSetL, pSetT, qAppend, pAddE, pAdd, pSub, pInt1, pMod, pFdiv, pLenB, pAny, pAll, pTupOf, pListOf, pIs, pIsNot, isD, pSl, pSlL, oNone, oSome, pEq_int, pNe_int, pLt_int, pGt_int, pLe_int, pGe_int, List.set_cons_zero, List.set_cons_succ, List.getElem?_cons_zero, List.getElem?_cons_succ, List.length_cons, List.length_nil, if_true, if_false, Bool.false_eq_true, true_and, and_true, decide_eq_true_eq, wipeD, tTrue, List.map_cons, List.map_nil, natD, pIx_dN, pIn_dN, pNotIn_dN, pSetK_dN, pLen_dN]
        rw [show cutD (PyData.int ↑a :: List.map natD rest) (some 1) none = List.map natD rest from cutD_tail _ _]
        exact fun _ => hR
      · rintro i l _ hi ⟨es', o5, o6, rfl, J2⟩
        simp only [sCells, sAsg, sSeq, sIf, sSet, sRet, sRetN, sNext, sBoxPut, sPar, setAll, sExprM, mMeth, tyD, tBool, tTru, tAndM, tOrM, tNotM, m1, m2, mN, mV, mC, mCall, mBoxI, aNil, aCons, mIf, mTup, mLst, mLk, hasD, mAndV, mOrV, pNotB, pNeg, aSeq, itemsS, aRng1, aRng2, aRng3, gN, gT, gsNil, gsCons, gSt, pSetL, pSetT, qAppend, pAddE, pAdd, pSub, pInt1, pMod, pFdiv, pLenB, pAny, pAll, pTupOf, pListOf, pIs, pIsNot, isD, pSl, pSlL, oNone, oSome, pEq_int, pNe_int, pLt_int, pGt_int, pLe_int, pGe_int, List.set_cons_zero, List.set_cons_succ, List.getElem?_cons_zero, List.getElem?_cons_succ, List.length_cons, List.length_nil, if_true, if_false, Bool.false_eq_true, true_and, and_true, decide_eq_true_eq, wipeD, tTrue, List.map_cons, List.map_nil, natD, pIx_dN, pIn_dN, pNotIn_dN, pSetK_dN, pLen_dN]
        have hb' : aget es' here = some v := (J2.d1 here v hd1).1
        have hes' : es'.length ≤ a := by
          have := bounded_len a _ J2.nb fun x hx => by
            obtain ⟨v, hv⟩ := Option.isSome_iff_exists.mp (aget_key.mpr hx)
            exact (J2.b1 x v hv).1
          rw [List.length_map] at this; exact this
        have hz : es'.length < sizeLine := by rw [sizeLine_eq]; omega
        obtain ⟨R1, R2⟩ := J2.relax ha hr26 hd1 (List.mem_of_getElem? hi)
        have wk : ∀ es2, DJ a rest es2 (aput ds here v) (fun r l' => (r ≠ here ∨ l' ∈ rest.take i) ∨ (r = here ∧ l' = l)) → DJ a rest es2 (aput ds here v) fun r l => r ≠ here ∨ l ∈ rest.take (i + 1) := fun es2 J3 => J3.weak fun r l' _ h => by
          rcases h with h | h
          · exact .inl (.inl h)
          · rw [List.take_add_one, hi] at h
            rcases List.mem_append.mp h with h | h
            · exact .inl (.inr h)
            · by_cases e : r = here
              · exact .inr ⟨e, by simpa using h⟩
              · exact .inl (.inl e)
        refine ⟨v, hb', by omega, ?_⟩
        rw [show ((v : Int) + l) % a = (((v + l) % a : Nat) : Int) by rw [Int.natCast_emod, Int.natCast_add]]
        simp only [pNotIn_dN, pIx_dN]
        cases hx : aget es' ((v + l) % a) with
        | none =>
          simp only [Option.isSome_none, Bool.not_false, if_true]
          refine ⟨v, hb', ?_⟩
          rw [show ((v : Int) + l) = ((v + l : Nat) : Int) by rw [Int.natCast_add]]
          rw [pSetK_dN]
          exact ⟨hz, aput es' ((v + l) % a) (v + l), _, _, rfl, wk _ (R1 fun u hu => by rw [hx] at hu; cases hu)⟩
        | some u =>
          simp only [Option.isSome_some, Bool.not_true, Bool.false_eq_true, if_false]
          refine ⟨v, hb', u, rfl, ?_⟩
          simp only [pLt_int]
          rw [show ((v : Int) + l) = ((v + l : Nat) : Int) by rw [Int.natCast_add]]
          by_cases hc : v + l < u
          · rw [if_pos (by simpa using (by omega : ((v + l : Nat) : Int) < u))]
            refine ⟨v, hb', ?_⟩
            rw [show ((v : Int) + l) = ((v + l : Nat) : Int) by rw [Int.natCast_add]]
            rw [pSetK_dN]
            exact ⟨hz, aput es' ((v + l) % a) (v + l), _, _, rfl, wk _ (R1 fun w hw => by rw [hx] at hw; cases hw; exact hc)⟩
          · rw [if_neg (by simpa using (by omega : ¬ ((v + l : Nat) : Int) < u))]
            exact ⟨es', _, _, rfl, wk _ (R2 ⟨u, hx, by omega⟩)⟩
      · rintro _ ⟨es', o5, o6, rfl, J2⟩
        refine ⟨a - (aput ds here v).length, by omega, es', aput ds here v, _, _, _, rfl, J2.weak fun r l hl _ => ?_, rfl⟩
        rw [List.take_length]
        exact .inr hl
  · rw [if_neg (by omega)]
    have hla : ds.length = a := by omega
    refine mLc_rngm 0 (a : Int) (fun r => natD ((aget ds r).getD 0)) (fun R hR => ?_) (by omega) (fun r hr P N hP => ?_) ?_
    · simp only [sCells, sAsg, sSeq, sIf, sSet, sRet, sRetN, sNext, sBoxPut, sPar, setAll, sExprM, mMeth, tyD, tBool, tTru, tAndM, tOrM, tNotM, m1, m2, mN, mV, mC, mCall, mBoxI, aNil, aCons, mIf, mTup, mLst, mLk, hasD, mAndV, mOrV, pNotB, pNeg, aSeq, itemsS, aRng1, aRng2, aRng3, gN, gT, gsNil, gsCons, gSt, pSetL, pSetT, qAppend, pAddE, pAdd, pSub, pInt1, pMod, pFdiv, pLenB, pAny, pAll, pTupOf, pListOf, pIs, pIsNot, isD, pSl, pSlL, oNone, oSome, pEq_int, pNe_int, pLt_int, pGt_int, pLe_int, pGe_int, List.set_cons_zero, List.set_cons_succ, List.getElem?_cons_zero, List.getElem?_cons_succ, List.length_cons, List.length_nil, if_true, if_false, Bool.false_eq_true, true_and, and_true, decide_eq_true_eq, wipeD, tTrue, List.map_cons, List.map_nil, natD, pIx_dN, pIn_dN, pNotIn_dN, pSetK_dN, pLen_dN]
      exact ⟨rngOk_of (by omega) (by omega), hR⟩
    · simp only [sCells, sAsg, sSeq, sIf, sSet, sRet, sRetN, sNext, sBoxPut, sPar, setAll, sExprM, mMeth, tyD, tBool, tTru, tAndM, tOrM, tNotM, m1, m2, mN, mV, mC, mCall, mBoxI, aNil, aCons, mIf, mTup, mLst, mLk, hasD, mAndV, mOrV, pNotB, pNeg, aSeq, itemsS, aRng1, aRng2, aRng3, gN, gT, gsNil, gsCons, gSt, pSetL, pSetT, qAppend, pAddE, pAdd, pSub, pInt1, pMod, pFdiv, pLenB, pAny, pAll, pTupOf, pListOf, pIs, pIsNot, isD, pSl, pSlL, oNone, oSome, pEq_int, pNe_int, pLt_int, pGt_int, pLe_int, pGe_int, List.set_cons_zero, List.set_cons_succ, List.getElem?_cons_zero, List.getElem?_cons_succ, List.length_cons, List.length_nil, if_true, if_false, Bool.false_eq_true, true_and, and_true, decide_eq_true_eq, wipeD, tTrue, List.map_cons, List.map_nil, natD, pIx_dN, pIn_dN, pNotIn_dN, pSetK_dN, pLen_dN]
      rw [Int.zero_add]
      simp only [pIx_dN]
      obtain ⟨w, hw, _⟩ := J.finish hla (r := r) (by omega)
      rw [hw] at hP
      exact ⟨w, hw, hP⟩
    · simp only [sCells, sAsg, sSeq, sIf, sSet, sRet, sRetN, sNext, sBoxPut, sPar, setAll, sExprM, mMeth, tyD, tBool, tTru, tAndM, tOrM, tNotM, m1, m2, mN, mV, mC, mCall, mBoxI, aNil, aCons, mIf, mTup, mLst, mLk, hasD, mAndV, mOrV, pNotB, pNeg, aSeq, itemsS, aRng1, aRng2, aRng3, gN, gT, gsNil, gsCons, gSt, pSetL, pSetT, qAppend, pAddE, pAdd, pSub, pInt1, pMod, pFdiv, pLenB, pAny, pAll, pTupOf, pListOf, pIs, pIsNot, isD, pSl, pSlL, oNone, oSome, pEq_int, pNe_int, pLt_int, pGt_int, pLe_int, pGe_int, List.set_cons_zero, List.set_cons_succ, List.getElem?_cons_zero, List.getElem?_cons_succ, List.length_cons, List.length_nil, if_true, if_false, Bool.false_eq_true, true_and, and_true, decide_eq_true_eq, wipeD, tTrue, List.map_cons, List.map_nil, natD, pIx_dN, pIn_dN, pNotIn_dN, pSetK_dN, pLen_dN]
      rw [Int.sub_zero, Int.toNat_natCast]
      refine h (fun r => (aget ds r).getD 0) fun r hr => ?_
      obtain ⟨w, hw, h1, h2⟩ := J.finish hla hr
      rw [hw]
      exact ⟨h1, h2⟩
theorem ok_greatest_of_all {f : Addr} {fd : FuncData} (F : Fun K "greatest_of_all" "greatest_of_all" s_greatest_of_all f fd) (m_max : mg "max" = none) {f_least_by_rests : Addr} {fd_least_by_rests : FuncData} (F_least_by_rests : Fun K "least_by_rests" "least_by_rests" s_least_by_rests f_least_by_rests fd_least_by_rests) (g_least_by_rests : mg "least_by_rests" = some (.ref f_least_by_rests)) (b_least_by_rests : Binds K fd_least_by_rests ["lengths"] []) (G_least_by_rests : FnOk P w K mg base CX0 1 f_least_by_rests fd_least_by_rests ["lengths"] (spD K 1 fLeast)) : FnOk P w K mg base CX0 2 f fd ["lengths"] (spD K 1 fAll) := by
  have nd := sc_greatest_of_all.nd
  refine fnD (φ := fAll) F sc_greatest_of_all i_greatest_of_all rfl rfl (by decide) (fun cdv A outer s H E hr => (dss_one (ds_ret (de_bin r_sub (db (de_bi (r_max rfl (hu200 hr)) (by rfl) m_max boot_max (dab_cons (db (w_call G_least_by_rests (hr.mono (by omega)) g_least_by_rests F_least_by_rests.kp b_least_by_rests (dae_cons (w_v 0) dae_nil))) dab_nil))) (db (de_ix (hu200 hr) (w_b 0) de_int)))))) ?_
  rintro ds Q hl ⟨a, rest, rfl, ha, ha', hr26, hg, h⟩
  rw [show startD ["lengths"] ([.tuple ((a :: rest).map natD)].map some) = [some (.tuple ((a :: rest).map natD))] from rfl]
  simp only [sCells, sAsg, sSeq, sIf, sSet, sRet, sRetN, sNext, sBoxPut, sPar, setAll, sExprM, mMeth, tyD, tBool, tTru, tAndM, tOrM, tNotM, m1, m2, mN, mV, mC, mCall, mBoxI, aNil, aCons, mIf, mTup, mLst, mLk, hasD, mAndV, mOrV, pNotB, pNeg, aSeq, itemsS, aRng1, aRng2, aRng3, gN, gT, gsNil, gsCons, gSt, pSetL, pSetT, qAppend, pAddE, pAdd, pSub, pInt1, pMod, pFdiv, pLenB, pAny, pAll, pTupOf, pListOf, pIs, pIsNot, isD, pSl, pSlL, oNone, oSome, pEq_int, pNe_int, pLt_int, pGt_int, pLe_int, pGe_int, List.set_cons_zero, List.set_cons_succ, List.getElem?_cons_zero, List.getElem?_cons_succ, List.length_cons, List.length_nil, if_true, if_false, Bool.false_eq_true, true_and, and_true, decide_eq_true_eq, wipeD, tTrue, List.map_cons, List.map_nil, natD, pIx_dN, pIn_dN, pNotIn_dN, pSetK_dN, pLen_dN]
  refine ⟨a, rest, rfl, ha, ha', hr26, hg, fun w hw => ?_⟩
  have e : ((List.range a).map fun r => natD (w r)) = ((List.range a).map fun r => ((w r : Nat) : Int)).map .int := by rw [List.map_map]; rfl
  rw [e]
  refine pMax_ints (c := .tuple) (.inr fun _ => rfl) _ (by simp; omega) _ fun m hm hall => ?_
  obtain ⟨r, hr, rfl⟩ := List.mem_map.mp hm
  rw [List.mem_range] at hr
  refine ⟨.int a, rfl, ?_⟩
  simp only [sCells, sAsg, sSeq, sIf, sSet, sRet, sRetN, sNext, sBoxPut, sPar, setAll, sExprM, mMeth, tyD, tBool, tTru, tAndM, tOrM, tNotM, m1, m2, mN, mV, mC, mCall, mBoxI, aNil, aCons, mIf, mTup, mLst, mLk, hasD, mAndV, mOrV, pNotB, pNeg, aSeq, itemsS, aRng1, aRng2, aRng3, gN, gT, gsNil, gsCons, gSt, pSetL, pSetT, qAppend, pAddE, pAdd, pSub, pInt1, pMod, pFdiv, pLenB, pAny, pAll, pTupOf, pListOf, pIs, pIsNot, isD, pSl, pSlL, oNone, oSome, pEq_int, pNe_int, pLt_int, pGt_int, pLe_int, pGe_int, List.set_cons_zero, List.set_cons_succ, List.getElem?_cons_zero, List.getElem?_cons_succ, List.length_cons, List.length_nil, if_true, if_false, Bool.false_eq_true, true_and, and_true, decide_eq_true_eq, wipeD, tTrue, List.map_cons, List.map_nil, natD, pIx_dN, pIn_dN, pNotIn_dN, pSetK_dN, pLen_dN]
  refine h (w r) ⟨r, hr, (hw r hr).1⟩ (fun r' hr' => ⟨w r', (hw r' hr').1, ?_⟩) (hw r hr).2
  exact Int.ofNat_le.mp (hall _ (List.mem_map.mpr ⟨r', List.mem_range.mpr hr', rfl⟩))
theorem step__law_same {k n : Nat} {f : Addr} {fd : FuncData} (F : Fun K "_law_same" "_law_same" s__law_same f fd) (m_all : mg "all" = none) (m_bool : mg "bool" = none) (m_int : mg "int" = none) (m_isinstance : mg "isinstance" = none) (m_len : mg "len" = none) (m_list : mg "list" = none) (m_range : mg "range" = none) (m_str : mg "str" = none) (m_tuple : mg "tuple" = none) {f__law_same : Addr} {fd__law_same : FuncData} (F__law_same : Fun K "_law_same" "_law_same" s__law_same f__law_same fd__law_same) (g__law_same : mg "_law_same" = some (.ref f__law_same)) (b__law_same : Binds K fd__law_same ["a", "b"] []) (G__law_same : FnOk P w K mg base CX0 k f__law_same fd__law_same ["a", "b"] (spD K 2 (fSame n))) : FnOk P w K mg base CX0 (k + 1) f fd ["a", "b"] (spD K 2 (fSame (n + 1))) := by
  have nd := sc__law_same.nd
  refine fnD (φ := fSame (n + 1)) F sc__law_same i__law_same rfl rfl (by decide) (fun cdv A outer s H E hr => (dss_cons (ds_if (dt_w (dw_or (dt_w (dw_and (dt_tru (db (de_isa (N := "tuple") (by decide) (w_b 0) (by rfl) m_isinstance (by rfl) m_tuple boot_tuple))) (dw_and1 (dt_tru (db (de_isa (N := "tuple") (by decide) (w_b 1) (by rfl) m_isinstance (by rfl) m_tuple boot_tuple)))))) (dw_or1 (dt_w (dw_and (dt_tru (db (de_isa (N := "list") (by decide) (w_b 0) (by rfl) m_isinstance (by rfl) m_list boot_list))) (dw_and1 (dt_tru (db (de_isa (N := "list") (by decide) (w_b 1) (by rfl) m_isinstance (by rfl) m_list boot_list)))))))))
 (dss_one (ds_ret (de_and (de_cmp (r_eq (hu200 hr)) (db (de_bi r_lenB (by rfl) m_len boot_len (dab_cons (w_b 0) dab_nil))) (db (de_bi r_lenB (by rfl) m_len boot_len (dab_cons (w_b 1) dab_nil)))) (de_one (de_bi (r_all rfl) (by rfl) m_all boot_all (dab_cons (db (de (df_lc [("k", 2)] [] ⟨by decide, by decide, by decide, by decide⟩ (by decide) rfl nd (di_range1 (by rfl) m_range (dae_cons (de_bi r_lenB (by rfl) m_len boot_len (dab_cons (w_b 0) dab_nil)) dae_nil)) (blkOk_by (by kernel_rfl)) (fun _ _ _ _ _ => (w_gn 2 nd)) (fun _ _ _ _ _ => dts_nil) (fun _ _ _ _ _ => (w_call G__law_same (hr.mono (by omega)) g__law_same F__law_same.kp b__law_same (dae_cons (de_ix (hu200 hr) (w_b 0) (w_v 2)) (dae_cons (de_ix (hu200 hr) (w_b 1) (w_v 2)) dae_nil))))))) dab_nil))))))
 dss_nil)
 (dss_cons (ds_if (dt_w (dw_or (dt_tru (db (de_isa (N := "bool") (by decide) (w_b 0) (by rfl) m_isinstance (by rfl) m_bool boot_bool))) (dw_or1 (dt_tru (db (de_isa (N := "bool") (by decide) (w_b 1) (by rfl) m_isinstance (by rfl) m_bool boot_bool))))))
 (dss_one (ds_ret (de_and (de_isa (N := "bool") (by decide) (w_b 0) (by rfl) m_isinstance (by rfl) m_bool boot_bool) (de_and (de_isa (N := "bool") (by decide) (w_b 1) (by rfl) m_isinstance (by rfl) m_bool boot_bool) (de_one (de_cmp (r_eq (hu200 hr)) (w_b 0) (w_b 1)))))))
 dss_nil)
 (dss_cons (ds_if (dt_w (dw_or (dt_w (dw_and (dt_tru (db (de_isa (N := "int") (by decide) (w_b 0) (by rfl) m_isinstance (by rfl) m_int boot_int))) (dw_and1 (dt_tru (db (de_isa (N := "int") (by decide) (w_b 1) (by rfl) m_isinstance (by rfl) m_int boot_int)))))) (dw_or1 (dt_w (dw_and (dt_tru (db (de_isa (N := "str") (by decide) (w_b 0) (by rfl) m_isinstance (by rfl) m_str boot_str))) (dw_and1 (dt_tru (db (de_isa (N := "str") (by decide) (w_b 1) (by rfl) m_isinstance (by rfl) m_str boot_str)))))))))
 (dss_one (ds_ret (de_cmp (r_eq (hu200 hr)) (w_b 0) (w_b 1))))
 dss_nil)
 (dss_one (ds_ret (de_and (de_cmp r_is (w_b 0) (db de_non)) (de_one (de_cmp r_is (w_b 1) (db de_non)))))))))) ?_
  rintro ds Q hl ⟨x, y, rfl, px, py, dx, dy, h⟩
  rw [show startD ["a", "b", "k"] ([x, y].map some) = [some (x), some (y), none] from rfl]
  have lt : ∀ {xs : List D}, (PyData.tuple xs).depth ≤ n → PyData.depthAll xs + 1 ≤ n := fun {xs} h => by simpa [PyData.depth] using h
  have ll : ∀ {xs : List D}, (PyData.list xs).depth ≤ n → PyData.depthAll xs + 1 ≤ n := fun {xs} h => by simpa [PyData.depth] using h
  have seq : ∀ (a b : D) (xs ys : List D), ((a = .tuple xs ∧ b = .tuple ys) ∨ (a = .list xs ∧ b = .list ys)) → PyData.plainAll xs = true → PyData.plainAll ys = true → PyData.depthAll xs + 1 ≤ n → PyData.depthAll ys + 1 ≤ n → xs.length ≤ 16777216 → xs.length = ys.length → ∀ R : D → Prop, R (.list ((List.range xs.length).map fun k => .bool (sameD (xs.getD k .none) (ys.getD k .none)))) →
      mLc [2] (aRng1 (aCons (mN pLenB (aCons (mV 0) aNil)) aNil)) (gN 2) tTrue (mCall 2 (fSame n) (aCons (m2 pIx (mV 0) (mV 2)) (aCons (m2 pIx (mV 1) (mV 2)) aNil))) [some a, some b, none] R := by
    intro a b xs ys hab pxs pys dxs dys hz he R hR
    refine mLc_rngm 0 (xs.length : Int) (fun k => .bool (sameD (xs.getD k .none) (ys.getD k .none))) (fun S hS => ?_) (by omega) (fun k hk P N hp => ?_) (by rw [Int.sub_zero, Int.toNat_natCast]; exact hR)
    · rcases hab with ⟨rfl, rfl⟩ | ⟨rfl, rfl⟩ <;> (simp only [sCells, sAsg, sSeq, sIf, sSet, sRet, sRetN, sNext, sBoxPut, sPar, setAll, sExprM, mMeth, tyD, tBool, tTru, tAndM, tOrM, tNotM, m1, m2, mN, mV, mC, mCall, mBoxI, aNil, aCons, mIf, mTup, mLst, mLk, hasD, mAndV, mOrV, pNotB, pNeg, aSeq, itemsS, aRng1, aRng2, aRng3, gN, gT, gsNil, gsCons, gSt, pSetL, pSetK, pSetT, qAppend, pAddE, pAdd, pSub, pInt1, pMod, pFdiv, pIx, pLen, pLenB, pAny, pAll, pTupOf, pListOf, pIs, pIsNot, isD, pSl, pSlL, oNone, oSome, pEq_int, pNe_int, pLt_int, pGt_int, pLe_int, pGe_int, List.set_cons_zero, List.set_cons_succ, List.getElem?_cons_zero, List.getElem?_cons_succ, List.length_cons, List.length_nil, if_true, if_false, Bool.false_eq_true, true_and, and_true, decide_eq_true_eq, wipeD, tTrue, List.map_cons, List.map_nil, natD]; exact fun _ => ⟨rngOk_of (by omega) (by omega), hS⟩)
    · obtain ⟨x, y, hx, hy, p1, p2, d1, d2, e1, e2⟩ := same_seq (Q := P) pxs pys dxs dys he k (by omega)
      obtain ⟨n, rfl⟩ : ∃ j, n = j + 1 := ⟨n - 1, by omega⟩
      rcases hab with ⟨rfl, rfl⟩ | ⟨rfl, rfl⟩
      all_goals
        simp only [sCells, sAsg, sSeq, sIf, sSet, sRet, sRetN, sNext, sBoxPut, sPar, setAll, sExprM, mMeth, tyD, tBool, tTru, tAndM, tOrM, tNotM, m1, m2, mN, mV, mC, mCall, mBoxI, aNil, aCons, mIf, mTup, mLst, mLk, hasD, mAndV, mOrV, pNotB, pNeg, aSeq, itemsS, aRng1, aRng2, aRng3, gN, gT, gsNil, gsCons, gSt, pSetL, pSetK, pSetT, qAppend, pAddE, pAdd, pSub, pInt1, pMod, pFdiv, pIx, pLen, pLenB, pAny, pAll, pTupOf, pListOf, pIs, pIsNot, isD, pSl, pSlL, oNone, oSome, pEq_int, pNe_int, pLt_int, pGt_int, pLe_int, pGe_int, List.set_cons_zero, List.set_cons_succ, List.getElem?_cons_zero, List.getElem?_cons_succ, List.length_cons, List.length_nil, if_true, if_false, Bool.false_eq_true, true_and, and_true, decide_eq_true_eq, wipeD, tTrue, List.map_cons, List.map_nil, natD]
        rw [Int.zero_add]
        refine ⟨x, by rw [atD_nat (by omega)]; exact hx, y, by rw [atD_nat (by omega)]; exact hy, x, y, rfl, p1, p2, d1, d2, ?_⟩
        rw [e1, e2]; exact hp
  have fin : ∀ (xs ys : List D), xs.length = ys.length → ((List.range xs.length).map fun k => sameD (xs.getD k .none) (ys.getD k .none)).all id = PyD.sameAll xs ys := fun xs ys h => by
    rw [sameAll_at xs ys h, List.all_map]; rfl
  cases x with
  | dict => cases px
  | tuple xs =>
    cases y with
    | dict => cases py
    | tuple ys =>
      simp only [sCells, sAsg, sSeq, sIf, sSet, sRet, sRetN, sNext, sBoxPut, sPar, setAll, sExprM, mMeth, tyD, tBool, tTru, tAndM, tOrM, tNotM, m1, m2, mN, mV, mC, mCall, mBoxI, aNil, aCons, mIf, mTup, mLst, mLk, hasD, mAndV, mOrV, pNotB, pNeg, aSeq, itemsS, aRng1, aRng2, aRng3, gN, gT, gsNil, gsCons, gSt, pSetL, pSetK, pSetT, qAppend, pAddE, pAdd, pSub, pInt1, pMod, pFdiv, pIx, pLen, pLenB, pAny, pAll, pTupOf, pListOf, pIs, pIsNot, isD, pSl, pSlL, oNone, oSome, pEq_int, pNe_int, pLt_int, pGt_int, pLe_int, pGe_int, List.set_cons_zero, List.set_cons_succ, List.getElem?_cons_zero, List.getElem?_cons_succ, List.length_cons, List.length_nil, if_true, if_false, Bool.false_eq_true, true_and, and_true, decide_eq_true_eq, wipeD, tTrue, List.map_cons, List.map_nil, natD, pIsa, tyN, isa_NoneType_tuple, isa_NoneType_list, isa_NoneType_bool, isa_NoneType_int, isa_NoneType_str, isa_NoneType_dict, isa_bool_tuple, isa_bool_list, isa_bool_bool, isa_bool_int, isa_bool_str, isa_bool_dict, isa_int_tuple, isa_int_list, isa_int_bool, isa_int_int, isa_int_str, isa_int_dict, isa_str_tuple, isa_str_list, isa_str_bool, isa_str_int, isa_str_str, isa_str_dict, isa_list_tuple, isa_list_list, isa_list_bool, isa_list_int, isa_list_str, isa_list_dict, isa_tuple_tuple, isa_tuple_list, isa_tuple_bool, isa_tuple_int, isa_tuple_str, isa_tuple_dict, isa_dict_tuple, isa_dict_list, isa_dict_bool, isa_dict_int, isa_dict_str, isa_dict_dict]
      intro z1 z2
      by_cases he : xs.length = ys.length
      · rw [if_pos (by omega)]
        refine seq _ _ xs ys (.inl ⟨rfl, rfl⟩) (by simpa [PyData.plain] using px) (by simpa [PyData.plain] using py) (lt dx) (lt dy) z1 he _ ?_
        refine ⟨(List.range xs.length).map fun k => sameD (xs.getD k .none) (ys.getD k .none), by rw [List.map_map]; rfl, ?_⟩
        rw [fin xs ys he]
        unfold sameD at h
        rw [decide_eq_true he] at h; exact h
      · rw [if_neg (by omega)]
        unfold sameD at h
        rw [decide_eq_false he] at h; exact h
    | _ =>
      simp only [sCells, sAsg, sSeq, sIf, sSet, sRet, sRetN, sNext, sBoxPut, sPar, setAll, sExprM, mMeth, tyD, tBool, tTru, tAndM, tOrM, tNotM, m1, m2, mN, mV, mC, mCall, mBoxI, aNil, aCons, mIf, mTup, mLst, mLk, hasD, mAndV, mOrV, pNotB, pNeg, aSeq, itemsS, aRng1, aRng2, aRng3, gN, gT, gsNil, gsCons, gSt, pSetL, pSetK, pSetT, qAppend, pAddE, pAdd, pSub, pInt1, pMod, pFdiv, pIx, pLen, pLenB, pAny, pAll, pTupOf, pListOf, pIs, pIsNot, isD, pSl, pSlL, oNone, oSome, pEq_int, pNe_int, pLt_int, pGt_int, pLe_int, pGe_int, List.set_cons_zero, List.set_cons_succ, List.getElem?_cons_zero, List.getElem?_cons_succ, List.length_cons, List.length_nil, if_true, if_false, Bool.false_eq_true, true_and, and_true, decide_eq_true_eq, wipeD, tTrue, List.map_cons, List.map_nil, natD, pIsa, tyN, isa_NoneType_tuple, isa_NoneType_list, isa_NoneType_bool, isa_NoneType_int, isa_NoneType_str, isa_NoneType_dict, isa_bool_tuple, isa_bool_list, isa_bool_bool, isa_bool_int, isa_bool_str, isa_bool_dict, isa_int_tuple, isa_int_list, isa_int_bool, isa_int_int, isa_int_str, isa_int_dict, isa_str_tuple, isa_str_list, isa_str_bool, isa_str_int, isa_str_str, isa_str_dict, isa_list_tuple, isa_list_list, isa_list_bool, isa_list_int, isa_list_str, isa_list_dict, isa_tuple_tuple, isa_tuple_list, isa_tuple_bool, isa_tuple_int, isa_tuple_str, isa_tuple_dict, isa_dict_tuple, isa_dict_list, isa_dict_bool, isa_dict_int, isa_dict_str, isa_dict_dict]
      exact h
  | list xs =>
    cases y with
    | dict => cases py
    | list ys =>
      simp only [sCells, sAsg, sSeq, sIf, sSet, sRet, sRetN, sNext, sBoxPut, sPar, setAll, sExprM, mMeth, tyD, tBool, tTru, tAndM, tOrM, tNotM, m1, m2, mN, mV, mC, mCall, mBoxI, aNil, aCons, mIf, mTup, mLst, mLk, hasD, mAndV, mOrV, pNotB, pNeg, aSeq, itemsS, aRng1, aRng2, aRng3, gN, gT, gsNil, gsCons, gSt, pSetL, pSetK, pSetT, qAppend, pAddE, pAdd, pSub, pInt1, pMod, pFdiv, pIx, pLen, pLenB, pAny, pAll, pTupOf, pListOf, pIs, pIsNot, isD, pSl, pSlL, oNone, oSome, pEq_int, pNe_int, pLt_int, pGt_int, pLe_int, pGe_int, List.set_cons_zero, List.set_cons_succ, List.getElem?_cons_zero, List.getElem?_cons_succ, List.length_cons, List.length_nil, if_true, if_false, Bool.false_eq_true, true_and, and_true, decide_eq_true_eq, wipeD, tTrue, List.map_cons, List.map_nil, natD, pIsa, tyN, isa_NoneType_tuple, isa_NoneType_list, isa_NoneType_bool, isa_NoneType_int, isa_NoneType_str, isa_NoneType_dict, isa_bool_tuple, isa_bool_list, isa_bool_bool, isa_bool_int, isa_bool_str, isa_bool_dict, isa_int_tuple, isa_int_list, isa_int_bool, isa_int_int, isa_int_str, isa_int_dict, isa_str_tuple, isa_str_list, isa_str_bool, isa_str_int, isa_str_str, isa_str_dict, isa_list_tuple, isa_list_list, isa_list_bool, isa_list_int, isa_list_str, isa_list_dict, isa_tuple_tuple, isa_tuple_list, isa_tuple_bool, isa_tuple_int, isa_tuple_str, isa_tuple_dict, isa_dict_tuple, isa_dict_list, isa_dict_bool, isa_dict_int, isa_dict_str, isa_dict_dict]
      intro z1 z2
      by_cases he : xs.length = ys.length
      · rw [if_pos (by omega)]
        refine seq _ _ xs ys (.inr ⟨rfl, rfl⟩) (by simpa [PyData.plain] using px) (by simpa [PyData.plain] using py) (ll dx) (ll dy) z1 he _ ?_
        refine ⟨(List.range xs.length).map fun k => sameD (xs.getD k .none) (ys.getD k .none), by rw [List.map_map]; rfl, ?_⟩
        rw [fin xs ys he]
        unfold sameD at h
        rw [decide_eq_true he] at h; exact h
      · rw [if_neg (by omega)]
        unfold sameD at h
        rw [decide_eq_false he] at h; exact h
    | _ =>
      simp only [sCells, sAsg, sSeq, sIf, sSet, sRet, sRetN, sNext, sBoxPut, sPar, setAll, sExprM, mMeth, tyD, tBool, tTru, tAndM, tOrM, tNotM, m1, m2, mN, mV, mC, mCall, mBoxI, aNil, aCons, mIf, mTup, mLst, mLk, hasD, mAndV, mOrV, pNotB, pNeg, aSeq, itemsS, aRng1, aRng2, aRng3, gN, gT, gsNil, gsCons, gSt, pSetL, pSetK, pSetT, qAppend, pAddE, pAdd, pSub, pInt1, pMod, pFdiv, pIx, pLen, pLenB, pAny, pAll, pTupOf, pListOf, pIs, pIsNot, isD, pSl, pSlL, oNone, oSome, pEq_int, pNe_int, pLt_int, pGt_int, pLe_int, pGe_int, List.set_cons_zero, List.set_cons_succ, List.getElem?_cons_zero, List.getElem?_cons_succ, List.length_cons, List.length_nil, if_true, if_false, Bool.false_eq_true, true_and, and_true, decide_eq_true_eq, wipeD, tTrue, List.map_cons, List.map_nil, natD, pIsa, tyN, isa_NoneType_tuple, isa_NoneType_list, isa_NoneType_bool, isa_NoneType_int, isa_NoneType_str, isa_NoneType_dict, isa_bool_tuple, isa_bool_list, isa_bool_bool, isa_bool_int, isa_bool_str, isa_bool_dict, isa_int_tuple, isa_int_list, isa_int_bool, isa_int_int, isa_int_str, isa_int_dict, isa_str_tuple, isa_str_list, isa_str_bool, isa_str_int, isa_str_str, isa_str_dict, isa_list_tuple, isa_list_list, isa_list_bool, isa_list_int, isa_list_str, isa_list_dict, isa_tuple_tuple, isa_tuple_list, isa_tuple_bool, isa_tuple_int, isa_tuple_str, isa_tuple_dict, isa_dict_tuple, isa_dict_list, isa_dict_bool, isa_dict_int, isa_dict_str, isa_dict_dict]
      exact h
  | _ =>
    cases y with
    | dict => cases py
    | _ =>
      simp only [sCells, sAsg, sSeq, sIf, sSet, sRet, sRetN, sNext, sBoxPut, sPar, setAll, sExprM, mMeth, tyD, tBool, tTru, tAndM, tOrM, tNotM, m1, m2, mN, mV, mC, mCall, mBoxI, aNil, aCons, mIf, mTup, mLst, mLk, hasD, mAndV, mOrV, pNotB, pNeg, aSeq, itemsS, aRng1, aRng2, aRng3, gN, gT, gsNil, gsCons, gSt, pSetL, pSetK, pSetT, qAppend, pAddE, pAdd, pSub, pInt1, pMod, pFdiv, pIx, pLen, pLenB, pAny, pAll, pTupOf, pListOf, pIs, pIsNot, isD, pSl, pSlL, oNone, oSome, pEq_int, pNe_int, pLt_int, pGt_int, pLe_int, pGe_int, List.set_cons_zero, List.set_cons_succ, List.getElem?_cons_zero, List.getElem?_cons_succ, List.length_cons, List.length_nil, if_true, if_false, Bool.false_eq_true, true_and, and_true, decide_eq_true_eq, wipeD, tTrue, List.map_cons, List.map_nil, natD, pIsa, tyN, isa_NoneType_tuple, isa_NoneType_list, isa_NoneType_bool, isa_NoneType_int, isa_NoneType_str, isa_NoneType_dict, isa_bool_tuple, isa_bool_list, isa_bool_bool, isa_bool_int, isa_bool_str, isa_bool_dict, isa_int_tuple, isa_int_list, isa_int_bool, isa_int_int, isa_int_str, isa_int_dict, isa_str_tuple, isa_str_list, isa_str_bool, isa_str_int, isa_str_str, isa_str_dict, isa_list_tuple, isa_list_list, isa_list_bool, isa_list_int, isa_list_str, isa_list_dict, isa_tuple_tuple, isa_tuple_list, isa_tuple_bool, isa_tuple_int, isa_tuple_str, isa_tuple_dict, isa_dict_tuple, isa_dict_list, isa_dict_bool, isa_dict_int, isa_dict_str, isa_dict_dict, pEq_bool, pEq_str]
      exact h
theorem ok__law_box {f : Addr} {fd : FuncData} (F : Fun K "_law_box" "_law_box" s__law_box f fd) (m_len : mg "len" = none) (m_list : mg "list" = none) : FnOk P w K mg base CX0 1 f fd ["script"] (spBox K) := by
  refine F.ok sc__law_box (fun vs H Q E ⟨a, ns, e, _⟩ => by rw [e]; rfl) (fun cdv A outer s H vs Q E hr h => ?_)
  obtain ⟨a, ns, rfl, hS, hlen, q⟩ := h
  refine ⟨_, pss_one (ps_ret (pe_lst (pa_cons (pe_callTy call_list_of (by rfl) m_list boot_list (pa_cons (pe_slice sl_list (pv 0) po_none (po_some pe_int)) pa_nil)) (pa_cons pe_int (pa_cons (pe_op op_add pe_int (pe_callB call_len_seq (by rfl) m_len boot_len (pa_cons (pv 0) pa_nil))) pa_nil))))), ?_⟩
  refine ⟨.ref a, rfl, 63, rfl, a, ns.map V.int, rfl, hS, fun p hp => ⟨p, _, rfl, .inl (.inl (.inl upd_same)), fun c hc => ?_⟩⟩
  have sm1 : Same H (upd H p (.lst (cutV (ns.map V.int) none (some 63)))) := fun b o e => by rw [upd_ne (ne_of_none e hp)]; exact e
  have sm2 : Same (upd H p (.lst (cutV (ns.map V.int) none (some 63)))) (upd (upd H p (.lst (cutV (ns.map V.int) none (some 63)))) c (.lst (cutV (ns.map V.int) none (some 63)))) := fun b o e => by rw [upd_ne (ne_of_none e hc)]; exact e
  refine ⟨.ref a, rfl, a, ns.map V.int, rfl, .inl (sm2.seq (sm1.seq hS)), 4711, _, rfl, rfl, by rw [sizeLine_eq]; exact (by omega : (3 : Nat) ≤ 16777216), fun b hb => ?_⟩
  have sm3 : ∀ {H' : Hp} {o : HO}, H' b = none → Same H' (upd H' b o) := fun hb b' o e => by rw [upd_ne (ne_of_none e hb)]; exact e
  have hcb : c ≠ b := fun z => by rw [← z, upd_same] at hb; cases hb
  have hcut : cutV (ns.map V.int) none (some 63) = ((ns.take (HT.sIx (ns.map V.int).length (ns.map V.int).length (some 63)))).map V.int := by
    unfold cutV
    rw [HT.sIx_none, List.drop_zero, Nat.sub_zero, List.map_take]
  refine q _ b c (fun x o e => (sm3 hb) x o (sm2 x o (sm1 x o e))) ?_ ?_ ⟨0, _, ns.take (HT.sIx (ns.map V.int).length (ns.map V.int).length (some 63)), upd_same, ?_⟩
  · exact (sm1.trans sm2).free hb
  · exact sm1.free hc
  · rw [upd_ne hcb, upd_same, hcut]

theorem ok_law {f : Addr} {fd : FuncData} (F : Fun K "law" "law" s_law f fd) {f__law_box : Addr} {fd__law_box : FuncData} (F__law_box : Fun K "_law_box" "_law_box" s__law_box f__law_box fd__law_box) (g__law_box : mg "_law_box" = some (.ref f__law_box)) (b__law_box : Binds K fd__law_box ["script"] []) (G__law_box : FnOk P w K mg base CX0 1 f__law_box fd__law_box ["script"] (spBox K)) (m_dict : mg "dict" = none) (m_len : mg "len" = none) (m_max : mg "max" = none) (m_range : mg "range" = none) (m_sorted : mg "sorted" = none) (m_tuple : mg "tuple" = none) {f__law_same : Addr} {fd__law_same : FuncData} (F__law_same : Fun K "_law_same" "_law_same" s__law_same f__law_same fd__law_same) (g__law_same : mg "_law_same" = some (.ref f__law_same)) (b__law_same : Binds K fd__law_same ["a", "b"] []) (G__law_same : FnOk P w K mg base CX0 10 f__law_same fd__law_same ["a", "b"] (spD K 2 (fSame 10))) {f_greatest_of_all : Addr} {fd_greatest_of_all : FuncData} (F_greatest_of_all : Fun K "greatest_of_all" "greatest_of_all" s_greatest_of_all f_greatest_of_all fd_greatest_of_all) (g_greatest_of_all : mg "greatest_of_all" = some (.ref f_greatest_of_all)) (b_greatest_of_all : Binds K fd_greatest_of_all ["lengths"] []) (G_greatest_of_all : FnOk P w K mg base CX0 2 f_greatest_of_all fd_greatest_of_all ["lengths"] (spD K 1 fAll)) {f_greatest_missing : Addr} {fd_greatest_missing : FuncData} (F_greatest_missing : Fun K "greatest_missing" "greatest_missing" s_greatest_missing f_greatest_missing fd_greatest_missing) (g_greatest_missing : mg "greatest_missing" = some (.ref f_greatest_missing)) (b_greatest_missing : Binds K fd_greatest_missing ["a", "b"] []) (G_greatest_missing : FnOk P w K mg base CX0 2 f_greatest_missing fd_greatest_missing ["a", "b"] (spD K 2 fGreat)) {f_count_missing : Addr} {fd_count_missing : FuncData} (F_count_missing : Fun K "count_missing" "count_missing" s_count_missing f_count_missing fd_count_missing) (g_count_missing : mg "count_missing" = some (.ref f_count_missing)) (b_count_missing : Binds K fd_count_missing ["a", "b"] []) (G_count_missing : FnOk P w K mg base CX0 2 f_count_missing fd_count_missing ["a", "b"] (spD K 2 fCount)) {f_least_by_rests : Addr} {fd_least_by_rests : FuncData} (F_least_by_rests : Fun K "least_by_rests" "least_by_rests" s_least_by_rests f_least_by_rests fd_least_by_rests) (g_least_by_rests : mg "least_by_rests" = some (.ref f_least_by_rests)) (b_least_by_rests : Binds K fd_least_by_rests ["lengths"] []) (G_least_by_rests : FnOk P w K mg base CX0 1 f_least_by_rests fd_least_by_rests ["lengths"] (spD K 1 fLeast)) {f__law_table : Addr} {fd__law_table : FuncData} (F__law_table : Fun K "_law_table" "_law_table" s__law_table f__law_table fd__law_table) (g__law_table : mg "_law_table" = some (.ref f__law_table)) (b__law_table : Binds K fd__law_table ["lengths", "top"] []) (G__law_table : FnOk P w K mg base CX0 1 f__law_table fd__law_table ["lengths", "top"] (spD K 2 fTable)) {f__law_divisor : Addr} {fd__law_divisor : FuncData} (F__law_divisor : Fun K "_law_divisor" "_law_divisor" s__law_divisor f__law_divisor fd__law_divisor) (g__law_divisor : mg "_law_divisor" = some (.ref f__law_divisor)) (b__law_divisor : Binds K fd__law_divisor ["a", "b"] []) (G__law_divisor : FnOk P w K mg base CX0 1 f__law_divisor fd__law_divisor ["a", "b"] (spD K 2 fDiv)) {f__law_draw : Addr} {fd__law_draw : FuncData} (F__law_draw : Fun K "_law_draw" "_law_draw" s__law_draw f__law_draw fd__law_draw) (g__law_draw : mg "_law_draw" = some (.ref f__law_draw)) (b__law_draw : Binds K fd__law_draw ["box", "many"] []) (G__law_draw : FnOk P w K mg base CX0 2 f__law_draw fd__law_draw ["box", "many"] (spB K boxK 1 fDraw)) {f_can_join : Addr} {fd_can_join : FuncData} (F_can_join : Fun K "can_join" "can_join" s_can_join f_can_join fd_can_join) (g_can_join : mg "can_join" = some (.ref f_can_join)) (b_can_join : Binds K fd_can_join ["a", "b", "delay"] []) (G_can_join : FnOk P w K mg base CX0 1 f_can_join fd_can_join ["a", "b", "delay"] (spD K 3 fJoin)) : FnOk P w K mg base CX0 20 f fd ["script"] (spLaw K) := by
  have nd := sc_law.nd
  refine lawD F sc_law (by decide) i_law rfl rfl rfl (fun cdv A outer s H E hr => ps_set (i := 1) nd rfl (.inr rfl) (pe_call (E := E0) G__law_box (hr.mono (by omega)) (by rfl) g__law_box F__law_box.kp b__law_box .nil pass0 (pa_cons (pv 0) pa_nil))) (fun cdv A outer s H E hr => (dss_cons (ds_for [] (by decide) rfl (di_range1 (by rfl) m_range (dae_cons de_int dae_nil)) (dgw (w_gn 2 nd))
 (dss_cons (w_par2 3 4 nd (dax_e (de_binE r_addE de_int (w_callB 1 G__law_draw (hr.mono (by omega)) g__law_draw F__law_draw.kp b__law_draw (dae_cons de_int dae_nil))) (dax_e (de_binE r_addE de_int (w_callB 1 G__law_draw (hr.mono (by omega)) g__law_draw F__law_draw.kp b__law_draw (dae_cons de_int dae_nil))) dax_nil)))
 (dss_cons (w_set 5 nd (w_call G__law_table (hr.mono (by omega)) g__law_table F__law_table.kp b__law_table (dae_cons (de_tup (dae_cons (w_v 3) (dae_cons (w_v 4) dae_nil))) (dae_cons (de_binE r_addE (de_bin r_mulI (w_b 3) (w_b 4)) de_int) dae_nil))))
 (dss_cons (ds_for [] (by decide) rfl (di_range1 (by rfl) m_range (dae_cons de_int dae_nil)) (dgw (w_gn 6 nd))
 (dss_cons (w_set 7 nd (w_callB 1 G__law_draw (hr.mono (by omega)) g__law_draw F__law_draw.kp b__law_draw (dae_cons (de_binE r_addE (de_bin r_mulI (w_b 3) (w_b 4)) de_int) dae_nil)))
 (dss_one (ds_if (dt_not (dt_tru (db (w_call G__law_same (hr.mono (by omega)) g__law_same F__law_same.kp b__law_same (dae_cons (w_call G_can_join (hr.mono (by omega)) g_can_join F_can_join.kp b_can_join (dae_cons (w_v 3) (dae_cons (w_v 4) (dae_cons (w_v 7) dae_nil)))) (dae_cons (de_ix (hu200 hr) (w_b 5) (w_v 7)) dae_nil))))))
 (dss_one (ds_ret de_bl))
 dss_nil))) PassesOwn.never)
 (dss_cons (ds_setLcV 8 [("delay", 7)] [] ⟨by decide, by decide, by decide, by decide⟩ (by decide) (by decide) rfl nd rfl rfl (sw_true rfl rfl rfl (by decide +kernel)) (di_range1 (by rfl) m_range (dae_cons (de_bin r_mulI (w_b 3) (w_b 4)) dae_nil)) (blkOk_by (by kernel_rfl)) (fun _ _ _ _ _ => (w_gn 7 nd)) (fun _ _ _ _ _ => (dts_one (dt_not (dt_tru (db (de_ix (hu200 hr) (w_b 5) (w_v 7))))))) (fun _ _ _ _ _ => (w_v 7)))
 (dss_cons (ds_if (dt_cmp (r_gt (hu200 hr)) (db (w_call G__law_divisor (hr.mono (by omega)) g__law_divisor F__law_divisor.kp b__law_divisor (dae_cons (w_v 3) (dae_cons (w_v 4) dae_nil)))) (db de_int))
 (dss_one (ds_if (dt_w (dw_or (dt_cmp r_isNot (db (w_call G_greatest_missing (hr.mono (by omega)) g_greatest_missing F_greatest_missing.kp b_greatest_missing (dae_cons (w_v 3) (dae_cons (w_v 4) dae_nil)))) (db de_non)) (dw_or1 (dt_cmp r_isNot (db (w_call G_count_missing (hr.mono (by omega)) g_count_missing F_count_missing.kp b_count_missing (dae_cons (w_v 3) (dae_cons (w_v 4) dae_nil)))) (db de_non)))))
 (dss_one (ds_ret de_bl))
 dss_nil))
 (dss_cons (ds_if (dt_not (dt_tru (db (w_call G__law_same (hr.mono (by omega)) g__law_same F__law_same.kp b__law_same (dae_cons (de_tup (dae_cons (w_call G_greatest_missing (hr.mono (by omega)) g_greatest_missing F_greatest_missing.kp b_greatest_missing (dae_cons (w_v 3) (dae_cons (w_v 4) dae_nil))) (dae_cons (w_call G_count_missing (hr.mono (by omega)) g_count_missing F_count_missing.kp b_count_missing (dae_cons (w_v 3) (dae_cons (w_v 4) dae_nil))) dae_nil))) (dae_cons (de_tup (dae_cons (de_if (dt_cmp (r_gt (hu200 hr)) (db (de_bi r_len (by rfl) m_len boot_len (dab_cons (w_b 8) dab_nil))) (db de_int)) (de_ix (hu200 hr) (w_b 8) (de_neg (db de_int))) de_non) (dae_cons (de_bi r_len (by rfl) m_len boot_len (dab_cons (w_b 8) dab_nil)) dae_nil))) dae_nil))))))
 (dss_one (ds_ret de_bl))
 dss_nil)
 (dss_one (ds_if (dt_cmp (r_gt (hu200 hr)) (db (de_bi r_len (by rfl) m_len boot_len (dab_cons (w_b 8) dab_nil))) (db de_int))
 (dss_cons (w_set 7 nd (w_callB 1 G__law_draw (hr.mono (by omega)) g__law_draw F__law_draw.kp b__law_draw (dae_cons (de_binE r_addE (de_ix (hu200 hr) (w_b 8) (de_neg (db de_int))) de_int) dae_nil)))
 (dss_one (ds_if (dt_cmp (r_eq (hu200 hr)) (db (w_call G_can_join (hr.mono (by omega)) g_can_join F_can_join.kp b_can_join (dae_cons (w_v 3) (dae_cons (w_v 4) (dae_cons (w_v 7) dae_nil))))) (db (w_call G_can_join (hr.mono (by omega)) g_can_join F_can_join.kp b_can_join (dae_cons (w_v 3) (dae_cons (w_v 4) (dae_cons (de_bin r_sub (db (de_ix (hu200 hr) (w_b 8) (de_neg (db de_int)))) (w_b 7)) dae_nil))))))
 (dss_one (ds_ret de_bl))
 dss_nil)))
 dss_nil))))
 (dss_cons (w_set 9 nd (de (df_bi (r_sorted rfl (hu200 hr)) (by rfl) m_sorted boot_sorted (dab_cons (db (de (df_bty (r_dictP rfl) (by rfl) m_dict boot_dict (dab_cons (db (de (df_lc [("step", 6)] [] ⟨by decide, by decide, by decide, by decide⟩ (by decide) rfl nd (di_range1 (by rfl) m_range (dae_cons (de_binE r_addE de_int (w_callB 1 G__law_draw (hr.mono (by omega)) g__law_draw F__law_draw.kp b__law_draw (dae_cons de_int dae_nil))) dae_nil)) (blkOk_by (by kernel_rfl)) (fun _ _ _ _ _ => (w_gn 6 nd)) (fun _ _ _ _ _ => dts_nil) (fun _ _ _ _ _ => (de_tup (dae_cons (de_binE r_addE de_int (w_callB 1 G__law_draw (hr.mono (by omega)) g__law_draw F__law_draw.kp b__law_draw (dae_cons de_int dae_nil))) (dae_cons de_int dae_nil))))))) dab_nil)))) dab_nil))))
 (dss_cons (w_set 10 nd de_int)
 (dss_cons (ds_for [] (by decide) rfl (di_seq (dq (w_v 9))) (dgw (w_gn 11 nd))
 (dss_one (w_set 10 nd (w_call G__law_divisor (hr.mono (by omega)) g__law_divisor F__law_divisor.kp b__law_divisor (dae_cons (w_v 11) (dae_cons (w_v 10) dae_nil))))) PassesOwn.never)
 (dss_cons (ds_if (dt_cmp (r_gt (hu200 hr)) (w_b 10) (db de_int))
 (dss_one (w_set 9 nd (de (df_bi (r_sorted rfl (hu200 hr)) (by rfl) m_sorted boot_sorted (dab_cons (db (de (df_bty (r_dictP rfl) (by rfl) m_dict boot_dict (dab_cons (db (de (df_lc [("length", 11)] [] ⟨by decide, by decide, by decide, by decide⟩ (by decide) rfl nd (di_seq (dq (de_binE r_addE (w_v 9) (de (df_lst (dae_cons (de_binE r_addE (de_ix (hu200 hr) (w_b 9) (de_neg (db de_int))) de_int) dae_nil)))))) (blkOk_by (by kernel_rfl)) (fun _ _ _ _ _ => (w_gn 11 nd)) (fun _ _ _ _ _ => dts_nil) (fun _ _ _ _ _ => (de_tup (dae_cons (w_v 11) (dae_cons de_int dae_nil))))))) dab_nil)))) dab_nil)))))
 dss_nil)
 (dss_cons (ds_parT [12, 13] (slotsOk (by decide)) (by decide) rfl (dax_e (de_ix (hu200 hr) (w_b 9) de_int) (dax_e (de_bin r_mulI (db de_int) (db de_int)) dax_nil)) (pgs_cons (pg_name (i := 12) nd rfl (by first | exact .inl rfl | exact .inr rfl)) (pgs_cons (pg_name (i := 13) nd rfl (by first | exact .inl rfl | exact .inr rfl)) pgs_nil)))
 (dss_cons (w_set 5 nd (w_call G__law_table (hr.mono (by omega)) g__law_table F__law_table.kp b__law_table (dae_cons (w_v 9) (dae_cons (w_v 13) dae_nil))))
 (dss_cons (w_set 14 nd (de_bty r_tupOf (by rfl) m_tuple boot_tuple (dab_cons (db (de (df_lc [("rest", 15)] [] ⟨by decide, by decide, by decide, by decide⟩ (by decide) rfl nd (di_range1 (by rfl) m_range (dae_cons (w_v 12) dae_nil)) (blkOk_by (by kernel_rfl)) (fun _ _ _ _ _ => (w_gn 15 nd)) (fun _ _ _ _ _ => dts_nil) (fun _ _ _ _ _ => (de_ix (hu200 hr) (db (de (df_lc [("delay", 7)] [] ⟨by decide, by decide, by decide, by decide⟩ (by decide) rfl nd (di_range3 (by rfl) m_range (dae_cons (w_v 15) (dae_cons (w_v 13) (dae_cons (w_v 12) dae_nil)))) (blkOk_by (by kernel_rfl)) (fun _ _ _ _ _ => (w_gn 7 nd)) (fun _ _ _ _ _ => (dts_one (dt_tru (db (de_ix (hu200 hr) (w_b 5) (w_v 7)))))) (fun _ _ _ _ _ => (w_v 7))))) de_int))))) dab_nil)))
 (dss_cons (ds_if (dt_not (dt_tru (db (w_call G__law_same (hr.mono (by omega)) g__law_same F__law_same.kp b__law_same (dae_cons (w_call G_least_by_rests (hr.mono (by omega)) g_least_by_rests F_least_by_rests.kp b_least_by_rests (dae_cons (de_bty r_tupOf (by rfl) m_tuple boot_tuple (dab_cons (w_b 9) dab_nil)) dae_nil)) (dae_cons (w_v 14) dae_nil))))))
 (dss_one (ds_ret de_bl))
 dss_nil)
 (dss_cons (ds_if (dt_not (dt_tru (db (w_call G__law_same (hr.mono (by omega)) g__law_same F__law_same.kp b__law_same (dae_cons (w_call G_greatest_of_all (hr.mono (by omega)) g_greatest_of_all F_greatest_of_all.kp b_greatest_of_all (dae_cons (de_bty r_tupOf (by rfl) m_tuple boot_tuple (dab_cons (w_b 9) dab_nil)) dae_nil)) (dae_cons (de_bi (r_max rfl (hu200 hr)) (by rfl) m_max boot_max (dab_cons (db (de_binE r_addE (de (df_lc [("delay", 7)] [] ⟨by decide, by decide, by decide, by decide⟩ (by decide) rfl nd (di_range1 (by rfl) m_range (dae_cons (w_v 13) dae_nil)) (blkOk_by (by kernel_rfl)) (fun _ _ _ _ _ => (w_gn 7 nd)) (fun _ _ _ _ _ => (dts_one (dt_not (dt_tru (db (de_ix (hu200 hr) (w_b 5) (w_v 7))))))) (fun _ _ _ _ _ => (w_v 7)))) (de (df_lst (dae_cons (de_neg (db de_int)) dae_nil))))) dab_nil)) dae_nil))))))
 (dss_one (ds_ret de_bl))
 dss_nil)
 (dss_one (ds_if (dt_not (dt_tru (db (w_call G__law_same (hr.mono (by omega)) g__law_same F__law_same.kp b__law_same (dae_cons (w_call G_greatest_of_all (hr.mono (by omega)) g_greatest_of_all F_greatest_of_all.kp b_greatest_of_all (dae_cons (de_tup (dae_cons de_int (dae_cons (de_binE r_addE de_int (de_ix (hu200 hr) (w_b 9) (de_neg (db de_int)))) dae_nil))) dae_nil)) (dae_cons (de_neg (db de_int)) dae_nil))))))
 (dss_one (ds_ret de_bl))
 dss_nil)))))))))))))))) PassesOwn.never)
 (dss_one (ds_ret (w_call G__law_same (hr.mono (by omega)) g__law_same F__law_same.kp b__law_same (dae_cons (de_tup (dae_cons (w_call G_greatest_missing (hr.mono (by omega)) g_greatest_missing F_greatest_missing.kp b_greatest_missing (dae_cons de_int (dae_cons de_int dae_nil))) (dae_cons (w_call G_count_missing (hr.mono (by omega)) g_count_missing F_count_missing.kp b_count_missing (dae_cons de_int (dae_cons de_int dae_nil))) (dae_cons (w_call G_greatest_missing (hr.mono (by omega)) g_greatest_missing F_greatest_missing.kp b_greatest_missing (dae_cons de_int (dae_cons de_int dae_nil))) (dae_cons (w_call G_greatest_of_all (hr.mono (by omega)) g_greatest_of_all F_greatest_of_all.kp b_greatest_of_all (dae_cons (de_tup (dae_cons de_int (dae_cons de_int (dae_cons de_int dae_nil)))) dae_nil)) dae_nil))))) (dae_cons (de_tup (dae_cons de_int (dae_cons de_int (dae_cons de_non (dae_cons de_int dae_nil))))) dae_nil))))))) ?_
  rw [show startD ["script", "box", "turn", "a", "b", "table", "step", "delay", "gaps", "lengths", "common", "length", "least_one", "top", "due", "rest"] (List.replicate 2 none) = [none, none, none, none, none, none, none, none, none, none, none, none, none, none, none, none] from rfl]
  try dsimp only
  refine seq_gen fun NF hNF => ?_
  refine sFor_rng 0 4 (fun i ρ => ∃ o2 o3 o4 o5 o6 o7 o8 o9 o10 o11 o12 o13 o14 o15, ρ = [none, none, o2, o3, o4, o5, o6, o7, o8, o9, o10, o11, o12, o13, o14, o15]) (fun R hR => ?_) ⟨_, _, _, _, _, _, _, _, _, _, _, _, _, _, rfl⟩ ?_ ?_
  · simp only [sCells, sAsg, sSeq, sIf, sSet, sRet, sRetN, sNext, sBoxPut, sPar, setAll, sExprM, mMeth, tyD, tBool, tTru, tAndM, tOrM, tNotM, m1, m2, mN, mV, mC, mCall, mBoxI, aNil, aCons, mIf, mTup, mLst, mLk, hasD, mAndV, mOrV, pNotB, pNeg, aSeq, itemsS, aRng1, aRng2, aRng3, gN, gT, gsNil, gsCons, gSt, pSetL, pSetK, pSetT, qAppend, pAddE, pAdd, pSub, pInt1, pMod, pFdiv, pIx, pLen, pLenB, pAny, pAll, pTupOf, pListOf, pIs, pIsNot, isD, pSl, pSlL, oNone, oSome, pEq_int, pNe_int, pLt_int, pGt_int, pLe_int, pGe_int, List.set_cons_zero, List.set_cons_succ, List.getElem?_cons_zero, List.getElem?_cons_succ, List.length_cons, List.length_nil, if_true, if_false, Bool.false_eq_true, true_and, and_true, decide_eq_true_eq, wipeD, tTrue, List.map_cons, List.map_nil, natD]
    exact ⟨rngOk_of (by decide) (by decide), hR⟩
  · rintro i _ hi ⟨o2, o3, o4, o5, o6, o7, o8, o9, o10, o11, o12, o13, o14, o15, rfl⟩
    show sSeq _ _ _ _
    try dsimp only
    refine seq_gen fun N hN => ?_
    simp only [sCells, sAsg, sSeq, sIf, sSet, sRet, sRetN, sNext, sBoxPut, sPar, setAll, sExprM, mMeth, tyD, tBool, tTru, tAndM, tOrM, tNotM, m1, m2, mN, mV, mC, mCall, mBoxI, aNil, aCons, mIf, mTup, mLst, mLk, hasD, mAndV, mOrV, pNotB, pNeg, aSeq, itemsS, aRng1, aRng2, aRng3, gN, gT, gsNil, gsCons, gSt, pSetL, pSetK, pSetT, qAppend, pAddE, pAdd, pSub, pInt1, pMod, pFdiv, pIx, pLen, pLenB, pAny, pAll, pTupOf, pListOf, pIs, pIsNot, isD, pSl, pSlL, oNone, oSome, pEq_int, pNe_int, pLt_int, pGt_int, pLe_int, pGe_int, List.set_cons_zero, List.set_cons_succ, List.getElem?_cons_zero, List.getElem?_cons_succ, List.length_cons, List.length_nil, if_true, if_false, Bool.false_eq_true, true_and, and_true, decide_eq_true_eq, wipeD, tTrue, List.map_cons, List.map_nil, natD]
    refine ⟨30, rfl, by decide, by decide, fun d1 h1 h1' => ?_⟩
    simp only [sCells, sAsg, sSeq, sIf, sSet, sRet, sRetN, sNext, sBoxPut, sPar, setAll, sExprM, mMeth, tyD, tBool, tTru, tAndM, tOrM, tNotM, m1, m2, mN, mV, mC, mCall, mBoxI, aNil, aCons, mIf, mTup, mLst, mLk, hasD, mAndV, mOrV, pNotB, pNeg, aSeq, itemsS, aRng1, aRng2, aRng3, gN, gT, gsNil, gsCons, gSt, pSetL, pSetK, pSetT, qAppend, pAddE, pAdd, pSub, pInt1, pMod, pFdiv, pIx, pLen, pLenB, pAny, pAll, pTupOf, pListOf, pIs, pIsNot, isD, pSl, pSlL, oNone, oSome, pEq_int, pNe_int, pLt_int, pGt_int, pLe_int, pGe_int, List.set_cons_zero, List.set_cons_succ, List.getElem?_cons_zero, List.getElem?_cons_succ, List.length_cons, List.length_nil, if_true, if_false, Bool.false_eq_true, true_and, and_true, decide_eq_true_eq, wipeD, tTrue, List.map_cons, List.map_nil, natD]
    refine ⟨30, rfl, by decide, by decide, fun d2 h2 h2' => ?_⟩
    obtain ⟨n1, rfl⟩ := Int.eq_ofNat_of_zero_le h1
    obtain ⟨n2, rfl⟩ := Int.eq_ofNat_of_zero_le h2
    simp only [sCells, sAsg, sSeq, sIf, sSet, sRet, sRetN, sNext, sBoxPut, sPar, setAll, sExprM, mMeth, tyD, tBool, tTru, tAndM, tOrM, tNotM, m1, m2, mN, mV, mC, mCall, mBoxI, aNil, aCons, mIf, mTup, mLst, mLk, hasD, mAndV, mOrV, pNotB, pNeg, aSeq, itemsS, aRng1, aRng2, aRng3, gN, gT, gsNil, gsCons, gSt, pSetL, pSetK, pSetT, qAppend, pAddE, pAdd, pSub, pInt1, pMod, pFdiv, pIx, pLen, pLenB, pAny, pAll, pTupOf, pListOf, pIs, pIsNot, isD, pSl, pSlL, oNone, oSome, pEq_int, pNe_int, pLt_int, pGt_int, pLe_int, pGe_int, List.set_cons_zero, List.set_cons_succ, List.getElem?_cons_zero, List.getElem?_cons_succ, List.length_cons, List.length_nil, if_true, if_false, Bool.false_eq_true, true_and, and_true, decide_eq_true_eq, wipeD, tTrue, List.map_cons, List.map_nil, natD]
    rw [show (1 : Int) + (n1 : Int) = ((1 + n1 : Nat) : Int) by omega, show (1 : Int) + (n2 : Int) = ((1 + n2 : Nat) : Int) by omega]
    generalize ha : 1 + n1 = a
    generalize hb : 1 + n2 = b
    have ha0 : 0 < a := by omega
    have hb0 : 0 < b := by omega
    have ha30 : a ≤ 30 := by omega
    have hb30 : b ≤ 30 := by omega
    have hab : a * b ≤ 900 := Nat.le_trans (Nat.mul_le_mul ha30 hb30) (by decide)
    subst hN
    -- table
    try dsimp only
    refine seq_gen fun N hN => ?_
    simp only [sCells, sAsg, sSeq, sIf, sSet, sRet, sRetN, sNext, sBoxPut, sPar, setAll, sExprM, mMeth, tyD, tBool, tTru, tAndM, tOrM, tNotM, m1, m2, mN, mV, mC, mCall, mBoxI, aNil, aCons, mIf, mTup, mLst, mLk, hasD, mAndV, mOrV, pNotB, pNeg, aSeq, itemsS, aRng1, aRng2, aRng3, gN, gT, gsNil, gsCons, gSt, pSetL, pSetK, pSetT, qAppend, pAddE, pAdd, pSub, pInt1, pMod, pFdiv, pIx, pLen, pLenB, pAny, pAll, pTupOf, pListOf, pIs, pIsNot, isD, pSl, pSlL, oNone, oSome, pEq_int, pNe_int, pLt_int, pGt_int, pLe_int, pGe_int, List.set_cons_zero, List.set_cons_succ, List.getElem?_cons_zero, List.getElem?_cons_succ, List.length_cons, List.length_nil, if_true, if_false, Bool.false_eq_true, true_and, and_true, decide_eq_true_eq, wipeD, tTrue, List.map_cons, List.map_nil, natD]
    refine ⟨small_size (by omega), .inl (smallI_of (by omega) (by omega)), ?_⟩
    refine ⟨[a, b], a * b + 5, _, by rw [Int.natCast_add, Int.natCast_mul]; rfl, .inr rfl, pos2 ha0 hb0, by simp, by omega, ?_⟩
    subst hN
    -- eight delays
    try dsimp only
    refine seq_gen fun N hN => ?_
    generalize hT : PySem.PyData.list ((tabL [a, b] (a * b + 5)).map .bool) = T
    have hTat : ∀ d : Nat, d < a * b + 5 → atD ((tabL [a, b] (a * b + 5)).map PySem.PyData.bool) (d : Int) = some (.bool (sumB [a, b] d)) := fun d hd => by
      rw [atD_nat (by omega), Int.toNat_natCast, List.getElem?_map, tab_at (by omega)]; rfl
    refine sFor_rng 0 8 (fun j ρ => ∃ o6 o7, ρ = [none, none, some (.int (0 + (i : Int))), some (.int a), some (.int b), some T, o6, o7, o8, o9, o10, o11, o12, o13, o14, o15]) (fun R hR => ?_) ⟨_, _, rfl⟩ ?_ ?_
    · simp only [sCells, sAsg, sSeq, sIf, sSet, sRet, sRetN, sNext, sBoxPut, sPar, setAll, sExprM, mMeth, tyD, tBool, tTru, tAndM, tOrM, tNotM, m1, m2, mN, mV, mC, mCall, mBoxI, aNil, aCons, mIf, mTup, mLst, mLk, hasD, mAndV, mOrV, pNotB, pNeg, aSeq, itemsS, aRng1, aRng2, aRng3, gN, gT, gsNil, gsCons, gSt, pSetL, pSetK, pSetT, qAppend, pAddE, pAdd, pSub, pInt1, pMod, pFdiv, pIx, pLen, pLenB, pAny, pAll, pTupOf, pListOf, pIs, pIsNot, isD, pSl, pSlL, oNone, oSome, pEq_int, pNe_int, pLt_int, pGt_int, pLe_int, pGe_int, List.set_cons_zero, List.set_cons_succ, List.getElem?_cons_zero, List.getElem?_cons_succ, List.length_cons, List.length_nil, if_true, if_false, Bool.false_eq_true, true_and, and_true, decide_eq_true_eq, wipeD, tTrue, List.map_cons, List.map_nil, natD]
      exact ⟨rngOk_of (by decide) (by decide), hR⟩
    · rintro j _ hj ⟨o6, o7, rfl⟩
      show sSeq _ _ _ _
      try dsimp only
      refine seq_gen fun N2 hN2 => ?_
      simp only [sCells, sAsg, sSeq, sIf, sSet, sRet, sRetN, sNext, sBoxPut, sPar, setAll, sExprM, mMeth, tyD, tBool, tTru, tAndM, tOrM, tNotM, m1, m2, mN, mV, mC, mCall, mBoxI, aNil, aCons, mIf, mTup, mLst, mLk, hasD, mAndV, mOrV, pNotB, pNeg, aSeq, itemsS, aRng1, aRng2, aRng3, gN, gT, gsNil, gsCons, gSt, pSetL, pSetK, pSetT, qAppend, pAddE, pAdd, pSub, pInt1, pMod, pFdiv, pIx, pLen, pLenB, pAny, pAll, pTupOf, pListOf, pIs, pIsNot, isD, pSl, pSlL, oNone, oSome, pEq_int, pNe_int, pLt_int, pGt_int, pLe_int, pGe_int, List.set_cons_zero, List.set_cons_succ, List.getElem?_cons_zero, List.getElem?_cons_succ, List.length_cons, List.length_nil, if_true, if_false, Bool.false_eq_true, true_and, and_true, decide_eq_true_eq, wipeD, tTrue, List.map_cons, List.map_nil, natD]
      refine ⟨.inl (smallI_of (by omega) (by omega)), ?_⟩
      refine ⟨a * b + 5, rfl, by omega, by omega, fun d hd0 hd1 => ?_⟩
      obtain ⟨d, rfl⟩ := Int.eq_ofNat_of_zero_le hd0
      have hd : d < a * b + 5 := by omega
      subst hN2
      simp only [sCells, sAsg, sSeq, sIf, sSet, sRet, sRetN, sNext, sBoxPut, sPar, setAll, sExprM, mMeth, tyD, tBool, tTru, tAndM, tOrM, tNotM, m1, m2, mN, mV, mC, mCall, mBoxI, aNil, aCons, mIf, mTup, mLst, mLk, hasD, mAndV, mOrV, pNotB, pNeg, aSeq, itemsS, aRng1, aRng2, aRng3, gN, gT, gsNil, gsCons, gSt, pSetL, pSetK, pSetT, qAppend, pAddE, pAdd, pSub, pInt1, pMod, pFdiv, pIx, pLen, pLenB, pAny, pAll, pTupOf, pListOf, pIs, pIsNot, isD, pSl, pSlL, oNone, oSome, pEq_int, pNe_int, pLt_int, pGt_int, pLe_int, pGe_int, List.set_cons_zero, List.set_cons_succ, List.getElem?_cons_zero, List.getElem?_cons_succ, List.length_cons, List.length_nil, if_true, if_false, Bool.false_eq_true, true_and, and_true, decide_eq_true_eq, wipeD, tTrue, List.map_cons, List.map_nil, natD]
      refine ⟨a, b, d, rfl, ha0, hb0, by omega, by omega, by omega, ?_⟩
      subst hT
      refine ⟨_, hTat d hd, ?_⟩
      refine same_true (by rw [joinB_eq ha0 hb0]) rfl (by simp [PySem.PyData.depth]) ?_
      simp only [sCells, sAsg, sSeq, sIf, sSet, sRet, sRetN, sNext, sBoxPut, sPar, setAll, sExprM, mMeth, tyD, tBool, tTru, tAndM, tOrM, tNotM, m1, m2, mN, mV, mC, mCall, mBoxI, aNil, aCons, mIf, mTup, mLst, mLk, hasD, mAndV, mOrV, pNotB, pNeg, aSeq, itemsS, aRng1, aRng2, aRng3, gN, gT, gsNil, gsCons, gSt, pSetL, pSetK, pSetT, qAppend, pAddE, pAdd, pSub, pInt1, pMod, pFdiv, pIx, pLen, pLenB, pAny, pAll, pTupOf, pListOf, pIs, pIsNot, isD, pSl, pSlL, oNone, oSome, pEq_int, pNe_int, pLt_int, pGt_int, pLe_int, pGe_int, List.set_cons_zero, List.set_cons_succ, List.getElem?_cons_zero, List.getElem?_cons_succ, List.length_cons, List.length_nil, if_true, if_false, Bool.false_eq_true, true_and, and_true, decide_eq_true_eq, wipeD, tTrue, List.map_cons, List.map_nil, natD, Bool.not_true, Bool.false_eq_true, if_false]
      exact ⟨_, _, rfl⟩
    · rintro _ ⟨o6, o7, rfl⟩
      subst hN
      -- gaps
      try dsimp only
      refine seq_gen fun N hN => ?_
      simp only [sCells, sAsg, sSeq, sIf, sSet, sRet, sRetN, sNext, sBoxPut, sPar, setAll, sExprM, mMeth, tyD, tBool, tTru, tAndM, tOrM, tNotM, m1, m2, mN, mV, mC, mCall, mBoxI, aNil, aCons, mIf, mTup, mLst, mLk, hasD, mAndV, mOrV, pNotB, pNeg, aSeq, itemsS, aRng1, aRng2, aRng3, gN, gT, gsNil, gsCons, gSt, pSetL, pSetK, pSetT, qAppend, pAddE, pAdd, pSub, pInt1, pMod, pFdiv, pIx, pLen, pLenB, pAny, pAll, pTupOf, pListOf, pIs, pIsNot, isD, pSl, pSlL, oNone, oSome, pEq_int, pNe_int, pLt_int, pGt_int, pLe_int, pGe_int, List.set_cons_zero, List.set_cons_succ, List.getElem?_cons_zero, List.getElem?_cons_succ, List.length_cons, List.length_nil, if_true, if_false, Bool.false_eq_true, true_and, and_true, decide_eq_true_eq, wipeD, tTrue, List.map_cons, List.map_nil, natD]
      have habi : (a : Int) * b ≤ 900 := by exact_mod_cast hab
      refine mLc_rngf 0 ((a : Int) * b) (fun d => natD d) (fun d => !sumB [a, b] d) (fun R hR => ?_) (by omega) (fun k hk P Nn hP hNn => ?_) ?_
      · simp only [sCells, sAsg, sSeq, sIf, sSet, sRet, sRetN, sNext, sBoxPut, sPar, setAll, sExprM, mMeth, tyD, tBool, tTru, tAndM, tOrM, tNotM, m1, m2, mN, mV, mC, mCall, mBoxI, aNil, aCons, mIf, mTup, mLst, mLk, hasD, mAndV, mOrV, pNotB, pNeg, aSeq, itemsS, aRng1, aRng2, aRng3, gN, gT, gsNil, gsCons, gSt, pSetL, pSetK, pSetT, qAppend, pAddE, pAdd, pSub, pInt1, pMod, pFdiv, pIx, pLen, pLenB, pAny, pAll, pTupOf, pListOf, pIs, pIsNot, isD, pSl, pSlL, oNone, oSome, pEq_int, pNe_int, pLt_int, pGt_int, pLe_int, pGe_int, List.set_cons_zero, List.set_cons_succ, List.getElem?_cons_zero, List.getElem?_cons_succ, List.length_cons, List.length_nil, if_true, if_false, Bool.false_eq_true, true_and, and_true, decide_eq_true_eq, wipeD, tTrue, List.map_cons, List.map_nil, natD]
        exact ⟨.inl (smallI_of (by omega) (by omega)), rngOk_of (by omega) (by omega), hR⟩
      · have hk' : k < a * b := by rw [← Int.natCast_mul] at hk; omega
        subst hT
        simp only [sCells, sAsg, sSeq, sIf, sSet, sRet, sRetN, sNext, sBoxPut, sPar, setAll, sExprM, mMeth, tyD, tBool, tTru, tAndM, tOrM, tNotM, m1, m2, mN, mV, mC, mCall, mBoxI, aNil, aCons, mIf, mTup, mLst, mLk, hasD, mAndV, mOrV, pNotB, pNeg, aSeq, itemsS, aRng1, aRng2, aRng3, gN, gT, gsNil, gsCons, gSt, pSetL, pSetK, pSetT, qAppend, pAddE, pAdd, pSub, pInt1, pMod, pFdiv, pIx, pLen, pLenB, pAny, pAll, pTupOf, pListOf, pIs, pIsNot, isD, pSl, pSlL, oNone, oSome, pEq_int, pNe_int, pLt_int, pGt_int, pLe_int, pGe_int, List.set_cons_zero, List.set_cons_succ, List.getElem?_cons_zero, List.getElem?_cons_succ, List.length_cons, List.length_nil, if_true, if_false, Bool.false_eq_true, true_and, and_true, decide_eq_true_eq, wipeD, tTrue, List.map_cons, List.map_nil, natD]
        rw [Int.zero_add]
        refine ⟨_, hTat k (by omega), ?_⟩
        simp only [sCells, sAsg, sSeq, sIf, sSet, sRet, sRetN, sNext, sBoxPut, sPar, setAll, sExprM, mMeth, tyD, tBool, tTru, tAndM, tOrM, tNotM, m1, m2, mN, mV, mC, mCall, mBoxI, aNil, aCons, mIf, mTup, mLst, mLk, hasD, mAndV, mOrV, pNotB, pNeg, aSeq, itemsS, aRng1, aRng2, aRng3, gN, gT, gsNil, gsCons, gSt, pSetL, pSetK, pSetT, qAppend, pAddE, pAdd, pSub, pInt1, pMod, pFdiv, pIx, pLen, pLenB, pAny, pAll, pTupOf, pListOf, pIs, pIsNot, isD, pSl, pSlL, oNone, oSome, pEq_int, pNe_int, pLt_int, pGt_int, pLe_int, pGe_int, List.set_cons_zero, List.set_cons_succ, List.getElem?_cons_zero, List.getElem?_cons_succ, List.length_cons, List.length_nil, if_true, if_false, Bool.false_eq_true, true_and, and_true, decide_eq_true_eq, wipeD, tTrue, List.map_cons, List.map_nil, natD]
        cases hs : sumB [a, b] k with
        | true => rw [if_neg (by decide)]; exact hNn (by simp [hs])
        | false => rw [if_pos (by decide)]; exact hP (by simp [hs])
      rw [show (((List.range ((a : Int) * b - 0).toNat).filter fun d => !sumB [a, b] d).map fun d => natD d) = (gaps a b).map natD by rw [Int.sub_zero, ← Int.natCast_mul, Int.toNat_natCast]; rfl]
      subst hN
      -- what the program says of two lengths
      try dsimp only
      refine seq_gen fun N hN => ?_
      have goal5 : ∀ o6 o7, N [none, none, some (.int (0 + (i : Int))), some (.int a), some (.int b), some T, o6, o7, some (.list ((gaps a b).map natD)), o9, o10, o11, o12, o13, o14, o15] := by
        intro o6 o7
        subst hN
        clear hTat hT
        generalize some (PySem.PyData.list ((gaps a b).map natD)) = o8
        generalize some T = o5
        -- lengths
        try dsimp only
        refine seq_gen fun N hN => ?_
        have goal6 : ∀ (ls : List Nat) (o6 : Option D), ls ≠ [] → ls.Pairwise (· < ·) → (∀ x ∈ ls, 2 ≤ x ∧ x ≤ 25) → N [none, none, some (.int (0 + (i : Int))), some (.int a), some (.int b), o5, o6, o7, o8, some (.list (ls.map natD)), o10, o11, o12, o13, o14, o15] := by
          intro ls o6 hne hpw hbd
          subst hN
          -- common
          try dsimp only
          refine seq_gen fun N hN => ?_
          simp only [sCells, sAsg, sSeq, sIf, sSet, sRet, sRetN, sNext, sBoxPut, sPar, setAll, sExprM, mMeth, tyD, tBool, tTru, tAndM, tOrM, tNotM, m1, m2, mN, mV, mC, mCall, mBoxI, aNil, aCons, mIf, mTup, mLst, mLk, hasD, mAndV, mOrV, pNotB, pNeg, aSeq, itemsS, aRng1, aRng2, aRng3, gN, gT, gsNil, gsCons, gSt, pSetL, pSetK, pSetT, qAppend, pAddE, pAdd, pSub, pInt1, pMod, pFdiv, pIx, pLen, pLenB, pAny, pAll, pTupOf, pListOf, pIs, pIsNot, isD, pSl, pSlL, oNone, oSome, pEq_int, pNe_int, pLt_int, pGt_int, pLe_int, pGe_int, List.set_cons_zero, List.set_cons_succ, List.getElem?_cons_zero, List.getElem?_cons_succ, List.length_cons, List.length_nil, if_true, if_false, Bool.false_eq_true, true_and, and_true, decide_eq_true_eq, wipeD, tTrue, List.map_cons, List.map_nil, natD]
          subst hN
          try dsimp only
          refine seq_gen fun N hN => ?_
          refine sFor_go ls natD (fun k ρ => ∃ (c : Nat) (o11 : Option PySem.PyData), ρ = [none, none, some (.int (0 + (i : Int))), some (.int a), some (.int b), o5, o6, o7, o8, some (.list (ls.map natD)), some (.int (c : Int)), o11, o12, o13, o14, o15] ∧ c ≤ 30 ∧ c = comm (ls.take k)) (fun R hR => ?_) ⟨0, _, rfl, by decide, rfl⟩ ?_ ?_
          · simp only [sCells, sAsg, sSeq, sIf, sSet, sRet, sRetN, sNext, sBoxPut, sPar, setAll, sExprM, mMeth, tyD, tBool, tTru, tAndM, tOrM, tNotM, m1, m2, mN, mV, mC, mCall, mBoxI, aNil, aCons, mIf, mTup, mLst, mLk, hasD, mAndV, mOrV, pNotB, pNeg, aSeq, itemsS, aRng1, aRng2, aRng3, gN, gT, gsNil, gsCons, gSt, pSetL, pSetK, pSetT, qAppend, pAddE, pAdd, pSub, pInt1, pMod, pFdiv, pIx, pLen, pLenB, pAny, pAll, pTupOf, pListOf, pIs, pIsNot, isD, pSl, pSlL, oNone, oSome, pEq_int, pNe_int, pLt_int, pGt_int, pLe_int, pGe_int, List.set_cons_zero, List.set_cons_succ, List.getElem?_cons_zero, List.getElem?_cons_succ, List.length_cons, List.length_nil, if_true, if_false, Bool.false_eq_true, true_and, and_true, decide_eq_true_eq, wipeD, tTrue, List.map_cons, List.map_nil, natD]
            exact fun _ => hR
          · rintro k l _ hl ⟨c, o11, rfl, hc, hce⟩
            simp only [sCells, sAsg, sSeq, sIf, sSet, sRet, sRetN, sNext, sBoxPut, sPar, setAll, sExprM, mMeth, tyD, tBool, tTru, tAndM, tOrM, tNotM, m1, m2, mN, mV, mC, mCall, mBoxI, aNil, aCons, mIf, mTup, mLst, mLk, hasD, mAndV, mOrV, pNotB, pNeg, aSeq, itemsS, aRng1, aRng2, aRng3, gN, gT, gsNil, gsCons, gSt, pSetL, pSetK, pSetT, qAppend, pAddE, pAdd, pSub, pInt1, pMod, pFdiv, pIx, pLen, pLenB, pAny, pAll, pTupOf, pListOf, pIs, pIsNot, isD, pSl, pSlL, oNone, oSome, pEq_int, pNe_int, pLt_int, pGt_int, pLe_int, pGe_int, List.set_cons_zero, List.set_cons_succ, List.getElem?_cons_zero, List.getElem?_cons_succ, List.length_cons, List.length_nil, if_true, if_false, Bool.false_eq_true, true_and, and_true, decide_eq_true_eq, wipeD, tTrue, List.map_cons, List.map_nil, natD]
            have hl2 := hbd l (List.mem_of_getElem? hl)
            refine ⟨l, c, rfl, by omega, by omega, Nat.gcd l c, _, rfl, Nat.le_trans (Nat.gcd_le_left c (by omega)) (by omega), ?_⟩
            rw [List.take_add_one, hl, hce]
            exact (comm_snoc _ _).symm
          rintro _ ⟨c, o11, rfl, _, hce⟩
          rw [List.take_length] at hce
          subst hN
          -- lengths without a common divisor
          try dsimp only
          refine seq_gen fun N hN => ?_
          have goal9 : ∀ (ls : List Nat) (o10 o11 : Option PySem.PyData), ls ≠ [] → ls.Pairwise (· < ·) → (∀ x ∈ ls, 2 ≤ x ∧ x ≤ 26) → ¬ 1 < comm ls → N [none, none, some (.int (0 + (i : Int))), some (.int a), some (.int b), o5, o6, o7, o8, some (.list (ls.map natD)), o10, o11, o12, o13, o14, o15] := by
            clear hne hpw hbd hce
            intro ls o10 o11 hne hpw hbd hcm
            subst hN
            obtain ⟨A, rest, rfl⟩ : ∃ A rest, ls = A :: rest := by
              cases ls with
              | nil => exact absurd rfl hne
              | cons A rest => exact ⟨A, rest, rfl⟩
            have hA := hbd A List.mem_cons_self
            have hlen : (A :: rest).length ≤ 27 := bounded_len 27 _ (hpw.imp fun h => by omega) fun x hx => by have := hbd x hx; omega
            have hposL : ∀ l ∈ A :: rest, 0 < l := fun l hl => by have := hbd l hl; omega
            have hrest : ∀ l ∈ rest, l ≤ 27 := fun l hl => by have := hbd l (List.mem_cons_of_mem _ hl); omega
            have hgL : gcdL A rest = 1 := comm_one (by omega) hcm
            obtain ⟨w, hw⟩ := exists_least (by omega : 0 < A) hrest hgL
            -- least_one, top
            try dsimp only
            refine seq_gen fun N hN => ?_
            simp only [sCells, sAsg, sSeq, sIf, sSet, sRet, sRetN, sNext, sBoxPut, sPar, setAll, sExprM, mMeth, tyD, tBool, tTru, tAndM, tOrM, tNotM, m1, m2, mN, mV, mC, mCall, mBoxI, aNil, aCons, mIf, mTup, mLst, mLk, hasD, mAndV, mOrV, pNotB, pNeg, aSeq, itemsS, aRng1, aRng2, aRng3, gN, gT, gsNil, gsCons, gSt, pSetL, pSetK, pSetT, qAppend, pAddE, pAdd, pSub, pInt1, pMod, pFdiv, pIx, pLen, pLenB, pAny, pAll, pTupOf, pListOf, pIs, pIsNot, isD, pSl, pSlL, oNone, oSome, pEq_int, pNe_int, pLt_int, pGt_int, pLe_int, pGe_int, List.set_cons_zero, List.set_cons_succ, List.getElem?_cons_zero, List.getElem?_cons_succ, List.length_cons, List.length_nil, if_true, if_false, Bool.false_eq_true, true_and, and_true, decide_eq_true_eq, wipeD, tTrue, List.map_cons, List.map_nil, natD]
            refine ⟨.int A, rfl, .inl (smallI_of (by decide) (by decide)), ?_⟩
            subst hN
            -- table
            try dsimp only
            refine seq_gen fun N hN => ?_
            simp only [sCells, sAsg, sSeq, sIf, sSet, sRet, sRetN, sNext, sBoxPut, sPar, setAll, sExprM, mMeth, tyD, tBool, tTru, tAndM, tOrM, tNotM, m1, m2, mN, mV, mC, mCall, mBoxI, aNil, aCons, mIf, mTup, mLst, mLk, hasD, mAndV, mOrV, pNotB, pNeg, aSeq, itemsS, aRng1, aRng2, aRng3, gN, gT, gsNil, gsCons, gSt, pSetL, pSetK, pSetT, qAppend, pAddE, pAdd, pSub, pInt1, pMod, pFdiv, pIx, pLen, pLenB, pAny, pAll, pTupOf, pListOf, pIs, pIsNot, isD, pSl, pSlL, oNone, oSome, pEq_int, pNe_int, pLt_int, pGt_int, pLe_int, pGe_int, List.set_cons_zero, List.set_cons_succ, List.getElem?_cons_zero, List.getElem?_cons_succ, List.length_cons, List.length_nil, if_true, if_false, Bool.false_eq_true, true_and, and_true, decide_eq_true_eq, wipeD, tTrue, List.map_cons, List.map_nil, natD]
            refine ⟨A :: rest, 702, _, rfl, .inl rfl, hposL, by omega, by omega, ?_⟩
            subst hN
            generalize hT2 : PySem.PyData.list ((tabL (A :: rest) 702).map .bool) = T2
            have hat2 : ∀ d : Nat, d < 702 → atD ((tabL (A :: rest) 702).map PySem.PyData.bool) (d : Int) = some (.bool (sumB (A :: rest) d)) := fun d hd => by
              rw [atD_nat (by omega), Int.toNat_natCast, List.getElem?_map, tab_at (by omega)]; rfl
            -- due
            try dsimp only
            refine seq_gen fun N hN => ?_
            simp only [sCells, sAsg, sSeq, sIf, sSet, sRet, sRetN, sNext, sBoxPut, sPar, setAll, sExprM, mMeth, tyD, tBool, tTru, tAndM, tOrM, tNotM, m1, m2, mN, mV, mC, mCall, mBoxI, aNil, aCons, mIf, mTup, mLst, mLk, hasD, mAndV, mOrV, pNotB, pNeg, aSeq, itemsS, aRng1, aRng2, aRng3, gN, gT, gsNil, gsCons, gSt, pSetL, pSetK, pSetT, qAppend, pAddE, pAdd, pSub, pInt1, pMod, pFdiv, pIx, pLen, pLenB, pAny, pAll, pTupOf, pListOf, pIs, pIsNot, isD, pSl, pSlL, oNone, oSome, pEq_int, pNe_int, pLt_int, pGt_int, pLe_int, pGe_int, List.set_cons_zero, List.set_cons_succ, List.getElem?_cons_zero, List.getElem?_cons_succ, List.length_cons, List.length_nil, if_true, if_false, Bool.false_eq_true, true_and, and_true, decide_eq_true_eq, wipeD, tTrue, List.map_cons, List.map_nil, natD]
            refine mLc_rngm 0 (A : Int) (fun r => natD (w r)) (fun R hR => ?_) (by omega) (fun r hr P Nn hP => ?_) ?_
            · simp only [sCells, sAsg, sSeq, sIf, sSet, sRet, sRetN, sNext, sBoxPut, sPar, setAll, sExprM, mMeth, tyD, tBool, tTru, tAndM, tOrM, tNotM, m1, m2, mN, mV, mC, mCall, mBoxI, aNil, aCons, mIf, mTup, mLst, mLk, hasD, mAndV, mOrV, pNotB, pNeg, aSeq, itemsS, aRng1, aRng2, aRng3, gN, gT, gsNil, gsCons, gSt, pSetL, pSetK, pSetT, qAppend, pAddE, pAdd, pSub, pInt1, pMod, pFdiv, pIx, pLen, pLenB, pAny, pAll, pTupOf, pListOf, pIs, pIsNot, isD, pSl, pSlL, oNone, oSome, pEq_int, pNe_int, pLt_int, pGt_int, pLe_int, pGe_int, List.set_cons_zero, List.set_cons_succ, List.getElem?_cons_zero, List.getElem?_cons_succ, List.length_cons, List.length_nil, if_true, if_false, Bool.false_eq_true, true_and, and_true, decide_eq_true_eq, wipeD, tTrue, List.map_cons, List.map_nil, natD]
              exact ⟨rngOk_of (by omega) (by omega), hR⟩
            · simp only [sCells, sAsg, sSeq, sIf, sSet, sRet, sRetN, sNext, sBoxPut, sPar, setAll, sExprM, mMeth, tyD, tBool, tTru, tAndM, tOrM, tNotM, m1, m2, mN, mV, mC, mCall, mBoxI, aNil, aCons, mIf, mTup, mLst, mLk, hasD, mAndV, mOrV, pNotB, pNeg, aSeq, itemsS, aRng1, aRng2, aRng3, gN, gT, gsNil, gsCons, gSt, pSetL, pSetK, pSetT, qAppend, pAddE, pAdd, pSub, pInt1, pMod, pFdiv, pIx, pLen, pLenB, pAny, pAll, pTupOf, pListOf, pIs, pIsNot, isD, pSl, pSlL, oNone, oSome, pEq_int, pNe_int, pLt_int, pGt_int, pLe_int, pGe_int, List.set_cons_zero, List.set_cons_succ, List.getElem?_cons_zero, List.getElem?_cons_succ, List.length_cons, List.length_nil, if_true, if_false, Bool.false_eq_true, true_and, and_true, decide_eq_true_eq, wipeD, tTrue, List.map_cons, List.map_nil, natD]
              have hr' : r < A := by omega
              obtain ⟨hLr, hwb⟩ := hw r hr'
              have hAp : (0 : Int) < A := by omega
              have hwb' : w r < 702 := by
                have : A * 27 ≤ 26 * 27 := Nat.mul_le_mul_right 27 hA.2
                omega
              have hcov : w r < r + stepN (0 + (r : Int)) 702 A * A := by
                have h3 := stepN_cov (i := 0 + (r : Int)) (j := 702) hAp (by omega)
                rw [← Int.natCast_mul] at h3
                omega
              obtain ⟨k0, hk0, hke, hf⟩ := first_at (by omega) hposL hr' hLr hcov
              refine mLc_filter (List.range (stepN (0 + (r : Int)) 702 A)) (fun k => .int (0 + (r : Int) + (k : Int) * A)) (fun k => natD (r + k * A)) (fun k => sumB (A :: rest) (r + k * A)) (fun R hR => ?_) ?_ (fun k hk P2 N2 hP2 hN2 => ?_) ?_
              · simp only [sCells, sAsg, sSeq, sIf, sSet, sRet, sRetN, sNext, sBoxPut, sPar, setAll, sExprM, mMeth, tyD, tBool, tTru, tAndM, tOrM, tNotM, m1, m2, mN, mV, mC, mCall, mBoxI, aNil, aCons, mIf, mTup, mLst, mLk, hasD, mAndV, mOrV, pNotB, pNeg, aSeq, itemsS, aRng1, aRng2, aRng3, gN, gT, gsNil, gsCons, gSt, pSetL, pSetK, pSetT, qAppend, pAddE, pAdd, pSub, pInt1, pMod, pFdiv, pIx, pLen, pLenB, pAny, pAll, pTupOf, pListOf, pIs, pIsNot, isD, pSl, pSlL, oNone, oSome, pEq_int, pNe_int, pLt_int, pGt_int, pLe_int, pGe_int, List.set_cons_zero, List.set_cons_succ, List.getElem?_cons_zero, List.getElem?_cons_succ, List.length_cons, List.length_nil, if_true, if_false, Bool.false_eq_true, true_and, and_true, decide_eq_true_eq, wipeD, tTrue, List.map_cons, List.map_nil, natD]
                exact ⟨⟨by omega, by omega⟩, ⟨by decide, by decide⟩, ⟨by omega, by omega⟩, hR⟩
              · have := stepN_le (i := 0 + (r : Int)) (j := 702) hAp
                exact small_size (by rw [List.length_range]; omega)
              · subst hT2
                have hk2 := stepN_lt hAp (List.mem_range.mp hk)
                have ek : (0 : Int) + (r : Int) + (k : Int) * A = ((r + k * A : Nat) : Int) := by rw [Int.natCast_add, Int.natCast_mul]; omega
                rw [ek] at hk2 ⊢
                simp only [sCells, sAsg, sSeq, sIf, sSet, sRet, sRetN, sNext, sBoxPut, sPar, setAll, sExprM, mMeth, tyD, tBool, tTru, tAndM, tOrM, tNotM, m1, m2, mN, mV, mC, mCall, mBoxI, aNil, aCons, mIf, mTup, mLst, mLk, hasD, mAndV, mOrV, pNotB, pNeg, aSeq, itemsS, aRng1, aRng2, aRng3, gN, gT, gsNil, gsCons, gSt, pSetL, pSetK, pSetT, qAppend, pAddE, pAdd, pSub, pInt1, pMod, pFdiv, pIx, pLen, pLenB, pAny, pAll, pTupOf, pListOf, pIs, pIsNot, isD, pSl, pSlL, oNone, oSome, pEq_int, pNe_int, pLt_int, pGt_int, pLe_int, pGe_int, List.set_cons_zero, List.set_cons_succ, List.getElem?_cons_zero, List.getElem?_cons_succ, List.length_cons, List.length_nil, if_true, if_false, Bool.false_eq_true, true_and, and_true, decide_eq_true_eq, wipeD, tTrue, List.map_cons, List.map_nil, natD]
                refine ⟨_, hat2 _ (by omega), ?_⟩
                simp only [sCells, sAsg, sSeq, sIf, sSet, sRet, sRetN, sNext, sBoxPut, sPar, setAll, sExprM, mMeth, tyD, tBool, tTru, tAndM, tOrM, tNotM, m1, m2, mN, mV, mC, mCall, mBoxI, aNil, aCons, mIf, mTup, mLst, mLk, hasD, mAndV, mOrV, pNotB, pNeg, aSeq, itemsS, aRng1, aRng2, aRng3, gN, gT, gsNil, gsCons, gSt, pSetL, pSetK, pSetT, qAppend, pAddE, pAdd, pSub, pInt1, pMod, pFdiv, pIx, pLen, pLenB, pAny, pAll, pTupOf, pListOf, pIs, pIsNot, isD, pSl, pSlL, oNone, oSome, pEq_int, pNe_int, pLt_int, pGt_int, pLe_int, pGe_int, List.set_cons_zero, List.set_cons_succ, List.getElem?_cons_zero, List.getElem?_cons_succ, List.length_cons, List.length_nil, if_true, if_false, Bool.false_eq_true, true_and, and_true, decide_eq_true_eq, wipeD, tTrue, List.map_cons, List.map_nil, natD]
                cases hs : sumB (A :: rest) (r + k * A) with
                | true => rw [if_pos rfl]; exact hP2 hs
                | false => rw [if_neg (by decide)]; exact hN2 hs
              · simp only [sCells, sAsg, sSeq, sIf, sSet, sRet, sRetN, sNext, sBoxPut, sPar, setAll, sExprM, mMeth, tyD, tBool, tTru, tAndM, tOrM, tNotM, m1, m2, mN, mV, mC, mCall, mBoxI, aNil, aCons, mIf, mTup, mLst, mLk, hasD, mAndV, mOrV, pNotB, pNeg, aSeq, itemsS, aRng1, aRng2, aRng3, gN, gT, gsNil, gsCons, gSt, pSetL, pSetK, pSetT, qAppend, pAddE, pAdd, pSub, pInt1, pMod, pFdiv, pIx, pLen, pLenB, pAny, pAll, pTupOf, pListOf, pIs, pIsNot, isD, pSl, pSlL, oNone, oSome, pEq_int, pNe_int, pLt_int, pGt_int, pLe_int, pGe_int, List.set_cons_zero, List.set_cons_succ, List.getElem?_cons_zero, List.getElem?_cons_succ, List.length_cons, List.length_nil, if_true, if_false, Bool.false_eq_true, true_and, and_true, decide_eq_true_eq, wipeD, tTrue, List.map_cons, List.map_nil, natD]
                refine ⟨natD (w r), ?_, hP⟩
                rw [atD_nat (by decide)]
                show ((List.filter _ _).map _)[0]? = _
                rw [List.getElem?_map, hf, ← hke]
                rfl
            simp only [sCells, sAsg, sSeq, sIf, sSet, sRet, sRetN, sNext, sBoxPut, sPar, setAll, sExprM, mMeth, tyD, tBool, tTru, tAndM, tOrM, tNotM, m1, m2, mN, mV, mC, mCall, mBoxI, aNil, aCons, mIf, mTup, mLst, mLk, hasD, mAndV, mOrV, pNotB, pNeg, aSeq, itemsS, aRng1, aRng2, aRng3, gN, gT, gsNil, gsCons, gSt, pSetL, pSetK, pSetT, qAppend, pAddE, pAdd, pSub, pInt1, pMod, pFdiv, pIx, pLen, pLenB, pAny, pAll, pTupOf, pListOf, pIs, pIsNot, isD, pSl, pSlL, oNone, oSome, pEq_int, pNe_int, pLt_int, pGt_int, pLe_int, pGe_int, List.set_cons_zero, List.set_cons_succ, List.getElem?_cons_zero, List.getElem?_cons_succ, List.length_cons, List.length_nil, if_true, if_false, Bool.false_eq_true, true_and, and_true, decide_eq_true_eq, wipeD, tTrue, List.map_cons, List.map_nil, natD]
            rw [Int.sub_zero, Int.toNat_natCast]
            subst hN
            -- the least delays by remainders
            try dsimp only
            refine seq_gen fun N hN => ?_
            simp only [sCells, sAsg, sSeq, sIf, sSet, sRet, sRetN, sNext, sBoxPut, sPar, setAll, sExprM, mMeth, tyD, tBool, tTru, tAndM, tOrM, tNotM, m1, m2, mN, mV, mC, mCall, mBoxI, aNil, aCons, mIf, mTup, mLst, mLk, hasD, mAndV, mOrV, pNotB, pNeg, aSeq, itemsS, aRng1, aRng2, aRng3, gN, gT, gsNil, gsCons, gSt, pSetL, pSetK, pSetT, qAppend, pAddE, pAdd, pSub, pInt1, pMod, pFdiv, pIx, pLen, pLenB, pAny, pAll, pTupOf, pListOf, pIs, pIsNot, isD, pSl, pSlL, oNone, oSome, pEq_int, pNe_int, pLt_int, pGt_int, pLe_int, pGe_int, List.set_cons_zero, List.set_cons_succ, List.getElem?_cons_zero, List.getElem?_cons_succ, List.length_cons, List.length_nil, if_true, if_false, Bool.false_eq_true, true_and, and_true, decide_eq_true_eq, wipeD, tTrue, List.map_cons, List.map_nil, natD]
            refine ⟨A, rest, rfl, by omega, by omega, hrest, hgL, fun w' hw' => same_true ?_ (plain_mapN _ _).1 (Nat.le_trans (plain_mapN _ _).2 (by decide)) ?_⟩
            · congr 1
              apply List.map_congr_left
              intro r hr
              rw [List.mem_range] at hr
              rw [(hw' r hr).1.uniq (hw r hr).1]
            simp only [sCells, sAsg, sSeq, sIf, sSet, sRet, sRetN, sNext, sBoxPut, sPar, setAll, sExprM, mMeth, tyD, tBool, tTru, tAndM, tOrM, tNotM, m1, m2, mN, mV, mC, mCall, mBoxI, aNil, aCons, mIf, mTup, mLst, mLk, hasD, mAndV, mOrV, pNotB, pNeg, aSeq, itemsS, aRng1, aRng2, aRng3, gN, gT, gsNil, gsCons, gSt, pSetL, pSetK, pSetT, qAppend, pAddE, pAdd, pSub, pInt1, pMod, pFdiv, pIx, pLen, pLenB, pAny, pAll, pTupOf, pListOf, pIs, pIsNot, isD, pSl, pSlL, oNone, oSome, pEq_int, pNe_int, pLt_int, pGt_int, pLe_int, pGe_int, List.set_cons_zero, List.set_cons_succ, List.getElem?_cons_zero, List.getElem?_cons_succ, List.length_cons, List.length_nil, if_true, if_false, Bool.false_eq_true, true_and, and_true, decide_eq_true_eq, wipeD, tTrue, List.map_cons, List.map_nil, natD, Bool.not_true]
            subst hN
            -- the greatest of all
            try dsimp only
            refine seq_gen fun N hN => ?_
            simp only [sCells, sAsg, sSeq, sIf, sSet, sRet, sRetN, sNext, sBoxPut, sPar, setAll, sExprM, mMeth, tyD, tBool, tTru, tAndM, tOrM, tNotM, m1, m2, mN, mV, mC, mCall, mBoxI, aNil, aCons, mIf, mTup, mLst, mLk, hasD, mAndV, mOrV, pNotB, pNeg, aSeq, itemsS, aRng1, aRng2, aRng3, gN, gT, gsNil, gsCons, gSt, pSetL, pSetK, pSetT, qAppend, pAddE, pAdd, pSub, pInt1, pMod, pFdiv, pIx, pLen, pLenB, pAny, pAll, pTupOf, pListOf, pIs, pIsNot, isD, pSl, pSlL, oNone, oSome, pEq_int, pNe_int, pLt_int, pGt_int, pLe_int, pGe_int, List.set_cons_zero, List.set_cons_succ, List.getElem?_cons_zero, List.getElem?_cons_succ, List.length_cons, List.length_nil, if_true, if_false, Bool.false_eq_true, true_and, and_true, decide_eq_true_eq, wipeD, tTrue, List.map_cons, List.map_nil, natD]
            refine ⟨A, rest, rfl, by omega, by omega, hrest, hgL, fun m hm hall hmb => ?_⟩
            have hmb' : m < 702 := by
              have : A * 27 ≤ 26 * 27 := Nat.mul_le_mul_right 27 hA.2
              omega
            refine mLc_rngf 0 702 (fun d => natD d) (fun d => !sumB (A :: rest) d) (fun R hR => ?_) (by decide) (fun k hk P2 N2 hP2 hN2 => ?_) ?_
            · simp only [sCells, sAsg, sSeq, sIf, sSet, sRet, sRetN, sNext, sBoxPut, sPar, setAll, sExprM, mMeth, tyD, tBool, tTru, tAndM, tOrM, tNotM, m1, m2, mN, mV, mC, mCall, mBoxI, aNil, aCons, mIf, mTup, mLst, mLk, hasD, mAndV, mOrV, pNotB, pNeg, aSeq, itemsS, aRng1, aRng2, aRng3, gN, gT, gsNil, gsCons, gSt, pSetL, pSetK, pSetT, qAppend, pAddE, pAdd, pSub, pInt1, pMod, pFdiv, pIx, pLen, pLenB, pAny, pAll, pTupOf, pListOf, pIs, pIsNot, isD, pSl, pSlL, oNone, oSome, pEq_int, pNe_int, pLt_int, pGt_int, pLe_int, pGe_int, List.set_cons_zero, List.set_cons_succ, List.getElem?_cons_zero, List.getElem?_cons_succ, List.length_cons, List.length_nil, if_true, if_false, Bool.false_eq_true, true_and, and_true, decide_eq_true_eq, wipeD, tTrue, List.map_cons, List.map_nil, natD]
              exact ⟨rngOk_of (by decide) (by decide), hR⟩
            · subst hT2
              simp only [sCells, sAsg, sSeq, sIf, sSet, sRet, sRetN, sNext, sBoxPut, sPar, setAll, sExprM, mMeth, tyD, tBool, tTru, tAndM, tOrM, tNotM, m1, m2, mN, mV, mC, mCall, mBoxI, aNil, aCons, mIf, mTup, mLst, mLk, hasD, mAndV, mOrV, pNotB, pNeg, aSeq, itemsS, aRng1, aRng2, aRng3, gN, gT, gsNil, gsCons, gSt, pSetL, pSetK, pSetT, qAppend, pAddE, pAdd, pSub, pInt1, pMod, pFdiv, pIx, pLen, pLenB, pAny, pAll, pTupOf, pListOf, pIs, pIsNot, isD, pSl, pSlL, oNone, oSome, pEq_int, pNe_int, pLt_int, pGt_int, pLe_int, pGe_int, List.set_cons_zero, List.set_cons_succ, List.getElem?_cons_zero, List.getElem?_cons_succ, List.length_cons, List.length_nil, if_true, if_false, Bool.false_eq_true, true_and, and_true, decide_eq_true_eq, wipeD, tTrue, List.map_cons, List.map_nil, natD]
              rw [Int.zero_add]
              refine ⟨_, hat2 k (by omega), ?_⟩
              simp only [sCells, sAsg, sSeq, sIf, sSet, sRet, sRetN, sNext, sBoxPut, sPar, setAll, sExprM, mMeth, tyD, tBool, tTru, tAndM, tOrM, tNotM, m1, m2, mN, mV, mC, mCall, mBoxI, aNil, aCons, mIf, mTup, mLst, mLk, hasD, mAndV, mOrV, pNotB, pNeg, aSeq, itemsS, aRng1, aRng2, aRng3, gN, gT, gsNil, gsCons, gSt, pSetL, pSetK, pSetT, qAppend, pAddE, pAdd, pSub, pInt1, pMod, pFdiv, pIx, pLen, pLenB, pAny, pAll, pTupOf, pListOf, pIs, pIsNot, isD, pSl, pSlL, oNone, oSome, pEq_int, pNe_int, pLt_int, pGt_int, pLe_int, pGe_int, List.set_cons_zero, List.set_cons_succ, List.getElem?_cons_zero, List.getElem?_cons_succ, List.length_cons, List.length_nil, if_true, if_false, Bool.false_eq_true, true_and, and_true, decide_eq_true_eq, wipeD, tTrue, List.map_cons, List.map_nil, natD]
              cases hs : sumB (A :: rest) k with
              | true => rw [if_neg (by decide)]; exact hN2 (by simp [hs])
              | false => rw [if_pos (by decide)]; exact hP2 (by simp [hs])
            obtain ⟨g1, g2⟩ := greatest (top := 702) (by omega) hposL hm hall hmb'
            simp only [sCells, sAsg, sSeq, sIf, sSet, sRet, sRetN, sNext, sBoxPut, sPar, setAll, sExprM, mMeth, tyD, tBool, tTru, tAndM, tOrM, tNotM, m1, m2, mN, mV, mC, mCall, mBoxI, aNil, aCons, mIf, mTup, mLst, mLk, hasD, mAndV, mOrV, pNotB, pNeg, aSeq, itemsS, aRng1, aRng2, aRng3, gN, gT, gsNil, gsCons, gSt, pSetL, pSetK, pSetT, qAppend, pAddE, pAdd, pSub, pInt1, pMod, pFdiv, pIx, pLen, pLenB, pAny, pAll, pTupOf, pListOf, pIs, pIsNot, isD, pSl, pSlL, oNone, oSome, pEq_int, pNe_int, pLt_int, pGt_int, pLe_int, pGe_int, List.set_cons_zero, List.set_cons_succ, List.getElem?_cons_zero, List.getElem?_cons_succ, List.length_cons, List.length_nil, if_true, if_false, Bool.false_eq_true, true_and, and_true, decide_eq_true_eq, wipeD, tTrue, List.map_cons, List.map_nil, natD]
            rw [show ((702 : Int) - 0).toNat = 702 from rfl]
            refine ⟨small_size (by omega), small_size (by have := List.length_filter_le (fun d => !sumB (A :: rest) d) (List.range 702); rw [List.length_range] at this; rw [List.length_map]; omega), ?_⟩
            have eL : ((List.range 702).filter fun d => !sumB (A :: rest) d).map (fun (d : Nat) => PySem.PyData.int (d : Int)) ++ [PySem.PyData.int (-1)] = ((((List.range 702).filter fun d => !sumB (A :: rest) d).map fun (d : Nat) => (d : Int)) ++ [-1]).map .int := by
              rw [List.map_append, List.map_map]; rfl
            rw [eL]
            refine pMax_ints (c := .list) (.inl fun _ => rfl) _ (by simp) _ fun mx hmx hallx => ?_
            have em : mx = (m : Int) - A := Int.le_antisymm (g2 _ hmx) (hallx _ g1)
            refine same_true (by rw [em]) rfl (by simp [PySem.PyData.depth]) ?_
            simp only [sCells, sAsg, sSeq, sIf, sSet, sRet, sRetN, sNext, sBoxPut, sPar, setAll, sExprM, mMeth, tyD, tBool, tTru, tAndM, tOrM, tNotM, m1, m2, mN, mV, mC, mCall, mBoxI, aNil, aCons, mIf, mTup, mLst, mLk, hasD, mAndV, mOrV, pNotB, pNeg, aSeq, itemsS, aRng1, aRng2, aRng3, gN, gT, gsNil, gsCons, gSt, pSetL, pSetK, pSetT, qAppend, pAddE, pAdd, pSub, pInt1, pMod, pFdiv, pIx, pLen, pLenB, pAny, pAll, pTupOf, pListOf, pIs, pIsNot, isD, pSl, pSlL, oNone, oSome, pEq_int, pNe_int, pLt_int, pGt_int, pLe_int, pGe_int, List.set_cons_zero, List.set_cons_succ, List.getElem?_cons_zero, List.getElem?_cons_succ, List.length_cons, List.length_nil, if_true, if_false, Bool.false_eq_true, true_and, and_true, decide_eq_true_eq, wipeD, tTrue, List.map_cons, List.map_nil, natD, Bool.not_true]
            subst hN
            try dsimp only
            obtain ⟨G, x, hG⟩ : ∃ G x, A :: rest = G ++ [x] := ⟨(A :: rest).dropLast, (A :: rest).getLast hne, (List.dropLast_concat_getLast hne).symm⟩
            have hx := hbd x (by rw [hG]; simp)
            have hat : atD ((A :: rest).map natD) (-1) = some (natD x) := by rw [hG, List.map_append]; exact atD_last _ _
            simp only [sCells, sAsg, sSeq, sIf, sSet, sRet, sRetN, sNext, sBoxPut, sPar, setAll, sExprM, mMeth, tyD, tBool, tTru, tAndM, tOrM, tNotM, m1, m2, mN, mV, mC, mCall, mBoxI, aNil, aCons, mIf, mTup, mLst, mLk, hasD, mAndV, mOrV, pNotB, pNeg, aSeq, itemsS, aRng1, aRng2, aRng3, gN, gT, gsNil, gsCons, gSt, pSetL, pSetK, pSetT, qAppend, pAddE, pAdd, pSub, pInt1, pMod, pFdiv, pIx, pLen, pLenB, pAny, pAll, pTupOf, pListOf, pIs, pIsNot, isD, pSl, pSlL, oNone, oSome, pEq_int, pNe_int, pLt_int, pGt_int, pLe_int, pGe_int, List.set_cons_zero, List.set_cons_succ, List.getElem?_cons_zero, List.getElem?_cons_succ, List.length_cons, List.length_nil, if_true, if_false, Bool.false_eq_true, true_and, and_true, decide_eq_true_eq, wipeD, tTrue, List.map_cons, List.map_nil, natD]
            refine ⟨natD x, hat, ?_⟩
            simp only [sCells, sAsg, sSeq, sIf, sSet, sRet, sRetN, sNext, sBoxPut, sPar, setAll, sExprM, mMeth, tyD, tBool, tTru, tAndM, tOrM, tNotM, m1, m2, mN, mV, mC, mCall, mBoxI, aNil, aCons, mIf, mTup, mLst, mLk, hasD, mAndV, mOrV, pNotB, pNeg, aSeq, itemsS, aRng1, aRng2, aRng3, gN, gT, gsNil, gsCons, gSt, pSetL, pSetK, pSetT, qAppend, pAddE, pAdd, pSub, pInt1, pMod, pFdiv, pIx, pLen, pLenB, pAny, pAll, pTupOf, pListOf, pIs, pIsNot, isD, pSl, pSlL, oNone, oSome, pEq_int, pNe_int, pLt_int, pGt_int, pLe_int, pGe_int, List.set_cons_zero, List.set_cons_succ, List.getElem?_cons_zero, List.getElem?_cons_succ, List.length_cons, List.length_nil, if_true, if_false, Bool.false_eq_true, true_and, and_true, decide_eq_true_eq, wipeD, tTrue, List.map_cons, List.map_nil, natD]
            refine ⟨small_size (by omega), 1, [1 + x], by rw [show (1 : Int) + (x : Int) = ((1 + x : Nat) : Int) by omega]; rfl, by decide, by decide, fun l hl => by rw [List.mem_singleton] at hl; omega, by simp [gcdL], fun m hm hall _ => ?_⟩
            have hm0 : m = 0 := by
              obtain ⟨r, hr, hl⟩ := hm
              have := hl.2.2 0 .zero (by omega)
              omega
            rw [hm0]
            refine same_true rfl rfl (by simp [PySem.PyData.depth]) ?_
            simp only [sCells, sAsg, sSeq, sIf, sSet, sRet, sRetN, sNext, sBoxPut, sPar, setAll, sExprM, mMeth, tyD, tBool, tTru, tAndM, tOrM, tNotM, m1, m2, mN, mV, mC, mCall, mBoxI, aNil, aCons, mIf, mTup, mLst, mLk, hasD, mAndV, mOrV, pNotB, pNeg, aSeq, itemsS, aRng1, aRng2, aRng3, gN, gT, gsNil, gsCons, gSt, pSetL, pSetK, pSetT, qAppend, pAddE, pAdd, pSub, pInt1, pMod, pFdiv, pIx, pLen, pLenB, pAny, pAll, pTupOf, pListOf, pIs, pIsNot, isD, pSl, pSlL, oNone, oSome, pEq_int, pNe_int, pLt_int, pGt_int, pLe_int, pGe_int, List.set_cons_zero, List.set_cons_succ, List.getElem?_cons_zero, List.getElem?_cons_succ, List.length_cons, List.length_nil, if_true, if_false, Bool.false_eq_true, true_and, and_true, decide_eq_true_eq, wipeD, tTrue, List.map_cons, List.map_nil, natD, Bool.not_true]
            exact ⟨_, _, _, _, _, _, _, _, _, _, _, _, _, _, rfl⟩
          simp only [sCells, sAsg, sSeq, sIf, sSet, sRet, sRetN, sNext, sBoxPut, sPar, setAll, sExprM, mMeth, tyD, tBool, tTru, tAndM, tOrM, tNotM, m1, m2, mN, mV, mC, mCall, mBoxI, aNil, aCons, mIf, mTup, mLst, mLk, hasD, mAndV, mOrV, pNotB, pNeg, aSeq, itemsS, aRng1, aRng2, aRng3, gN, gT, gsNil, gsCons, gSt, pSetL, pSetK, pSetT, qAppend, pAddE, pAdd, pSub, pInt1, pMod, pFdiv, pIx, pLen, pLenB, pAny, pAll, pTupOf, pListOf, pIs, pIsNot, isD, pSl, pSlL, oNone, oSome, pEq_int, pNe_int, pLt_int, pGt_int, pLe_int, pGe_int, List.set_cons_zero, List.set_cons_succ, List.getElem?_cons_zero, List.getElem?_cons_succ, List.length_cons, List.length_nil, if_true, if_false, Bool.false_eq_true, true_and, and_true, decide_eq_true_eq, wipeD, tTrue, List.map_cons, List.map_nil, natD]
          by_cases h1 : 1 < c
          · rw [if_pos (by omega)]
            obtain ⟨G, x, hG⟩ : ∃ G x, ls = G ++ [x] := ⟨ls.dropLast, ls.getLast hne, (List.dropLast_concat_getLast hne).symm⟩
            have hlen : ls.length ≤ 26 := bounded_len 26 ls (hpw.imp fun h => by omega) fun x hx => by have := hbd x hx; omega
            have hx := hbd x (by rw [hG]; simp)
            have hat : atD (ls.map natD) (-1) = some (natD x) := by rw [hG, List.map_append]; exact atD_last _ _
            refine mLc_map (ls ++ [x + 1]) natD (fun v => .tuple [natD v, .int 1]) (fun R hR => ?_) ?_ (fun v hv P Nn hP => ?_) ?_
            · simp only [sCells, sAsg, sSeq, sIf, sSet, sRet, sRetN, sNext, sBoxPut, sPar, setAll, sExprM, mMeth, tyD, tBool, tTru, tAndM, tOrM, tNotM, m1, m2, mN, mV, mC, mCall, mBoxI, aNil, aCons, mIf, mTup, mLst, mLk, hasD, mAndV, mOrV, pNotB, pNeg, aSeq, itemsS, aRng1, aRng2, aRng3, gN, gT, gsNil, gsCons, gSt, pSetL, pSetK, pSetT, qAppend, pAddE, pAdd, pSub, pInt1, pMod, pFdiv, pIx, pLen, pLenB, pAny, pAll, pTupOf, pListOf, pIs, pIsNot, isD, pSl, pSlL, oNone, oSome, pEq_int, pNe_int, pLt_int, pGt_int, pLe_int, pGe_int, List.set_cons_zero, List.set_cons_succ, List.getElem?_cons_zero, List.getElem?_cons_succ, List.length_cons, List.length_nil, if_true, if_false, Bool.false_eq_true, true_and, and_true, decide_eq_true_eq, wipeD, tTrue, List.map_cons, List.map_nil, natD]
              refine ⟨natD x, hat, ?_⟩
              simp only [sCells, sAsg, sSeq, sIf, sSet, sRet, sRetN, sNext, sBoxPut, sPar, setAll, sExprM, mMeth, tyD, tBool, tTru, tAndM, tOrM, tNotM, m1, m2, mN, mV, mC, mCall, mBoxI, aNil, aCons, mIf, mTup, mLst, mLk, hasD, mAndV, mOrV, pNotB, pNeg, aSeq, itemsS, aRng1, aRng2, aRng3, gN, gT, gsNil, gsCons, gSt, pSetL, pSetK, pSetT, qAppend, pAddE, pAdd, pSub, pInt1, pMod, pFdiv, pIx, pLen, pLenB, pAny, pAll, pTupOf, pListOf, pIs, pIsNot, isD, pSl, pSlL, oNone, oSome, pEq_int, pNe_int, pLt_int, pGt_int, pLe_int, pGe_int, List.set_cons_zero, List.set_cons_succ, List.getElem?_cons_zero, List.getElem?_cons_succ, List.length_cons, List.length_nil, if_true, if_false, Bool.false_eq_true, true_and, and_true, decide_eq_true_eq, wipeD, tTrue, List.map_cons, List.map_nil, natD]
              refine ⟨small_size (by omega), small_size (by rw [List.length_map]; omega), fun _ => ?_⟩
              rw [List.map_append] at hR
              exact hR
            · exact small_size (by rw [List.length_append, List.length_singleton]; omega)
            · simp only [sCells, sAsg, sSeq, sIf, sSet, sRet, sRetN, sNext, sBoxPut, sPar, setAll, sExprM, mMeth, tyD, tBool, tTru, tAndM, tOrM, tNotM, m1, m2, mN, mV, mC, mCall, mBoxI, aNil, aCons, mIf, mTup, mLst, mLk, hasD, mAndV, mOrV, pNotB, pNeg, aSeq, itemsS, aRng1, aRng2, aRng3, gN, gT, gsNil, gsCons, gSt, pSetL, pSetK, pSetT, qAppend, pAddE, pAdd, pSub, pInt1, pMod, pFdiv, pIx, pLen, pLenB, pAny, pAll, pTupOf, pListOf, pIs, pIsNot, isD, pSl, pSlL, oNone, oSome, pEq_int, pNe_int, pLt_int, pGt_int, pLe_int, pGe_int, List.set_cons_zero, List.set_cons_succ, List.getElem?_cons_zero, List.getElem?_cons_succ, List.length_cons, List.length_nil, if_true, if_false, Bool.false_eq_true, true_and, and_true, decide_eq_true_eq, wipeD, tTrue, List.map_cons, List.map_nil, natD]
              exact ⟨small_size (by omega), hP⟩
            · simp only [sCells, sAsg, sSeq, sIf, sSet, sRet, sRetN, sNext, sBoxPut, sPar, setAll, sExprM, mMeth, tyD, tBool, tTru, tAndM, tOrM, tNotM, m1, m2, mN, mV, mC, mCall, mBoxI, aNil, aCons, mIf, mTup, mLst, mLk, hasD, mAndV, mOrV, pNotB, pNeg, aSeq, itemsS, aRng1, aRng2, aRng3, gN, gT, gsNil, gsCons, gSt, pSetL, pSetK, pSetT, qAppend, pAddE, pAdd, pSub, pInt1, pMod, pFdiv, pIx, pLen, pLenB, pAny, pAll, pTupOf, pListOf, pIs, pIsNot, isD, pSl, pSlL, oNone, oSome, pEq_int, pNe_int, pLt_int, pGt_int, pLe_int, pGe_int, List.set_cons_zero, List.set_cons_succ, List.getElem?_cons_zero, List.getElem?_cons_succ, List.length_cons, List.length_nil, if_true, if_false, Bool.false_eq_true, true_and, and_true, decide_eq_true_eq, wipeD, tTrue, List.map_cons, List.map_nil, natD]
              refine sorted_dict fun ls2 hpw2 hmem => goal9 ls2 _ _ ?_ hpw2 (fun y hy => ?_) (comm_next (x := x) ((hmem x).mpr (by rw [hG]; simp)) ((hmem (x + 1)).mpr (by simp)))
              · rintro rfl
                exact absurd ((hmem (x + 1)).mpr (by simp)) (by simp)
              · rcases List.mem_append.mp ((hmem y).mp hy) with h | h
                · have := hbd y h; omega
                · rw [List.mem_singleton] at h; omega
          · rw [if_neg (by omega)]
            exact goal9 ls _ _ hne hpw (fun x hx => by have := hbd x hx; omega) (by rw [← hce]; exact h1)
        simp only [sCells, sAsg, sSeq, sIf, sSet, sRet, sRetN, sNext, sBoxPut, sPar, setAll, sExprM, mMeth, tyD, tBool, tTru, tAndM, tOrM, tNotM, m1, m2, mN, mV, mC, mCall, mBoxI, aNil, aCons, mIf, mTup, mLst, mLk, hasD, mAndV, mOrV, pNotB, pNeg, aSeq, itemsS, aRng1, aRng2, aRng3, gN, gT, gsNil, gsCons, gSt, pSetL, pSetK, pSetT, qAppend, pAddE, pAdd, pSub, pInt1, pMod, pFdiv, pIx, pLen, pLenB, pAny, pAll, pTupOf, pListOf, pIs, pIsNot, isD, pSl, pSlL, oNone, oSome, pEq_int, pNe_int, pLt_int, pGt_int, pLe_int, pGe_int, List.set_cons_zero, List.set_cons_succ, List.getElem?_cons_zero, List.getElem?_cons_succ, List.length_cons, List.length_nil, if_true, if_false, Bool.false_eq_true, true_and, and_true, decide_eq_true_eq, wipeD, tTrue, List.map_cons, List.map_nil, natD]
        unfold mLc
        simp only [sCells, sAsg, sSeq, sIf, sSet, sRet, sRetN, sNext, sBoxPut, sPar, setAll, sExprM, mMeth, tyD, tBool, tTru, tAndM, tOrM, tNotM, m1, m2, mN, mV, mC, mCall, mBoxI, aNil, aCons, mIf, mTup, mLst, mLk, hasD, mAndV, mOrV, pNotB, pNeg, aSeq, itemsS, aRng1, aRng2, aRng3, gN, gT, gsNil, gsCons, gSt, pSetL, pSetK, pSetT, qAppend, pAddE, pAdd, pSub, pInt1, pMod, pFdiv, pIx, pLen, pLenB, pAny, pAll, pTupOf, pListOf, pIs, pIsNot, isD, pSl, pSlL, oNone, oSome, pEq_int, pNe_int, pLt_int, pGt_int, pLe_int, pGe_int, List.set_cons_zero, List.set_cons_succ, List.getElem?_cons_zero, List.getElem?_cons_succ, List.length_cons, List.length_nil, if_true, if_false, Bool.false_eq_true, true_and, and_true, decide_eq_true_eq, wipeD, tTrue, List.map_cons, List.map_nil, natD]
        refine ⟨4, rfl, by decide, by decide, fun n hn0 hn1 => ?_⟩
        refine ⟨rngOk_of (by omega) (by omega), fun k acc => ∃ vs : List Nat, vs.length = k ∧ acc = vs.map (fun v => .tuple [natD v, .int 1]) ∧ ∀ v ∈ vs, 2 ≤ v ∧ v ≤ 25, ⟨[], rfl, rfl, by simp⟩, fun k d acc hd ⟨vs, hvl, hva, hv⟩ => ?_, fun acc ⟨vs, hvl, hva, hv⟩ => ?_⟩
        · obtain ⟨rfl, hlt⟩ := rngD_at hd
          simp only [sCells, sAsg, sSeq, sIf, sSet, sRet, sRetN, sNext, sBoxPut, sPar, setAll, sExprM, mMeth, tyD, tBool, tTru, tAndM, tOrM, tNotM, m1, m2, mN, mV, mC, mCall, mBoxI, aNil, aCons, mIf, mTup, mLst, mLk, hasD, mAndV, mOrV, pNotB, pNeg, aSeq, itemsS, aRng1, aRng2, aRng3, gN, gT, gsNil, gsCons, gSt, pSetL, pSetK, pSetT, qAppend, pAddE, pAdd, pSub, pInt1, pMod, pFdiv, pIx, pLen, pLenB, pAny, pAll, pTupOf, pListOf, pIs, pIsNot, isD, pSl, pSlL, oNone, oSome, pEq_int, pNe_int, pLt_int, pGt_int, pLe_int, pGe_int, List.set_cons_zero, List.set_cons_succ, List.getElem?_cons_zero, List.getElem?_cons_succ, List.length_cons, List.length_nil, if_true, if_false, Bool.false_eq_true, true_and, and_true, decide_eq_true_eq, wipeD, tTrue, List.map_cons, List.map_nil, natD]
          refine ⟨24, rfl, by decide, by decide, fun e he0 he1 => ?_⟩
          obtain ⟨e, rfl⟩ := Int.eq_ofNat_of_zero_le he0
          refine ⟨small_size (by omega), ?_, vs ++ [2 + e], by simp [hvl], ?_, fun v hv' => ?_⟩
          · rw [hva, List.length_map, hvl, sizeLine_eq]; omega
          · rw [hva, List.map_append, show (2 : Int) + (e : Int) = ((2 + e : Nat) : Int) by omega]; rfl
          · rcases List.mem_append.mp hv' with h | h
            · exact hv v h
            · rw [List.mem_singleton] at h; omega
        · rw [rngD_len] at hvl
          subst hva
          refine sorted_dict fun ls hpw hmem => ?_
          refine goal6 ls _ ?_ hpw fun x hx => hv x ((hmem x).mp hx)
          rintro rfl
          cases vs with
          | nil => simp at hvl; omega
          | cons v vs => exact absurd ((hmem v).mpr List.mem_cons_self) (by simp)
      simp only [sCells, sAsg, sSeq, sIf, sSet, sRet, sRetN, sNext, sBoxPut, sPar, setAll, sExprM, mMeth, tyD, tBool, tTru, tAndM, tOrM, tNotM, m1, m2, mN, mV, mC, mCall, mBoxI, aNil, aCons, mIf, mTup, mLst, mLk, hasD, mAndV, mOrV, pNotB, pNeg, aSeq, itemsS, aRng1, aRng2, aRng3, gN, gT, gsNil, gsCons, gSt, pSetL, pSetK, pSetT, qAppend, pAddE, pAdd, pSub, pInt1, pMod, pFdiv, pIx, pLen, pLenB, pAny, pAll, pTupOf, pListOf, pIs, pIsNot, isD, pSl, pSlL, oNone, oSome, pEq_int, pNe_int, pLt_int, pGt_int, pLe_int, pGe_int, List.set_cons_zero, List.set_cons_succ, List.getElem?_cons_zero, List.getElem?_cons_succ, List.length_cons, List.length_nil, if_true, if_false, Bool.false_eq_true, true_and, and_true, decide_eq_true_eq, wipeD, tTrue, List.map_cons, List.map_nil, natD]
      refine ⟨a, b, rfl, by omega, by omega, ?_⟩
      simp only [sCells, sAsg, sSeq, sIf, sSet, sRet, sRetN, sNext, sBoxPut, sPar, setAll, sExprM, mMeth, tyD, tBool, tTru, tAndM, tOrM, tNotM, m1, m2, mN, mV, mC, mCall, mBoxI, aNil, aCons, mIf, mTup, mLst, mLk, hasD, mAndV, mOrV, pNotB, pNeg, aSeq, itemsS, aRng1, aRng2, aRng3, gN, gT, gsNil, gsCons, gSt, pSetL, pSetK, pSetT, qAppend, pAddE, pAdd, pSub, pInt1, pMod, pFdiv, pIx, pLen, pLenB, pAny, pAll, pTupOf, pListOf, pIs, pIsNot, isD, pSl, pSlL, oNone, oSome, pEq_int, pNe_int, pLt_int, pGt_int, pLe_int, pGe_int, List.set_cons_zero, List.set_cons_succ, List.getElem?_cons_zero, List.getElem?_cons_succ, List.length_cons, List.length_nil, if_true, if_false, Bool.false_eq_true, true_and, and_true, decide_eq_true_eq, wipeD, tTrue, List.map_cons, List.map_nil, natD]
      by_cases h1 : 1 < Nat.gcd a b
      · rw [if_pos (by omega)]
        refine ⟨a, b, rfl, ha0, hb0, by omega, by omega, ?_⟩
        rw [show greatD' a b = .none from by unfold greatD'; rw [if_pos (.inl h1)]]
        simp only [sCells, sAsg, sSeq, sIf, sSet, sRet, sRetN, sNext, sBoxPut, sPar, setAll, sExprM, mMeth, tyD, tBool, tTru, tAndM, tOrM, tNotM, m1, m2, mN, mV, mC, mCall, mBoxI, aNil, aCons, mIf, mTup, mLst, mLk, hasD, mAndV, mOrV, pNotB, pNeg, aSeq, itemsS, aRng1, aRng2, aRng3, gN, gT, gsNil, gsCons, gSt, pSetL, pSetK, pSetT, qAppend, pAddE, pAdd, pSub, pInt1, pMod, pFdiv, pIx, pLen, pLenB, pAny, pAll, pTupOf, pListOf, pIs, pIsNot, isD, pSl, pSlL, oNone, oSome, pEq_int, pNe_int, pLt_int, pGt_int, pLe_int, pGe_int, List.set_cons_zero, List.set_cons_succ, List.getElem?_cons_zero, List.getElem?_cons_succ, List.length_cons, List.length_nil, if_true, if_false, Bool.false_eq_true, true_and, and_true, decide_eq_true_eq, wipeD, tTrue, List.map_cons, List.map_nil, natD, Bool.not_true]
        refine ⟨a, b, rfl, ha0, hb0, by omega, by omega, ?_⟩
        rw [show countD' a b = .none from by unfold countD'; rw [if_pos h1]]
        simp only [sCells, sAsg, sSeq, sIf, sSet, sRet, sRetN, sNext, sBoxPut, sPar, setAll, sExprM, mMeth, tyD, tBool, tTru, tAndM, tOrM, tNotM, m1, m2, mN, mV, mC, mCall, mBoxI, aNil, aCons, mIf, mTup, mLst, mLk, hasD, mAndV, mOrV, pNotB, pNeg, aSeq, itemsS, aRng1, aRng2, aRng3, gN, gT, gsNil, gsCons, gSt, pSetL, pSetK, pSetT, qAppend, pAddE, pAdd, pSub, pInt1, pMod, pFdiv, pIx, pLen, pLenB, pAny, pAll, pTupOf, pListOf, pIs, pIsNot, isD, pSl, pSlL, oNone, oSome, pEq_int, pNe_int, pLt_int, pGt_int, pLe_int, pGe_int, List.set_cons_zero, List.set_cons_succ, List.getElem?_cons_zero, List.getElem?_cons_succ, List.length_cons, List.length_nil, if_true, if_false, Bool.false_eq_true, true_and, and_true, decide_eq_true_eq, wipeD, tTrue, List.map_cons, List.map_nil, natD, Bool.not_true]
        exact goal5 _ _
      · rw [if_neg (by omega)]
        have hg : Nat.gcd a b = 1 := by have := Nat.gcd_pos_of_pos_left b ha0; omega
        refine ⟨a, b, rfl, ha0, hb0, by omega, by omega, ?_⟩
        refine ⟨a, b, rfl, ha0, hb0, by omega, by omega, ?_⟩
        rw [greatD_eq ha0 hb0 hg, countD_eq ha0 hb0 hg]
        by_cases hm : min a b = 1
        · rw [gaps_one ha0 hb0 hm] at goal5 ⊢
          simp only [sCells, sAsg, sSeq, sIf, sSet, sRet, sRetN, sNext, sBoxPut, sPar, setAll, sExprM, mMeth, tyD, tBool, tTru, tAndM, tOrM, tNotM, m1, m2, mN, mV, mC, mCall, mBoxI, aNil, aCons, mIf, mTup, mLst, mLk, hasD, mAndV, mOrV, pNotB, pNeg, aSeq, itemsS, aRng1, aRng2, aRng3, gN, gT, gsNil, gsCons, gSt, pSetL, pSetK, pSetT, qAppend, pAddE, pAdd, pSub, pInt1, pMod, pFdiv, pIx, pLen, pLenB, pAny, pAll, pTupOf, pListOf, pIs, pIsNot, isD, pSl, pSlL, oNone, oSome, pEq_int, pNe_int, pLt_int, pGt_int, pLe_int, pGe_int, List.set_cons_zero, List.set_cons_succ, List.getElem?_cons_zero, List.getElem?_cons_succ, List.length_cons, List.length_nil, if_true, if_false, Bool.false_eq_true, true_and, and_true, decide_eq_true_eq, wipeD, tTrue, List.map_cons, List.map_nil, natD, List.getLast?_nil]
          refine ⟨small_size (by omega), ?_⟩
          rw [if_neg (by simp)]
          refine ⟨small_size (by omega), same_true rfl rfl (by simp [PySem.PyData.depth, PySem.PyData.depthAll]) ?_⟩
          simp only [sCells, sAsg, sSeq, sIf, sSet, sRet, sRetN, sNext, sBoxPut, sPar, setAll, sExprM, mMeth, tyD, tBool, tTru, tAndM, tOrM, tNotM, m1, m2, mN, mV, mC, mCall, mBoxI, aNil, aCons, mIf, mTup, mLst, mLk, hasD, mAndV, mOrV, pNotB, pNeg, aSeq, itemsS, aRng1, aRng2, aRng3, gN, gT, gsNil, gsCons, gSt, pSetL, pSetK, pSetT, qAppend, pAddE, pAdd, pSub, pInt1, pMod, pFdiv, pIx, pLen, pLenB, pAny, pAll, pTupOf, pListOf, pIs, pIsNot, isD, pSl, pSlL, oNone, oSome, pEq_int, pNe_int, pLt_int, pGt_int, pLe_int, pGe_int, List.set_cons_zero, List.set_cons_succ, List.getElem?_cons_zero, List.getElem?_cons_succ, List.length_cons, List.length_nil, if_true, if_false, Bool.false_eq_true, true_and, and_true, decide_eq_true_eq, wipeD, tTrue, List.map_cons, List.map_nil, natD, Bool.not_true]
          rw [if_neg (by simp)]
          exact goal5 _ _
        · obtain ⟨c, G, hc, e, hl, hsym⟩ := gaps_two hg (by omega) (by omega)
          rw [e] at goal5 ⊢
          rw [show (G ++ [c]).getLast? = some c by simp]
          have hat : atD ((G ++ [c]).map natD) (-1) = some (natD c) := by rw [List.map_append]; exact atD_last _ _
          simp only [sCells, sAsg, sSeq, sIf, sSet, sRet, sRetN, sNext, sBoxPut, sPar, setAll, sExprM, mMeth, tyD, tBool, tTru, tAndM, tOrM, tNotM, m1, m2, mN, mV, mC, mCall, mBoxI, aNil, aCons, mIf, mTup, mLst, mLk, hasD, mAndV, mOrV, pNotB, pNeg, aSeq, itemsS, aRng1, aRng2, aRng3, gN, gT, gsNil, gsCons, gSt, pSetL, pSetK, pSetT, qAppend, pAddE, pAdd, pSub, pInt1, pMod, pFdiv, pIx, pLen, pLenB, pAny, pAll, pTupOf, pListOf, pIs, pIsNot, isD, pSl, pSlL, oNone, oSome, pEq_int, pNe_int, pLt_int, pGt_int, pLe_int, pGe_int, List.set_cons_zero, List.set_cons_succ, List.getElem?_cons_zero, List.getElem?_cons_succ, List.length_cons, List.length_nil, if_true, if_false, Bool.false_eq_true, true_and, and_true, decide_eq_true_eq, wipeD, tTrue, List.map_cons, List.map_nil, natD]
          refine ⟨small_size (by omega), ?_⟩
          rw [if_pos (by simp)]
          refine ⟨natD c, hat, small_size (by omega), same_true (by rw [List.length_map]) rfl (by simp [PySem.PyData.depth, PySem.PyData.depthAll]) ?_⟩
          simp only [sCells, sAsg, sSeq, sIf, sSet, sRet, sRetN, sNext, sBoxPut, sPar, setAll, sExprM, mMeth, tyD, tBool, tTru, tAndM, tOrM, tNotM, m1, m2, mN, mV, mC, mCall, mBoxI, aNil, aCons, mIf, mTup, mLst, mLk, hasD, mAndV, mOrV, pNotB, pNeg, aSeq, itemsS, aRng1, aRng2, aRng3, gN, gT, gsNil, gsCons, gSt, pSetL, pSetK, pSetT, qAppend, pAddE, pAdd, pSub, pInt1, pMod, pFdiv, pIx, pLen, pLenB, pAny, pAll, pTupOf, pListOf, pIs, pIsNot, isD, pSl, pSlL, oNone, oSome, pEq_int, pNe_int, pLt_int, pGt_int, pLe_int, pGe_int, List.set_cons_zero, List.set_cons_succ, List.getElem?_cons_zero, List.getElem?_cons_succ, List.length_cons, List.length_nil, if_true, if_false, Bool.false_eq_true, true_and, and_true, decide_eq_true_eq, wipeD, tTrue, List.map_cons, List.map_nil, natD, Bool.not_true]
          rw [if_pos (by simp)]
          refine ⟨natD c, hat, ?_⟩
          simp only [sCells, sAsg, sSeq, sIf, sSet, sRet, sRetN, sNext, sBoxPut, sPar, setAll, sExprM, mMeth, tyD, tBool, tTru, tAndM, tOrM, tNotM, m1, m2, mN, mV, mC, mCall, mBoxI, aNil, aCons, mIf, mTup, mLst, mLk, hasD, mAndV, mOrV, pNotB, pNeg, aSeq, itemsS, aRng1, aRng2, aRng3, gN, gT, gsNil, gsCons, gSt, pSetL, pSetK, pSetT, qAppend, pAddE, pAdd, pSub, pInt1, pMod, pFdiv, pIx, pLen, pLenB, pAny, pAll, pTupOf, pListOf, pIs, pIsNot, isD, pSl, pSlL, oNone, oSome, pEq_int, pNe_int, pLt_int, pGt_int, pLe_int, pGe_int, List.set_cons_zero, List.set_cons_succ, List.getElem?_cons_zero, List.getElem?_cons_succ, List.length_cons, List.length_nil, if_true, if_false, Bool.false_eq_true, true_and, and_true, decide_eq_true_eq, wipeD, tTrue, List.map_cons, List.map_nil, natD]
          refine ⟨(c : Int) + 1, rfl, by omega, by omega, fun d hd0 hd1 => ?_⟩
          obtain ⟨d, rfl⟩ := Int.eq_ofNat_of_zero_le hd0
          refine ⟨a, b, d, rfl, ha0, hb0, by omega, by omega, by omega, ?_⟩
          refine ⟨natD c, hat, ?_⟩
          simp only [sCells, sAsg, sSeq, sIf, sSet, sRet, sRetN, sNext, sBoxPut, sPar, setAll, sExprM, mMeth, tyD, tBool, tTru, tAndM, tOrM, tNotM, m1, m2, mN, mV, mC, mCall, mBoxI, aNil, aCons, mIf, mTup, mLst, mLk, hasD, mAndV, mOrV, pNotB, pNeg, aSeq, itemsS, aRng1, aRng2, aRng3, gN, gT, gsNil, gsCons, gSt, pSetL, pSetK, pSetT, qAppend, pAddE, pAdd, pSub, pInt1, pMod, pFdiv, pIx, pLen, pLenB, pAny, pAll, pTupOf, pListOf, pIs, pIsNot, isD, pSl, pSlL, oNone, oSome, pEq_int, pNe_int, pLt_int, pGt_int, pLe_int, pGe_int, List.set_cons_zero, List.set_cons_succ, List.getElem?_cons_zero, List.getElem?_cons_succ, List.length_cons, List.length_nil, if_true, if_false, Bool.false_eq_true, true_and, and_true, decide_eq_true_eq, wipeD, tTrue, List.map_cons, List.map_nil, natD]
          refine ⟨a, b, c - d, by rw [show ((c - d : Nat) : Int) = (c : Int) - d by omega], ha0, hb0, by omega, by omega, by omega, ?_⟩
          simp only [pEq_bool]
          rw [joinB_eq ha0 hb0, joinB_eq ha0 hb0, hsym d (by omega)]
          rw [if_neg (by cases sumB [a, b] d <;> decide)]
          exact goal5 _ _
  · rintro _ ⟨o2, o3, o4, o5, o6, o7, o8, o9, o10, o11, o12, o13, o14, o15, rfl⟩
    subst hNF
    simp only [sCells, sAsg, sSeq, sIf, sSet, sRet, sRetN, sNext, sBoxPut, sPar, setAll, sExprM, mMeth, tyD, tBool, tTru, tAndM, tOrM, tNotM, m1, m2, mN, mV, mC, mCall, mBoxI, aNil, aCons, mIf, mTup, mLst, mLk, hasD, mAndV, mOrV, pNotB, pNeg, aSeq, itemsS, aRng1, aRng2, aRng3, gN, gT, gsNil, gsCons, gSt, pSetL, pSetK, pSetT, qAppend, pAddE, pAdd, pSub, pInt1, pMod, pFdiv, pIx, pLen, pLenB, pAny, pAll, pTupOf, pListOf, pIs, pIsNot, isD, pSl, pSlL, oNone, oSome, pEq_int, pNe_int, pLt_int, pGt_int, pLe_int, pGe_int, List.set_cons_zero, List.set_cons_succ, List.getElem?_cons_zero, List.getElem?_cons_succ, List.length_cons, List.length_nil, if_true, if_false, Bool.false_eq_true, true_and, and_true, decide_eq_true_eq, wipeD, tTrue, List.map_cons, List.map_nil, natD]
    refine ⟨3, 5, rfl, by decide, by decide, by decide, by decide, ?_⟩
    refine ⟨3, 5, rfl, by decide, by decide, by decide, by decide, ?_⟩
    refine ⟨2, 4, rfl, by decide, by decide, by decide, by decide, ?_⟩
    refine ⟨small_size (by omega), ?_⟩
    refine ⟨6, [9, 20], rfl, by decide, by decide, by decide, by decide, fun m hm hall _ => ?_⟩
    rw [show (m : Int) - ((6 : Nat) : Int) = 43 from chicken hm hall]
    refine ⟨small_size (by omega), small_size (by omega), same_true ?_ rfl (by simp [PySem.PyData.depth, PySem.PyData.depthAll, greatD', countD']) rfl⟩
    simp [greatD', countD']
theorem all_mk {l : PySem.W.OpenLaw} {w : World} {K : PySem.W.Frag} {h : Heap} {mg : Str → Option Value} {fa : Addr} (X : K.In h) (G : h.Ns mainGlobals mg) (hfa : mg "law" = some (.ref fa)) {f__law_box : Addr} {od0 an0 : Option Addr} {sl0 : Array (Option Value)} {oc0 kV0 dc0 pm0 cd0 ct0 : Value} {f__law_load : Addr} {od1 an1 : Option Addr} {sl1 : Array (Option Value)} {oc1 kV1 dc1 pm1 cd1 ct1 : Value} {f__law_draw : Addr} {od2 an2 : Option Addr} {sl2 : Array (Option Value)} {oc2 kV2 dc2 pm2 cd2 ct2 : Value} {f_divisor_of : Addr} {od3 an3 : Option Addr} {sl3 : Array (Option Value)} {oc3 kV3 dc3 pm3 cd3 ct3 : Value} {f__law_divisor : Addr} {od4 an4 : Option Addr} {sl4 : Array (Option Value)} {oc4 kV4 dc4 pm4 cd4 ct4 : Value} {f_can_join : Addr} {od5 an5 : Option Addr} {sl5 : Array (Option Value)} {oc5 kV5 dc5 pm5 cd5 ct5 : Value} {f_greatest_missing : Addr} {od6 an6 : Option Addr} {sl6 : Array (Option Value)} {oc6 kV6 dc6 pm6 cd6 ct6 : Value} {f_count_missing : Addr} {od7 an7 : Option Addr} {sl7 : Array (Option Value)} {oc7 kV7 dc7 pm7 cd7 ct7 : Value} {f__law_table : Addr} {od8 an8 : Option Addr} {sl8 : Array (Option Value)} {oc8 kV8 dc8 pm8 cd8 ct8 : Value} {f__law_same : Addr} {od9 an9 : Option Addr} {sl9 : Array (Option Value)} {oc9 kV9 dc9 pm9 cd9 ct9 : Value} {f_least_by_rests : Addr} {od10 an10 : Option Addr} {sl10 : Array (Option Value)} {oc10 kV10 dc10 pm10 cd10 ct10 : Value} {f_greatest_of_all : Addr} {od11 an11 : Option Addr} {sl11 : Array (Option Value)} {oc11 kV11 dc11 pm11 cd11 ct11 : Value} {f_law : Addr} {od12 an12 : Option Addr} {sl12 : Array (Option Value)} {oc12 kV12 dc12 pm12 cd12 ct12 : Value}
    (a0 : PySem.W.nsIn K mainGlobals "_law_box" = some (some (.ref f__law_box))) (l0 : K.lookup f__law_box = some ⟨oc0, od0, .func (PySem.W.fnOf "_law_box" "_law_box" (defArgs s__law_box) (defBody s__law_box) (defScope s__law_box) .none kV0 dc0 pm0 an0 cd0 ct0), sl0⟩) (c0 : PySem.W.codeIn K cd0 "_law_box" = true) (k0 : PySem.W.keepIn K (.ref f__law_box) = true)
    (a1 : PySem.W.nsIn K mainGlobals "_law_load" = some (some (.ref f__law_load))) (l1 : K.lookup f__law_load = some ⟨oc1, od1, .func (PySem.W.fnOf "_law_load" "_law_load" (defArgs s__law_load) (defBody s__law_load) (defScope s__law_load) .none kV1 dc1 pm1 an1 cd1 ct1), sl1⟩) (c1 : PySem.W.codeIn K cd1 "_law_load" = true) (k1 : PySem.W.keepIn K (.ref f__law_load) = true)
    (a2 : PySem.W.nsIn K mainGlobals "_law_draw" = some (some (.ref f__law_draw))) (l2 : K.lookup f__law_draw = some ⟨oc2, od2, .func (PySem.W.fnOf "_law_draw" "_law_draw" (defArgs s__law_draw) (defBody s__law_draw) (defScope s__law_draw) .none kV2 dc2 pm2 an2 cd2 ct2), sl2⟩) (c2 : PySem.W.codeIn K cd2 "_law_draw" = true) (k2 : PySem.W.keepIn K (.ref f__law_draw) = true)
    (a3 : PySem.W.nsIn K mainGlobals "divisor_of" = some (some (.ref f_divisor_of))) (l3 : K.lookup f_divisor_of = some ⟨oc3, od3, .func (PySem.W.fnOf "divisor_of" "divisor_of" (defArgs s_divisor_of) (defBody s_divisor_of) (defScope s_divisor_of) .none kV3 dc3 pm3 an3 cd3 ct3), sl3⟩) (c3 : PySem.W.codeIn K cd3 "divisor_of" = true) (k3 : PySem.W.keepIn K (.ref f_divisor_of) = true)
    (a4 : PySem.W.nsIn K mainGlobals "_law_divisor" = some (some (.ref f__law_divisor))) (l4 : K.lookup f__law_divisor = some ⟨oc4, od4, .func (PySem.W.fnOf "_law_divisor" "_law_divisor" (defArgs s__law_divisor) (defBody s__law_divisor) (defScope s__law_divisor) .none kV4 dc4 pm4 an4 cd4 ct4), sl4⟩) (c4 : PySem.W.codeIn K cd4 "_law_divisor" = true) (k4 : PySem.W.keepIn K (.ref f__law_divisor) = true)
    (a5 : PySem.W.nsIn K mainGlobals "can_join" = some (some (.ref f_can_join))) (l5 : K.lookup f_can_join = some ⟨oc5, od5, .func (PySem.W.fnOf "can_join" "can_join" (defArgs s_can_join) (defBody s_can_join) (defScope s_can_join) .none kV5 dc5 pm5 an5 cd5 ct5), sl5⟩) (c5 : PySem.W.codeIn K cd5 "can_join" = true) (k5 : PySem.W.keepIn K (.ref f_can_join) = true)
    (a6 : PySem.W.nsIn K mainGlobals "greatest_missing" = some (some (.ref f_greatest_missing))) (l6 : K.lookup f_greatest_missing = some ⟨oc6, od6, .func (PySem.W.fnOf "greatest_missing" "greatest_missing" (defArgs s_greatest_missing) (defBody s_greatest_missing) (defScope s_greatest_missing) .none kV6 dc6 pm6 an6 cd6 ct6), sl6⟩) (c6 : PySem.W.codeIn K cd6 "greatest_missing" = true) (k6 : PySem.W.keepIn K (.ref f_greatest_missing) = true)
    (a7 : PySem.W.nsIn K mainGlobals "count_missing" = some (some (.ref f_count_missing))) (l7 : K.lookup f_count_missing = some ⟨oc7, od7, .func (PySem.W.fnOf "count_missing" "count_missing" (defArgs s_count_missing) (defBody s_count_missing) (defScope s_count_missing) .none kV7 dc7 pm7 an7 cd7 ct7), sl7⟩) (c7 : PySem.W.codeIn K cd7 "count_missing" = true) (k7 : PySem.W.keepIn K (.ref f_count_missing) = true)
    (a8 : PySem.W.nsIn K mainGlobals "_law_table" = some (some (.ref f__law_table))) (l8 : K.lookup f__law_table = some ⟨oc8, od8, .func (PySem.W.fnOf "_law_table" "_law_table" (defArgs s__law_table) (defBody s__law_table) (defScope s__law_table) .none kV8 dc8 pm8 an8 cd8 ct8), sl8⟩) (c8 : PySem.W.codeIn K cd8 "_law_table" = true) (k8 : PySem.W.keepIn K (.ref f__law_table) = true)
    (a9 : PySem.W.nsIn K mainGlobals "_law_same" = some (some (.ref f__law_same))) (l9 : K.lookup f__law_same = some ⟨oc9, od9, .func (PySem.W.fnOf "_law_same" "_law_same" (defArgs s__law_same) (defBody s__law_same) (defScope s__law_same) .none kV9 dc9 pm9 an9 cd9 ct9), sl9⟩) (c9 : PySem.W.codeIn K cd9 "_law_same" = true) (k9 : PySem.W.keepIn K (.ref f__law_same) = true)
    (a10 : PySem.W.nsIn K mainGlobals "least_by_rests" = some (some (.ref f_least_by_rests))) (l10 : K.lookup f_least_by_rests = some ⟨oc10, od10, .func (PySem.W.fnOf "least_by_rests" "least_by_rests" (defArgs s_least_by_rests) (defBody s_least_by_rests) (defScope s_least_by_rests) .none kV10 dc10 pm10 an10 cd10 ct10), sl10⟩) (c10 : PySem.W.codeIn K cd10 "least_by_rests" = true) (k10 : PySem.W.keepIn K (.ref f_least_by_rests) = true)
    (a11 : PySem.W.nsIn K mainGlobals "greatest_of_all" = some (some (.ref f_greatest_of_all))) (l11 : K.lookup f_greatest_of_all = some ⟨oc11, od11, .func (PySem.W.fnOf "greatest_of_all" "greatest_of_all" (defArgs s_greatest_of_all) (defBody s_greatest_of_all) (defScope s_greatest_of_all) .none kV11 dc11 pm11 an11 cd11 ct11), sl11⟩) (c11 : PySem.W.codeIn K cd11 "greatest_of_all" = true) (k11 : PySem.W.keepIn K (.ref f_greatest_of_all) = true)
    (a12 : PySem.W.nsIn K mainGlobals "law" = some (some (.ref f_law))) (l12 : K.lookup f_law = some ⟨oc12, od12, .func (PySem.W.fnOf "law" "law" (defArgs s_law) (defBody s_law) (defScope s_law) .none kV12 dc12 pm12 an12 cd12 ct12), sl12⟩) (c12 : PySem.W.codeIn K cd12 "law" = true) (k12 : PySem.W.keepIn K (.ref f_law) = true)
    (z0 : PySem.W.nsIn K mainGlobals "all" = some none)
    (z1 : PySem.W.nsIn K mainGlobals "any" = some none)
    (z2 : PySem.W.nsIn K mainGlobals "bool" = some none)
    (z3 : PySem.W.nsIn K mainGlobals "dict" = some none)
    (z4 : PySem.W.nsIn K mainGlobals "int" = some none)
    (z5 : PySem.W.nsIn K mainGlobals "isinstance" = some none)
    (z6 : PySem.W.nsIn K mainGlobals "len" = some none)
    (z7 : PySem.W.nsIn K mainGlobals "list" = some none)
    (z8 : PySem.W.nsIn K mainGlobals "max" = some none)
    (z9 : PySem.W.nsIn K mainGlobals "min" = some none)
    (z10 : PySem.W.nsIn K mainGlobals "range" = some none)
    (z11 : PySem.W.nsIn K mainGlobals "sorted" = some none)
    (z12 : PySem.W.nsIn K mainGlobals "str" = some none)
    (z13 : PySem.W.nsIn K mainGlobals "tuple" = some none) :
    ∃ fd : FuncData, (∀ (s : Shared) (v : Value), BindsTo s fd ⟨[v], []⟩ [("script", v)]) ∧ ∀ base : Heap, K.In base → base.Ns mainGlobals mg → FnOk l.prog w K mg base CX0 20 fa fd ["script"] (spLaw K) := by
  have e := hfa.symm.trans (PySem.W.mg_of X G a12)
  cases e
  have F__law_box := fun_mk (st := s__law_box) l0 c0 k0
  have g__law_box := PySem.W.mg_of X G a0
  have b__law_box := F__law_box.binds (ps := ["script"]) fun _ _ _ _ _ _ us hl => match us, hl with | [_], _ => rfl
  have F__law_load := fun_mk (st := s__law_load) l1 c1 k1
  have g__law_load := PySem.W.mg_of X G a1
  have b__law_load := F__law_load.binds (ps := ["box"]) fun _ _ _ _ _ _ us hl => match us, hl with | [_], _ => rfl
  have F__law_draw := fun_mk (st := s__law_draw) l2 c2 k2
  have g__law_draw := PySem.W.mg_of X G a2
  have b__law_draw := F__law_draw.binds (ps := ["box", "many"]) fun _ _ _ _ _ _ us hl => match us, hl with | [_, _], _ => rfl
  have F_divisor_of := fun_mk (st := s_divisor_of) l3 c3 k3
  have g_divisor_of := PySem.W.mg_of X G a3
  have b_divisor_of := F_divisor_of.binds (ps := ["a", "b"]) fun _ _ _ _ _ _ us hl => match us, hl with | [_, _], _ => rfl
  have F__law_divisor := fun_mk (st := s__law_divisor) l4 c4 k4
  have g__law_divisor := PySem.W.mg_of X G a4
  have b__law_divisor := F__law_divisor.binds (ps := ["a", "b"]) fun _ _ _ _ _ _ us hl => match us, hl with | [_, _], _ => rfl
  have F_can_join := fun_mk (st := s_can_join) l5 c5 k5
  have g_can_join := PySem.W.mg_of X G a5
  have b_can_join := F_can_join.binds (ps := ["a", "b", "delay"]) fun _ _ _ _ _ _ us hl => match us, hl with | [_, _, _], _ => rfl
  have F_greatest_missing := fun_mk (st := s_greatest_missing) l6 c6 k6
  have g_greatest_missing := PySem.W.mg_of X G a6
  have b_greatest_missing := F_greatest_missing.binds (ps := ["a", "b"]) fun _ _ _ _ _ _ us hl => match us, hl with | [_, _], _ => rfl
  have F_count_missing := fun_mk (st := s_count_missing) l7 c7 k7
  have g_count_missing := PySem.W.mg_of X G a7
  have b_count_missing := F_count_missing.binds (ps := ["a", "b"]) fun _ _ _ _ _ _ us hl => match us, hl with | [_, _], _ => rfl
  have F__law_table := fun_mk (st := s__law_table) l8 c8 k8
  have g__law_table := PySem.W.mg_of X G a8
  have b__law_table := F__law_table.binds (ps := ["lengths", "top"]) fun _ _ _ _ _ _ us hl => match us, hl with | [_, _], _ => rfl
  have F__law_same := fun_mk (st := s__law_same) l9 c9 k9
  have g__law_same := PySem.W.mg_of X G a9
  have b__law_same := F__law_same.binds (ps := ["a", "b"]) fun _ _ _ _ _ _ us hl => match us, hl with | [_, _], _ => rfl
  have F_least_by_rests := fun_mk (st := s_least_by_rests) l10 c10 k10
  have g_least_by_rests := PySem.W.mg_of X G a10
  have b_least_by_rests := F_least_by_rests.binds (ps := ["lengths"]) fun _ _ _ _ _ _ us hl => match us, hl with | [_], _ => rfl
  have F_greatest_of_all := fun_mk (st := s_greatest_of_all) l11 c11 k11
  have g_greatest_of_all := PySem.W.mg_of X G a11
  have b_greatest_of_all := F_greatest_of_all.binds (ps := ["lengths"]) fun _ _ _ _ _ _ us hl => match us, hl with | [_], _ => rfl
  have F_law := fun_mk (st := s_law) l12 c12 k12
  have g_law := PySem.W.mg_of X G a12
  have b_law := F_law.binds (ps := ["script"]) fun _ _ _ _ _ _ us hl => match us, hl with | [_], _ => rfl
  have m_all := PySem.W.mg_none_of X G z0
  have m_any := PySem.W.mg_none_of X G z1
  have m_bool := PySem.W.mg_none_of X G z2
  have m_dict := PySem.W.mg_none_of X G z3
  have m_int := PySem.W.mg_none_of X G z4
  have m_isinstance := PySem.W.mg_none_of X G z5
  have m_len := PySem.W.mg_none_of X G z6
  have m_list := PySem.W.mg_none_of X G z7
  have m_max := PySem.W.mg_none_of X G z8
  have m_min := PySem.W.mg_none_of X G z9
  have m_range := PySem.W.mg_none_of X G z10
  have m_sorted := PySem.W.mg_none_of X G z11
  have m_str := PySem.W.mg_none_of X G z12
  have m_tuple := PySem.W.mg_none_of X G z13
  refine ⟨PySem.W.fnOf "law" "law" (defArgs s_law) (defBody s_law) (defScope s_law) .none kV12 dc12 pm12 an12 cd12 ct12, fun s v => .of_eq rfl, fun base _ _ => ?_⟩
  have G__law_box : FnOk l.prog w K mg base CX0 1 f__law_box _ _ _ := ok__law_box F__law_box m_len m_list
  have G__law_load : FnOk l.prog w K mg base CX0 1 f__law_load _ _ _ := ok__law_load F__law_load m_int m_len
  have G__law_draw : FnOk l.prog w K mg base CX0 2 f__law_draw _ _ _ := ok__law_draw F__law_draw m_int F__law_load g__law_load b__law_load G__law_load
  have G_divisor_of : FnOk l.prog w K mg base CX0 1 f_divisor_of _ _ _ := ok_divisor_of F_divisor_of
  have G__law_divisor : FnOk l.prog w K mg base CX0 1 f__law_divisor _ _ _ := ok__law_divisor F__law_divisor
  have G_can_join : FnOk l.prog w K mg base CX0 1 f_can_join _ _ _ := ok_can_join F_can_join m_any m_min m_range
  have G_greatest_missing : FnOk l.prog w K mg base CX0 2 f_greatest_missing _ _ _ := ok_greatest_missing F_greatest_missing m_min F_divisor_of g_divisor_of b_divisor_of G_divisor_of
  have G_count_missing : FnOk l.prog w K mg base CX0 2 f_count_missing _ _ _ := ok_count_missing F_count_missing F_divisor_of g_divisor_of b_divisor_of G_divisor_of
  have G__law_table : FnOk l.prog w K mg base CX0 1 f__law_table _ _ _ := ok__law_table F__law_table m_any m_range
  have H__law_same : ∀ n, FnOk l.prog w K mg base CX0 n f__law_same _ ["a", "b"] (spD K 2 (fSame n)) := fun n => by
    induction n with
    | zero => exact fnOk_false
    | succ n ih => exact step__law_same F__law_same m_all m_bool m_int m_isinstance m_len m_list m_range m_str m_tuple F__law_same g__law_same b__law_same ih
  have G__law_same := H__law_same 10
  have G_least_by_rests : FnOk l.prog w K mg base CX0 1 f_least_by_rests _ _ _ := ok_least_by_rests F_least_by_rests m_len m_min m_range m_tuple
  have G_greatest_of_all : FnOk l.prog w K mg base CX0 2 f_greatest_of_all _ _ _ := ok_greatest_of_all F_greatest_of_all m_max F_least_by_rests g_least_by_rests b_least_by_rests G_least_by_rests
  exact ok_law F_law F__law_box g__law_box b__law_box G__law_box m_dict m_len m_max m_range m_sorted m_tuple F__law_same g__law_same b__law_same G__law_same F_greatest_of_all g_greatest_of_all b_greatest_of_all G_greatest_of_all F_greatest_missing g_greatest_missing b_greatest_missing G_greatest_missing F_count_missing g_count_missing b_count_missing G_count_missing F_least_by_rests g_least_by_rests b_least_by_rests G_least_by_rests F__law_table g__law_table b__law_table G__law_table F__law_divisor g__law_divisor b__law_divisor G__law_divisor F__law_draw g__law_draw b__law_draw G__law_draw F_can_join g_can_join b_can_join G_can_join

end
end K47
open PySem PySem.W PyProof.Rows
set_option maxHeartbeats 0 in
theorem PySem.Challenge.cw_fuseslit_k47_whole_delays_that_are_missi_holds : PySem.Challenge.rw_fuseslit_k47_whole_delays_that_are_missi.Holds := by
  w_on; o_law; k_head; (case hw => w_witness2)
  k_fill
  refine L2.walk_of (l := PySem.Challenge.rw_fuseslit_k47_whole_delays_that_are_missi) (n := 63) (k := 20) (x := "script") (CX := fun _ => L2.CX0) (sp := fun w => PyD.spLaw _) rfl (by decide) rfl ⟨rfl, by decide, by decide⟩ (fun w h Y => PySem.W.kIn_of Y) ?F (fun _ _ a ns hl _ hS => ⟨a, ns, rfl, hl, hS, fun _ => rfl⟩) (fun _ _ _ _ _ h => h)
  case F =>
    intro w mg fa h KX G hmg
    refine' K47.all_mk KX G hmg ?a0 ?l0 ?c0 ?k0 ?a1 ?l1 ?c1 ?k1 ?a2 ?l2 ?c2 ?k2 ?a3 ?l3 ?c3 ?k3 ?a4 ?l4 ?c4 ?k4 ?a5 ?l5 ?c5 ?k5 ?a6 ?l6 ?c6 ?k6 ?a7 ?l7 ?c7 ?k7 ?a8 ?l8 ?c8 ?k8 ?a9 ?l9 ?c9 ?k9 ?a10 ?l10 ?c10 ?k10 ?a11 ?l11 ?c11 ?k11 ?a12 ?l12 ?c12 ?k12 ?z0 ?z1 ?z2 ?z3 ?z4 ?z5 ?z6 ?z7 ?z8 ?z9 ?z10 ?z11 ?z12 ?z13
    (case a0 => k_is); (case l0 => k_is); (case c0 => k_is); (case k0 => k_is); (case a1 => k_is); (case l1 => k_is); (case c1 => k_is); (case k1 => k_is); (case a2 => k_is); (case l2 => k_is); (case c2 => k_is); (case k2 => k_is); (case a3 => k_is); (case l3 => k_is); (case c3 => k_is); (case k3 => k_is); (case a4 => k_is); (case l4 => k_is); (case c4 => k_is); (case k4 => k_is); (case a5 => k_is); (case l5 => k_is); (case c5 => k_is); (case k5 => k_is); (case a6 => k_is); (case l6 => k_is); (case c6 => k_is); (case k6 => k_is); (case a7 => k_is); (case l7 => k_is); (case c7 => k_is); (case k7 => k_is); (case a8 => k_is); (case l8 => k_is); (case c8 => k_is); (case k8 => k_is); (case a9 => k_is); (case l9 => k_is); (case c9 => k_is); (case k9 => k_is); (case a10 => k_is); (case l10 => k_is); (case c10 => k_is); (case k10 => k_is); (case a11 => k_is); (case l11 => k_is); (case c11 => k_is); (case k11 => k_is); (case a12 => k_is); (case l12 => k_is); (case c12 => k_is); (case k12 => k_is); (case z0 => k_is); (case z1 => k_is); (case z2 => k_is); (case z3 => k_is); (case z4 => k_is); (case z5 => k_is); (case z6 => k_is); (case z7 => k_is); (case z8 => k_is); (case z9 => k_is); (case z10 => k_is); (case z11 => k_is); (case z12 => k_is); (case z13 => k_is)
